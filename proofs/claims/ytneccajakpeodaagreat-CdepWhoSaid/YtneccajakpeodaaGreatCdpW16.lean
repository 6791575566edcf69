/- The reference's weighing: how much text a program is. -/
import Derived.Test.YtneccajakpeodaaGreatCdpW9
import Derived.Test.YtneccajakpeodaaGreatCdpW10
import Derived.Test.YtneccajakpeodaaGreatCdpW13
import Derived.Test.YtneccajakpeodaaGreatCdpW15
set_option linter.unusedSimpArgs false
set_option linter.unusedVariables false
set_option maxRecDepth 100000
set_option maxHeartbeats 16000000
namespace Go.Ab
open Go.Proofs
def gTxs : List Str → Nat
 | [] => 0
 | s :: r => 1 + s.length + gTxs r
mutual
def gX : X → Nat
 | .mk _ _ name kids => 1 + name.length + gXs kids
def gXs : List X → Nat
 | [] => 0
 | x :: r => gX x + gXs r
end
def gArgs : List Arg → Nat
 | [] => 0
 | a :: r => gX a.x + (1 + a.name.length) + gArgs r
mutual
def gS : S → Nat
 | .mk _ _ labels name proc x _ args thn els => gX x + gTxs labels + (1 + name.length) + (1 + proc.length) + gArgs args + gL thn + gL els
def gL : List S → Nat
 | [] => 0
 | s :: r => gS s + gL r
end
def gPms : List Param → Nat
 | [] => 0
 | a :: r => 1 + a.name.length + gPms r
def gPr (f : Pr) : Nat := 1 + f.name.length + gTxs f.vars + gTxs f.fin + gPms f.params + gL f.body
def gPrs : List Pr → Nat
 | [] => 0
 | f :: r => gPr f + gPrs r
def gPg (p : Pg) : Nat := gTxs p.globals + gPrs p.procs
theorem gS_eq (s : S) : gS s = gX s.x + gTxs s.labels + (1 + s.name.length) + (1 + s.proc.length) + gArgs s.args + gL s.thn + gL s.els := by
 cases s
 rw [gS]
 rfl
theorem wg_Txs : ∀ l : List Str, wTxs l ≤ gTxs l
 | [] => Nat.le_refl _
 | s :: r => by have := wg_Txs r; simp only [wTxs, gTxs]; omega
mutual
theorem wg_X : ∀ x : X, wX x ≤ gX x
 | .mk _ _ name kids => by have := wg_Xs kids; rw [wX, gX]; omega
theorem wg_Xs : ∀ l : List X, wXs l ≤ gXs l
 | [] => by rw [wXs]; omega
 | x :: r => by have := wg_X x; have := wg_Xs r; rw [wXs, gXs]; omega
end
theorem wg_Args : ∀ l : List Arg, wArgs l ≤ gArgs l
 | [] => Nat.le_refl _
 | a :: r => by have := wg_Args r; have := wg_X a.x; simp only [wArgs, gArgs]; omega
mutual
theorem wg_S : ∀ s : S, wS s ≤ gS s
 | .mk _ _ labels name proc x _ args thn els => by
   have := wg_X x; have := wg_Txs labels; have := wg_Args args; have := wg_L thn; have := wg_L els
   rw [wS, gS]; omega
theorem wg_L : ∀ l : List S, wL l ≤ gL l
 | [] => by rw [wL]; omega
 | s :: r => by have := wg_S s; have := wg_L r; rw [wL, gL]; omega
end
theorem wg_Pms : ∀ l : List Param, wPms l ≤ gPms l
 | [] => Nat.le_refl _
 | a :: r => by have := wg_Pms r; simp only [wPms, gPms]; omega
theorem wg_Prs : ∀ l : List Pr, wPrs l ≤ gPrs l
 | [] => Nat.le_refl _
 | f :: r => by
   have := wg_Prs r; have := wg_Txs f.vars; have := wg_Txs f.fin; have := wg_Pms f.params; have := wg_L f.body
   simp only [wPrs, gPrs, wPr, gPr]; omega
theorem wg_Pg (p : Pg) : wPg p ≤ gPg p := by
 have := wg_Txs p.globals; have := wg_Prs p.procs
 unfold wPg gPg; omega
def satI (x : Int) : Int := if x > 20000 then 20001 else x
theorem satI_sat {a b : Int} (hb : 0 ≤ b) : satI (satI a + b) = satI (a + b) := by
 unfold satI
 split <;> split <;> (try split) <;> omega
theorem satI_rng {a : Int} (h : 0 ≤ a) : 0 ≤ satI a ∧ satI a ≤ 20001 := by
 unfold satI
 split <;> omega
theorem satI_id {a : Int} (h : a ≤ 20001) : satI a = a := by
 unfold satI
 split <;> omega
theorem satI_full {a b : Int} (h : a > 20000) (h1 : a ≤ 20001) (hb : 0 ≤ b) : a = satI (a + b) := by
 unfold satI
 split <;> omega
theorem whittlerref3_weighText (s : Str) (n : Int) (hn : 0 ≤ n ∧ n ≤ 20001) : SpecP Tryz.prog 77 [.str s, .int .i64 n] (fun r => r = .int .i64 (satI (n + (1 + s.length : Nat)))) := by
 refine SpecP.body I_whittlerref3_weighText tabOK Tryz.func77 rfl Tryz.call77 (by show 2 ≤ _; decide) ?_
 conv => whnf
 repeat' (first | ((first | (intro (_ : _ ≤ 9223372036854775807)) | (refine Wr.i64 (by omega) (by omega) ?_)); conv => whnf) | (refine Br.dec (fun _ => ?_) (fun _ => ?_) <;> first | (exfalso; omega) | conv => whnf))
 all_goals exact RetK.int (by unfold satI; (repeat' split) <;> omega)
theorem whittlerref3_weighTexts (l : List Str) (n : Int) (hn : 0 ≤ n ∧ n ≤ 20001) : SpecP Tryz.prog 76 [eStrs l, .int .i64 n] (fun r => r = .int .i64 (satI (n + gTxs l))) := by
 refine SpecP.body I_whittlerref3_weighTexts tabOK Tryz.func76 rfl Tryz.call76 (by show 2 ≤ _; decide) ?_
 conv => whnf
 skip
 have hl : (l.map AV.str).length = l.length := List.length_map _
 refine LoopK.inv tabOK (fun x : Nat × Int => ⟨[(0, .p (eStrs l)), (1, .p (.int .i64 x.2)), (5, .p (.int .i64 x.1))], []⟩) (fun x => x.1 ≤ l.length ∧ (0 ≤ x.2 ∧ x.2 ≤ 20001) ∧ satI (x.2 + gTxs (l.drop x.1)) = satI (n + gTxs l)) (fun x => l.length - x.1) (0, n) (Le.of_eq rfl) ⟨Nat.zero_le _, hn, rfl⟩ ?_
 rintro ⟨j, m⟩ ⟨h2, h3, h4⟩
 simp only at h2 h3 h4 ⊢
 rcases Nat.lt_or_ge j l.length with hj | hj
 ·rw [List.drop_eq_getElem_cons hj, gTxs] at h4
  conv => whnf
  repeat' (first | ((first | (intro (_ : _ ≤ 9223372036854775807)) | (refine CallK.pure (whittlerref3_weighText _ _ h3) (by repeat' (first | exact ArgP.nil | refine ArgP.cons ?_ ?_ | exact Sub.refl _ | exact Sub.tt rfl | exact Sub.ff rfl | exact Sub.int (by omega))) ?_; rintro _ rfl) | (refine IdxK.map (by omega) (fun _ => rfl) ?_) | (refine Wr.i64 (by omega) (by omega) ?_)); conv => whnf) | (refine Br.dec (fun _ => ?_) (fun _ => ?_) <;> first | (exfalso; omega) | conv => whnf))
  ·have h5 : satI (satI (m + (1 + l[j].length : Nat)) + gTxs (l.drop (j + 1))) = satI (n + gTxs l) := by
    rw [satI_sat (by omega), ← h4]
    congr 1
    omega
   exact ⟨(j + 1, satI (m + (1 + l[j].length : Nat))), ⟨by simp only; omega, satI_rng (by omega), h5⟩, by simp only; omega, Le.of_eq rfl⟩
  ·exact RetK.int (by rw [← h4]; exact satI_full (by omega) h3.2 (by omega))
 ·rw [List.drop_eq_nil_of_le hj, gTxs] at h4
  conv => whnf
  repeat' (first | (intro (_ : _ ≤ 9223372036854775807); conv => whnf) | (refine Br.dec (fun _ => ?_) (fun _ => ?_) <;> first | (exfalso; omega) | conv => whnf))
  exact RetK.int (by rw [← h4, satI_id (by omega)]; simp)
theorem whittlerref3_weighExpr : ∀ (k : Nat) (x : X) (_ : gX x < k) (n : Int) (_ : 0 ≤ n ∧ n ≤ 20001), SpecP Tryz.prog 135 [.agg x.cells, .int .i64 n] (fun r => r = .int .i64 (satI (n + gX x))) := by
 intro k
 induction k with
 | zero => intro x h; omega
 | succ k ih =>
   intro x hx n hn
   have hxe : gX x = 1 + x.name.length + gXs x.kids := by cases x; rw [gX]; rfl
   have hkl := X.avs_len x.kids
   refine SpecP.body I_whittlerref3_weighExpr tabOK Tryz.func135 rfl Tryz.call135 (by show 2 ≤ _; decide) ?_
   conv => whnf
   repeat' (refine CallK.pure (whittlerref3_weighText _ _ hn) (by repeat' (first | exact ArgP.nil | refine ArgP.cons ?_ ?_ | exact Sub.refl _ | exact Sub.tt rfl | exact Sub.ff rfl | exact Sub.int (by omega))) ?_; rintro _ rfl; conv => whnf)
   refine LoopK.inv tabOK (fun y : Nat × Int => ⟨[(1, .p (.int .i64 y.2)), (2, .p (.ip x.cells)), (5, .p (.int .i64 y.1))], []⟩) (fun y => y.1 ≤ x.kids.length ∧ (0 ≤ y.2 ∧ y.2 ≤ 20001) ∧ satI (y.2 + gXs (x.kids.drop y.1)) = satI (n + gX x)) (fun y => x.kids.length - y.1) (0, satI (n + (1 + x.name.length : Nat))) (Le.of_eq rfl) ⟨Nat.zero_le _, satI_rng (by omega), by
    show satI (satI (n + (1 + x.name.length : Nat)) + gXs x.kids) = _
    rw [satI_sat (by omega), hxe]
    congr 1
    omega⟩ ?_
   rintro ⟨j, m⟩ ⟨h2, h3, h4⟩
   simp only at h2 h3 h4 ⊢
   rcases Nat.lt_or_ge j x.kids.length with hj | hj
   ·rw [List.drop_eq_getElem_cons hj, gXs] at h4
    have hkw : gX x.kids[j] < k := by
     have : ∀ (l : List X) (y : X), y ∈ l → gX y ≤ gXs l := fun l => by
      induction l with
      | nil => intro y h; cases h
      | cons a r ih =>
        intro y h
        rw [gXs]
        rcases List.mem_cons.1 h with rfl | h
        ·omega
        ·have := ih y h; omega
     have := this x.kids _ (List.getElem_mem hj)
     omega
    conv => whnf
    repeat' (first | ((first | (intro (_ : _ ≤ 9223372036854775807)) | (refine IdxK.xs (by omega) ?_) | (refine Wr.i64 (by omega) (by omega) ?_) | (refine CallK.pure (ih (x.kids[j]'hj) hkw m h3) (.cons (Sub.refl _) (.cons (Sub.refl _) .nil)) ?_; rintro _ rfl)); conv => whnf) | (refine Br.dec (fun _ => ?_) (fun _ => ?_) <;> first | (exfalso; omega) | conv => whnf))
    ·have h5 : satI (satI (m + gX x.kids[j]) + gXs (x.kids.drop (j + 1))) = satI (n + gX x) := by
      rw [satI_sat (by omega), ← h4]
      congr 1
      omega
     exact ⟨(j + 1, satI (m + gX x.kids[j])), ⟨by simp only; omega, satI_rng (by omega), h5⟩, by simp only; omega, Le.of_eq rfl⟩
    ·exact RetK.int (by rw [← h4]; exact satI_full (by omega) h3.2 (by omega))
   ·rw [List.drop_eq_nil_of_le hj, gXs] at h4
    conv => whnf
    repeat' (first | (intro (_ : _ ≤ 9223372036854775807); conv => whnf) | (refine Br.dec (fun _ => ?_) (fun _ => ?_) <;> first | (exfalso; omega) | conv => whnf))
    exact RetK.int (by rw [← h4, satI_id (by omega)]; simp)
theorem gL_mem : ∀ (l : List S) (y : S), y ∈ l → gS y ≤ gL l
 | [], y, h => by cases h
 | a :: r, y, h => by
   rw [gL]
   rcases List.mem_cons.1 h with rfl | h
   ·omega
   ·have := gL_mem r y h; omega
theorem whittlerref3_weighStmts : ∀ (k : Nat) (l : List S) (_ : gL l < k) (n : Int) (_ : 0 ≤ n ∧ n ≤ 20001), SpecP Tryz.prog 78 [eSs l, .int .i64 n] (fun r => r = .int .i64 (satI (n + gL l))) := by
 intro k
 induction k with
 | zero => intro l h; omega
 | succ k ih =>
   intro l hl n hn
   have hkl := S.avs_len l
   refine SpecP.body I_whittlerref3_weighStmts tabOK Tryz.func78 rfl Tryz.call78 (by show 2 ≤ _; decide) ?_
   conv => whnf
   skip
   refine LoopK.inv tabOK (fun y : Nat × Int => ⟨[(0, .p (eSs l)), (1, .p (.int .i64 y.2)), (5, .p (.int .i64 y.1))], []⟩) (fun y => y.1 ≤ l.length ∧ (0 ≤ y.2 ∧ y.2 ≤ 20001) ∧ satI (y.2 + gL (l.drop y.1)) = satI (n + gL l)) (fun y => l.length - y.1) (0, n) (Le.of_eq rfl) ⟨Nat.zero_le _, hn, rfl⟩ ?_
   rintro ⟨j, m⟩ ⟨h2, h3, h4⟩
   simp only at h2 h3 h4 ⊢
   rcases Nat.lt_or_ge j l.length with hj | hj
   rotate_left 1
   ·rw [List.drop_eq_nil_of_le hj, gL] at h4
    conv => whnf
    repeat' (first | (intro (_ : _ ≤ 9223372036854775807); conv => whnf) | (refine Br.dec (fun _ => ?_) (fun _ => ?_) <;> first | (exfalso; omega) | conv => whnf))
    exact RetK.int (by rw [← h4, satI_id (by omega)]; simp)
   rw [List.drop_eq_getElem_cons hj, gL] at h4
   have hsw := gL_mem l _ (List.getElem_mem hj)
   have hse := gS_eq l[j]
   have q1 := satI_rng (a := m + gX l[j].x) (by omega)
   have q2 := satI_rng (a := satI (m + gX l[j].x) + gTxs l[j].labels) (by omega)
   have q3 := satI_rng (a := satI (satI (m + gX l[j].x) + gTxs l[j].labels) + (1 + l[j].name.length : Nat)) (by omega)
   conv => whnf
   repeat' (first | ((first | (intro (_ : _ ≤ 9223372036854775807)) | (refine DrawK.auto tabOK mixed (by kernel_rfl) ?_) | (refine And.intro rfl ?_) | (refine IdxK.ss (by omega) ?_) | (refine CallK.pure (whittlerref3_weighExpr (gX l[j].x+1) l[j].x (by omega) m h3) (.cons (Sub.refl _) (.cons (Sub.refl _) .nil)) ?_; rintro _ rfl) | (refine CallK.pure (whittlerref3_weighTexts l[j].labels _ q1) (.cons (Sub.refl _) (.cons (Sub.refl _) .nil)) ?_; rintro _ rfl) | (refine CallK.pure (whittlerref3_weighText l[j].name _ q2) (.cons (Sub.refl _) (.cons (Sub.refl _) .nil)) ?_; rintro _ rfl) | (refine CallK.pure (whittlerref3_weighText l[j].proc _ q3) (.cons (Sub.refl _) (.cons (Sub.refl _) .nil)) ?_; rintro _ rfl)); conv => whnf) | (refine Br.dec (fun _ => ?_) (fun _ => ?_) <;> first | (exfalso; omega) | conv => whnf))
   rotate_left 1
   ·exact RetK.int (by rw [← h4]; exact satI_full (by omega) h3.2 (by omega))
   have q4 := satI_rng (a := satI (satI (satI (m + gX l[j].x) + gTxs l[j].labels) + (1 + l[j].name.length : Nat)) + (1 + l[j].proc.length : Nat)) (by omega)
   have h5 : satI (satI (satI (satI (satI (m + gX l[j].x) + gTxs l[j].labels) + (1 + l[j].name.length : Nat)) + (1 + l[j].proc.length : Nat)) + (gArgs l[j].args + (gL l[j].thn + gL l[j].els + gL (l.drop (j + 1))) : Nat)) = satI (n + gL l) := by
    rw [satI_sat (by omega), Int.add_assoc, satI_sat (by omega), Int.add_assoc, satI_sat (by omega), Int.add_assoc, satI_sat (by omega), ← h4, hse]
    congr 1
    omega
   generalize satI (satI (satI (satI (m + gX l[j].x) + gTxs l[j].labels) + (1 + l[j].name.length : Nat)) + (1 + l[j].proc.length : Nat)) = m0 at q4 h5 ⊢
   have hal : (l[j].args.map fun a => AV.agg a.cells).length = l[j].args.length := List.length_map _
   refine LoopK.inv tabOK (fun y : Nat × Int => ⟨[(0, .p (eSs l)), (1, .p (.int .i64 y.2)), (5, .p (.int .i64 j)), (6, .p (.ip l[j].cells)), (7, .p (.int .i64 y.1))], []⟩) (fun y => y.1 ≤ l[j].args.length ∧ (0 ≤ y.2 ∧ y.2 ≤ 20001) ∧ satI (y.2 + (gArgs (l[j].args.drop y.1) + (gL l[j].thn + gL l[j].els + gL (l.drop (j + 1))) : Nat)) = satI (n + gL l)) (fun y => l[j].args.length - y.1) (0, m0) (Le.of_eq rfl) ⟨Nat.zero_le _, q4, h5⟩ ?_
   rintro ⟨a, m2⟩ ⟨h6, h7, h8⟩
   simp only at h6 h7 h8 ⊢
   have fin : satI (m2 + (gL l[j].thn + gL l[j].els + gL (l.drop (j + 1)) : Nat)) = satI (n + gL l) → (0 ≤ satI (satI (m2 + gL l[j].thn) + gL l[j].els) ∧ satI (satI (m2 + gL l[j].thn) + gL l[j].els) ≤ 20001) ∧ satI (satI (satI (m2 + gL l[j].thn) + gL l[j].els) + gL (l.drop (j + 1))) = satI (n + gL l) := fun h => by
    have := satI_rng (a := m2 + gL l[j].thn) (by omega)
    refine ⟨satI_rng (by omega), ?_⟩
    rw [satI_sat (by omega), Int.add_assoc, satI_sat (by omega), ← h]
    congr 1
    omega
   have r1 := satI_rng (a := m2 + gL l[j].thn) (by omega)
   have full : m2 > 20000 → satI (m2 + (gL l[j].thn + gL l[j].els + gL (l.drop (j + 1)) : Nat)) = satI (n + gL l) := fun h => by
    rw [← h8, ← satI_full h h7.2 (by omega), ← satI_full h h7.2 (by omega)]
   rcases Nat.lt_or_ge a l[j].args.length with ha | ha
   rotate_left 1
   ·have h9 : satI (m2 + (gL l[j].thn + gL l[j].els + gL (l.drop (j + 1)) : Nat)) = satI (n + gL l) := by
     rw [List.drop_eq_nil_of_le ha, gArgs, Nat.zero_add] at h8
     exact h8
    obtain ⟨f1, f2⟩ := fin h9
    conv => whnf
    repeat' (first | ((first | (intro (_ : _ ≤ 9223372036854775807)) | (refine DrawK.auto tabOK mixed (by kernel_rfl) ?_) | (refine Wr.i64 (by omega) (by omega) ?_) | (refine CallK.pure (ih l[j].thn (by omega) m2 h7) (.cons (Sub.refl _) (.cons (Sub.refl _) .nil)) ?_; rintro _ rfl) | (refine CallK.pure (ih l[j].els (by omega) _ r1) (.cons (Sub.refl _) (.cons (Sub.refl _) .nil)) ?_; rintro _ rfl)); conv => whnf) | (refine Br.dec (fun _ => ?_) (fun _ => ?_) <;> first | (exfalso; omega) | conv => whnf))
    all_goals exact ⟨(j + 1, satI (satI (m2 + gL l[j].thn) + gL l[j].els)), ⟨by simp only; omega, f1, f2⟩, by simp only; omega, Le.of_eq rfl⟩
   rw [List.drop_eq_getElem_cons ha, gArgs] at h8
   have q5 := satI_rng (a := m2 + gX l[j].args[a].x) (by omega)
   conv => whnf
   repeat' (first | ((first | (intro (_ : _ ≤ 9223372036854775807)) | (refine DrawK.auto tabOK mixed (by kernel_rfl) ?_) | (refine IdxK.map (by omega) (fun _ => rfl) ?_) | (refine Wr.i64 (by omega) (by omega) ?_) | (refine CallK.pure (whittlerref3_weighExpr (gX l[j].args[a].x+1) l[j].args[a].x (by omega) m2 h7) (.cons (Sub.refl _) (.cons (Sub.refl _) .nil)) ?_; rintro _ rfl) | (refine CallK.pure (whittlerref3_weighText l[j].args[a].name _ q5) (.cons (Sub.refl _) (.cons (Sub.refl _) .nil)) ?_; rintro _ rfl) | (refine CallK.pure (ih l[j].thn (by omega) m2 h7) (.cons (Sub.refl _) (.cons (Sub.refl _) .nil)) ?_; rintro _ rfl) | (refine CallK.pure (ih l[j].els (by omega) _ r1) (.cons (Sub.refl _) (.cons (Sub.refl _) .nil)) ?_; rintro _ rfl)); conv => whnf) | (refine Br.dec (fun _ => ?_) (fun _ => ?_) <;> first | (exfalso; omega) | conv => whnf))
   ·have h10 : satI (satI (satI (m2 + gX l[j].args[a].x) + (1 + l[j].args[a].name.length : Nat)) + (gArgs (l[j].args.drop (a + 1)) + (gL l[j].thn + gL l[j].els + gL (l.drop (j + 1))) : Nat)) = satI (n + gL l) := by
     rw [satI_sat (by omega), Int.add_assoc, satI_sat (by omega), ← h8]
     congr 1
     omega
    exact ⟨(a + 1, satI (satI (m2 + gX l[j].args[a].x) + (1 + l[j].args[a].name.length : Nat))), ⟨by simp only; omega, satI_rng (by omega), h10⟩, by simp only; omega, Le.of_eq rfl⟩
   ·obtain ⟨f1, f2⟩ := fin (full (by omega))
    exact ⟨(j + 1, satI (satI (m2 + gL l[j].thn) + gL l[j].els)), ⟨by simp only; omega, f1, f2⟩, by simp only; omega, Le.of_eq rfl⟩
open Go.Proofs
open Go.Proofs
open Go.Proofs
open Go.Proofs
mutual
def nmS (n : Nat) : S → S
 | .mk _ kind labels name proc x has args thn els => .mk ((n + 1 : Nat) : Int) kind labels name proc x has args (nmL (n + 1) thn) (nmL (n + 1 + cntL thn) els)
def nmL (n : Nat) : List S → List S
 | [] => []
 | t :: r => nmS n t :: nmL (n + cntS t) r
end
def okC (t : S) : Prop := wX t.x ≤ 20000 ∧ t.labels.length ≤ 1000000 ∧ t.args.length ≤ 1000000 ∧ ∀ a ∈ t.args, wX a.x ≤ 20000
open Go.Proofs
def ElS (es es' : List AV) : Prop := es'.length = es.length ∧ ∀ (m : Nat) (x' : AV), es'[m]? = some x' → ∃ x, es[m]? = some x ∧ x'.cells.length = x.cells.length ∧ ∀ (j : Nat) (c' : AV), x'.cells[j]? = some c' → ∃ c, x.cells[j]? = some c ∧ Sub c c'
theorem ElS.refl (es : List AV) : ElS es es := ⟨rfl, fun _ x' h => ⟨x', h, rfl, fun _ c' hc => ⟨c', hc, Sub.refl _⟩⟩⟩
inductive SubH : Heap → Heap → Prop
 | nil : SubH [] []
 | same {c : Nat × Chunk} {H H' : Heap} (h : SubH H H') : SubH (c :: H) (c :: H')
 | els {k : Nat} {e : TypeId} {sz : Nat} {es es' : List AV} {H H' : Heap} (hp : ElS es es') (h : SubH H H') : SubH ((k, .own e sz es) :: H) ((k, .own e sz es') :: H')
theorem SubH.get {H H' : Heap} (h : SubH H H') : H'.map (·.1) = H.map (·.1) ∧ ∀ j c', (j, c') ∈ H' → (j, c') ∈ H ∨ ∃ e sz es es', (j, Chunk.own e sz es) ∈ H ∧ c' = .own e sz es' ∧ ElS es es' := by
 induction h with
 | nil => exact ⟨rfl, by simp⟩
 | same h ih =>
   refine ⟨by simp [ih.1], fun j c' hj => ?_⟩
   rcases List.mem_cons.1 hj with rfl | hj
   ·exact .inl List.mem_cons_self
   ·rcases ih.2 j c' hj with h1 | ⟨e, sz, es, es', h1, h2⟩
    ·exact .inl (List.mem_cons_of_mem _ h1)
    ·exact .inr ⟨e, sz, es, es', List.mem_cons_of_mem _ h1, h2⟩
 | @els k e sz es es' H H' hp h ih =>
   refine ⟨by simp [ih.1], fun j c' hj => ?_⟩
   rcases List.mem_cons.1 hj with hj | hj
   ·cases hj
    exact .inr ⟨e, sz, es, es', List.mem_cons_self, rfl, hp⟩
   ·rcases ih.2 j c' hj with h1 | ⟨e, sz, es, es', h1, h2⟩
    ·exact .inl (List.mem_cons_of_mem _ h1)
    ·exact .inr ⟨e, sz, es, es', List.mem_cons_of_mem _ h1, h2⟩
theorem Le.els {N : Nat} {sl : List (Nat × LV)} {H H' : Heap} (h : SubH H H') : Le N ⟨sl, H⟩ ⟨sl, H'⟩ := fun σ β a w hr => by
 obtain ⟨hk, hc⟩ := h.get
 refine ⟨σ, β, ⟨hr.size, hr.defers, hr.slots, ⟨hr.heap.mem, fun j c' hj => ?_, by show (H'.map (·.1)).Nodup; rw [hk]; exact hr.heap.nodup, fun j hj => hr.heap.apart j (by rw [← hk]; exact hj), fun j hj j' hj' => hr.heap.inj j (by rw [← hk]; exact hj) j' (by rw [← hk]; exact hj')⟩⟩, Mem.le_refl σ, Frm.refl _ w, fun b h0 h1 => absurd h0 h1, fun b ⟨j, hj, r⟩ => .inl ⟨j, by rw [← hk]; exact hj, r⟩, fun _ _ _ => rfl⟩
 rcases hc j c' hj with h1 | ⟨e, sz, es, es', h1, rfl, h2⟩
 ·exact hr.heap.chunks j c' h1
 ·rcases hr.heap.chunks j _ h1 with ⟨h3, h4⟩ | ⟨i, vs, h3, h4, h5, h6, h7, h8, h9⟩
  ·refine .inl ⟨h3, ?_⟩
   have := h2.1
   rw [h4] at this
   exact List.eq_nil_of_length_eq_zero this
  ·refine .inr ⟨i, vs, h3, h4, h5, h6, by rw [h2.1]; exact h7, h8, fun m x' hx => ?_⟩
   obtain ⟨x, g1, g2, g3⟩ := h2.2 m x' hx
   refine ⟨by rw [g2]; exact (h9 m x g1).1, fun j c' hc => ?_⟩
   obtain ⟨c, g4, g5⟩ := g3 j c' hc
   obtain ⟨u, g6, g7⟩ := (h9 m x g1).2 j c g4
   exact ⟨u, g6, g5 _ _ g7⟩
open Go.Proofs
theorem Rel.layI {N : Nat} {σ : Mem} {β : Lab} {s s' : St} {a : Act} {w : World} (hr : Rel N σ β s a w) {k : Nat} {i : BInfo} (hi : β k = some i) (hk : k ∈ s.H.map (·.1)) (hcell : ∀ b, i.has b → ∃ c e fr, w.heap[b]? = some (.cells c e fr))
  (hsl : ∀ τ : Mem, σ.le τ → (∀ b c e fr, i.has b → w.heap[b]? = some (.cells c e fr) → τ b = some c) → ∀ j v, RepL σ β (getS s.sl j) v → RepL τ β (getS s'.sl j) v)
  (hch : ∀ τ : Mem, σ.le τ → ∀ j c', (j, c') ∈ s'.H → j ≠ k ∧ ∃ c, (j, c) ∈ s.H ∧ (c.holds σ β w j → c'.holds τ β w j)) (hnd : (s'.H.map (·.1)).Nodup) :
  ∃ σ' β', Rel N σ' β' s' a w ∧ Later σ β s.H w σ' β' s'.H w := by
 let τ : Mem := fun b => @ite _ (i.has b) (Classical.propDecidable _) (match w.heap[b]? with
  | some (.cells c _ _) => some c
  | _ => none) (σ b)
 have hpos : ∀ b c e fr, i.has b → w.heap[b]? = some (.cells c e fr) → τ b = some c := fun b c e fr hb hh => by
  show @ite _ (i.has b) (Classical.propDecidable _) _ _ = _
  rw [if_pos hb, hh]
 have hneg : ∀ b, ¬ i.has b → τ b = σ b := fun b hb => by
  show @ite _ (i.has b) (Classical.propDecidable _) _ _ = _
  rw [if_neg hb]
 have hle : σ.le τ := fun b c hb => by
  rw [hneg b]
  ·exact hb
  ·intro hib
   rw [(hr.heap.apart k hk i hi b hib).1] at hb
   cases hb
 have hlab : ∀ j ∈ s'.H.map (·.1), j ≠ k ∧ j ∈ s.H.map (·.1) := fun j hj => by
  obtain ⟨⟨j', c'⟩, hm, rfl⟩ := List.mem_map.1 hj
  obtain ⟨h1, c, h2, _⟩ := hch τ hle j' c' hm
  exact ⟨h1, List.mem_map.2 ⟨_, h2, rfl⟩⟩
 refine ⟨τ, β, ⟨hr.size, hr.defers, fun j => hsl τ hle hpos j _ (hr.slots j), ⟨fun b c hb => ?_, fun j c' hj => ?_, hnd, fun j hj ij hij b hb => ?_, fun j hj j' hj' => hr.heap.inj j (hlab j hj).2 j' (hlab j' hj').2⟩⟩, hle, Frm.refl _ _, fun b hb hb' => .inl ?_, fun b ⟨j, hj, hjb⟩ => .inl ⟨j, (hlab j hj).2, hjb⟩, fun _ _ _ => rfl⟩
 ·by_cases ho : i.has b
  ·obtain ⟨c0, e, fr, hh⟩ := hcell b ho
   rw [hpos b c0 e fr ho hh] at hb
   cases hb
   exact ⟨_, _, hh⟩
  ·rw [hneg b ho] at hb
   exact hr.heap.mem b c hb
 ·obtain ⟨_, c, h2, h3⟩ := hch τ hle j c' hj
  exact h3 (hr.heap.chunks j c h2)
 ·have h1 := hlab j hj
  have h2 := hr.heap.apart j h1.2 ij hij b hb
  refine ⟨?_, h2.2⟩
  rw [hneg b fun he => h1.1 (hr.heap.inj j h1.2 k hk ij i hij hi b hb he)]
  exact h2.1
 ·by_cases ho : i.has b
  ·exact ⟨k, hk, i, hi, ho⟩
  ·rw [hneg b ho] at hb'
   exact absurd hb hb'
theorem Le.matFz {N : Nat} {sl sl' : List (Nat × LV)} {H H' : Heap} {k : Nat} {e e2 : TypeId} {sz : Nat} {rows : List (List AV)} (hg : getH H k = some (.ext (.mat e e2 sz rows [])))
  (hsl : ∀ i, getS sl' i = (getS sl i).kill k ∨ (getS sl i = .hd k 0 rows.length ∧ getS sl' i = .p (.sl (rows.map .sl))))
  (hsub : (H'.map (·.1)).Sublist (H.map (·.1))) (hH : ∀ j c', (j, c') ∈ H' → j ≠ k ∧ (j, c') ∈ H ∧ c'.kill k = c') : Le N ⟨sl, H⟩ ⟨sl', H'⟩ := fun σ β a w hr => by
 have hk := getH_label hg
 rcases hr.heap.chunks k _ (getH_mem hg) with ⟨hb0, hr0⟩ | ⟨i, vs, hi, h1, h2, h3, h4, h5, h6, h7, h8⟩
 ·refine ⟨σ, β, ⟨hr.size, hr.defers, fun j => ?_, ⟨hr.heap.mem, fun j c' hj => ?_, hsub.nodup hr.heap.nodup, fun j hj => hr.heap.apart j (hsub.subset hj), fun j hj j' hj' => hr.heap.inj j (hsub.subset hj) j' (hsub.subset hj')⟩⟩, Mem.le_refl σ, Frm.refl _ _, fun _ h0 h1 => absurd h0 h1, fun b ⟨j, hj, r⟩ => .inl ⟨j, hsub.subset hj, r⟩, fun _ _ _ => rfl⟩
  ·show RepL σ β (getS sl' j) _
   have hv := hr.slots j
   rcases hsl j with he | ⟨g1, g2⟩
   ·rw [he]; exact hv.kill k
   ·rw [g2]
    have hv : RepL σ β (getS sl j) _ := hv
    rw [g1] at hv
    rcases hv.hdI with ⟨_, _, _, he⟩ | ⟨i, _, hk, _⟩
    ·rw [he, hr0]; exact .p .nilsl
    ·rw [hb0] at hk; cases hk
  ·exact hr.heap.chunks j c' (hH j c' hj).2.1
 ·have hrow : ∀ (b c a' : Nat), i.subs[a']? = some (some (b, c)) → ∃ ws, w.heap[b]? = some (.cells ws e2 (0, 0)) := fun b c a' hs => by
   have ha : a' < rows.length := by rw [← h6]; exact (List.getElem?_eq_some_iff.1 hs).1
   rcases (h8 a' _ (List.getElem?_eq_getElem ha)).2 (by simp) with ⟨q1, _⟩ | ⟨b', c', ws, q1, _, q3, _⟩
   ·rw [hs] at q1; cases q1
   ·rw [hs] at q1; cases q1; exact ⟨ws, q3⟩
  refine hr.layI hi hk (fun b hb => ?_) (fun τ hle hτ j v hv => ?_) (fun τ hle j c' hj => ?_) (hsub.nodup hr.heap.nodup)
  ·rcases hb with rfl | ⟨c, hb⟩
   ·exact ⟨_, _, _, h2⟩
   ·obtain ⟨a', ha', hs⟩ := List.mem_iff_getElem.1 hb
    obtain ⟨ws, hw⟩ := hrow b c a' (by rw [List.getElem?_eq_getElem ha', hs])
    exact ⟨_, _, _, hw⟩
  ·show RepL τ β (getS sl' j) v
   have hv : RepL σ β (getS sl j) v := hv
   rcases hsl j with he | ⟨g1, g2⟩
   ·rw [he]; exact (hv.kill k).mono hle
   ·rw [g2]
    rw [g1] at hv
    rcases hv.hdI with ⟨hk', _⟩ | ⟨i', oo, hk', hl, ho, rfl⟩
    ·rw [hi] at hk'; cases hk'
    ·rw [hi] at hk'; cases hk'
     have hoo : oo = 0 := by
      rcases ho with ho | ho
      ·simpa using ho
      ·omega
     subst hoo
     have hrl : ∀ (m : Nat) (x : AV), (rows.map AV.sl)[m]? = some x → ∃ row, rows[m]? = some row ∧ x = .sl row := fun m x hx => by
      rw [List.getElem?_map] at hx
      cases hq : rows[m]? with
      | none => rw [hq] at hx; cases hx
      | some row => rw [hq] at hx; cases hx; exact ⟨row, rfl, rfl⟩
     have hcellv : ∀ (m : Nat) (row : List AV), rows[m]? = some row → ∃ u, vs[m]? = some u ∧ Rep τ (.sl row) u := fun m row hm => by
      rcases (h8 m row hm).2 (by simp) with ⟨q1, rfl, q3⟩ | ⟨b, c, ws, q1, q2, q3, q4, q5, q6, q7⟩
      ·exact ⟨_, q3, .nilsl⟩
      ·refine ⟨_, q2, .sl row b 0 c sz ws (fun m j => (ws[m * sz + j]?).getD undef) (hτ b ws _ _ (.inr ⟨c, List.mem_of_getElem? q1⟩) q3) q5 q6 (fun m x hx => (q7 m x hx).1) (fun m x j c' hx hj => ?_) fun m x j c' hx hj => ?_⟩
       ·obtain ⟨u, r4, _⟩ := (q7 m x hx).2 j c' hj
        simp [r4]
       ·obtain ⟨u, r4, r5⟩ := (q7 m x hx).2 j c' hj
        simpa [r4] using r5.mono hle
     have hfin : Rep τ (.sl (rows.map .sl)) (.slice (some ⟨i.blk, 0, none⟩) (rows.map AV.sl).length i.cap) := by
      refine .sl (rows.map .sl) i.blk 0 i.cap 1 vs (fun m j => (vs[m * 1 + j]?).getD undef) (hτ _ _ _ _ i.has_blk h2) (by simpa using h4) h5 (fun m x hx => ?_) (fun m x j c' hx hj => ?_) fun m x j c' hx hj => ?_
      ·obtain ⟨row, _, rfl⟩ := hrl m x hx; rfl
      ·obtain ⟨row, g3, rfl⟩ := hrl m x hx
       obtain ⟨u, g4, g5⟩ := hcellv m row g3
       have hj0 : j = 0 := by
        have := (List.getElem?_eq_some_iff.1 hj).1
        simpa [AV.cells] using this
       subst hj0
       simp [g4]
      ·obtain ⟨row, g3, rfl⟩ := hrl m x hx
       obtain ⟨u, g4, g5⟩ := hcellv m row g3
       have hj0 : j = 0 := by
        have := (List.getElem?_eq_some_iff.1 hj).1
        simpa [AV.cells] using this
       subst hj0
       cases hj
       simpa [g4] using g5
     have : RepL τ β (.p (.sl (rows.map .sl))) (.slice (some ⟨i.blk, 0, none⟩) (rows.map AV.sl).length i.cap) := .p hfin
     simpa using this
  ·obtain ⟨g1, g2, g3⟩ := hH j c' hj
   refine ⟨g1, c', g2, fun hold => ?_⟩
   have := (hold.kill k).mono hle fun _ _ _ _ => rfl
   rwa [g3] at this
open Go.Proofs
theorem Le.matSub {N : Nat} {sl : List (Nat × LV)} {H1 H2 : Heap} {k : Nat} {e e2 : TypeId} {sz : Nat} {rows rows' : List (List AV)} {hole : List Nat} (hl : rows'.length = rows.length) (hr : ∀ (a : Nat) (row' : List AV), rows'[a]? = some row' → ∃ row, rows[a]? = some row ∧ ElS row row') :
  Le N ⟨sl, H1 ++ (k, .ext (.mat e e2 sz rows hole)) :: H2⟩ ⟨sl, H1 ++ (k, .ext (.mat e e2 sz rows' hole)) :: H2⟩ := fun σ β a w hrel => by
 have hk : (H1 ++ (k, Chunk.ext (.mat e e2 sz rows' hole)) :: H2).map (·.1) = (H1 ++ (k, Chunk.ext (.mat e e2 sz rows hole)) :: H2).map (·.1) := by simp
 refine ⟨σ, β, ⟨hrel.size, hrel.defers, hrel.slots, ⟨hrel.heap.mem, fun j c' hj => ?_, by show ((H1 ++ (k, Chunk.ext (.mat e e2 sz rows' hole)) :: H2).map (·.1)).Nodup; rw [hk]; exact hrel.heap.nodup, fun j hj => hrel.heap.apart j (by rw [← hk]; exact hj), fun j hj j' hj' => hrel.heap.inj j (by rw [← hk]; exact hj) j' (by rw [← hk]; exact hj')⟩⟩, Mem.le_refl σ, Frm.refl _ w, fun b h0 h1 => absurd h0 h1, fun b ⟨j, hj, r⟩ => .inl ⟨j, by rw [← hk]; exact hj, r⟩, fun _ _ _ => rfl⟩
 rcases List.mem_append.1 hj with h1 | h1
 ·exact hrel.heap.chunks j c' (List.mem_append.2 (.inl h1))
 rcases List.mem_cons.1 h1 with h2 | h1
 rotate_left 1
 ·exact hrel.heap.chunks j c' (List.mem_append.2 (.inr (List.mem_cons_of_mem _ h1)))
 cases h2
 rcases hrel.heap.chunks k _ (List.mem_append.2 (.inr List.mem_cons_self)) with ⟨g1, g2⟩ | ⟨i, vs, hi, g1, g2, g3, g4, g5, g6, g7, g8⟩
 ·refine .inl ⟨g1, ?_⟩
  rw [g2] at hl
  exact List.eq_nil_of_length_eq_zero hl
 ·refine .inr ⟨i, vs, hi, g1, g2, g3, by rw [hl]; exact g4, g5, by rw [hl]; exact g6, g7, fun a' row' ha => ?_⟩
  obtain ⟨row, h3, h4, h5⟩ := hr a' row' ha
  obtain ⟨h6, h7⟩ := g8 a' row h3
  refine ⟨h6, fun hn => ?_⟩
  rcases h7 hn with ⟨q1, rfl, q3⟩ | ⟨b, c, ws, q1, q2, q3, q4, q5, q6, q7⟩
  ·exact .inl ⟨q1, List.eq_nil_of_length_eq_zero h4, q3⟩
  ·refine .inr ⟨b, c, ws, q1, by rw [h4]; exact q2, q3, q4, by rw [h4]; exact q5, q6, fun m x' hx => ?_⟩
   obtain ⟨x, r1, r2, r3⟩ := h5 m x' hx
   refine ⟨by rw [r2]; exact (q7 m x r1).1, fun p c' hc => ?_⟩
   obtain ⟨c0, r4, r5⟩ := r3 p c' hc
   obtain ⟨u, r6, r7⟩ := (q7 m x r1).2 p c0 r4
   exact ⟨u, r6, r5 _ _ r7⟩
def nxE (rows : List (List Int)) (t : Int × Int) : List (List Int) := rows.set t.1.toNat (rows.getD t.1.toNat [] ++ [t.2])
def nextR (n : Nat) (l : List (Int × Int)) : List (List Int) := l.foldl nxE (List.replicate n [])
def prsA (w : Way) (f : Pr) : List (Int × Int) := (augW w f).map (ixP w.p w.j f w.n)
theorem nxE_len (rows : List (List Int)) (t : Int × Int) : (nxE rows t).length = rows.length := List.length_set
theorem foldN_len : ∀ (l : List (Int × Int)) (rows : List (List Int)), (l.foldl nxE rows).length = rows.length
 | [], _ => rfl
 | t :: r, rows => by rw [List.foldl_cons, foldN_len r, nxE_len]
theorem nextR_len (n : Nat) (l : List (Int × Int)) : (nextR n l).length = n := by
 unfold nextR
 rw [foldN_len, List.length_replicate]
theorem foldN_cnt : ∀ (l : List (Int × Int)) (rows : List (List Int)) (a : Nat), ((l.foldl nxE rows).getD a []).length ≤ (rows.getD a []).length + l.length
 | [], _, _ => Nat.le_refl _
 | t :: r, rows, a => by
   rw [List.foldl_cons]
   have h1 := foldN_cnt r (nxE rows t) a
   have h2 : ((nxE rows t).getD a []).length ≤ (rows.getD a []).length + 1 := by
    unfold nxE
    simp only [List.getD_eq_getElem?_getD, List.getElem?_set]
    by_cases he : t.1.toNat = a
    ·subst he
     by_cases hl : t.1.toNat < rows.length
     ·simp [hl]
     ·simp [hl]
    ·simp [he]
   rw [List.length_cons]
   omega
theorem nextR_cnt (n : Nat) (l : List (Int × Int)) (a : Nat) : ((nextR n l).getD a []).length ≤ l.length := by
 have := foldN_cnt l (List.replicate n []) a
 have e : ((List.replicate n ([] : List Int)).getD a []).length = 0 := by
  rw [List.getD_eq_getElem?_getD, List.getElem?_replicate]
  split <;> rfl
 unfold nextR
 omega
theorem foldN_in {n : Nat} : ∀ (l : List (Int × Int)), (∀ t ∈ l, (0 ≤ t.1 ∧ t.1 < n) ∧ 0 ≤ t.2 ∧ t.2 < n) → ∀ (rows : List (List Int)), (∀ r ∈ rows, ∀ x ∈ r, 0 ≤ x ∧ x < n) → ∀ r ∈ l.foldl nxE rows, ∀ x ∈ r, 0 ≤ x ∧ x < (n : Int)
 | [], _, rows, hr => hr
 | t :: l, hl, rows, hr => by
   rw [List.foldl_cons]
   refine foldN_in l (fun u hu => hl u (List.mem_cons_of_mem _ hu)) _ fun r hm x hx => ?_
   unfold nxE at hm
   rcases List.mem_or_eq_of_mem_set hm with hm | rfl
   ·exact hr r hm x hx
   ·rcases List.mem_append.1 hx with hx | hx
    ·rw [List.getD_eq_getElem?_getD] at hx
     cases hq : rows[t.1.toNat]? with
     | none => rw [hq] at hx; cases hx
     | some r => rw [hq] at hx; exact hr r (List.mem_of_getElem? hq) x hx
    ·rcases List.mem_singleton.1 hx with rfl
     exact (hl t List.mem_cons_self).2
theorem nextR_in (n : Nat) (l : List (Int × Int)) (h : ∀ t ∈ l, (0 ≤ t.1 ∧ t.1 < n) ∧ 0 ≤ t.2 ∧ t.2 < n) : ∀ r ∈ nextR n l, ∀ x ∈ r, 0 ≤ x ∧ x < (n : Int) :=
 foldN_in l h _ fun r hr x hx => by rw [List.eq_of_mem_replicate hr] at hx; cases hx
def filR (n a : Nat) : List (List Bool) := ((List.range n).map (filRow n)).take a ++ List.replicate (n - a) []
def filT (n a b : Nat) : List Bool := (filRow n a).take b ++ List.replicate (n - b) false
theorem filT_len {n a b : Nat} (h : b ≤ n) : (filT n a b).length = n := by
 unfold filT
 have := filRow_len n a
 simp
 omega
theorem filT_set {n a b : Nat} (h : b < n) : ((filT n a b).map bv).set b (bv (decide (a < n - 1) || decide (a = b))) = (filT n a (b + 1)).map bv := by
 rw [← List.map_set]
 congr 1
 unfold filT
 have hl : ((filRow n a).take b).length = b := by have := filRow_len n a; simp; omega
 have hg : (filRow n a)[b]? = some (decide (a < n - 1) || decide (a = b)) := by unfold filRow; simp [h]
 rw [List.set_append_right _ _ (by omega), hl, Nat.sub_self, show n - b = (n - (b + 1)) + 1 by omega, List.replicate_succ, List.set_cons_zero, List.take_add_one, hg, List.append_assoc]
 rfl
theorem filT_end (n a : Nat) : filT n a n = filRow n a := by
 unfold filT
 rw [Nat.sub_self, List.take_of_length_le (by rw [filRow_len]; exact Nat.le_refl _)]
 simp
theorem Sub.bv {b x : Bool} (h : b = x) : Sub (.bool b) (bv x) := fun _ _ hr => by
 subst h
 cases b <;> cases hr <;> constructor
theorem ElS.set {es : List AV} {b : Nat} {c c' : AV} (hc : c.cells = [c]) (hc' : c'.cells = [c']) (h : Sub c c') : ElS (es.set b c) (es.set b c') := by
 refine ⟨by rw [List.length_set, List.length_set], fun m x' hx => ?_⟩
 by_cases hm : b = m
 ·subst hm
  have hl : b < es.length := by have := (List.getElem?_eq_some_iff.1 hx).1; simpa using this
  rw [List.getElem?_set_self hl] at hx
  cases hx
  refine ⟨c, by rw [List.getElem?_set_self hl], by rw [hc, hc']; rfl, fun j d hd => ?_⟩
  rw [hc'] at hd
  match j, hd with
  | 0, hd => cases hd; exact ⟨c, by rw [hc]; rfl, h⟩
  | j + 1, hd => simp at hd
 ·rw [List.getElem?_set_ne hm] at hx
  exact ⟨x', by rw [List.getElem?_set_ne hm]; exact hx, rfl, fun j d hd => ⟨d, hd, Sub.refl _⟩⟩
theorem setS {R : List (List AV)} {a : Nat} {r r' : List AV} (h : ElS r r') : ∀ (a' : Nat) (row' : List AV), (R.set a r')[a']? = some row' → ∃ row, (R.set a r)[a']? = some row ∧ ElS row row' := fun a' row' hx => by
 by_cases hm : a = a'
 ·subst hm
  have hl : a < R.length := by have := (List.getElem?_eq_some_iff.1 hx).1; simpa using this
  rw [List.getElem?_set_self hl] at hx
  cases hx
  exact ⟨r, List.getElem?_set_self hl, h⟩
 ·rw [List.getElem?_set_ne hm] at hx
  exact ⟨row', by rw [List.getElem?_set_ne hm]; exact hx, ElS.refl _⟩
theorem filR_len {n a : Nat} (h : a ≤ n) : (filR n a).length = n := by
 unfold filR
 simp
 omega
theorem filR_set {n a : Nat} (h : a < n) : (filR n a).set a (filRow n a) = filR n (a + 1) := by
 unfold filR
 have hl : (((List.range n).map (filRow n)).take a).length = a := by simp; omega
 have hg : ((List.range n).map (filRow n))[a]? = some (filRow n a) := by simp [h]
 rw [List.set_append_right _ _ (by omega), hl, Nat.sub_self, show n - a = (n - (a + 1)) + 1 by omega, List.replicate_succ, List.set_cons_zero, List.take_add_one, hg, List.append_assoc]
 rfl
inductive SlRel (P : LV → LV → Prop) : List (Nat × LV) → List (Nat × LV) → Prop
 | nil : SlRel P [] []
 | cons {j : Nat} {l l' : LV} {r r' : List (Nat × LV)} (h : P l l') (hr : SlRel P r r') : SlRel P ((j, l) :: r) ((j, l') :: r')
theorem SlRel.get {P : LV → LV → Prop} (h0 : P (.p .any) (.p .any)) {sl sl' : List (Nat × LV)} (h : SlRel P sl sl') (i : Nat) : P (getS sl i) (getS sl' i) := by
 induction h with
 | nil => exact h0
 | @cons j l l' r r' h hr ih =>
   simp only [getS]
   cases j == i with
   | true => exact h
   | false => exact ih
theorem mat_begin1 {N' : Nat} (w : Way) (n : Nat) (nx : List (List Int)) (hn : nx.length = n) (x1 x2 : AV) :
  Le N' ⟨[(0, .p (.ip w.cells)), (3, .hd 0 0 n), (6, .hd 1 0 n), (46, .p x1), (47, .p x2)], [(1, .own 112 1 (List.replicate n .nils)), (0, .ext (.mat 36 3 1 (avI nx) []))]⟩
   ⟨[(0, .p (.ip w.cells)), (3, .p (eMat nx)), (6, .hd 1 0 n), (46, .p x1), (47, .p x2)], [(1, .ext (.mat 112 4 1 (List.replicate n []) []))]⟩ := by
 have hm := Le.toMat (N := N') (sl := [(0, .p (.ip w.cells)), (3, .hd 0 0 n), (6, .hd 1 0 n), (46, .p x1), (47, .p x2)]) (H := [(1, .own 112 1 (List.replicate n .nils)), (0, .ext (.mat 36 3 1 (avI nx) []))])
  (H' := [(1, .ext (.mat 112 4 1 (List.replicate (List.replicate n AV.nils).length []) [])), (0, .ext (.mat 36 3 1 (avI nx) []))])
  1 4 1 (e := 112) (es := List.replicate n .nils) rfl (fun x hx => List.eq_of_mem_replicate hx) rfl rfl rfl rfl (by simp [labN])
 rw [List.length_replicate] at hm
 have hl : (avI nx).length = n := by unfold avI; rw [List.length_map, hn]
 refine hm.trans (Le.matFz (k := 0) (e := 36) (e2 := 3) (sz := 1) (rows := avI nx) rfl (fun i => ?_) (by show [1].Sublist [1, 0]; decide) fun j c' hj => ?_)
 ·refine SlRel.get (P := fun l l' => l' = l.kill 0 ∨ (l = .hd 0 0 (avI nx).length ∧ l' = .p (.sl ((avI nx).map .sl)))) (.inl rfl) ?_ i
  exact .cons (.inl rfl) (.cons (.inr ⟨by rw [hl], rfl⟩) (.cons (.inl rfl) (.cons (.inl rfl) (.cons (.inl rfl) .nil))))
 ·rcases List.mem_singleton.1 hj with h
  cases h
  exact ⟨by decide, List.mem_cons_self, rfl⟩
theorem filR_end (n : Nat) : filR n n = (List.range n).map (filRow n) := by
 unfold filR
 rw [Nat.sub_self, List.take_of_length_le (by simp)]
 simp
theorem mat_begin {N' : Nat} {sl : List (Nat × LV)} (n : Nat) (h0 : (sl.all fun x => x.2.xfree 0) = true) :
  Le N' ⟨sl, [(0, .own 36 1 (List.replicate n .nils))]⟩ ⟨sl, [(0, .ext (.mat 36 3 1 (List.replicate n []) []))]⟩ := by
 have hm := Le.toMat (N := N') (sl := sl) (H := [(0, .own 36 1 (List.replicate n .nils))])
  (H' := [(0, .ext (.mat 36 3 1 (List.replicate (List.replicate n AV.nils).length []) []))])
  0 3 1 (e := 36) (es := List.replicate n .nils) rfl (fun x hx => List.eq_of_mem_replicate hx) rfl h0 rfl rfl (by simp [labN])
 simpa using hm
theorem way_Way_Follow (w : Way) (f : Pr) (n : Nat) (h : WayT w f n) (hp : ∀ t ∈ prsA w f, (0 ≤ t.1 ∧ t.1 < n) ∧ 0 ≤ t.2 ∧ t.2 < n) (hlen : (augW w f).length ≤ 1000000) : SpecP Tryz.prog 126 [.ip w.cells] (fun r => ∃ fm : List (List Bool), FollowP n (nextR n (prsA w f)) fm ∧ r = .sl ((bmI fm).map .sl)) := by
 refine SpecP.body I_way_Way_Follow tabOK Tryz.func126 rfl Tryz.call126 (by show 1 ≤ _; decide) ?_
 conv => whnf
 have hwn := h.hw
 have hn5 := h.hn
 have hn2 := h.hn2
 have hA := way_Way_Aug w f n h
 have hP := way_Way_Pairs w f h.hj h.hc (by omega) (augW w f) hlen
 have hpl : (avP (prsA w f)).length = (prsA w f).length := by unfold avP; rw [List.length_map]
 have hpl2 : (prsA w f).length ≤ 1000000 := by unfold prsA; rw [List.length_map]; exact hlen
 have hPe : (augW w f).map (ixP w.p w.j f w.n) = prsA w f := rfl
 rw [hPe] at hP
 repeat' ((first | (intro (_ : _ ≤ 9223372036854775807)) | (refine And.intro ⟨rfl, rfl, by decide⟩ ?_) | (refine MkK.mk n (by omega) (by show 24 * _ ≤ 140737488355328; omega) (by unfold maxLen; omega) ?_) | (refine CallK.pure hA (.cons (Sub.refl _) .nil) ?_; rintro _ rfl) | (refine CallK.pure hP (.cons (Sub.refl _) (.cons (Sub.refl _) .nil)) ?_; rintro _ rfl)); conv => whnf)
 refine LoopK.inv tabOK (fun j : Nat => ⟨[(0, .p (.ip w.cells)), (3, .hd 0 0 n), (20, .p (.sl (avP (prsA w f)))), (21, .p (.int .i64 (avP (prsA w f)).length)), (22, .p (.int .i64 j))], [(0, .ext (.mat 36 3 1 (avI (nextR n ((prsA w f).take j))) []))]⟩) (fun j => j ≤ (prsA w f).length) (fun j => (prsA w f).length - j) 0
  (by
    refine Le.trans (mat_begin n rfl) ?_
    exact Le.mk [] (by simp) (by simp) (by simp) (.cons (.refl _) (.cons (.refl _) (.cons (.refl _) (.cons (.refl _) (.cons (.refl _) .nil))))) (.cons rfl (.of_eq (by simp [avI, nextR])) .nil)) (Nat.zero_le _) ?_
 intro j h2
 rcases Nat.lt_or_ge j (prsA w f).length with hj | hj
 ·have hme : (avP (prsA w f))[j]? = some (.agg [.int .i64 (prsA w f)[j].1, .int .i64 (prsA w f)[j].2]) := by simp [avP, hj]
  obtain ⟨⟨q1, q2⟩, q3, q4⟩ := hp _ (List.getElem_mem hj)
  have hst : nextR n ((prsA w f).take (j + 1)) = nxE (nextR n ((prsA w f).take j)) (prsA w f)[j] := by
   unfold nextR
   rw [List.take_succ_eq_append_getElem hj, List.foldl_append]
   rfl
  have hrl := nextR_len n ((prsA w f).take j)
  have hcnt := nextR_cnt n ((prsA w f).take j) (prsA w f)[j].1.toNat
  generalize (prsA w f)[j] = t at hme q1 q2 q3 q4 hst hcnt
  generalize nextR n ((prsA w f).take j) = rows at hst hrl hcnt ⊢
  obtain ⟨a, ha⟩ : ∃ a : Nat, t.1 = a := ⟨t.1.toNat, by omega⟩
  have hal : a < rows.length := by omega
  have hrow : (avI rows)[a]? = some (rows[a].map (.int .i64)) := by unfold avI; rw [List.getElem?_map, List.getElem?_eq_getElem hal]; rfl
  have hput : (avI rows).set a (rows[a].map (.int .i64) ++ [.int .i64 t.2]) = avI (nxE rows t) := by
   unfold nxE avI
   rw [ha, Int.toNat_natCast, List.getD_eq_getElem?_getD, List.getElem?_eq_getElem hal, Option.getD_some, List.map_set, List.map_append]
   rfl
  have hcl : rows[a].length ≤ 1000000 := by
   rw [ha, Int.toNat_natCast, List.getD_eq_getElem?_getD, List.getElem?_eq_getElem hal, Option.getD_some, List.length_take] at hcnt
   omega
  rw [ha] at hme
  conv => whnf
  repeat' (first | ((first | (refine And.intro rfl ?_) | (refine And.intro ⟨by decide, by decide⟩ ?_) | (refine Wr.i64 (by omega) (by omega) ?_) | (refine DrawK.of tabOK mixed (.cons 0 false (.cons 1 false (.cons 2 false (.cons 3 false (.cons 4 false (.cons 5 false (.cons 6 false (.cons 8 false (.cons 9 false (.alo 7 (.cons 10 true (.cons 11 true (.cons 12 true (.cons 13 true .nil)))))))))))))) (by kernel_rfl) ?_) | (refine IdxK.at (k := j) rfl hme rfl ?_) | (refine IdxL.mk 0 rfl (by decide) ?_) | (refine IdxL.mk 1 rfl (by decide) ?_) | (refine IdxL.mk a rfl (by omega) ?_) | (refine RowK.mk a _ (by omega) hrow (by simp) ?_) | (refine BsK.own (fun x hx => by rcases List.mem_singleton.1 hx with rfl; rfl) rfl ?_) | (refine OpK.focus tabOK 33 0 a 2 rfl rfl hrow (by simp) rfl rfl ?_) | (refine AppK.int1 rfl (by rw [List.length_map]; omega) ?_) | (refine OpK.stMat tabOK rfl rfl rfl rfl rfl rfl rfl rfl rfl (by decide) a [] (by omega) (by unfold avI; rw [List.length_map]; omega) (by simp) ⟨by simp, by simp, by simp⟩ ?_)); conv => whnf) | (refine Br.dec (fun _ => ?_) (fun _ => ?_) <;> first | (exfalso; omega) | conv => whnf))
  all_goals exact ⟨j + 1, hj, by omega, Le.of_eq (by rw [hst, ← hput]; rfl)⟩
 ·conv => whnf
  repeat' (first | ((first | (intro (_ : _ ≤ 9223372036854775807)) | (refine And.intro ⟨rfl, rfl, by decide⟩ ?_) | (refine MkK.mk n (by omega) (by show 24 * _ ≤ 140737488355328; omega) (by unfold maxLen; omega) ?_)); conv => whnf) | (refine Br.dec (fun _ => ?_) (fun _ => ?_) <;> first | (exfalso; omega) | conv => whnf))
  have hje : (prsA w f).take j = prsA w f := List.take_of_length_le hj
  rw [hje]
  have hNl := nextR_len n (prsA w f)
  have hNi := nextR_in n (prsA w f) hp
  have hNc := nextR_cnt n (prsA w f)
  generalize nextR n (prsA w f) = nx at hNl hNi hNc ⊢
  refine LoopK.inv tabOK (fun a : Nat => ⟨[(0, .p (.ip w.cells)), (3, .p (eMat nx)), (6, .hd 1 0 n), (46, .p (.int .i64 n)), (47, .p (.int .i64 a))], [(1, .ext (.mat 112 4 1 (bmI (filR n a)) []))]⟩) (fun a => a ≤ n) (fun a => n - a) 0
   (by
     refine Le.trans (mat_begin1 w n nx hNl _ _) ?_
     exact Le.mk [] (by simp) (by simp) (by simp) (.cons (.refl _) (.cons (.refl _) (.cons (.refl _) (.cons (.refl _) (.cons (.refl _) .nil))))) (.cons rfl (.of_eq (by simp [bmI, filR])) .nil)) (Nat.zero_le _) ?_
  intro a h3
  rcases Nat.lt_or_ge a n with ha | ha
  ·have hfl := filR_len (n := n) h3
   have hset := filR_set (n := n) ha
   generalize filR n a = rows at hfl hset ⊢
   have hrl : (bmI rows).length = n := by unfold bmI; rw [List.length_map, hfl]
   conv => whnf
   repeat' (first | ((first | (refine And.intro rfl ?_) | (refine And.intro ⟨rfl, rfl, by decide⟩ ?_) | (refine MkK.mk n (by omega) (by show 1 * _ ≤ 140737488355328; omega) (by unfold maxLen; omega) ?_) | (refine IdxL.mk a rfl ha ?_) | (refine OpK.stMat tabOK rfl rfl rfl rfl rfl rfl rfl rfl rfl (by decide) a [] (by omega) (by omega) (by simp) ⟨by simp, by simp, by simp⟩ ?_) | (refine RowK.mk a (List.replicate n .ff) (by omega) (by rw [List.getElem?_set_self (by omega)]; rfl) (by simp) ?_)); conv => whnf) | (refine Br.dec (fun _ => ?_) (fun _ => ?_) <;> first | (exfalso; omega) | conv => whnf))
   refine LoopK.inv tabOK (fun b : Nat => ⟨[(0, .p (.ip w.cells)), (3, .p (eMat nx)), (6, .hd 1 0 n), (7, .p (.int .i64 a)), (46, .p (.int .i64 n)), (47, .p (.int .i64 a)), (62, .p (.int .i64 n)), (63, .p (.int .i64 b))], [(1, .ext (.mat 112 4 1 ((bmI rows).set a ((filT n a b).map bv)) []))]⟩) (fun b => b ≤ n) (fun b => n - b) 0
    (Le.of_eq (by rw [List.length_replicate, show (filT n a 0).map bv = List.replicate n .ff by unfold filT; simp [bv]]; rfl)) (Nat.zero_le _) ?_
   intro b h4
   rcases Nat.lt_or_ge b n with hb | hb
   ·have hfs := filT_set (n := n) (a := a) hb
    have htl := filT_len (n := n) (a := a) h4
    have hrow : ((bmI rows).set a ((filT n a b).map bv))[a]? = some ((filT n a b).map bv) := List.getElem?_set_self (by omega)
    have hrln : ((filT n a b).map bv).length = n := by rw [List.length_map, htl]
    generalize (filT n a b).map bv = row at hfs hrow hrln ⊢
    conv => whnf
    repeat' (first | ((first | (refine DrawK.auto tabOK mixed (by kernel_rfl) ?_) | (refine And.intro rfl ?_) | (refine Wr.eq (m := (n : Int) - 1) (by omega) (by omega) (by omega) ?_) | (refine Wr.i64 (by omega) (by omega) ?_) | (refine IdxL.mk a rfl ha ?_) | (refine RowK.mk a row (by omega) hrow (by simp) ?_) | (refine IdxL.mk b rfl (by omega) ?_) | (refine OpK.stEl tabOK rfl rfl rfl rfl rfl rfl rfl rfl rfl hrow (by simp) (by omega) ?_)); conv => whnf) | (refine Br.dec (fun _ => ?_) (fun _ => ?_) <;> first | (exfalso; omega) | conv => whnf))
    have e1 : ∀ c, ((bmI rows).set a row).set a (row.set (b * 1) c) = (bmI rows).set a (row.set b c) := fun c => by rw [List.set_set, Nat.mul_one]
    ·have hx : (decide (a < n - 1) || decide (a = b)) = true := by rw [decide_eq_true (by omega)]; rfl
     rw [hx] at hfs
     exact ⟨b + 1, by omega, by omega, Le.of_eq (by rw [e1, ← hfs]; rfl)⟩
    ·have hx : (decide (a < n - 1) || decide (a = b)) = ((a : Int) == b) := by
      rw [decide_eq_false (by omega), Bool.false_or]
      by_cases hab : a = b
      ·subst hab; simp
      ·have : ¬ (a : Int) = b := by omega
       rw [decide_eq_false hab, beq_eq_false_iff_ne.2 this]
     have e1 : ∀ c, ((bmI rows).set a row).set a (row.set (b * 1) c) = (bmI rows).set a (row.set b c) := fun c => by rw [List.set_set, Nat.mul_one]
     rw [hx] at hfs
     refine ⟨b + 1, by omega, by omega, ?_⟩
     rw [e1]
     exact ((Le.matSub (H1 := []) (rows' := (bmI rows).set a (row.set b (bv ((a : Int) == b)))) (by rw [List.length_set, List.length_set]) (setS (ElS.set rfl (bv_cells _) (Sub.bv rfl)))).trans (Le.of_eq (by rw [hfs]; rfl)))
   ·have hbe : b = n := by omega
    subst hbe
    rw [filT_end]
    have hbm : (bmI rows).set a ((filRow b a).map bv) = bmI (filR b (a + 1)) := by
     rw [← hset]
     unfold bmI
     rw [List.map_set]
    rw [hbm]
    conv => whnf
    repeat' (first | (refine Wr.i64 (by omega) (by omega) ?_; conv => whnf) | (refine Br.dec (fun _ => ?_) (fun _ => ?_) <;> first | (exfalso; omega) | conv => whnf))
    exact ⟨a + 1, by omega, by omega, Le.of_eq rfl⟩
  ·have hae : a = n := by omega
   rw [hae, filR_end]
   have hS := FolI.start hn2 nx
   have hnx : ∀ a, ∀ x ∈ nx.getD a [], 0 ≤ x ∧ x < (n : Int) := fun a x hx => by
    rw [List.getD_eq_getElem?_getD] at hx
    cases hq : nx[a]? with
    | none => rw [hq] at hx; cases hx
    | some r => rw [hq] at hx; exact hNi r (List.mem_of_getElem? hq) x hx
   generalize (List.range n).map (filRow n) = fm0 at hS ⊢
   clear h3 ha hae a
   conv => whnf
   repeat' (refine Br.dec (fun _ => ?_) (fun _ => ?_) <;> first | (exfalso; omega) | conv => whnf)
   refine LoopK.inv tabOK (fun x : List (List Bool) × Bool => ⟨[(0, .p (.ip w.cells)), (3, .p (eMat nx)), (6, .hd 1 0 n), (9, .p (bv x.2))], [(1, .ext (.mat 112 4 1 (bmI x.1) []))]⟩) (fun x => FolI n nx x.1 ∧ (x.2 = false → ∀ a, a < n - 1 → x.1.getD a [] = rowF n nx x.1 a)) (fun x => 2 * cntB x.1 + x.2.toNat) (fm0, true)
    (Le.of_eq rfl) ⟨hS, fun h => by cases h⟩ ?_
   rintro ⟨fm, turned⟩ ⟨hI, hfix⟩
   simp only at hI hfix ⊢
   cases turned with
   | false =>
     have hbl : n = (bmI fm).length := by unfold bmI; rw [List.length_map, hI.len]
     conv => whnf
     skip
     exact ⟨_, .mat rfl hbl, fm, ⟨hI, hfix rfl⟩, rfl⟩
   | true =>
     conv => whnf
     repeat' (refine Wr.eq (m := (n : Int) - 2) (by omega) (by omega) (by omega) ?_; conv => whnf)
     refine LoopK.inv tabOK (fun y : List (List Bool) × Bool × Int => ⟨[(0, .p (.ip w.cells)), (3, .p (eMat nx)), (6, .hd 1 0 n), (9, .p (bv y.2.1)), (10, .p (.int .i64 y.2.2))], [(1, .ext (.mat 112 4 1 (bmI y.1) []))]⟩)
      (fun y => FolI n nx y.1 ∧ (-1 ≤ y.2.2 ∧ y.2.2 ≤ (n : Int) - 2) ∧ (y.2.1 = false → y.1 = fm ∧ ∀ a' : Nat, y.2.2 < a' → a' < n - 1 → fm.getD a' [] = rowF n nx fm a') ∧ (y.2.1 = true → cntB y.1 < cntB fm)) (fun y => (y.2.2 + 1).toNat) (fm, false, (n : Int) - 2)
      (Le.of_eq rfl) ⟨hI, ⟨by simp only; omega, by simp only; omega⟩, fun _ => ⟨rfl, fun a' h1 h2 => by simp only at h1; omega⟩, fun h => by cases h⟩ ?_
     rintro ⟨gm, t, a⟩ ⟨hG, ⟨ha1, ha2⟩, hf, hl⟩
     simp only at hG ha1 ha2 hf hl ⊢
     rcases Int.lt_or_le a 0 with ha0 | ha0
     ·have hae : a = -1 := by omega
      subst hae
      have fin : ∃ x : List (List Bool) × Bool, x = (gm, t) ∧ 2 * cntB x.1 + x.2.toNat < 2 * cntB fm + 1 := ⟨_, rfl, by
       cases t with
       | true => have := hl rfl; simp only [Bool.toNat_true]; omega
       | false => rw [(hf rfl).1]; simp⟩
      obtain ⟨x, rfl, hm⟩ := fin
      conv => whnf
      repeat' (refine Br.dec (fun _ => ?_) (fun _ => ?_) <;> first | (exfalso; omega) | conv => whnf)
      refine ⟨(gm, t), ⟨hG, fun ht a ha => ?_⟩, hm, Le.mk [] (by simp) (by simp) (by simp) (.cons (.refl _) (.cons (.refl _) (.cons (.refl _) (.cons (.refl _) .nil)))) (.cons rfl (.refl _) .nil)⟩
      simp only at ht ⊢
      obtain ⟨q1, q2⟩ := hf ht
      rw [q1]
      exact q2 a (by omega) ha
     ·obtain ⟨i, rfl⟩ : ∃ i : Nat, a = i := ⟨a.toNat, by omega⟩
      have hin : i < n - 1 := by omega
      have hinx : i < nx.length := by omega
      have higm : i < gm.length := by rw [hG.len]; omega
      have hNr : ((avI nx).map AV.sl)[i]? = some (.sl (nx[i].map (.int .i64))) := by unfold avI; rw [List.map_map, List.getElem?_map, List.getElem?_eq_getElem hinx]; rfl
      have hng : nx.getD i [] = nx[i] := by rw [List.getD_eq_getElem?_getD, List.getElem?_eq_getElem hinx]; rfl
      have hgg : gm.getD i [] = gm[i] := by rw [List.getD_eq_getElem?_getD, List.getElem?_eq_getElem higm]; rfl
      have hcl : nx[i].length ≤ 1000000 := by have := hNc i; rw [hng] at this; omega
      have hSh := way_shared gm nx[i] n hG.len hn5 hG.rows hcl (fun x hx => hnx i x (by rw [hng]; exact hx))
      have hse : ((sharedR gm nx[i] n).map bv)[i]? = some (bv (sharedB gm nx[i] i)) := by unfold sharedR; rw [List.map_map, List.getElem?_map, List.getElem?_range (by omega)]; rfl
      have hst : ((sharedR gm nx[i] n).map bv).set i (bv true) = (rowF n nx gm i).map bv := by
       unfold rowF
       rw [hng, List.map_set]
      have hgr : (bmI gm)[i]? = some (gm[i].map bv) := by unfold bmI; rw [List.getElem?_map, List.getElem?_eq_getElem higm]; rfl
      have hgl : (gm[i].map bv).length = n := by rw [List.length_map]; exact hG.rows _ (List.getElem_mem higm)
      have hrl : ((rowF n nx gm i).map bv).length = n := by rw [List.length_map, rowF_len]
      have hbl : (bmI gm).length = n := by unfold bmI; rw [List.length_map, hG.len]
      have hEq := slices_Equal_bool_bool_ (rowF n nx gm i) gm[i]
      by_cases hq : rowF n nx gm i = gm[i]
      ·rw [decide_eq_true hq] at hEq
       have fin : ∃ y : List (List Bool) × Bool × Int, y = (gm, t, (i : Int) - 1) ∧ (FolI n nx y.1 ∧ (-1 ≤ y.2.2 ∧ y.2.2 ≤ (n : Int) - 2) ∧ (y.2.1 = false → y.1 = fm ∧ ∀ a' : Nat, y.2.2 < a' → a' < n - 1 → fm.getD a' [] = rowF n nx fm a') ∧ (y.2.1 = true → cntB y.1 < cntB fm)) := ⟨_, rfl, hG, ⟨by simp only; omega, by simp only; omega⟩, fun ht => by
        obtain ⟨q1, q2⟩ := hf ht
        refine ⟨q1, fun a' h1 h2 => ?_⟩
        simp only at h1
        by_cases he : a' = i
        ·subst he
         subst q1
         rw [hgg, hq]
        ·exact q2 a' (by omega) h2, hl⟩
       obtain ⟨y, rfl, hfin⟩ := fin
       conv => whnf
       repeat' (first | ((first | (refine And.intro rfl ?_) | (refine IdxK.at (k := i) rfl hNr rfl ?_) | (refine IdxL.mk i rfl (by omega) ?_) | (refine StOwn.mk i 0 _ (bv true) (by show (0+i)*1 = i*1+0; omega) hse (Nat.le_refl _) (by rw [bv_cells, bv_cells]; rfl) ?_) | (refine RowK.mk i _ (by omega) hgr (by simp) ?_)); conv => whnf) | (refine Br.dec (fun _ => ?_) (fun _ => ?_) <;> first | (exfalso; omega) | conv => whnf) | (refine CallK.heap [(1000, 1)] 5 (ArgsH.cons (LSub.refl _) (ArgsH.cons (LSub.refl _) ArgsH.nil)) (by refine BlksH.cons (j := 1) rfl rfl ?_ ?_; exact CSub.refl _; exact BlksH.nil) hSh rfl rfl ?_; rintro l' H' ⟨rfl, rfl⟩; conv => whnf))
       rw [hst]
       repeat' (first | ((first | (refine And.intro rfl ?_) | (refine Wr.eq (m := (i : Int) - 1) (by omega) (by omega) (by omega) ?_) | (refine IdxL.mk i rfl (by omega) ?_) | (refine OpK.stMat tabOK rfl rfl rfl rfl rfl rfl rfl rfl rfl (by decide) i [] (by omega) (by omega) hrl.symm ⟨by simp, by simp, by simp⟩ ?_)); conv => whnf) | (refine Br.n (fun _ => ?_) (fun _ => ?_) <;> conv => whnf) | (refine CallK.borrow hEq (.cons (.hd rfl hrl.symm) (.cons (.row rfl hgr (by simp)) .nil)) (by rintro _ rfl; rfl) ?_; rintro _ rfl; conv => whnf))
       all_goals first
        | exact ⟨_, hfin, by simp only; omega, Le.mk [] (by simp) (by simp) (by simp) (.cons (.refl _) (.cons (.refl _) (.cons (.refl _) (.cons (.refl _) (.cons (.refl _) .nil))))) (.cons rfl (.refl _) .nil)⟩
        | (exfalso; simp_all; done)
      ·rw [decide_eq_false hq] at hEq
       have hsb : (bmI gm).set i ((rowF n nx gm i).map bv) = bmI (gm.set i (rowF n nx gm i)) := by unfold bmI; rw [List.map_set]
       have hne : rowF n nx gm i ≠ gm.getD i [] := by rw [hgg]; exact hq
       have fin : ∃ y : List (List Bool) × Bool × Int, y = (gm.set i (rowF n nx gm i), true, (i : Int) - 1) ∧ (FolI n nx y.1 ∧ (-1 ≤ y.2.2 ∧ y.2.2 ≤ (n : Int) - 2) ∧ (y.2.1 = false → y.1 = fm ∧ ∀ a' : Nat, y.2.2 < a' → a' < n - 1 → fm.getD a' [] = rowF n nx fm a') ∧ (y.2.1 = true → cntB y.1 < cntB fm)) := ⟨_, rfl, hG.step hnx hin, ⟨by simp only; omega, by simp only; omega⟩, fun ht => by (simp only at ht; cases ht), fun _ => by
        have h1 := hG.less hin hne
        cases t with
        | true => exact Nat.lt_trans h1 (hl rfl)
        | false => rw [(hf rfl).1] at h1 ⊢; exact h1⟩
       obtain ⟨y, rfl, hfin⟩ := fin
       conv => whnf
       repeat' (first | ((first | (refine And.intro rfl ?_) | (refine IdxK.at (k := i) rfl hNr rfl ?_) | (refine IdxL.mk i rfl (by omega) ?_) | (refine StOwn.mk i 0 _ (bv true) (by show (0+i)*1 = i*1+0; omega) hse (Nat.le_refl _) (by rw [bv_cells, bv_cells]; rfl) ?_) | (refine RowK.mk i _ (by omega) hgr (by simp) ?_)); conv => whnf) | (refine Br.dec (fun _ => ?_) (fun _ => ?_) <;> first | (exfalso; omega) | conv => whnf) | (refine CallK.heap [(1000, 1)] 5 (ArgsH.cons (LSub.refl _) (ArgsH.cons (LSub.refl _) ArgsH.nil)) (by refine BlksH.cons (j := 1) rfl rfl ?_ ?_; exact CSub.refl _; exact BlksH.nil) hSh rfl rfl ?_; rintro l' H' ⟨rfl, rfl⟩; conv => whnf))
       rw [hst]
       repeat' (first | ((first | (refine And.intro rfl ?_) | (refine Wr.eq (m := (i : Int) - 1) (by omega) (by omega) (by omega) ?_) | (refine IdxL.mk i rfl (by omega) ?_) | (refine OpK.stMat tabOK rfl rfl rfl rfl rfl rfl rfl rfl rfl (by decide) i [] (by omega) (by omega) hrl.symm ⟨by simp, by simp, by simp⟩ ?_)); conv => whnf) | (refine Br.n (fun _ => ?_) (fun _ => ?_) <;> conv => whnf) | (refine CallK.borrow hEq (.cons (.hd rfl hrl.symm) (.cons (.row rfl hgr (by simp)) .nil)) (by rintro _ rfl; rfl) ?_; rintro _ rfl; conv => whnf))
       all_goals first
        | exact ⟨_, hfin, by simp only; omega, Le.mk [] (by simp) (by simp) (by simp) (.cons (.refl _) (.cons (.refl _) (.cons (.refl _) (.cons (.refl _) (.cons (.refl _) .nil))))) (.cons rfl (.of_eq (by rw [hsb])) .nil)⟩
        | (exfalso; simp_all; done)
open Go.Proofs
def decB (fm : List (List Bool)) (t : Int × Int) (b : Nat) : Bool := bitF fm t.2.toNat b && (decide (t.1 = b) || !bitF fm t.1.toNat b)
def mkM (n : Nat) (fm : List (List Bool)) (l : List (Int × Int)) (a b : Nat) : Bool := (decide (1 ≤ b) && decide (b < n - 1)) && l.any fun t => decide (t.1 = a) && decB fm t b
structure DimB (n : Nat) (M : List (List Bool)) : Prop where
 len : M.length = n
 rows : ∀ r ∈ M, r.length = n
theorem DimB.row {n : Nat} {M : List (List Bool)} (h : DimB n M) {a : Nat} (ha : a < n) : (bmI M)[a]? = some ((M.getD a []).map bv) ∧ ((M.getD a []).map bv).length = n := by
 have hal : a < M.length := by rw [h.len]; exact ha
 have e : M.getD a [] = M[a] := by rw [List.getD_eq_getElem?_getD, List.getElem?_eq_getElem hal]; rfl
 rw [e]
 refine ⟨by unfold bmI; rw [List.getElem?_map, List.getElem?_eq_getElem hal]; rfl, ?_⟩
 rw [List.length_map]
 exact h.rows _ (List.getElem_mem hal)
theorem DimB.bit {n : Nat} {M : List (List Bool)} (h : DimB n M) {a b : Nat} (ha : a < n) (hb : b < n) : ((M.getD a []).map bv)[b]? = some (bv (bitF M a b)) := by
 obtain ⟨_, h2⟩ := h.row ha
 have hbl : b < (M.getD a []).length := by rw [List.length_map] at h2; omega
 rw [List.getElem?_map, List.getElem?_eq_getElem hbl]
 unfold bitF
 rw [List.getD_eq_getElem?_getD (l := M.getD a []) (i := b), List.getElem?_eq_getElem hbl]
 rfl
theorem DimB.set {n : Nat} {M : List (List Bool)} (h : DimB n M) {a b : Nat} (ha : a < n) (hb : b < n) : DimB n (M.set a ((M.getD a []).set b true)) ∧ (bmI M).set a (((M.getD a []).map bv).set b .tt) = bmI (M.set a ((M.getD a []).set b true)) ∧ ∀ x y, x < n → y < n → bitF (M.set a ((M.getD a []).set b true)) x y = if x = a ∧ y = b then true else bitF M x y := by
 have hal : a < M.length := by rw [h.len]; exact ha
 obtain ⟨_, h2⟩ := h.row ha
 rw [List.length_map] at h2
 refine ⟨⟨by rw [List.length_set]; exact h.len, fun r hr => ?_⟩, ?_, fun x y hx hy => ?_⟩
 ·rcases List.mem_or_eq_of_mem_set hr with hr | rfl
  ·exact h.rows r hr
  ·rw [List.length_set]; exact h2
 ·unfold bmI
  rw [List.map_set, List.map_set]
  rfl
 ·rw [bit_set hal]
  by_cases hxa : x = a
  ·subst hxa
   rw [if_pos rfl, List.getD_eq_getElem?_getD]
   by_cases hyb : y = b
   ·subst hyb
    rw [if_pos ⟨rfl, rfl⟩, List.getElem?_set_self (by omega)]
    rfl
   ·rw [if_neg (fun h => hyb h.2), List.getElem?_set_ne (Ne.symm hyb), ← List.getD_eq_getElem?_getD]
    rfl
  ·rw [if_neg hxa, if_neg (fun h => hxa h.1)]
def outM (plc : Int → Int) (M : List (List Bool)) (n a : Nat) : List (Int × Int) := (List.range a).flatMap fun (x : Nat) => ((List.range n).filter fun y => bitF M x y).map fun (y : Nat) => (plc x, plc y)
def outR (plc : Int → Int) (M : List (List Bool)) (a b : Nat) : List (Int × Int) := ((List.range b).filter fun y => bitF M a y).map fun (y : Nat) => (plc a, plc y)
theorem outM_succ (plc : Int → Int) (M : List (List Bool)) (n a : Nat) : outM plc M n (a + 1) = outM plc M n a ++ outR plc M a n := by
 unfold outM outR
 rw [List.range_succ, List.flatMap_append]
 simp
theorem outR_succ (plc : Int → Int) (M : List (List Bool)) (a b : Nat) : outR plc M a (b + 1) = outR plc M a b ++ (if bitF M a b then [(plc a, plc b)] else []) := by
 unfold outR
 rw [List.range_succ, List.filter_append, List.map_append]
 congr 1
 cases h : bitF M a b <;> simp [h]
theorem outR_len (plc : Int → Int) (M : List (List Bool)) (a b : Nat) : (outR plc M a b).length ≤ b := by
 unfold outR
 rw [List.length_map]
 exact Nat.le_trans (List.length_filter_le _ _) (by simp)
theorem outM_len (plc : Int → Int) (M : List (List Bool)) (n a : Nat) : (outM plc M n a).length ≤ a * n := by
 induction a with
 | zero => unfold outM; simp
 | succ a ih =>
   have := outR_len plc M a n
   rw [outM_succ, List.length_append, Nat.add_mul, Nat.one_mul]
   omega
def zR (n a : Nat) : List (List Bool) := List.replicate a (List.replicate n false) ++ List.replicate (n - a) []
theorem zR_len {n a : Nat} (h : a ≤ n) : (zR n a).length = n := by unfold zR; simp; omega
theorem zR_set {n a : Nat} (h : a < n) : (bmI (zR n a)).set a (List.replicate n .ff) = bmI (zR n (a + 1)) := by
 have e : (zR n a).set a (List.replicate n false) = zR n (a + 1) := by
  unfold zR
  rw [List.set_append_right _ _ (by simp), List.length_replicate, Nat.sub_self, show n - a = (n - (a + 1)) + 1 by omega, List.replicate_succ, List.set_cons_zero, List.replicate_succ', List.append_assoc]
  rfl
 rw [← e]
 unfold bmI
 rw [List.map_set]
 congr 1
 simp [bv]
theorem zR_end (n : Nat) : DimB n (zR n n) ∧ ∀ a b, bitF (zR n n) a b = false := by
 have e : zR n n = List.replicate n (List.replicate n false) := by unfold zR; simp
 rw [e]
 refine ⟨⟨by simp, fun r hr => by rw [List.eq_of_mem_replicate hr]; simp⟩, fun a b => ?_⟩
 unfold bitF
 simp only [List.getD_eq_getElem?_getD, List.getElem?_replicate]
 split
 ·simp only [Option.getD_some, List.getElem?_replicate]
  split <;> rfl
 ·rfl
theorem mat_begin2 {N' : Nat} {sl : List (Nat × LV)} (n : Nat) (h0 : (sl.all fun x => x.2.xfree 0) = true) :
  Le N' ⟨sl, [(0, .own 112 1 (List.replicate n .nils))]⟩ ⟨sl, [(0, .ext (.mat 112 4 1 (List.replicate n []) []))]⟩ := by
 have hm := Le.toMat (N := N') (sl := sl) (H := [(0, .own 112 1 (List.replicate n .nils))])
  (H' := [(0, .ext (.mat 112 4 1 (List.replicate (List.replicate n AV.nils).length []) []))])
  0 4 1 (e := 112) (es := List.replicate n .nils) rfl (fun x hx => List.eq_of_mem_replicate hx) rfl h0 rfl rfl (by simp [labN])
 simpa using hm
theorem way_Way_Decides (w : Way) (f : Pr) (n : Nat) (h : WayT w f n) (hp : ∀ t ∈ prsA w f, (0 ≤ t.1 ∧ t.1 < n) ∧ 0 ≤ t.2 ∧ t.2 < n) (hlen : (augW w f).length ≤ 1000000) : SpecP Tryz.prog 109 [.ip w.cells] (fun r => ∃ fm M : List (List Bool), FollowP n (nextR n (prsA w f)) fm ∧ DimB n M ∧ (∀ a b, a < n → b < n → bitF M a b = mkM n fm (prsA w f) a b) ∧ r = .sl (avP (outM (placeI w.p w.j w.n) M n n))) := by
 refine SpecP.body I_way_Way_Decides tabOK Tryz.func109 rfl Tryz.call109 (by show 1 ≤ _; decide) ?_
 conv => whnf
 have hwn := h.hw
 have hn5 := h.hn
 have hn2 := h.hn2
 have hF := way_Way_Follow w f n h hp hlen
 have hA := way_Way_Aug w f n h
 have hP := way_Way_Pairs w f h.hj h.hc (by omega) (augW w f) hlen
 have hpl : (avP (prsA w f)).length = (prsA w f).length := by unfold avP; rw [List.length_map]
 have hpl2 : (prsA w f).length ≤ 1000000 := by unfold prsA; rw [List.length_map]; exact hlen
 have hPe : (augW w f).map (ixP w.p w.j f w.n) = prsA w f := rfl
 rw [hPe] at hP
 repeat' ((first | (intro (_ : _ ≤ 9223372036854775807)) | (refine And.intro ⟨rfl, rfl, by decide⟩ ?_) | (refine CallK.pure hF (.cons (Sub.refl _) .nil) ?_; rintro _ ⟨fm, hFP, rfl⟩) | (refine MkK.mk n (by omega) (by show 24 * _ ≤ 140737488355328; omega) (by unfold maxLen; omega) ?_)); conv => whnf)
 have hFD : DimB n fm := ⟨hFP.inv.len, hFP.inv.rows⟩
 refine LoopK.inv tabOK (fun a : Nat => ⟨[(0, .p (.ip w.cells)), (3, .p (.sl ((bmI fm).map .sl))), (4, .hd 0 0 n), (21, .p (.int .i64 n)), (22, .p (.int .i64 a))], [(0, .ext (.mat 112 4 1 (bmI (zR n a)) []))]⟩) (fun a => a ≤ n) (fun a => n - a) 0
  (by
    refine Le.trans (mat_begin2 n rfl) ?_
    exact Le.mk [] (by simp) (by simp) (by simp) (.cons (.refl _) (.cons (.refl _) (.cons (.refl _) (.cons (.refl _) (.cons (.refl _) .nil))))) (.cons rfl (.of_eq (by simp [bmI, zR])) .nil)) (Nat.zero_le _) ?_
 intro a h3
 rcases Nat.lt_or_ge a n with ha | ha
 ·have hzl := zR_len (n := n) h3
  have hzs := zR_set (n := n) ha
  have hbl : (bmI (zR n a)).length = n := by unfold bmI; rw [List.length_map, hzl]
  generalize bmI (zR n a) = rows at hzs hbl ⊢
  conv => whnf
  repeat' (first | ((first | (refine And.intro rfl ?_) | (refine And.intro ⟨rfl, rfl, by decide⟩ ?_) | (refine Wr.i64 (by omega) (by omega) ?_) | (refine MkK.mk n (by omega) (by show 1 * _ ≤ 140737488355328; omega) (by unfold maxLen; omega) ?_) | (refine IdxL.mk a rfl ha ?_) | (refine OpK.stMat tabOK rfl rfl rfl rfl rfl rfl rfl rfl rfl (by decide) a [] (by omega) (by omega) (by simp) ⟨by simp, by simp, by simp⟩ ?_)); conv => whnf) | (refine Br.dec (fun _ => ?_) (fun _ => ?_) <;> first | (exfalso; omega) | conv => whnf))
  exact ⟨a + 1, by omega, by omega, Le.of_eq (by rw [← hzs]; rfl)⟩
 have hae : a = n := by omega
 rw [hae]
 clear h3 ha hae a
 obtain ⟨hz1, hz2⟩ := zR_end n
 generalize zR n n = M0 at hz1 hz2 ⊢
 conv => whnf
 repeat' (first | ((first | (intro (_ : _ ≤ 9223372036854775807)) | (refine CallK.pure hA (.cons (Sub.refl _) .nil) ?_; rintro _ rfl) | (refine CallK.pure hP (.cons (Sub.refl _) (.cons (Sub.refl _) .nil)) ?_; rintro _ rfl)); conv => whnf) | (refine Br.dec (fun _ => ?_) (fun _ => ?_) <;> first | (exfalso; omega) | conv => whnf))
 refine LoopK.inv tabOK (fun x : Nat × List (List Bool) => ⟨[(0, .p (.ip w.cells)), (3, .p (.sl ((bmI fm).map .sl))), (4, .hd 0 0 n), (37, .p (.sl (avP (prsA w f)))), (38, .p (.int .i64 (avP (prsA w f)).length)), (39, .p (.int .i64 x.1))], [(0, .ext (.mat 112 4 1 (bmI x.2) []))]⟩)
  (fun x => x.1 ≤ (prsA w f).length ∧ DimB n x.2 ∧ ∀ a b, a < n → b < n → bitF x.2 a b = mkM n fm ((prsA w f).take x.1) a b) (fun x => (prsA w f).length - x.1) (0, M0) (Le.of_eq rfl) ⟨Nat.zero_le _, hz1, fun a b _ _ => by simp only [hz2]; unfold mkM; simp⟩ ?_
 rintro ⟨j, M⟩ ⟨h2, hD, hB⟩
 simp only at h2 hD hB ⊢
 rcases Nat.lt_or_ge j (prsA w f).length with hj | hj
 ·have hme : (avP (prsA w f))[j]? = some (.agg [.int .i64 (prsA w f)[j].1, .int .i64 (prsA w f)[j].2]) := by simp [avP, hj]
  obtain ⟨⟨q1, q2⟩, q3, q4⟩ := hp _ (List.getElem_mem hj)
  have hmk : ∀ a b, mkM n fm ((prsA w f).take (j + 1)) a b = (mkM n fm ((prsA w f).take j) a b || ((decide (1 ≤ b) && decide (b < n - 1)) && (decide ((prsA w f)[j].1 = a) && decB fm (prsA w f)[j] b))) := fun a b => by
   unfold mkM
   rw [List.take_succ_eq_append_getElem hj, List.any_append]
   simp only [List.any_cons, List.any_nil, Bool.or_false]
   cases (decide (1 ≤ b) && decide (b < n - 1)) <;> simp
  generalize (prsA w f)[j] = t at hme q1 q2 q3 q4 hmk
  obtain ⟨a, ha⟩ : ∃ a : Nat, t.1 = a := ⟨t.1.toNat, by omega⟩
  obtain ⟨c, hc⟩ : ∃ c : Nat, t.2 = c := ⟨t.2.toNat, by omega⟩
  have han : a < n := by omega
  have hcn : c < n := by omega
  rw [ha, hc] at hme
  have hdec : ∀ b, decB fm t b = (bitF fm c b && (decide (a = b) || !bitF fm a b)) := fun b => by
   unfold decB
   rw [ha, hc, Int.toNat_natCast, Int.toNat_natCast]
   congr 2
   by_cases e : a = b
   ·subst e; simp
   ·rw [decide_eq_false e, decide_eq_false (by omega)]
  conv => whnf
  repeat' (first | ((first | (refine And.intro rfl ?_) | (refine IdxK.at (k := j) rfl hme rfl ?_) | (refine IdxL.mk 0 rfl (by decide) ?_)); conv => whnf) | (refine Br.dec (fun _ => ?_) (fun _ => ?_) <;> first | (exfalso; omega) | conv => whnf))
  refine LoopK.inv tabOK (fun y : Nat × List (List Bool) => ⟨[(0, .p (.ip w.cells)), (3, .p (.sl ((bmI fm).map .sl))), (4, .hd 0 0 n), (7, .p (.ip [.int .i64 a, .int .i64 c])), (8, .p (.int .i64 a)), (9, .p (.int .i64 y.1)), (37, .p (.sl (avP (prsA w f)))), (38, .p (.int .i64 (avP (prsA w f)).length)), (39, .p (.int .i64 j))], [(0, .ext (.mat 112 4 1 (bmI y.2) []))]⟩)
   (fun y => (1 ≤ y.1 ∧ y.1 ≤ n - 1) ∧ DimB n y.2 ∧ ∀ a' b', a' < n → b' < n → bitF y.2 a' b' = (mkM n fm ((prsA w f).take j) a' b' || ((decide (1 ≤ b') && decide (b' < y.1)) && (decide (t.1 = a') && decB fm t b')))) (fun y => n - y.1) (1, M) (Le.of_eq rfl)
   ⟨⟨Nat.le_refl _, by simp only; omega⟩, hD, fun a' b' h1 h2 => by
     simp only
     rw [hB a' b' h1 h2]
     cases hq : (decide (1 ≤ b') && decide (b' < 1)) with
     | true => simp at hq; omega
     | false => simp⟩ ?_
  rintro ⟨b, L⟩ ⟨⟨h4, h5⟩, hL, hLB⟩
  simp only at h4 h5 hL hLB ⊢
  rcases Nat.lt_or_ge b (n - 1) with hb | hb
  ·have hbn : b < n := by omega
   obtain ⟨r1, r2⟩ := hFD.row hcn
   obtain ⟨s1, s2⟩ := hFD.row han
   obtain ⟨u1, u2⟩ := hL.row han
   have e1 := hFD.bit hcn hbn
   have e2 := hFD.bit han hbn
   obtain ⟨d1, d2, d3⟩ := hL.set han hbn
   have hr1 : ((bmI fm).map AV.sl)[c]? = some (.sl ((fm.getD c []).map bv)) := by rw [List.getElem?_map, r1]; rfl
   have hr2 : ((bmI fm).map AV.sl)[a]? = some (.sl ((fm.getD a []).map bv)) := by rw [List.getElem?_map, s1]; rfl
   have no : decB fm t b = false → ∀ a' b', a' < n → b' < n → bitF L a' b' = (mkM n fm ((prsA w f).take j) a' b' || ((decide (1 ≤ b') && decide (b' < b + 1)) && (decide (t.1 = a') && decB fm t b'))) := fun hq a' b' g1 g2 => by
    rw [hLB a' b' g1 g2]
    by_cases e : b' = b
    ·subst e; simp [hq]
    ·have : decide (b' < b + 1) = decide (b' < b) := by by_cases hlt : b' < b <;> simp [hlt] <;> omega
     rw [this]
   have yes : decB fm t b = true → ∀ a' b', a' < n → b' < n → bitF (L.set a ((L.getD a []).set b true)) a' b' = (mkM n fm ((prsA w f).take j) a' b' || ((decide (1 ≤ b') && decide (b' < b + 1)) && (decide (t.1 = a') && decB fm t b'))) := fun hq a' b' g1 g2 => by
    rw [d3 a' b' g1 g2]
    by_cases e : a' = a ∧ b' = b
    ·rw [if_pos e, e.1, e.2, hq, decide_eq_true h4, decide_eq_true (by omega : b < b + 1), decide_eq_true ha]
     simp
    ·rw [if_neg e, hLB a' b' g1 g2]
     by_cases ea : a' = a
     ·have eb : ¬ b' = b := fun hh => e ⟨ea, hh⟩
      have : decide (b' < b + 1) = decide (b' < b) := by by_cases hlt : b' < b <;> simp [hlt] <;> omega
      rw [this]
     ·have : decide (t.1 = (a' : Int)) = false := decide_eq_false (by omega)
      rw [this]
      simp
   have hdb := hdec b
   generalize bitF fm c b = v1 at e1 hdb
   generalize bitF fm a b = v2 at e2 hdb
   cases v1 <;> cases v2 <;>
   conv => whnf
   repeat' (first | ((first | (refine And.intro rfl ?_) | (refine Wr.eq (m := (n : Int) - 1) (by omega) (by omega) (by omega) ?_) | (refine Wr.i64 (by omega) (by omega) ?_) | (refine IdxL.mk 1 rfl (by decide) ?_) | (refine IdxK.at (k := c) rfl hr1 rfl ?_) | (refine IdxK.at (k := a) rfl hr2 rfl ?_) | (refine IdxK.at (k := b) rfl e1 rfl ?_) | (refine IdxK.at (k := b) rfl e2 rfl ?_) | (refine IdxL.mk a rfl han ?_) | (refine RowK.mk a _ (by omega) u1 (by simp) ?_) | (refine IdxL.mk b rfl (by omega) ?_) | (refine OpK.stEl tabOK rfl rfl rfl rfl rfl rfl rfl rfl rfl u1 (by simp) (by omega) ?_)); conv => whnf) | (refine Br.dec (fun _ => ?_) (fun _ => ?_) <;> first | (exfalso; omega) | conv => whnf))
   all_goals first
    | exact ⟨(b + 1, L), ⟨⟨by simp only; omega, by simp only; omega⟩, hL, no (by first | (rw [hdb]; rfl) | (rw [hdb]; have hab : ¬ a = b := (by omega); rw [decide_eq_false hab]; rfl))⟩, by simp only; omega, Le.of_eq rfl⟩
    | exact ⟨(b + 1, L.set a ((L.getD a []).set b true)), ⟨⟨by simp only; omega, by simp only; omega⟩, d1, yes (by first | (rw [hdb]; have hab : a = b := (by omega); rw [decide_eq_true hab]; rfl) | (rw [hdb]; have hab : ¬ a = b := (by omega); rw [decide_eq_false hab]; rfl))⟩, by simp only; omega, Le.of_eq (by rw [Nat.mul_one]; simp only; rw [← d2]; rfl)⟩
    | trace_state
  ·have hbe : b = n - 1 := by omega
   subst hbe
   have hfin : ∀ a b, a < n → b < n → bitF L a b = mkM n fm ((prsA w f).take (j + 1)) a b := fun a' b' g1 g2 => by rw [hLB a' b' g1 g2, hmk]
   conv => whnf
   repeat' (first | ((first | (refine Wr.eq (m := (n : Int) - 1) (by omega) (by omega) (by omega) ?_) | (refine Wr.i64 (by omega) (by omega) ?_)); conv => whnf) | (refine Br.dec (fun _ => ?_) (fun _ => ?_) <;> first | (exfalso; omega) | conv => whnf))
   all_goals first
    | exact ⟨(j + 1, L), ⟨by simp only; omega, hL, hfin⟩, by simp only; omega, Le.mk [] (by simp) (by simp) (by simp) (.cons (.refl _) (.cons (.refl _) (.cons (.refl _) (.cons (.refl _) (.cons (.refl _) (.cons (.refl _) .nil)))))) (.cons rfl (.refl _) .nil)⟩
    | (exfalso; omega)
    | trace_state
 ·have hje : (prsA w f).take j = prsA w f := List.take_of_length_le hj
  rw [hje] at hB
  have hbl : (bmI M).length = n := by unfold bmI; rw [List.length_map, hD.len]
  generalize hplc : placeI w.p w.j w.n = plc
  conv => whnf
  repeat' (refine Br.dec (fun _ => ?_) (fun _ => ?_) <;> first | (exfalso; omega) | conv => whnf)
  refine LoopK.inv tabOK (fun a : Nat => ⟨[(0, .p (.ip w.cells)), (4, .hd 0 0 n), (10, .hd 1 0 (outM plc M n a).length), (85, .p (.int .i64 n)), (86, .p (.int .i64 a))], [(0, .ext (.mat 112 4 1 (bmI M) [])), (1, .own 47 2 (avP (outM plc M n a)))]⟩) (fun a => a ≤ n) (fun a => n - a) 0
   (Le.mk [(1, .own 47 2 [])] (by simp [Chunk.new0]; rfl) (by simp) (by simp) (.cons (.refl _) (.cons (.refl _) (.cons (.nil List.mem_cons_self) (.cons (.refl _) (.cons (.refl _) .nil))))) (.cons rfl (.refl _) (.new List.mem_cons_self .nil))) (Nat.zero_le _) ?_
  intro a h3
  rcases Nat.lt_or_ge a n with ha | ha
  ·obtain ⟨u1, u2⟩ := hD.row ha
   have hol := outM_len plc M n a
   have hol2 : a * n ≤ 5000 * 5000 := Nat.mul_le_mul (by omega) hn5
   have hsu := outM_succ plc M n a
   generalize outM plc M n a = acc at hol hsu ⊢
   conv => whnf
   repeat' (first | ((first | (refine And.intro rfl ?_) | (refine IdxL.mk a rfl ha ?_) | (refine RowK.mk a _ (by omega) u1 (by simp) ?_)); conv => whnf) | (refine Br.dec (fun _ => ?_) (fun _ => ?_) <;> first | (exfalso; omega) | conv => whnf))
   refine LoopK.inv tabOK (fun b : Nat => ⟨[(0, .p (.ip w.cells)), (4, .hd 0 0 n), (10, .hd 1 0 (acc ++ outR plc M a b).length), (11, .p (.int .i64 a)), (85, .p (.int .i64 n)), (86, .p (.int .i64 a)), (93, .p (.int .i64 n)), (94, .p (.int .i64 b))], [(0, .ext (.mat 112 4 1 (bmI M) [])), (1, .own 47 2 (avP (acc ++ outR plc M a b)))]⟩) (fun b => b ≤ n) (fun b => n - b) 0
    (Le.of_eq (by rw [u2, show acc ++ outR plc M a 0 = acc by unfold outR; simp]; rfl)) (Nat.zero_le _) ?_
   intro b h4
   rcases Nat.lt_or_ge b n with hb | hb
   ·have e1 := hD.bit ha hb
    have hrs := outR_succ plc M a b
    have hrl := outR_len plc M a b
    generalize outR plc M a b = acc2 at hrs hrl ⊢
    have hal : (avP (acc ++ acc2)).length = (acc ++ acc2).length := by unfold avP; rw [List.length_map]
    have hal2 : (acc ++ acc2).length ≤ 25005000 := by rw [List.length_append]; omega
    have hP1 := way_Way_Place w f h.hj h.hc (by omega) a (by omega)
    have hP2 := way_Way_Place w f h.hj h.hc (by omega) b (by omega)
    rw [hplc] at hP1 hP2
    cases hv : bitF M a b with
    | true =>
      rw [hv] at e1
      rw [hv, if_pos rfl] at hrs
      conv => whnf
      repeat' (first | ((first | (refine And.intro rfl ?_) | (refine And.intro ⟨by decide, by decide⟩ ?_) | (refine BsK.pure (fun x hx => by rcases List.mem_singleton.1 hx with rfl; rfl) rfl ?_) | (refine Wr.i64 (by omega) (by omega) ?_) | (refine IdxL.mk a rfl ha ?_) | (refine RowK.mk a _ (by omega) u1 (by simp) ?_) | (refine IdxL.mk b rfl (by omega) ?_) | (refine RLd.mk _ b 0 _ u1 (by simp) (by omega) e1 ?_) | (refine CallK.pure hP1 (.cons (Sub.refl _) (.cons (Sub.refl _) .nil)) ?_; rintro _ rfl) | (refine CallK.pure hP2 (.cons (Sub.refl _) (.cons (Sub.refl _) .nil)) ?_; rintro _ rfl) | (refine AppK.mk hal.symm rfl (by show ((acc ++ acc2).length+1) * 16 ≤ 140737488355328; omega) (by show (acc ++ acc2).length+1 ≤ 9223372036854775807; omega) (fun x hx => by rcases List.mem_singleton.1 hx with rfl; exact ⟨rfl, rfl⟩) ?_)); conv => whnf) | (refine Br.dec (fun _ => ?_) (fun _ => ?_) <;> first | (exfalso; omega) | conv => whnf))
      all_goals first
       | exact ⟨b + 1, by omega, by omega, Le.of_eq (by rw [hrs, ← List.append_assoc]; simp only [avP, List.length_append, List.map_append]; rfl)⟩
       | (exfalso; simp_all; done)
       | trace_state
    | false =>
      rw [hv] at e1
      rw [hv, if_neg (by decide), List.append_nil] at hrs
      conv => whnf
      repeat' (first | ((first | (refine And.intro rfl ?_) | (refine Wr.i64 (by omega) (by omega) ?_) | (refine IdxL.mk a rfl ha ?_) | (refine RowK.mk a _ (by omega) u1 (by simp) ?_) | (refine IdxL.mk b rfl (by omega) ?_) | (refine RLd.mk _ b 0 _ u1 (by simp) (by omega) e1 ?_)); conv => whnf) | (refine Br.dec (fun _ => ?_) (fun _ => ?_) <;> first | (exfalso; omega) | conv => whnf))
      all_goals first
       | exact ⟨b + 1, by omega, by omega, Le.of_eq (by rw [hrs]; rfl)⟩
       | (exfalso; simp_all; done)
       | trace_state
   ·have hbe : b = n := by omega
    subst hbe
    rw [← hsu]
    conv => whnf
    repeat' (first | (refine Wr.i64 (by omega) (by omega) ?_; conv => whnf) | (refine Br.dec (fun _ => ?_) (fun _ => ?_) <;> first | (exfalso; omega) | conv => whnf))
    exact ⟨a + 1, by omega, by omega, Le.of_eq rfl⟩
  ·have hae : a = n := by omega
   subst hae
   conv => whnf
   repeat' (refine Br.dec (fun _ => ?_) (fun _ => ?_) <;> first | (exfalso; omega) | conv => whnf)
   exact ⟨_, .hd rfl (by unfold avP; rw [List.length_map]), fm, M, hFP, hD, hB, rfl⟩
open Go.Proofs
def fitB (p : Pg) : Bool := decide (gPg p ≤ 20000)
theorem fit_of {p : Pg} (h : fitB p = true) : Fit p := by
 have := wg_Pg p
 have h1 : gPg p ≤ 20000 := by simpa [fitB] using h
 unfold Fit
 omega
theorem whittlerref3_Fits (p : Pg) : SpecP Tryz.prog 16 [.agg p.cells] (fun r => r = .bool (fitB p)) := by
 refine SpecP.body I_whittlerref3_Fits tabOK Tryz.func16 rfl Tryz.call16 (by show 1 ≤ _; decide) ?_
 conv => whnf
 have hl : (p.procs.map fun f => AV.agg f.cells).length = p.procs.length := List.length_map _
 have q0 := satI_rng (a := 0 + gTxs p.globals) (by omega)
 repeat' (refine CallK.pure (whittlerref3_weighTexts p.globals 0 (by omega)) (.cons (Sub.refl _) (.cons (Sub.refl _) .nil)) ?_; rintro _ rfl; conv => whnf)
 refine LoopK.inv tabOK (fun y : Nat × Int => ⟨[(1, .p (.ip p.cells)), (3, .p (.int .i64 y.2)), (4, .p (.int .i64 y.1))], []⟩) (fun y => y.1 ≤ p.procs.length ∧ (0 ≤ y.2 ∧ y.2 ≤ 20001) ∧ satI (y.2 + gPrs (p.procs.drop y.1)) = satI (gPg p : Nat)) (fun y => p.procs.length - y.1) (0, satI (0 + gTxs p.globals)) (Le.of_eq rfl) ⟨Nat.zero_le _, q0, by
  show satI (satI (0 + gTxs p.globals) + gPrs p.procs) = _
  rw [satI_sat (by omega)]
  congr 1
  unfold gPg
  omega⟩ ?_
 rintro ⟨j, m⟩ ⟨h2, h3, h4⟩
 simp only at h2 h3 h4 ⊢
 have last : ∀ {x : Int}, 0 ≤ x ∧ x ≤ 20001 → satI x = satI (gPg p : Nat) → (decide (x ≤ 20000)) = fitB p := fun {x} hx h => by
  unfold fitB
  unfold satI at h
  by_cases h1 : gPg p ≤ 20000
  ·rw [decide_eq_true h1, decide_eq_true_eq]
   split at h <;> split at h <;> omega
  ·rw [decide_eq_false h1, decide_eq_false_iff_not]
   split at h <;> split at h <;> omega
 rcases Nat.lt_or_ge j p.procs.length with hj | hj
 rotate_left 1
 ·rw [List.drop_eq_nil_of_le hj, gPrs] at h4
  conv => whnf
  repeat' (first | (intro (_ : _ ≤ 9223372036854775807); conv => whnf) | (refine Br.dec (fun _ => ?_) (fun _ => ?_) <;> first | (exfalso; omega) | conv => whnf))
  all_goals exact RetK.bool (last h3 (by rw [← h4]; simp))
 rw [List.drop_eq_getElem_cons hj, gPrs] at h4
 have hpe : gPr p.procs[j] = 1 + p.procs[j].name.length + gTxs p.procs[j].vars + gTxs p.procs[j].fin + gPms p.procs[j].params + gL p.procs[j].body := rfl
 have q1 := satI_rng (a := m + (1 + p.procs[j].name.length : Nat)) (by omega)
 have q2 := satI_rng (a := satI (m + (1 + p.procs[j].name.length : Nat)) + gTxs p.procs[j].vars) (by omega)
 have q3 := satI_rng (a := satI (satI (m + (1 + p.procs[j].name.length : Nat)) + gTxs p.procs[j].vars) + gTxs p.procs[j].fin) (by omega)
 conv => whnf
 repeat' (first | ((first | (intro (_ : _ ≤ 9223372036854775807)) | (refine DrawK.auto tabOK mixed (by kernel_rfl) ?_) | (refine And.intro rfl ?_) | (refine IdxK.map (by omega) (fun _ => rfl) ?_) | (refine CallK.pure (whittlerref3_weighText p.procs[j].name _ h3) (.cons (Sub.refl _) (.cons (Sub.refl _) .nil)) ?_; rintro _ rfl) | (refine CallK.pure (whittlerref3_weighTexts p.procs[j].vars _ q1) (.cons (Sub.refl _) (.cons (Sub.refl _) .nil)) ?_; rintro _ rfl) | (refine CallK.pure (whittlerref3_weighTexts p.procs[j].fin _ q2) (.cons (Sub.refl _) (.cons (Sub.refl _) .nil)) ?_; rintro _ rfl)); conv => whnf) | (refine Br.dec (fun _ => ?_) (fun _ => ?_) <;> first | (exfalso; omega) | conv => whnf))
 rotate_left 1
 ·exact RetK.bool (last h3 (by rw [← h4, ← satI_full (by omega) h3.2 (by omega), satI_id h3.2]))
 have h5 : satI (satI (satI (satI (m + (1 + p.procs[j].name.length : Nat)) + gTxs p.procs[j].vars) + gTxs p.procs[j].fin) + (gPms p.procs[j].params + (gL p.procs[j].body + gPrs (p.procs.drop (j + 1))) : Nat)) = satI (gPg p : Nat) := by
  rw [satI_sat (by omega), Int.add_assoc, satI_sat (by omega), Int.add_assoc, satI_sat (by omega), ← h4, hpe]
  congr 1
  omega
 generalize satI (satI (satI (m + (1 + p.procs[j].name.length : Nat)) + gTxs p.procs[j].vars) + gTxs p.procs[j].fin) = m0 at q3 h5 ⊢
 have hal : (p.procs[j].params.map fun a => AV.agg a.cells).length = p.procs[j].params.length := List.length_map _
 refine LoopK.inv tabOK (fun y : Nat × Int => ⟨[(1, .p (.ip p.cells)), (3, .p (.int .i64 y.2)), (4, .p (.int .i64 j)), (5, .p (.ip p.procs[j].cells)), (6, .p (.int .i64 y.1))], []⟩) (fun y => y.1 ≤ p.procs[j].params.length ∧ (0 ≤ y.2 ∧ y.2 ≤ 20001) ∧ satI (y.2 + (gPms (p.procs[j].params.drop y.1) + (gL p.procs[j].body + gPrs (p.procs.drop (j + 1))) : Nat)) = satI (gPg p : Nat)) (fun y => p.procs[j].params.length - y.1) (0, m0) (Le.of_eq rfl) ⟨Nat.zero_le _, q3, h5⟩ ?_
 rintro ⟨a, m2⟩ ⟨h6, h7, h8⟩
 simp only at h6 h7 h8 ⊢
 have fin : satI (m2 + (gL p.procs[j].body + gPrs (p.procs.drop (j + 1)) : Nat)) = satI (gPg p : Nat) → (0 ≤ satI (m2 + gL p.procs[j].body) ∧ satI (m2 + gL p.procs[j].body) ≤ 20001) ∧ satI (satI (m2 + gL p.procs[j].body) + gPrs (p.procs.drop (j + 1))) = satI (gPg p : Nat) := fun h => by
  refine ⟨satI_rng (by omega), ?_⟩
  rw [satI_sat (by omega), ← h]
  congr 1
  omega
 have full : m2 > 20000 → satI (m2 + (gL p.procs[j].body + gPrs (p.procs.drop (j + 1)) : Nat)) = satI (gPg p : Nat) := fun h => by
  rw [← h8, ← satI_full h h7.2 (by omega), ← satI_full h h7.2 (by omega)]
 rcases Nat.lt_or_ge a p.procs[j].params.length with ha | ha
 rotate_left 1
 ·have h9 : satI (m2 + (gL p.procs[j].body + gPrs (p.procs.drop (j + 1)) : Nat)) = satI (gPg p : Nat) := by
   rw [List.drop_eq_nil_of_le ha, gPms, Nat.zero_add] at h8
   exact h8
  obtain ⟨f1, f2⟩ := fin h9
  conv => whnf
  repeat' (first | ((first | (intro (_ : _ ≤ 9223372036854775807)) | (refine Wr.i64 (by omega) (by omega) ?_) | (refine CallK.pure (whittlerref3_weighStmts (gL p.procs[j].body+1) p.procs[j].body (by omega) m2 h7) (.cons (Sub.refl _) (.cons (Sub.refl _) .nil)) ?_; rintro _ rfl)); conv => whnf) | (refine Br.dec (fun _ => ?_) (fun _ => ?_) <;> first | (exfalso; omega) | conv => whnf))
  all_goals exact ⟨(j + 1, satI (m2 + gL p.procs[j].body)), ⟨by simp only; omega, f1, f2⟩, by simp only; omega, Le.of_eq rfl⟩
 rw [List.drop_eq_getElem_cons ha, gPms] at h8
 conv => whnf
 repeat' (first | ((first | (intro (_ : _ ≤ 9223372036854775807)) | (refine IdxK.map (by omega) (fun _ => rfl) ?_) | (refine Wr.i64 (by omega) (by omega) ?_) | (refine CallK.pure (whittlerref3_weighText p.procs[j].params[a].name _ h7) (.cons (Sub.refl _) (.cons (Sub.refl _) .nil)) ?_; rintro _ rfl) | (refine CallK.pure (whittlerref3_weighStmts (gL p.procs[j].body+1) p.procs[j].body (by omega) m2 h7) (.cons (Sub.refl _) (.cons (Sub.refl _) .nil)) ?_; rintro _ rfl)); conv => whnf) | (refine Br.dec (fun _ => ?_) (fun _ => ?_) <;> first | (exfalso; omega) | conv => whnf))
 ·have h10 : satI (satI (m2 + (1 + p.procs[j].params[a].name.length : Nat)) + (gPms (p.procs[j].params.drop (a + 1)) + (gL p.procs[j].body + gPrs (p.procs.drop (j + 1))) : Nat)) = satI (gPg p : Nat) := by
   rw [satI_sat (by omega), ← h8]
   congr 1
   omega
  exact ⟨(a + 1, satI (m2 + (1 + p.procs[j].params[a].name.length : Nat))), ⟨by simp only; omega, satI_rng (by omega), h10⟩, by simp only; omega, Le.of_eq rfl⟩
 ·obtain ⟨f1, f2⟩ := fin (full (by omega))
  exact ⟨(j + 1, satI (m2 + gL p.procs[j].body)), ⟨by simp only; omega, f1, f2⟩, by simp only; omega, Le.of_eq rfl⟩
open Go.Proofs
inductive SubE : List AV → List AV → Prop
 | nil : SubE [] []
 | cons {a b : AV} {xs ys : List AV} (h : SubL a.cells b.cells) (hs : SubE xs ys) : SubE (a :: xs) (b :: ys)
theorem SubE.get {xs ys : List AV} (h : SubE xs ys) : xs.length = ys.length ∧ ∀ (i : Nat) (b : AV), ys[i]? = some b → ∃ a, xs[i]? = some a ∧ SubL a.cells b.cells := by
 induction h with
 | nil => exact ⟨rfl, by simp⟩
 | cons h hs ih =>
   refine ⟨by simp [ih.1], fun i b hb => ?_⟩
   cases i with
   | zero => simp at hb; subst hb; exact ⟨_, rfl, h⟩
   | succ i => exact ih.2 i b (by simpa using hb)
theorem Sub.sl {xs ys : List AV} (h : SubE xs ys) : Sub (.sl xs) (.sl ys) := fun σ v hr => by
 obtain ⟨hl, hg⟩ := h.get
 cases hr with
 | nilsl =>
   obtain rfl : ys = [] := by simpa using hl.symm
   exact .nilsl
 | slz b =>
   obtain rfl : ys = [] := by simpa using hl.symm
   exact .slz b
 | sl _ b off cap sz cells u hb hcap hmax hsz hc hrr =>
   rw [hl]
   refine .sl ys b off cap sz cells u hb (by omega) hmax (fun i e hi => ?_) (fun i e j c hi hj => ?_) (fun i e j c hi hj => ?_)
   ·obtain ⟨a, h1, h2⟩ := hg i e hi
    rw [← hsz i a h1, h2.1]
   ·obtain ⟨a, h1, h2⟩ := hg i e hi
    obtain ⟨d, h3, _⟩ := h2.get hj
    exact hc i a j d h1 h3
   ·obtain ⟨a, h1, h2⟩ := hg i e hi
    obtain ⟨d, h3, h4⟩ := h2.get hj
    exact h4 _ _ (hrr i a j d h1 h3)
theorem whittlerref3_num (n : Int) : SpecP Tryz.prog 131 [.int .i64 n] (fun r => r = .agg (X.mk 1 n [] []).cells) := by
 refine SpecP.body I_whittlerref3_num tabOK Tryz.func131 rfl Tryz.call131 (by show 1 ≤ _; decide) ?_
 conv => whnf
 repeat' (refine And.intro rfl ?_; conv => whnf)
 exact ⟨_, .p (Sub.agg (by repeat' (first | exact SubL.nil | refine SubL.cons ?_ ?_ | exact Sub.refl _ | exact Sub.nils | exact Sub.ff rfl))), rfl⟩
theorem whittlerref3_name (s : Str) : SpecP Tryz.prog 132 [.str s] (fun r => r = .agg (X.mk 2 0 s []).cells) := by
 refine SpecP.body I_whittlerref3_name tabOK Tryz.func132 rfl Tryz.call132 (by show 1 ≤ _; decide) ?_
 conv => whnf
 repeat' (refine And.intro rfl ?_; conv => whnf)
 exact ⟨_, .p (Sub.agg (by repeat' (first | exact SubL.nil | refine SubL.cons ?_ ?_ | exact Sub.refl _ | exact Sub.nils | exact Sub.ff rfl))), rfl⟩
theorem whittlerref3_two (op : Int) (a b : X) : SpecP Tryz.prog 133 [.int .i64 op, .agg a.cells, .agg b.cells] (fun r => r = .agg (X.mk op 0 [] [a, b]).cells) := by
 refine SpecP.body I_whittlerref3_two tabOK Tryz.func133 rfl Tryz.call133 (by show 3 ≤ _; decide) ?_
 conv => whnf
 repeat' ((first | (refine And.intro rfl ?_) | (refine And.intro ⟨by decide, by decide⟩ ?_) | (refine BsK.pureL rfl rfl ?_)); conv => whnf)
 have e : X.avs [a, b] = [.agg a.cells, .agg b.cells] := by simp only [X.avs, X.av_eq]
 exact ⟨_, .p (Sub.agg (SubL.cons (Sub.refl _) (SubL.cons (Sub.refl _) (SubL.cons (Sub.refl _) (SubL.cons (Sub.of_eq (by show _ = AV.sl (X.avs [a, b]); rw [e]; rfl)) SubL.nil))))), rfl⟩
def bs (l : List Nat) : Str := l.map fun n => UInt8.ofNat n
def someP : Pg := ⟨[[103]], [
 ⟨[109, 97, 105, 110], [], [[118]], [
   .mk 1 1 [] [118] [] (.mk 1 2 [] []) false [] [] [],
   .mk 2 4 [] [103] [112] (.mk 0 0 [] []) false [⟨false, [], .mk 1 3 [] []⟩, ⟨true, [118], .mk 0 0 [] []⟩] [] [],
   .mk 3 3 [] [] [] (.mk 2 0 [118] []) false [] [] [],
   .mk 4 3 [] [] [] (.mk 2 0 [103] []) false [] [] []], []⟩,
 ⟨[112], [⟨[120], false⟩, ⟨[121], true⟩], [], [
   .mk 5 1 [] [121] [] (.mk 8 0 [] [.mk 2 0 [121] [], .mk 2 0 [120] []]) false [] [] [],
   .mk 6 5 [] [] [] (.mk 12 0 [] [.mk 2 0 [121] [], .mk 1 9 [] []]) false [] [.mk 7 10 [] [101] [] (.mk 0 0 [] []) false [] [] []] [],
   .mk 8 9 [] [] [] (.mk 2 0 [121] []) true [] [] []], [[101]]⟩]⟩
theorem whittlerref3_Some : SpecP Tryz.prog 74 [] (fun r => r = .agg someP.cells) := by
 refine SpecP.body I_whittlerref3_Some tabOK Tryz.func74 rfl Tryz.call74 (by show 0 ≤ _; decide) ?_
 conv => whnf
 repeat' ((first | (refine CallK.pure (whittlerref3_num _) (by repeat' (first | exact ArgP.nil | refine ArgP.cons ?_ ?_ | exact Sub.refl _ | exact Sub.tt rfl | exact Sub.ff rfl)) ?_; rintro _ rfl) | (refine CallK.pure (whittlerref3_name _) (by repeat' (first | exact ArgP.nil | refine ArgP.cons ?_ ?_ | exact Sub.refl _ | exact Sub.tt rfl | exact Sub.ff rfl)) ?_; rintro _ rfl) | (refine And.intro rfl ?_) | (refine And.intro ⟨by decide, by decide⟩ ?_) | (refine BsK.pure (fun x hx => by rcases List.mem_singleton.1 hx with rfl; rfl) rfl ?_) | (refine BsK.pureL rfl rfl ?_) | (refine CallK.pure (whittlerref3_two 8 (.mk 2 0 [121] []) (.mk 2 0 [120] [])) (.cons (Sub.refl _) (.cons (Sub.refl _) (.cons (Sub.refl _) .nil))) ?_; rintro _ rfl) | (refine CallK.pure (whittlerref3_two 12 (.mk 2 0 [121] []) (.mk 1 9 [] [])) (.cons (Sub.refl _) (.cons (Sub.refl _) (.cons (Sub.refl _) .nil))) ?_; rintro _ rfl)); conv => whnf)
 exact ⟨_, .p (Sub.agg (by repeat' (first | exact SubL.nil | exact SubE.nil | exact Sub.nils | exact Sub.ff rfl | exact Sub.tt rfl | refine SubL.cons ?_ ?_ | refine SubE.cons ?_ ?_ | exact Sub.refl _ | refine Sub.agg ?_ | refine Sub.sl ?_))), rfl⟩
end Go.Ab
