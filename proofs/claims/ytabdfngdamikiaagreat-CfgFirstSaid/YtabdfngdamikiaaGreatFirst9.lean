/- flat: rows laid flat. -/
import Derived.Test.YtabdfngdamikiaaGreatFirst6
import Derived.Test.YtabdfngdamikiaaGreatFirst8
set_option linter.unusedSimpArgs false
set_option linter.unusedVariables false
namespace Go.Ab
open Go.Proofs
structure Item where
  s : S
  proc : Int
  up : Int
  next : Int
  loop : Int
def Item.cells (i : Item) : List AV := i.s.cells ++ [.int .i64 i.proc, .int .i64 i.up, .int .i64 i.next, .int .i64 i.loop]
mutual
def rowT (proc up nx loop : Int) (acc : List Item) : S → List Item
  | .mk id kind labels name pr x has args thn els =>
    rowsF proc (acc.length + 1) (if kind = 6 then acc.length + 1 else nx) (if kind = 6 then acc.length + 1 else loop)
      (rowsF proc (acc.length + 1) (if kind = 6 then acc.length + 1 else nx) (if kind = 6 then acc.length + 1 else loop) (acc ++ [⟨.mk id kind labels name pr x has args thn els, proc, up, nx, loop⟩]) thn) els
def rowsF (proc up nx loop : Int) (acc : List Item) : List S → List Item
  | [] => acc
  | t :: r => rowsF proc up nx loop (rowT proc up (if r.isEmpty then nx else acc.length + 1 + cntS t) loop acc t) r
end
theorem rowT_eq (proc up nx loop : Int) (acc : List Item) (t : S) : rowT proc up nx loop acc t = rowsF proc (acc.length + 1) (if t.kind = 6 then acc.length + 1 else nx) (if t.kind = 6 then acc.length + 1 else loop)
      (rowsF proc (acc.length + 1) (if t.kind = 6 then acc.length + 1 else nx) (if t.kind = 6 then acc.length + 1 else loop) (acc ++ [⟨t, proc, up, nx, loop⟩]) t.thn) t.els := by
  cases t
  rw [rowT]
  rfl
mutual
theorem rowT_len (proc up nx loop : Int) (acc : List Item) : ∀ t : S, (rowT proc up nx loop acc t).length = acc.length + cntS t
  | .mk id kind labels name pr x has args thn els => by
    rw [rowT, cntS, rowsF_len _ _ _ _ _ els, rowsF_len _ _ _ _ _ thn]
    simp
    omega
theorem rowsF_len (proc up nx loop : Int) (acc : List Item) : ∀ l : List S, (rowsF proc up nx loop acc l).length = acc.length + cntL l
  | [] => by rw [rowsF, cntL]; rfl
  | t :: r => by
    rw [rowsF, cntL, rowsF_len _ _ _ _ _ r, rowT_len _ _ _ _ _ t]
    omega
end
theorem rowsF_step {proc up nx loop : Int} {acc : List Item} {l : List S} {j : Nat} (hj : j < l.length) :
    rowsF proc up nx loop acc (l.drop j) = rowsF proc up nx loop (rowT proc up (if j + 1 < l.length then acc.length + 1 + cntS l[j] else nx) loop acc l[j]) (l.drop (j + 1)) := by
  rw [drop_cons hj, rowsF]
  congr 2
  by_cases h : j + 1 < l.length
  · rw [if_pos h, if_neg]
    simp only [List.isEmpty_iff]
    intro he
    have := congrArg List.length he
    simp at this
    omega
  · rw [if_neg h, if_pos]
    rw [List.drop_eq_nil_of_le (by omega)]
    rfl
def sheetH (tS tI tN : Nat) (gl pr : AV) (L : List Item) (lo hi : List Int) : Heap :=
  [(1000, .obj tS [.p gl, .p pr, .hd 2000 0 L.length, .hd 2001 0 lo.length, .hd 2002 0 hi.length]), (2000, .own tI 17 (L.map fun i => .agg i.cells)), (2001, .own tN 1 (lo.map (.int .i64))), (2002, .own tN 1 (hi.map (.int .i64)))]
def X0 : X := .mk 0 0 [] []
def S0 : S := .mk 0 0 [] [] [] X0 false [] [] []
theorem LSub.agg {cs ds : List AV} (h : SubL cs ds) : LSub (.p (.agg cs)) (.p (.agg ds)) := .p (Sub.agg h)
set_option maxHeartbeats 4000000 in
set_option maxRecDepth 100000 in
theorem flat_row : ∀ (n : Nat) (_ : n ≤ 1000) (l : List S) (_ : cntL l < n) (acc : List Item) (_ : acc.length + cntL l ≤ 1000) (a : Item) (gl pr : AV) (lo hi : List Int),
    SpecH Tryz.prog 125 [.ptr 1000 0, .p (eSs l), .p (.agg a.cells)] (sheetH 110 107 3 gl pr acc lo hi)
      (fun r H => r = .p (.tup []) ∧ H = sheetH 110 107 3 gl pr (rowsF a.proc a.up a.next a.loop acc l) lo hi) := by
  intro n
  induction n with
  | zero => intro _ l h; omega
  | succ n ih =>
    intro hn l hl acc hacc a gl pr lo hi
    have hl1 := S.avs_len l
    refine SpecH.body I_flat_Sheet_row tabOK Tryz.func125 rfl Tryz.call125 (by show 3 ≤ _; decide) ?_
    conv => whnf
    repeat' (
      first
      | (intro (_ : _ ≤ 9223372036854775807); conv => whnf)
      | (refine Br.dec (fun _ => ?_) (fun _ => ?_) <;> first | (exfalso; omega) | conv => whnf)
      | (refine Br.dec2 (fun _ => ?_) (fun _ => ?_) <;> first | (exfalso; omega) | conv => whnf)
      | (refine DrawK.auto tabOK mixed (by kernel_rfl) ?_; conv => whnf)
      | (refine Br.n (fun _ => ?_) (fun _ => ?_) <;> conv => whnf)
      | (refine Br.b (fun _ => ?_) (fun _ => ?_) <;> conv => whnf)
      | (refine And.intro rfl ?_; conv => whnf)
      | (refine And.intro ⟨by decide, by decide⟩ ?_; conv => whnf)
      | (refine And.intro ⟨rfl, rfl, by decide⟩ ?_; conv => whnf)
      | (refine BsK.pure (fun x hx => by rcases List.mem_singleton.1 hx with rfl; rfl) rfl ?_; conv => whnf)
      | (refine IdxK.map (by omega) (fun _ => rfl) ?_; conv => whnf)
      | (refine IdxK.xs (by omega) ?_; conv => whnf)
      | (refine IdxK.ss (by omega) ?_; conv => whnf)
      | (refine ByteK.at (by omega) ?_; conv => whnf)
      | (refine Wr.i64 (by omega) (by omega) ?_; conv => whnf))
    refine LoopK.inv tabOK (fun i : Nat × List Item => ⟨[(0, .ptr 1000 0), (1, .p (eSs l)), (5, .p (.ip a.cells)), (11, .p (eSs l)), (12, .p (.int .i64 (S.avs l).length)), (13, .p (.int .i64 i.1))], sheetH 110 107 3 gl pr i.2 lo hi⟩) (fun i => i.1 ≤ l.length ∧ acc.length ≤ i.2.length ∧ i.2.length + cntL (l.drop i.1) = acc.length + cntL l ∧ rowsF a.proc a.up a.next a.loop i.2 (l.drop i.1) = rowsF a.proc a.up a.next a.loop acc l) (fun i => l.length - i.1) (0, acc) (Le.of_eq rfl) ⟨Nat.zero_le _, Nat.le_refl _, rfl, rfl⟩ ?_
    rintro ⟨j, b⟩ ⟨h2, h5, h3, h4⟩
    simp only at h2 h3 h4 h5 ⊢
    have hst : ∀ hj : j < l.length, cntL (l.drop j) = cntS l[j] + cntL (l.drop (j + 1)) := fun hj => cntL_step hj
    conv => whnf
    repeat' (
      first
      | (intro (_ : _ ≤ 9223372036854775807); conv => whnf)
      | (refine Br.dec (fun _ => ?_) (fun _ => ?_) <;> first | (exfalso; omega) | conv => whnf)
      | (refine Br.dec2 (fun _ => ?_) (fun _ => ?_) <;> first | (exfalso; omega) | conv => whnf)
      | (refine DrawK.auto tabOK mixed (by kernel_rfl) ?_; conv => whnf)
      | (refine Br.n (fun _ => ?_) (fun _ => ?_) <;> conv => whnf)
      | (refine Br.b (fun _ => ?_) (fun _ => ?_) <;> conv => whnf)
      | (refine And.intro rfl ?_; conv => whnf)
      | (refine And.intro ⟨by decide, by decide⟩ ?_; conv => whnf)
      | (refine And.intro ⟨rfl, rfl, by decide⟩ ?_; conv => whnf)
      | (refine BsK.pure (fun x hx => by rcases List.mem_singleton.1 hx with rfl; rfl) rfl ?_; conv => whnf)
      | (refine IdxK.map (by omega) (fun _ => rfl) ?_; conv => whnf)
      | (refine IdxK.xs (by omega) ?_; conv => whnf)
      | (refine IdxK.ss (by omega) ?_; conv => whnf)
      | (refine ByteK.at (by omega) ?_; conv => whnf)
      | (refine Wr.i64 (by omega) (by omega) ?_; conv => whnf)
      | (refine CallK.pure (flat_size 1000 (by omega) (l[j]'(by omega)) (by have := hst (by omega); omega)) (.cons (Sub.refl _) .nil) ?_; rintro _ rfl; conv => whnf)
      | (refine Wr.i64 (by have := hst (by omega); omega) (by have := hst (by omega); omega) ?_; conv => whnf)
      | (refine AppK.mk (by simp) rfl (by show (b.length+1) * 240 ≤ 140737488355328; have := hst (by omega); omega) (by show b.length+1 ≤ 9223372036854775807; have := hst (by omega); omega) (fun x hx => by rcases List.mem_singleton.1 hx with rfl; exact ⟨rfl, rfl⟩) ?_; conv => whnf)
      | (refine And.intro ?_ ?_ <;> conv => whnf))
    · have hj : j < l.length := by omega
      have hst := hst hj
      have hcs := cntS_eq l[j]
      refine CallK.heap [(1000, 1000), (2000, 2000), (2001, 2001), (2002, 2002)] 0 (by refine ArgsH.cons (LSub.refl _) (ArgsH.cons (LSub.refl _) (ArgsH.cons (LSub.agg ?_) ArgsH.nil)); repeat' (first | exact SubL.nil | refine SubL.cons ?_ ?_ | exact Sub.refl _ | exact Sub.nils | exact Sub.ff rfl)) (by exact BlksH.cons (j := 1000) rfl rfl (CSub.of_eq (by rw [List.length_append]; first | done | rfl)) (BlksH.cons (j := 2000) rfl rfl (CSub.of_eq (by rw [List.map_append]; first | done | rfl)) (BlksH.cons (j := 2001) rfl rfl (CSub.refl _) (BlksH.cons (j := 2002) rfl rfl (CSub.refl _) BlksH.nil)))) (ih (by omega) l[j].thn (by omega) (b ++ [⟨l[j]'hj, a.proc, a.up, (b.length + 1 + cntS (l[j]'hj) : Int), a.loop⟩]) (by rw [List.length_append]; simp only [List.length_singleton]; omega) ⟨S0, a.proc, b.length + 1, (b.length + 1 : Int), (b.length + 1 : Int)⟩ gl pr lo hi) rfl rfl ?_
      rintro l' H' ⟨rfl, rfl⟩
      conv => whnf
      refine CallK.heap [(1000, 1000), (2000, 2000), (2001, 2001), (2002, 2002)] 0 (by refine ArgsH.cons (LSub.refl _) (ArgsH.cons (LSub.refl _) (ArgsH.cons (LSub.agg ?_) ArgsH.nil)); repeat' (first | exact SubL.nil | refine SubL.cons ?_ ?_ | exact Sub.refl _ | exact Sub.nils | exact Sub.ff rfl)) (by exact BlksH.cons (j := 1000) rfl rfl (CSub.refl _) (BlksH.cons (j := 2000) rfl rfl (CSub.refl _) (BlksH.cons (j := 2001) rfl rfl (CSub.refl _) (BlksH.cons (j := 2002) rfl rfl (CSub.refl _) BlksH.nil)))) (ih (by omega) l[j].els (by omega) (rowsF a.proc (b.length + 1) (b.length + 1 : Int) (b.length + 1 : Int) (b ++ [⟨l[j]'hj, a.proc, a.up, (b.length + 1 + cntS (l[j]'hj) : Int), a.loop⟩]) (l[j]'hj).thn) (by rw [rowsF_len, List.length_append]; simp only [List.length_singleton]; omega) ⟨S0, a.proc, b.length + 1, (b.length + 1 : Int), (b.length + 1 : Int)⟩ gl pr lo hi) rfl rfl ?_
      rintro l' H' ⟨rfl, rfl⟩
      conv => whnf
      refine Wr.i64 (by omega) (by omega) ?_
      conv => whnf
      have hrow : rowT a.proc a.up (b.length + 1 + cntS (l[j]'hj) : Int) a.loop b l[j] = rowsF a.proc (b.length + 1) (b.length + 1 : Int) (b.length + 1 : Int) (rowsF a.proc (b.length + 1) (b.length + 1 : Int) (b.length + 1 : Int) (b ++ [⟨l[j]'hj, a.proc, a.up, (b.length + 1 + cntS (l[j]'hj) : Int), a.loop⟩]) (l[j]'hj).thn) l[j].els := by
        rw [rowT_eq, if_pos (by assumption), if_pos (by assumption)]
      exact ⟨(j + 1, rowT a.proc a.up (b.length + 1 + cntS (l[j]'hj) : Int) a.loop b l[j]), ⟨by simp only; omega, by simp only; rw [rowT_len]; omega, by simp only; rw [rowT_len]; omega, by simp only; rw [← h4, rowsF_step hj, if_pos (by omega)]⟩, by simp only; omega, Le.of_eq (by simp only; rw [hrow]; rfl)⟩
    · have hj : j < l.length := by omega
      have hst := hst hj
      have hcs := cntS_eq l[j]
      refine CallK.heap [(1000, 1000), (2000, 2000), (2001, 2001), (2002, 2002)] 0 (by refine ArgsH.cons (LSub.refl _) (ArgsH.cons (LSub.refl _) (ArgsH.cons (LSub.agg ?_) ArgsH.nil)); repeat' (first | exact SubL.nil | refine SubL.cons ?_ ?_ | exact Sub.refl _ | exact Sub.nils | exact Sub.ff rfl)) (by exact BlksH.cons (j := 1000) rfl rfl (CSub.of_eq (by rw [List.length_append]; first | done | rfl)) (BlksH.cons (j := 2000) rfl rfl (CSub.of_eq (by rw [List.map_append]; first | done | rfl)) (BlksH.cons (j := 2001) rfl rfl (CSub.refl _) (BlksH.cons (j := 2002) rfl rfl (CSub.refl _) BlksH.nil)))) (ih (by omega) l[j].thn (by omega) (b ++ [⟨l[j]'hj, a.proc, a.up, (b.length + 1 + cntS (l[j]'hj) : Int), a.loop⟩]) (by rw [List.length_append]; simp only [List.length_singleton]; omega) ⟨S0, a.proc, b.length + 1, (b.length + 1 + cntS (l[j]'hj) : Int), a.loop⟩ gl pr lo hi) rfl rfl ?_
      rintro l' H' ⟨rfl, rfl⟩
      conv => whnf
      refine CallK.heap [(1000, 1000), (2000, 2000), (2001, 2001), (2002, 2002)] 0 (by refine ArgsH.cons (LSub.refl _) (ArgsH.cons (LSub.refl _) (ArgsH.cons (LSub.agg ?_) ArgsH.nil)); repeat' (first | exact SubL.nil | refine SubL.cons ?_ ?_ | exact Sub.refl _ | exact Sub.nils | exact Sub.ff rfl)) (by exact BlksH.cons (j := 1000) rfl rfl (CSub.refl _) (BlksH.cons (j := 2000) rfl rfl (CSub.refl _) (BlksH.cons (j := 2001) rfl rfl (CSub.refl _) (BlksH.cons (j := 2002) rfl rfl (CSub.refl _) BlksH.nil)))) (ih (by omega) l[j].els (by omega) (rowsF a.proc (b.length + 1) (b.length + 1 + cntS (l[j]'hj) : Int) a.loop (b ++ [⟨l[j]'hj, a.proc, a.up, (b.length + 1 + cntS (l[j]'hj) : Int), a.loop⟩]) (l[j]'hj).thn) (by rw [rowsF_len, List.length_append]; simp only [List.length_singleton]; omega) ⟨S0, a.proc, b.length + 1, (b.length + 1 + cntS (l[j]'hj) : Int), a.loop⟩ gl pr lo hi) rfl rfl ?_
      rintro l' H' ⟨rfl, rfl⟩
      conv => whnf
      refine Wr.i64 (by omega) (by omega) ?_
      conv => whnf
      have hrow : rowT a.proc a.up (b.length + 1 + cntS (l[j]'hj) : Int) a.loop b l[j] = rowsF a.proc (b.length + 1) (b.length + 1 + cntS (l[j]'hj) : Int) a.loop (rowsF a.proc (b.length + 1) (b.length + 1 + cntS (l[j]'hj) : Int) a.loop (b ++ [⟨l[j]'hj, a.proc, a.up, (b.length + 1 + cntS (l[j]'hj) : Int), a.loop⟩]) (l[j]'hj).thn) l[j].els := by
        rw [rowT_eq, if_neg (by assumption), if_neg (by assumption)]
      exact ⟨(j + 1, rowT a.proc a.up (b.length + 1 + cntS (l[j]'hj) : Int) a.loop b l[j]), ⟨by simp only; omega, by simp only; rw [rowT_len]; omega, by simp only; rw [rowT_len]; omega, by simp only; rw [← h4, rowsF_step hj, if_pos (by omega)]⟩, by simp only; omega, Le.of_eq (by simp only; rw [hrow]; rfl)⟩
    · have hj : j < l.length := by omega
      have hst := hst hj
      have hcs := cntS_eq l[j]
      refine CallK.heap [(1000, 1000), (2000, 2000), (2001, 2001), (2002, 2002)] 0 (by refine ArgsH.cons (LSub.refl _) (ArgsH.cons (LSub.refl _) (ArgsH.cons (LSub.agg ?_) ArgsH.nil)); repeat' (first | exact SubL.nil | refine SubL.cons ?_ ?_ | exact Sub.refl _ | exact Sub.nils | exact Sub.ff rfl)) (by exact BlksH.cons (j := 1000) rfl rfl (CSub.of_eq (by rw [List.length_append]; first | done | rfl)) (BlksH.cons (j := 2000) rfl rfl (CSub.of_eq (by rw [List.map_append]; first | done | rfl)) (BlksH.cons (j := 2001) rfl rfl (CSub.refl _) (BlksH.cons (j := 2002) rfl rfl (CSub.refl _) BlksH.nil)))) (ih (by omega) l[j].thn (by omega) (b ++ [⟨l[j]'hj, a.proc, a.up, (b.length + 1 + cntS (l[j]'hj) : Int), a.loop⟩]) (by rw [List.length_append]; simp only [List.length_singleton]; omega) ⟨S0, a.proc, b.length + 1, (b.length + 1 : Int), (b.length + 1 : Int)⟩ gl pr lo hi) rfl rfl ?_
      rintro l' H' ⟨rfl, rfl⟩
      conv => whnf
      refine CallK.heap [(1000, 1000), (2000, 2000), (2001, 2001), (2002, 2002)] 0 (by refine ArgsH.cons (LSub.refl _) (ArgsH.cons (LSub.refl _) (ArgsH.cons (LSub.agg ?_) ArgsH.nil)); repeat' (first | exact SubL.nil | refine SubL.cons ?_ ?_ | exact Sub.refl _ | exact Sub.nils | exact Sub.ff rfl)) (by exact BlksH.cons (j := 1000) rfl rfl (CSub.refl _) (BlksH.cons (j := 2000) rfl rfl (CSub.refl _) (BlksH.cons (j := 2001) rfl rfl (CSub.refl _) (BlksH.cons (j := 2002) rfl rfl (CSub.refl _) BlksH.nil)))) (ih (by omega) l[j].els (by omega) (rowsF a.proc (b.length + 1) (b.length + 1 : Int) (b.length + 1 : Int) (b ++ [⟨l[j]'hj, a.proc, a.up, (b.length + 1 + cntS (l[j]'hj) : Int), a.loop⟩]) (l[j]'hj).thn) (by rw [rowsF_len, List.length_append]; simp only [List.length_singleton]; omega) ⟨S0, a.proc, b.length + 1, (b.length + 1 : Int), (b.length + 1 : Int)⟩ gl pr lo hi) rfl rfl ?_
      rintro l' H' ⟨rfl, rfl⟩
      conv => whnf
      refine Wr.i64 (by omega) (by omega) ?_
      conv => whnf
      have hrow : rowT a.proc a.up (b.length + 1 + cntS (l[j]'hj) : Int) a.loop b l[j] = rowsF a.proc (b.length + 1) (b.length + 1 : Int) (b.length + 1 : Int) (rowsF a.proc (b.length + 1) (b.length + 1 : Int) (b.length + 1 : Int) (b ++ [⟨l[j]'hj, a.proc, a.up, (b.length + 1 + cntS (l[j]'hj) : Int), a.loop⟩]) (l[j]'hj).thn) l[j].els := by
        rw [rowT_eq, if_pos (by assumption), if_pos (by assumption)]
      exact ⟨(j + 1, rowT a.proc a.up (b.length + 1 + cntS (l[j]'hj) : Int) a.loop b l[j]), ⟨by simp only; omega, by simp only; rw [rowT_len]; omega, by simp only; rw [rowT_len]; omega, by simp only; rw [← h4, rowsF_step hj, if_pos (by omega)]⟩, by simp only; omega, Le.of_eq (by simp only; rw [hrow]; rfl)⟩
    · have hj : j < l.length := by omega
      have hst := hst hj
      have hcs := cntS_eq l[j]
      refine CallK.heap [(1000, 1000), (2000, 2000), (2001, 2001), (2002, 2002)] 0 (by refine ArgsH.cons (LSub.refl _) (ArgsH.cons (LSub.refl _) (ArgsH.cons (LSub.agg ?_) ArgsH.nil)); repeat' (first | exact SubL.nil | refine SubL.cons ?_ ?_ | exact Sub.refl _ | exact Sub.nils | exact Sub.ff rfl)) (by exact BlksH.cons (j := 1000) rfl rfl (CSub.of_eq (by rw [List.length_append]; first | done | rfl)) (BlksH.cons (j := 2000) rfl rfl (CSub.of_eq (by rw [List.map_append]; first | done | rfl)) (BlksH.cons (j := 2001) rfl rfl (CSub.refl _) (BlksH.cons (j := 2002) rfl rfl (CSub.refl _) BlksH.nil)))) (ih (by omega) l[j].thn (by omega) (b ++ [⟨l[j]'hj, a.proc, a.up, (b.length + 1 + cntS (l[j]'hj) : Int), a.loop⟩]) (by rw [List.length_append]; simp only [List.length_singleton]; omega) ⟨S0, a.proc, b.length + 1, (b.length + 1 + cntS (l[j]'hj) : Int), a.loop⟩ gl pr lo hi) rfl rfl ?_
      rintro l' H' ⟨rfl, rfl⟩
      conv => whnf
      refine CallK.heap [(1000, 1000), (2000, 2000), (2001, 2001), (2002, 2002)] 0 (by refine ArgsH.cons (LSub.refl _) (ArgsH.cons (LSub.refl _) (ArgsH.cons (LSub.agg ?_) ArgsH.nil)); repeat' (first | exact SubL.nil | refine SubL.cons ?_ ?_ | exact Sub.refl _ | exact Sub.nils | exact Sub.ff rfl)) (by exact BlksH.cons (j := 1000) rfl rfl (CSub.refl _) (BlksH.cons (j := 2000) rfl rfl (CSub.refl _) (BlksH.cons (j := 2001) rfl rfl (CSub.refl _) (BlksH.cons (j := 2002) rfl rfl (CSub.refl _) BlksH.nil)))) (ih (by omega) l[j].els (by omega) (rowsF a.proc (b.length + 1) (b.length + 1 + cntS (l[j]'hj) : Int) a.loop (b ++ [⟨l[j]'hj, a.proc, a.up, (b.length + 1 + cntS (l[j]'hj) : Int), a.loop⟩]) (l[j]'hj).thn) (by rw [rowsF_len, List.length_append]; simp only [List.length_singleton]; omega) ⟨S0, a.proc, b.length + 1, (b.length + 1 + cntS (l[j]'hj) : Int), a.loop⟩ gl pr lo hi) rfl rfl ?_
      rintro l' H' ⟨rfl, rfl⟩
      conv => whnf
      refine Wr.i64 (by omega) (by omega) ?_
      conv => whnf
      have hrow : rowT a.proc a.up (b.length + 1 + cntS (l[j]'hj) : Int) a.loop b l[j] = rowsF a.proc (b.length + 1) (b.length + 1 + cntS (l[j]'hj) : Int) a.loop (rowsF a.proc (b.length + 1) (b.length + 1 + cntS (l[j]'hj) : Int) a.loop (b ++ [⟨l[j]'hj, a.proc, a.up, (b.length + 1 + cntS (l[j]'hj) : Int), a.loop⟩]) (l[j]'hj).thn) l[j].els := by
        rw [rowT_eq, if_neg (by assumption), if_neg (by assumption)]
      exact ⟨(j + 1, rowT a.proc a.up (b.length + 1 + cntS (l[j]'hj) : Int) a.loop b l[j]), ⟨by simp only; omega, by simp only; rw [rowT_len]; omega, by simp only; rw [rowT_len]; omega, by simp only; rw [← h4, rowsF_step hj, if_pos (by omega)]⟩, by simp only; omega, Le.of_eq (by simp only; rw [hrow]; rfl)⟩
    · have hj : j < l.length := by omega
      have hst := hst hj
      have hcs := cntS_eq l[j]
      refine CallK.heap [(1000, 1000), (2000, 2000), (2001, 2001), (2002, 2002)] 0 (by refine ArgsH.cons (LSub.refl _) (ArgsH.cons (LSub.refl _) (ArgsH.cons (LSub.agg ?_) ArgsH.nil)); repeat' (first | exact SubL.nil | refine SubL.cons ?_ ?_ | exact Sub.refl _ | exact Sub.nils | exact Sub.ff rfl)) (by exact BlksH.cons (j := 1000) rfl rfl (CSub.of_eq (by rw [List.length_append]; first | done | rfl)) (BlksH.cons (j := 2000) rfl rfl (CSub.of_eq (by rw [List.map_append]; first | done | rfl)) (BlksH.cons (j := 2001) rfl rfl (CSub.refl _) (BlksH.cons (j := 2002) rfl rfl (CSub.refl _) BlksH.nil)))) (ih (by omega) l[j].thn (by omega) (b ++ [⟨l[j]'hj, a.proc, a.up, a.next, a.loop⟩]) (by rw [List.length_append]; simp only [List.length_singleton]; omega) ⟨S0, a.proc, b.length + 1, (b.length + 1 : Int), (b.length + 1 : Int)⟩ gl pr lo hi) rfl rfl ?_
      rintro l' H' ⟨rfl, rfl⟩
      conv => whnf
      refine CallK.heap [(1000, 1000), (2000, 2000), (2001, 2001), (2002, 2002)] 0 (by refine ArgsH.cons (LSub.refl _) (ArgsH.cons (LSub.refl _) (ArgsH.cons (LSub.agg ?_) ArgsH.nil)); repeat' (first | exact SubL.nil | refine SubL.cons ?_ ?_ | exact Sub.refl _ | exact Sub.nils | exact Sub.ff rfl)) (by exact BlksH.cons (j := 1000) rfl rfl (CSub.refl _) (BlksH.cons (j := 2000) rfl rfl (CSub.refl _) (BlksH.cons (j := 2001) rfl rfl (CSub.refl _) (BlksH.cons (j := 2002) rfl rfl (CSub.refl _) BlksH.nil)))) (ih (by omega) l[j].els (by omega) (rowsF a.proc (b.length + 1) (b.length + 1 : Int) (b.length + 1 : Int) (b ++ [⟨l[j]'hj, a.proc, a.up, a.next, a.loop⟩]) (l[j]'hj).thn) (by rw [rowsF_len, List.length_append]; simp only [List.length_singleton]; omega) ⟨S0, a.proc, b.length + 1, (b.length + 1 : Int), (b.length + 1 : Int)⟩ gl pr lo hi) rfl rfl ?_
      rintro l' H' ⟨rfl, rfl⟩
      conv => whnf
      refine Wr.i64 (by omega) (by omega) ?_
      conv => whnf
      have hrow : rowT a.proc a.up a.next a.loop b l[j] = rowsF a.proc (b.length + 1) (b.length + 1 : Int) (b.length + 1 : Int) (rowsF a.proc (b.length + 1) (b.length + 1 : Int) (b.length + 1 : Int) (b ++ [⟨l[j]'hj, a.proc, a.up, a.next, a.loop⟩]) (l[j]'hj).thn) l[j].els := by
        rw [rowT_eq, if_pos (by assumption), if_pos (by assumption)]
      exact ⟨(j + 1, rowT a.proc a.up a.next a.loop b l[j]), ⟨by simp only; omega, by simp only; rw [rowT_len]; omega, by simp only; rw [rowT_len]; omega, by simp only; rw [← h4, rowsF_step hj, if_neg (by omega)]⟩, by simp only; omega, Le.of_eq (by simp only; rw [hrow]; rfl)⟩
    · have hj : j < l.length := by omega
      have hst := hst hj
      have hcs := cntS_eq l[j]
      refine CallK.heap [(1000, 1000), (2000, 2000), (2001, 2001), (2002, 2002)] 0 (by refine ArgsH.cons (LSub.refl _) (ArgsH.cons (LSub.refl _) (ArgsH.cons (LSub.agg ?_) ArgsH.nil)); repeat' (first | exact SubL.nil | refine SubL.cons ?_ ?_ | exact Sub.refl _ | exact Sub.nils | exact Sub.ff rfl)) (by exact BlksH.cons (j := 1000) rfl rfl (CSub.of_eq (by rw [List.length_append]; first | done | rfl)) (BlksH.cons (j := 2000) rfl rfl (CSub.of_eq (by rw [List.map_append]; first | done | rfl)) (BlksH.cons (j := 2001) rfl rfl (CSub.refl _) (BlksH.cons (j := 2002) rfl rfl (CSub.refl _) BlksH.nil)))) (ih (by omega) l[j].thn (by omega) (b ++ [⟨l[j]'hj, a.proc, a.up, a.next, a.loop⟩]) (by rw [List.length_append]; simp only [List.length_singleton]; omega) ⟨S0, a.proc, b.length + 1, a.next, a.loop⟩ gl pr lo hi) rfl rfl ?_
      rintro l' H' ⟨rfl, rfl⟩
      conv => whnf
      refine CallK.heap [(1000, 1000), (2000, 2000), (2001, 2001), (2002, 2002)] 0 (by refine ArgsH.cons (LSub.refl _) (ArgsH.cons (LSub.refl _) (ArgsH.cons (LSub.agg ?_) ArgsH.nil)); repeat' (first | exact SubL.nil | refine SubL.cons ?_ ?_ | exact Sub.refl _ | exact Sub.nils | exact Sub.ff rfl)) (by exact BlksH.cons (j := 1000) rfl rfl (CSub.refl _) (BlksH.cons (j := 2000) rfl rfl (CSub.refl _) (BlksH.cons (j := 2001) rfl rfl (CSub.refl _) (BlksH.cons (j := 2002) rfl rfl (CSub.refl _) BlksH.nil)))) (ih (by omega) l[j].els (by omega) (rowsF a.proc (b.length + 1) a.next a.loop (b ++ [⟨l[j]'hj, a.proc, a.up, a.next, a.loop⟩]) (l[j]'hj).thn) (by rw [rowsF_len, List.length_append]; simp only [List.length_singleton]; omega) ⟨S0, a.proc, b.length + 1, a.next, a.loop⟩ gl pr lo hi) rfl rfl ?_
      rintro l' H' ⟨rfl, rfl⟩
      conv => whnf
      refine Wr.i64 (by omega) (by omega) ?_
      conv => whnf
      have hrow : rowT a.proc a.up a.next a.loop b l[j] = rowsF a.proc (b.length + 1) a.next a.loop (rowsF a.proc (b.length + 1) a.next a.loop (b ++ [⟨l[j]'hj, a.proc, a.up, a.next, a.loop⟩]) (l[j]'hj).thn) l[j].els := by
        rw [rowT_eq, if_neg (by assumption), if_neg (by assumption)]
      exact ⟨(j + 1, rowT a.proc a.up a.next a.loop b l[j]), ⟨by simp only; omega, by simp only; rw [rowT_len]; omega, by simp only; rw [rowT_len]; omega, by simp only; rw [← h4, rowsF_step hj, if_neg (by omega)]⟩, by simp only; omega, Le.of_eq (by simp only; rw [hrow]; rfl)⟩
    · have hj : j < l.length := by omega
      have hst := hst hj
      have hcs := cntS_eq l[j]
      refine CallK.heap [(1000, 1000), (2000, 2000), (2001, 2001), (2002, 2002)] 0 (by refine ArgsH.cons (LSub.refl _) (ArgsH.cons (LSub.refl _) (ArgsH.cons (LSub.agg ?_) ArgsH.nil)); repeat' (first | exact SubL.nil | refine SubL.cons ?_ ?_ | exact Sub.refl _ | exact Sub.nils | exact Sub.ff rfl)) (by exact BlksH.cons (j := 1000) rfl rfl (CSub.of_eq (by rw [List.length_append]; first | done | rfl)) (BlksH.cons (j := 2000) rfl rfl (CSub.of_eq (by rw [List.map_append]; first | done | rfl)) (BlksH.cons (j := 2001) rfl rfl (CSub.refl _) (BlksH.cons (j := 2002) rfl rfl (CSub.refl _) BlksH.nil)))) (ih (by omega) l[j].thn (by omega) (b ++ [⟨l[j]'hj, a.proc, a.up, a.next, a.loop⟩]) (by rw [List.length_append]; simp only [List.length_singleton]; omega) ⟨S0, a.proc, b.length + 1, (b.length + 1 : Int), (b.length + 1 : Int)⟩ gl pr lo hi) rfl rfl ?_
      rintro l' H' ⟨rfl, rfl⟩
      conv => whnf
      refine CallK.heap [(1000, 1000), (2000, 2000), (2001, 2001), (2002, 2002)] 0 (by refine ArgsH.cons (LSub.refl _) (ArgsH.cons (LSub.refl _) (ArgsH.cons (LSub.agg ?_) ArgsH.nil)); repeat' (first | exact SubL.nil | refine SubL.cons ?_ ?_ | exact Sub.refl _ | exact Sub.nils | exact Sub.ff rfl)) (by exact BlksH.cons (j := 1000) rfl rfl (CSub.refl _) (BlksH.cons (j := 2000) rfl rfl (CSub.refl _) (BlksH.cons (j := 2001) rfl rfl (CSub.refl _) (BlksH.cons (j := 2002) rfl rfl (CSub.refl _) BlksH.nil)))) (ih (by omega) l[j].els (by omega) (rowsF a.proc (b.length + 1) (b.length + 1 : Int) (b.length + 1 : Int) (b ++ [⟨l[j]'hj, a.proc, a.up, a.next, a.loop⟩]) (l[j]'hj).thn) (by rw [rowsF_len, List.length_append]; simp only [List.length_singleton]; omega) ⟨S0, a.proc, b.length + 1, (b.length + 1 : Int), (b.length + 1 : Int)⟩ gl pr lo hi) rfl rfl ?_
      rintro l' H' ⟨rfl, rfl⟩
      conv => whnf
      refine Wr.i64 (by omega) (by omega) ?_
      conv => whnf
      have hrow : rowT a.proc a.up a.next a.loop b l[j] = rowsF a.proc (b.length + 1) (b.length + 1 : Int) (b.length + 1 : Int) (rowsF a.proc (b.length + 1) (b.length + 1 : Int) (b.length + 1 : Int) (b ++ [⟨l[j]'hj, a.proc, a.up, a.next, a.loop⟩]) (l[j]'hj).thn) l[j].els := by
        rw [rowT_eq, if_pos (by assumption), if_pos (by assumption)]
      exact ⟨(j + 1, rowT a.proc a.up a.next a.loop b l[j]), ⟨by simp only; omega, by simp only; rw [rowT_len]; omega, by simp only; rw [rowT_len]; omega, by simp only; rw [← h4, rowsF_step hj, if_neg (by omega)]⟩, by simp only; omega, Le.of_eq (by simp only; rw [hrow]; rfl)⟩
    · have hj : j < l.length := by omega
      have hst := hst hj
      have hcs := cntS_eq l[j]
      refine CallK.heap [(1000, 1000), (2000, 2000), (2001, 2001), (2002, 2002)] 0 (by refine ArgsH.cons (LSub.refl _) (ArgsH.cons (LSub.refl _) (ArgsH.cons (LSub.agg ?_) ArgsH.nil)); repeat' (first | exact SubL.nil | refine SubL.cons ?_ ?_ | exact Sub.refl _ | exact Sub.nils | exact Sub.ff rfl)) (by exact BlksH.cons (j := 1000) rfl rfl (CSub.of_eq (by rw [List.length_append]; first | done | rfl)) (BlksH.cons (j := 2000) rfl rfl (CSub.of_eq (by rw [List.map_append]; first | done | rfl)) (BlksH.cons (j := 2001) rfl rfl (CSub.refl _) (BlksH.cons (j := 2002) rfl rfl (CSub.refl _) BlksH.nil)))) (ih (by omega) l[j].thn (by omega) (b ++ [⟨l[j]'hj, a.proc, a.up, a.next, a.loop⟩]) (by rw [List.length_append]; simp only [List.length_singleton]; omega) ⟨S0, a.proc, b.length + 1, a.next, a.loop⟩ gl pr lo hi) rfl rfl ?_
      rintro l' H' ⟨rfl, rfl⟩
      conv => whnf
      refine CallK.heap [(1000, 1000), (2000, 2000), (2001, 2001), (2002, 2002)] 0 (by refine ArgsH.cons (LSub.refl _) (ArgsH.cons (LSub.refl _) (ArgsH.cons (LSub.agg ?_) ArgsH.nil)); repeat' (first | exact SubL.nil | refine SubL.cons ?_ ?_ | exact Sub.refl _ | exact Sub.nils | exact Sub.ff rfl)) (by exact BlksH.cons (j := 1000) rfl rfl (CSub.refl _) (BlksH.cons (j := 2000) rfl rfl (CSub.refl _) (BlksH.cons (j := 2001) rfl rfl (CSub.refl _) (BlksH.cons (j := 2002) rfl rfl (CSub.refl _) BlksH.nil)))) (ih (by omega) l[j].els (by omega) (rowsF a.proc (b.length + 1) a.next a.loop (b ++ [⟨l[j]'hj, a.proc, a.up, a.next, a.loop⟩]) (l[j]'hj).thn) (by rw [rowsF_len, List.length_append]; simp only [List.length_singleton]; omega) ⟨S0, a.proc, b.length + 1, a.next, a.loop⟩ gl pr lo hi) rfl rfl ?_
      rintro l' H' ⟨rfl, rfl⟩
      conv => whnf
      refine Wr.i64 (by omega) (by omega) ?_
      conv => whnf
      have hrow : rowT a.proc a.up a.next a.loop b l[j] = rowsF a.proc (b.length + 1) a.next a.loop (rowsF a.proc (b.length + 1) a.next a.loop (b ++ [⟨l[j]'hj, a.proc, a.up, a.next, a.loop⟩]) (l[j]'hj).thn) l[j].els := by
        rw [rowT_eq, if_neg (by assumption), if_neg (by assumption)]
      exact ⟨(j + 1, rowT a.proc a.up a.next a.loop b l[j]), ⟨by simp only; omega, by simp only; rw [rowT_len]; omega, by simp only; rw [rowT_len]; omega, by simp only; rw [← h4, rowsF_step hj, if_neg (by omega)]⟩, by simp only; omega, Le.of_eq (by simp only; rw [hrow]; rfl)⟩
    · refine ⟨_, .refl _, rfl, ?_⟩
      rw [List.drop_eq_nil_of_le (by omega), rowsF] at h4
      rw [← h4]
      rfl
end Go.Ab
namespace Go.Ab
open Go.Proofs
structure Sheet where
  p : Pg
  l : List Item
  lo : List Int
  hi : List Int
def Sheet.cells (s : Sheet) : List AV := s.p.cells ++ [.sl (s.l.map fun i => .agg i.cells), eInts s.lo, eInts s.hi]
def cntP : List Pr → Nat
  | [] => 0
  | f :: r => cntL f.body + cntP r
theorem cntP_step {l : List Pr} {j : Nat} (hj : j < l.length) : cntP (l.drop j) = cntL l[j].body + cntP (l.drop (j + 1)) := by
  rw [drop_cons hj, cntP]
def newL (i : Nat) (acc : List Item) (lo hi : List Int) : List Pr → List Item × List Int × List Int
  | [] => (acc, lo, hi)
  | f :: r => newL (i + 1) (rowsF i 0 (-1) 0 acc f.body) (lo ++ [(acc.length : Int) + 1]) (hi ++ [((rowsF i 0 (-1) 0 acc f.body).length : Int) + 1]) r
def sheetOf (p : Pg) : Sheet := ⟨p, (newL 0 [] [] [] p.procs).1, (newL 0 [] [] [] p.procs).2.1, (newL 0 [] [] [] p.procs).2.2⟩
theorem newL_step {i : Nat} {acc : List Item} {lo hi : List Int} {l : List Pr} {j : Nat} (hj : j < l.length) :
    newL i acc lo hi (l.drop j) = newL (i + 1) (rowsF i 0 (-1) 0 acc l[j].body) (lo ++ [(acc.length : Int) + 1]) (hi ++ [((rowsF i 0 (-1) 0 acc l[j].body).length : Int) + 1]) (l.drop (j + 1)) := by
  rw [drop_cons hj, newL]
def newH (tS tI tN : Nat) (p : Pg) (L : List Item) (lo hi : List Int) : Heap :=
  [(0, .obj tS [.p (eStrs p.globals), .p (.sl (p.procs.map fun f => .agg f.cells)), .hd 1 0 L.length, .hd 2 0 lo.length, .hd 3 0 hi.length]), (1, .own tI 17 (L.map fun i => .agg i.cells)), (2, .own tN 1 (lo.map (.int .i64))), (3, .own tN 1 (hi.map (.int .i64)))]
set_option maxHeartbeats 4000000 in
set_option maxRecDepth 100000 in
theorem flat_New (p : Pg) (h1 : p.procs.length ≤ 1000) (hc : cntP p.procs ≤ 999) : SpecP Tryz.prog 75 [.agg p.cells] (fun r => r = .ip (sheetOf p).cells) := by
  refine SpecP.body I_flat_New tabOK Tryz.func75 rfl Tryz.call75 (by show 1 ≤ _; decide) ?_
  conv => whnf
  repeat' (
    first
    | (intro (_ : _ ≤ 9223372036854775807); conv => whnf)
    | (refine Br.dec (fun _ => ?_) (fun _ => ?_) <;> first | (exfalso; omega) | conv => whnf)
    | (refine Br.dec2 (fun _ => ?_) (fun _ => ?_) <;> first | (exfalso; omega) | conv => whnf)
    | (refine DrawK.auto tabOK mixed (by kernel_rfl) ?_; conv => whnf)
    | (refine Br.n (fun _ => ?_) (fun _ => ?_) <;> conv => whnf)
    | (refine Br.b (fun _ => ?_) (fun _ => ?_) <;> conv => whnf)
    | (refine And.intro rfl ?_; conv => whnf)
    | (refine And.intro ⟨by decide, by decide⟩ ?_; conv => whnf)
    | (refine And.intro ⟨rfl, rfl, by decide⟩ ?_; conv => whnf)
    | (refine BsK.pure (fun x hx => by rcases List.mem_singleton.1 hx with rfl; rfl) rfl ?_; conv => whnf)
    | (refine IdxK.map (by omega) (fun _ => rfl) ?_; conv => whnf)
    | (refine IdxK.xs (by omega) ?_; conv => whnf)
    | (refine IdxK.ss (by omega) ?_; conv => whnf)
    | (refine ByteK.at (by omega) ?_; conv => whnf)
    | (refine Wr.i64 (by omega) (by omega) ?_; conv => whnf))
  have hl2 : (p.procs.map fun f => AV.agg f.cells).length = p.procs.length := List.length_map _
  refine LoopK.inv tabOK (fun i : Nat × List Item × List Int × List Int => ⟨[(3, .ptr 0 0), (10, .p (.sl (p.procs.map fun f => AV.agg f.cells))), (11, .p (.int .i64 (p.procs.map fun f => AV.agg f.cells).length)), (12, .p (.int .i64 i.1))], newH 110 107 3 p i.2.1 i.2.2.1 i.2.2.2⟩)
    (fun i => i.1 ≤ p.procs.length ∧ i.2.1.length + cntP (p.procs.drop i.1) = cntP p.procs ∧ i.2.2.1.length = i.1 ∧ i.2.2.2.length = i.1 ∧ newL i.1 i.2.1 i.2.2.1 i.2.2.2 (p.procs.drop i.1) = newL 0 [] [] [] p.procs) (fun i => p.procs.length - i.1) (0, [], [], [])
    (Le.mk [(1, .own 107 17 []), (2, .own 3 1 []), (3, .own 3 1 [])] (by simp [Chunk.new0]; exact ⟨rfl, rfl, rfl⟩) (by simp) (by simp [newH]) (.cons (.refl _) (.cons (.refl _) (.cons (.refl _) (.cons (.refl _) .nil))))
      (.cons rfl (.obj (.cons (.refl _) (.cons (.refl _) (.cons (.nil List.mem_cons_self) (.cons (.nil (List.mem_cons_of_mem _ List.mem_cons_self)) (.cons (.nil (List.mem_cons_of_mem _ (List.mem_cons_of_mem _ List.mem_cons_self))) .nil)))))) (.new List.mem_cons_self (.new (List.mem_cons_of_mem _ List.mem_cons_self) (.new (List.mem_cons_of_mem _ (List.mem_cons_of_mem _ List.mem_cons_self)) .nil)))))
    ⟨Nat.zero_le _, by simp, rfl, rfl, rfl⟩ ?_
  rintro ⟨j, b, lo, hi⟩ ⟨h2, h3, h4, h5, h6⟩
  simp only at h2 h3 h4 h5 h6 ⊢
  conv => whnf
  repeat' (
    first
    | (intro (_ : _ ≤ 9223372036854775807); conv => whnf)
    | (refine Br.dec (fun _ => ?_) (fun _ => ?_) <;> first | (exfalso; omega) | conv => whnf)
    | (refine Br.dec2 (fun _ => ?_) (fun _ => ?_) <;> first | (exfalso; omega) | conv => whnf)
    | (refine DrawK.auto tabOK mixed (by kernel_rfl) ?_; conv => whnf)
    | (refine Br.n (fun _ => ?_) (fun _ => ?_) <;> conv => whnf)
    | (refine Br.b (fun _ => ?_) (fun _ => ?_) <;> conv => whnf)
    | (refine And.intro rfl ?_; conv => whnf)
    | (refine And.intro ⟨by decide, by decide⟩ ?_; conv => whnf)
    | (refine And.intro ⟨rfl, rfl, by decide⟩ ?_; conv => whnf)
    | (refine BsK.pure (fun x hx => by rcases List.mem_singleton.1 hx with rfl; rfl) rfl ?_; conv => whnf)
    | (refine IdxK.map (by omega) (fun _ => rfl) ?_; conv => whnf)
    | (refine IdxK.xs (by omega) ?_; conv => whnf)
    | (refine IdxK.ss (by omega) ?_; conv => whnf)
    | (refine ByteK.at (by omega) ?_; conv => whnf)
    | (refine Wr.i64 (by omega) (by omega) ?_; conv => whnf)
    | (refine AppK.mk (by simp) rfl (by show (lo.length+1) * 8 ≤ 140737488355328; omega) (by show lo.length+1 ≤ 9223372036854775807; omega) (fun x hx => by rcases List.mem_singleton.1 hx with rfl; exact ⟨rfl, rfl⟩) ?_; conv => whnf)
    | (refine And.intro ?_ ?_ <;> conv => whnf))
  · have hj : j < p.procs.length := by omega
    have hst := cntP_step hj
    refine CallK.heap [(1000, 0), (2000, 1), (2001, 2), (2002, 3)] 0 (by refine ArgsH.cons (LSub.refl _) (ArgsH.cons (LSub.refl _) (ArgsH.cons (LSub.agg ?_) ArgsH.nil)); repeat' (first | exact SubL.nil | refine SubL.cons ?_ ?_ | exact Sub.refl _ | exact Sub.nils | exact Sub.ff rfl)) (by exact BlksH.cons (j := 0) rfl rfl (CSub.of_eq (by rw [List.length_append]; first | done | rfl)) (BlksH.cons (j := 1) rfl rfl (CSub.refl _) (BlksH.cons (j := 2) rfl rfl (CSub.of_eq (by rw [List.map_append]; first | done | rfl)) (BlksH.cons (j := 3) rfl rfl (CSub.refl _) BlksH.nil)))) (flat_row 1000 (by omega) p.procs[j].body (by omega) b (by omega) ⟨S0, j, 0, -1, 0⟩ _ _ (lo ++ [(b.length : Int) + 1]) hi) rfl rfl ?_
    rintro l' H' ⟨rfl, rfl⟩
    conv => whnf
    have hlen := rowsF_len j 0 (-1) 0 b p.procs[j].body
    repeat' (
      first
      | (intro (_ : _ ≤ 9223372036854775807); conv => whnf)
      | (refine Br.dec (fun _ => ?_) (fun _ => ?_) <;> first | (exfalso; omega) | conv => whnf)
      | (refine Br.dec2 (fun _ => ?_) (fun _ => ?_) <;> first | (exfalso; omega) | conv => whnf)
      | (refine DrawK.auto tabOK mixed (by kernel_rfl) ?_; conv => whnf)
      | (refine Br.n (fun _ => ?_) (fun _ => ?_) <;> conv => whnf)
      | (refine Br.b (fun _ => ?_) (fun _ => ?_) <;> conv => whnf)
      | (refine And.intro rfl ?_; conv => whnf)
      | (refine And.intro ⟨by decide, by decide⟩ ?_; conv => whnf)
      | (refine And.intro ⟨rfl, rfl, by decide⟩ ?_; conv => whnf)
      | (refine BsK.pure (fun x hx => by rcases List.mem_singleton.1 hx with rfl; rfl) rfl ?_; conv => whnf)
      | (refine IdxK.map (by omega) (fun _ => rfl) ?_; conv => whnf)
      | (refine IdxK.xs (by omega) ?_; conv => whnf)
      | (refine IdxK.ss (by omega) ?_; conv => whnf)
      | (refine ByteK.at (by omega) ?_; conv => whnf)
      | (refine Wr.i64 (by omega) (by omega) ?_; conv => whnf)
      | (refine AppK.mk (by simp) rfl (by show (hi.length+1) * 8 ≤ 140737488355328; omega) (by show hi.length+1 ≤ 9223372036854775807; omega) (fun x hx => by rcases List.mem_singleton.1 hx with rfl; exact ⟨rfl, rfl⟩) ?_; conv => whnf)
      | (refine Wr.i64 (by rw [rowsF_len]; omega) (by rw [rowsF_len]; omega) ?_; conv => whnf)
      | (refine And.intro ?_ ?_ <;> conv => whnf))
    all_goals exact ⟨(j + 1, rowsF j 0 (-1) 0 b p.procs[j].body, lo ++ [(b.length : Int) + 1], hi ++ [((rowsF j 0 (-1) 0 b p.procs[j].body).length : Int) + 1]), ⟨by simp only; omega, by simp only; omega, by simp [h4], by simp [h5], by simp only; rw [← h6, newL_step hj]⟩, by simp only; omega, Le.of_eq (by simp only [newH, List.length_append, List.map_append]; rfl)⟩
  · have hj : j < p.procs.length := by omega
    have hst := cntP_step hj
    refine CallK.heap [(1000, 0), (2000, 1), (2001, 2), (2002, 3)] 0 (by refine ArgsH.cons (LSub.refl _) (ArgsH.cons (LSub.refl _) (ArgsH.cons (LSub.agg ?_) ArgsH.nil)); repeat' (first | exact SubL.nil | refine SubL.cons ?_ ?_ | exact Sub.refl _ | exact Sub.nils | exact Sub.ff rfl)) (by exact BlksH.cons (j := 0) rfl rfl (CSub.of_eq (by rw [List.length_append]; first | done | rfl)) (BlksH.cons (j := 1) rfl rfl (CSub.refl _) (BlksH.cons (j := 2) rfl rfl (CSub.of_eq (by rw [List.map_append]; first | done | rfl)) (BlksH.cons (j := 3) rfl rfl (CSub.refl _) BlksH.nil)))) (flat_row 1000 (by omega) p.procs[j].body (by omega) b (by omega) ⟨S0, j, 0, -1, 0⟩ _ _ (lo ++ [(b.length : Int) + 1]) hi) rfl rfl ?_
    rintro l' H' ⟨rfl, rfl⟩
    conv => whnf
    have hlen := rowsF_len j 0 (-1) 0 b p.procs[j].body
    repeat' (
      first
      | (intro (_ : _ ≤ 9223372036854775807); conv => whnf)
      | (refine Br.dec (fun _ => ?_) (fun _ => ?_) <;> first | (exfalso; omega) | conv => whnf)
      | (refine Br.dec2 (fun _ => ?_) (fun _ => ?_) <;> first | (exfalso; omega) | conv => whnf)
      | (refine DrawK.auto tabOK mixed (by kernel_rfl) ?_; conv => whnf)
      | (refine Br.n (fun _ => ?_) (fun _ => ?_) <;> conv => whnf)
      | (refine Br.b (fun _ => ?_) (fun _ => ?_) <;> conv => whnf)
      | (refine And.intro rfl ?_; conv => whnf)
      | (refine And.intro ⟨by decide, by decide⟩ ?_; conv => whnf)
      | (refine And.intro ⟨rfl, rfl, by decide⟩ ?_; conv => whnf)
      | (refine BsK.pure (fun x hx => by rcases List.mem_singleton.1 hx with rfl; rfl) rfl ?_; conv => whnf)
      | (refine IdxK.map (by omega) (fun _ => rfl) ?_; conv => whnf)
      | (refine IdxK.xs (by omega) ?_; conv => whnf)
      | (refine IdxK.ss (by omega) ?_; conv => whnf)
      | (refine ByteK.at (by omega) ?_; conv => whnf)
      | (refine Wr.i64 (by omega) (by omega) ?_; conv => whnf)
      | (refine AppK.mk (by simp) rfl (by show (hi.length+1) * 8 ≤ 140737488355328; omega) (by show hi.length+1 ≤ 9223372036854775807; omega) (fun x hx => by rcases List.mem_singleton.1 hx with rfl; exact ⟨rfl, rfl⟩) ?_; conv => whnf)
      | (refine Wr.i64 (by rw [rowsF_len]; omega) (by rw [rowsF_len]; omega) ?_; conv => whnf)
      | (refine And.intro ?_ ?_ <;> conv => whnf))
    all_goals exact ⟨(j + 1, rowsF j 0 (-1) 0 b p.procs[j].body, lo ++ [(b.length : Int) + 1], hi ++ [((rowsF j 0 (-1) 0 b p.procs[j].body).length : Int) + 1]), ⟨by simp only; omega, by simp only; omega, by simp [h4], by simp [h5], by simp only; rw [← h6, newL_step hj]⟩, by simp only; omega, Le.of_eq (by simp only [newH, List.length_append, List.map_append]; rfl)⟩
  · have hd : p.procs.drop j = [] := List.drop_eq_nil_of_le (by omega)
    rw [hd, newL] at h6
    refine ⟨.ip (sheetOf p).cells, ?_, rfl⟩
    have e : (sheetOf p).cells = [eStrs p.globals, .sl (p.procs.map fun f => .agg f.cells), .sl (b.map fun i => .agg i.cells), eInts lo, eInts hi] := by
      unfold sheetOf
      rw [← h6]
      rfl
    rw [e]
    have hF : ∀ H : Heap, getH H 1 = some (.own 107 17 (b.map fun i => .agg i.cells)) → getH H 2 = some (.own 3 1 (lo.map (.int .i64))) → getH H 3 = some (.own 3 1 (hi.map (.int .i64))) →
        FrzL H [.p (eStrs p.globals), .p (.sl (p.procs.map fun f => .agg f.cells)), .hd 1 0 b.length, .hd 2 0 lo.length, .hd 3 0 hi.length] [eStrs p.globals, .sl (p.procs.map fun f => .agg f.cells), .sl (b.map fun i => .agg i.cells), eInts lo, eInts hi] := fun H g1 g2 g3 =>
      .cons (.p (Sub.refl _)) (.cons (.p (Sub.refl _)) (.cons (.hd g1 (by simp)) (.cons (.hd g2 (by simp)) (.cons (.hd g3 (by simp)) .nil))))
    refine Frz.ptr (off := 0) rfl rfl fun m l c hl hc => ?_
    obtain ⟨l', h7, h8⟩ := (hF (newH 110 107 3 p b lo hi) rfl rfl rfl).get.2 m c hc
    have h9 := h7.symm.trans hl
    cases h9
    exact h8
end Go.Ab
namespace Go.Ab
open Go.Proofs
theorem IdxK.at {es : List AV} {sz k : Nat} {e : AV} {n : Int} {K : List AV → Prop} (hn : n = k) (he : es[k]? = some e) (hs : e.cells.length = sz) (h : K e.cells) : IdxK es sz n K := ⟨k, e, hn, he, hs, h⟩
theorem eInts_at {l : List Int} {k : Nat} {n : Int} (h : l[k]? = some n) : (l.map (AV.int .i64))[k]? = some (.int .i64 n) := by simp [h]
def eItems (l : List Item) : AV := .sl (l.map fun i => .agg i.cells)
set_option maxRecDepth 100000 in
theorem flat_Sheet_Of (s : Sheet) (i lo hi : Nat) (h1 : s.lo[i]? = some ((lo : Int) + 1)) (h2 : s.hi[i]? = some ((hi : Int) + 1)) (h3 : lo ≤ hi) (h4 : hi ≤ s.l.length) (h5 : s.l.length ≤ 1000) : SpecP Tryz.prog 142 [.ip s.cells, .int .i64 i] (fun r => r = eItems ((s.l.take hi).drop lo)) := by
  refine SpecP.body I_flat_Sheet_Of tabOK Tryz.func142 rfl Tryz.call142 (by show 2 ≤ _; decide) ?_
  conv => whnf
  repeat' (
    first
    | (intro (_ : _ ≤ 9223372036854775807); conv => whnf)
    | (refine Br.dec (fun _ => ?_) (fun _ => ?_) <;> first | (exfalso; omega) | conv => whnf)
    | (refine Br.dec2 (fun _ => ?_) (fun _ => ?_) <;> first | (exfalso; omega) | conv => whnf)
    | (refine DrawK.auto tabOK mixed (by kernel_rfl) ?_; conv => whnf)
    | (refine Br.n (fun _ => ?_) (fun _ => ?_) <;> conv => whnf)
    | (refine Br.b (fun _ => ?_) (fun _ => ?_) <;> conv => whnf)
    | (refine And.intro rfl ?_; conv => whnf)
    | (refine And.intro ⟨by decide, by decide⟩ ?_; conv => whnf)
    | (refine And.intro ⟨rfl, rfl, by decide⟩ ?_; conv => whnf)
    | (refine BsK.pure (fun x hx => by rcases List.mem_singleton.1 hx with rfl; rfl) rfl ?_; conv => whnf)
    | (refine IdxK.map (by omega) (fun _ => rfl) ?_; conv => whnf)
    | (refine IdxK.xs (by omega) ?_; conv => whnf)
    | (refine IdxK.ss (by omega) ?_; conv => whnf)
    | (refine ByteK.at (by omega) ?_; conv => whnf)
    | (refine Wr.i64 (by omega) (by omega) ?_; conv => whnf)
    | (refine IdxK.at rfl (eInts_at h1) rfl ?_; conv => whnf)
    | (refine IdxK.at rfl (eInts_at h2) rfl ?_; conv => whnf)
    | (refine And.intro (fun e he => by obtain ⟨x, _, rfl⟩ := List.mem_map.1 he; rfl) (SlK.mk lo hi (by simp) (by simp) h3 (by simpa using h4) ?_); conv => whnf))
  exact RetK.p (by simp [eItems, List.map_take, List.map_drop])
set_option maxRecDepth 100000 in
theorem flat_Sheet_Has (s : Sheet) (id : Int) : SpecP Tryz.prog 76 [.ip s.cells, .int .i64 id] (fun r => r = .bool (decide (1 ≤ id) && decide (id ≤ s.l.length))) := by
  refine SpecP.body I_flat_Sheet_Has tabOK Tryz.func76 rfl Tryz.call76 (by show 2 ≤ _; decide) ?_
  conv => whnf
  repeat' (
    first
    | (intro (_ : _ ≤ 9223372036854775807); conv => whnf)
    | (refine Br.dec (fun _ => ?_) (fun _ => ?_) <;> first | (exfalso; omega) | conv => whnf)
    | (refine Br.dec2 (fun _ => ?_) (fun _ => ?_) <;> first | (exfalso; omega) | conv => whnf)
    | (refine DrawK.auto tabOK mixed (by kernel_rfl) ?_; conv => whnf)
    | (refine Br.n (fun _ => ?_) (fun _ => ?_) <;> conv => whnf)
    | (refine Br.b (fun _ => ?_) (fun _ => ?_) <;> conv => whnf)
    | (refine And.intro rfl ?_; conv => whnf)
    | (refine And.intro ⟨by decide, by decide⟩ ?_; conv => whnf)
    | (refine And.intro ⟨rfl, rfl, by decide⟩ ?_; conv => whnf)
    | (refine BsK.pure (fun x hx => by rcases List.mem_singleton.1 hx with rfl; rfl) rfl ?_; conv => whnf)
    | (refine IdxK.map (by omega) (fun _ => rfl) ?_; conv => whnf)
    | (refine IdxK.xs (by omega) ?_; conv => whnf)
    | (refine IdxK.ss (by omega) ?_; conv => whnf)
    | (refine ByteK.at (by omega) ?_; conv => whnf)
    | (refine Wr.i64 (by omega) (by omega) ?_; conv => whnf))
  all_goals have hl : (s.l.map fun i => AV.agg i.cells).length = s.l.length := List.length_map _
  · exact RetK.bool (by simp_all)
  · exact RetK.ff (by simp; omega)
set_option maxRecDepth 100000 in
theorem flat_Sheet_First (s : Sheet) (i lo hi : Nat) (h1 : s.lo[i]? = some ((lo : Int) + 1)) (h2 : s.hi[i]? = some ((hi : Int) + 1)) : SpecP Tryz.prog 66 [.ip s.cells, .int .i64 i] (fun r => r = .int .i64 (if lo < hi then (lo : Int) + 1 else -1)) := by
  refine SpecP.body I_flat_Sheet_First tabOK Tryz.func66 rfl Tryz.call66 (by show 2 ≤ _; decide) ?_
  conv => whnf
  repeat' (
    first
    | (intro (_ : _ ≤ 9223372036854775807); conv => whnf)
    | (refine Br.dec (fun _ => ?_) (fun _ => ?_) <;> first | (exfalso; omega) | conv => whnf)
    | (refine Br.dec2 (fun _ => ?_) (fun _ => ?_) <;> first | (exfalso; omega) | conv => whnf)
    | (refine DrawK.auto tabOK mixed (by kernel_rfl) ?_; conv => whnf)
    | (refine Br.n (fun _ => ?_) (fun _ => ?_) <;> conv => whnf)
    | (refine Br.b (fun _ => ?_) (fun _ => ?_) <;> conv => whnf)
    | (refine And.intro rfl ?_; conv => whnf)
    | (refine And.intro ⟨by decide, by decide⟩ ?_; conv => whnf)
    | (refine And.intro ⟨rfl, rfl, by decide⟩ ?_; conv => whnf)
    | (refine BsK.pure (fun x hx => by rcases List.mem_singleton.1 hx with rfl; rfl) rfl ?_; conv => whnf)
    | (refine IdxK.map (by omega) (fun _ => rfl) ?_; conv => whnf)
    | (refine IdxK.xs (by omega) ?_; conv => whnf)
    | (refine IdxK.ss (by omega) ?_; conv => whnf)
    | (refine ByteK.at (by omega) ?_; conv => whnf)
    | (refine Wr.i64 (by omega) (by omega) ?_; conv => whnf)
    | (refine IdxK.at rfl (eInts_at h1) rfl ?_; conv => whnf)
    | (refine IdxK.at rfl (eInts_at h2) rfl ?_; conv => whnf))
  · exact RetK.int (by rw [if_pos (by omega)])
  · exact RetK.int (by rw [if_neg (by omega)])
set_option maxRecDepth 100000 in
theorem slices_IndexFunc_string_string_ (l : List Str) (g : Nat) (c : AV) (p : Str → Bool) (hp : ∀ s, SpecP Tryz.prog g [.str s, c] (fun r => r = .bool (p s))) : SpecP Tryz.prog 217 [eStrs l, .fn g [c]] (fun r => r = .int .i64 (idxF p l)) := by
  refine SpecP.body I_slices_IndexFunc_string_string_ tabOK Tryz.func217 rfl Tryz.call217 (by show 2 ≤ _; decide) ?_
  conv => whnf
  intro (_ : _ ≤ 9223372036854775807)
  have hl : (l.map AV.str).length = l.length := List.length_map _
  conv => whnf
  refine LoopK.inv tabOK (fun j : Nat => ⟨[(0, .p (eStrs l)), (1, .p (.fn g [c])), (7, .p (.int .i64 (l.map AV.str).length)), (8, .p (.int .i64 j))], []⟩) (fun j => j ≤ l.length ∧ (l.drop j).any p = l.any p ∧ l.findIdx p = j + (l.drop j).findIdx p) (fun j => l.length - j) 0 (Le.of_eq rfl) ⟨Nat.zero_le _, rfl, by simp⟩ ?_
  rintro j ⟨h2, h3, h4⟩
  conv => whnf
  repeat' (
    first
    | (intro (_ : _ ≤ 9223372036854775807); conv => whnf)
    | (refine Br.dec (fun _ => ?_) (fun _ => ?_) <;> first | (exfalso; omega) | conv => whnf)
    | (refine Br.dec2 (fun _ => ?_) (fun _ => ?_) <;> first | (exfalso; omega) | conv => whnf)
    | (refine DrawK.auto tabOK mixed (by kernel_rfl) ?_; conv => whnf)
    | (refine Br.n (fun _ => ?_) (fun _ => ?_) <;> conv => whnf)
    | (refine Br.b (fun _ => ?_) (fun _ => ?_) <;> conv => whnf)
    | (refine And.intro rfl ?_; conv => whnf)
    | (refine And.intro ⟨by decide, by decide⟩ ?_; conv => whnf)
    | (refine And.intro ⟨rfl, rfl, by decide⟩ ?_; conv => whnf)
    | (refine BsK.pure (fun x hx => by rcases List.mem_singleton.1 hx with rfl; rfl) rfl ?_; conv => whnf)
    | (refine IdxK.map (by omega) (fun _ => rfl) ?_; conv => whnf)
    | (refine IdxK.xs (by omega) ?_; conv => whnf)
    | (refine IdxK.ss (by omega) ?_; conv => whnf)
    | (refine ByteK.at (by omega) ?_; conv => whnf)
    | (refine Wr.i64 (by omega) (by omega) ?_; conv => whnf)
    | (refine CallK.pure (hp _) (.cons (Sub.refl _) (.cons (Sub.refl _) .nil)) ?_; rintro _ rfl; conv => whnf))
  · exact RetK.int (idxF_yes (p := p) (by omega) (by assumption) h3 h4).symm
  · exact ⟨j + 1, ⟨by omega, by rw [← h3, any_no (p := p) (by omega) (by assumption)], by rw [h4, fi_no (p := p) (by omega) (by assumption)]; omega⟩, by omega, Le.of_eq rfl⟩
  · exact RetK.int (by rw [idxF_no]; rw [← h3, any_end (by omega)])
set_option maxRecDepth 100000 in
theorem slices_ContainsFunc_string_string_ (l : List Str) (g : Nat) (c : AV) (p : Str → Bool) (hp : ∀ s, SpecP Tryz.prog g [.str s, c] (fun r => r = .bool (p s))) : SpecP Tryz.prog 162 [eStrs l, .fn g [c]] (fun r => r = .bool (l.any p)) := by
  refine SpecP.body I_slices_ContainsFunc_string_string_ tabOK Tryz.func162 rfl Tryz.call162 (by show 2 ≤ _; decide) ?_
  conv => whnf
  repeat' (
    first
    | (intro (_ : _ ≤ 9223372036854775807); conv => whnf)
    | (refine Br.dec (fun _ => ?_) (fun _ => ?_) <;> first | (exfalso; omega) | conv => whnf)
    | (refine Br.dec2 (fun _ => ?_) (fun _ => ?_) <;> first | (exfalso; omega) | conv => whnf)
    | (refine DrawK.auto tabOK mixed (by kernel_rfl) ?_; conv => whnf)
    | (refine Br.n (fun _ => ?_) (fun _ => ?_) <;> conv => whnf)
    | (refine Br.b (fun _ => ?_) (fun _ => ?_) <;> conv => whnf)
    | (refine CallK.pure (slices_IndexFunc_string_string_ _ _ _ p hp) (by repeat' (first | exact ArgP.nil | refine ArgP.cons ?_ ?_ | exact Sub.refl _ | exact Sub.tt rfl | exact Sub.ff rfl | exact Sub.int (by omega))) ?_; rintro _ rfl; conv => whnf)
    | (refine And.intro rfl ?_; conv => whnf)
    | (refine And.intro ⟨by decide, by decide⟩ ?_; conv => whnf)
    | (refine And.intro ⟨rfl, rfl, by decide⟩ ?_; conv => whnf)
    | (refine BsK.pure (fun x hx => by rcases List.mem_singleton.1 hx with rfl; rfl) rfl ?_; conv => whnf)
    | (refine IdxK.map (by omega) (fun _ => rfl) ?_; conv => whnf)
    | (refine IdxK.xs (by omega) ?_; conv => whnf)
    | (refine IdxK.ss (by omega) ?_; conv => whnf)
    | (refine ByteK.at (by omega) ?_; conv => whnf)
    | (refine Wr.i64 (by omega) (by omega) ?_; conv => whnf))
  exact RetK.bool idxF_ge
set_option maxRecDepth 100000 in
theorem slices_IndexFunc_api_Proc_api_Proc_ (l : List Pr) (g : Nat) (c : AV) (p : Pr → Bool) (hp : ∀ s : Pr, SpecP Tryz.prog g [.agg s.cells, c] (fun r => r = .bool (p s))) : SpecP Tryz.prog 150 [.sl (l.map fun f => .agg f.cells), .fn g [c]] (fun r => r = .int .i64 (idxF p l)) := by
  refine SpecP.body I_slices_IndexFunc_api_Proc_api_Proc_ tabOK Tryz.func150 rfl Tryz.call150 (by show 2 ≤ _; decide) ?_
  conv => whnf
  intro (_ : _ ≤ 9223372036854775807)
  have hl : (l.map fun f => AV.agg f.cells).length = l.length := List.length_map _
  conv => whnf
  refine LoopK.inv tabOK (fun j : Nat => ⟨[(0, .p (.sl (l.map fun f => .agg f.cells))), (1, .p (.fn g [c])), (7, .p (.int .i64 (l.map fun f => AV.agg f.cells).length)), (8, .p (.int .i64 j))], []⟩) (fun j => j ≤ l.length ∧ (l.drop j).any p = l.any p ∧ l.findIdx p = j + (l.drop j).findIdx p) (fun j => l.length - j) 0 (Le.of_eq rfl) ⟨Nat.zero_le _, rfl, by simp⟩ ?_
  rintro j ⟨h2, h3, h4⟩
  conv => whnf
  repeat' (
    first
    | (intro (_ : _ ≤ 9223372036854775807); conv => whnf)
    | (refine Br.dec (fun _ => ?_) (fun _ => ?_) <;> first | (exfalso; omega) | conv => whnf)
    | (refine Br.dec2 (fun _ => ?_) (fun _ => ?_) <;> first | (exfalso; omega) | conv => whnf)
    | (refine DrawK.auto tabOK mixed (by kernel_rfl) ?_; conv => whnf)
    | (refine Br.n (fun _ => ?_) (fun _ => ?_) <;> conv => whnf)
    | (refine Br.b (fun _ => ?_) (fun _ => ?_) <;> conv => whnf)
    | (refine And.intro rfl ?_; conv => whnf)
    | (refine And.intro ⟨by decide, by decide⟩ ?_; conv => whnf)
    | (refine And.intro ⟨rfl, rfl, by decide⟩ ?_; conv => whnf)
    | (refine BsK.pure (fun x hx => by rcases List.mem_singleton.1 hx with rfl; rfl) rfl ?_; conv => whnf)
    | (refine IdxK.map (by omega) (fun _ => rfl) ?_; conv => whnf)
    | (refine IdxK.xs (by omega) ?_; conv => whnf)
    | (refine IdxK.ss (by omega) ?_; conv => whnf)
    | (refine ByteK.at (by omega) ?_; conv => whnf)
    | (refine Wr.i64 (by omega) (by omega) ?_; conv => whnf)
    | (refine CallK.pure (hp _) (.cons (Sub.refl _) (.cons (Sub.refl _) .nil)) ?_; rintro _ rfl; conv => whnf))
  · exact RetK.int (idxF_yes (p := p) (by omega) (by assumption) h3 h4).symm
  · exact ⟨j + 1, ⟨by omega, by rw [← h3, any_no (p := p) (by omega) (by assumption)], by rw [h4, fi_no (p := p) (by omega) (by assumption)]; omega⟩, by omega, Le.of_eq rfl⟩
  · exact RetK.int (by rw [idxF_no]; rw [← h3, any_end (by omega)])
set_option maxRecDepth 100000 in
theorem slices_ContainsFunc_api_Proc_api_Proc_ (l : List Pr) (g : Nat) (c : AV) (p : Pr → Bool) (hp : ∀ s : Pr, SpecP Tryz.prog g [.agg s.cells, c] (fun r => r = .bool (p s))) : SpecP Tryz.prog 250 [.sl (l.map fun f => .agg f.cells), .fn g [c]] (fun r => r = .bool (l.any p)) := by
  refine SpecP.body I_slices_ContainsFunc_api_Proc_api_Proc_ tabOK Tryz.func250 rfl Tryz.call250 (by show 2 ≤ _; decide) ?_
  conv => whnf
  repeat' (
    first
    | (intro (_ : _ ≤ 9223372036854775807); conv => whnf)
    | (refine Br.dec (fun _ => ?_) (fun _ => ?_) <;> first | (exfalso; omega) | conv => whnf)
    | (refine Br.dec2 (fun _ => ?_) (fun _ => ?_) <;> first | (exfalso; omega) | conv => whnf)
    | (refine DrawK.auto tabOK mixed (by kernel_rfl) ?_; conv => whnf)
    | (refine Br.n (fun _ => ?_) (fun _ => ?_) <;> conv => whnf)
    | (refine Br.b (fun _ => ?_) (fun _ => ?_) <;> conv => whnf)
    | (refine CallK.pure (slices_IndexFunc_api_Proc_api_Proc_ _ _ _ p hp) (by repeat' (first | exact ArgP.nil | refine ArgP.cons ?_ ?_ | exact Sub.refl _ | exact Sub.tt rfl | exact Sub.ff rfl | exact Sub.int (by omega))) ?_; rintro _ rfl; conv => whnf)
    | (refine And.intro rfl ?_; conv => whnf)
    | (refine And.intro ⟨by decide, by decide⟩ ?_; conv => whnf)
    | (refine And.intro ⟨rfl, rfl, by decide⟩ ?_; conv => whnf)
    | (refine BsK.pure (fun x hx => by rcases List.mem_singleton.1 hx with rfl; rfl) rfl ?_; conv => whnf)
    | (refine IdxK.map (by omega) (fun _ => rfl) ?_; conv => whnf)
    | (refine IdxK.xs (by omega) ?_; conv => whnf)
    | (refine IdxK.ss (by omega) ?_; conv => whnf)
    | (refine ByteK.at (by omega) ?_; conv => whnf)
    | (refine Wr.i64 (by omega) (by omega) ?_; conv => whnf))
  exact RetK.bool idxF_ge
set_option maxRecDepth 100000 in
theorem scope_Check_1 (p : Pg) (n : Str) : SpecP Tryz.prog 163 [.str n, .ip p.cells] (fun r => r = .bool (p.globals.any fun s => n == s)) := by
  refine SpecP.body I_scope_Check_1 tabOK Tryz.func163 rfl Tryz.call163 (by show 2 ≤ _; decide) ?_
  conv => whnf
  repeat' (
    first
    | (intro (_ : _ ≤ 9223372036854775807); conv => whnf)
    | (refine Br.dec (fun _ => ?_) (fun _ => ?_) <;> first | (exfalso; omega) | conv => whnf)
    | (refine Br.dec2 (fun _ => ?_) (fun _ => ?_) <;> first | (exfalso; omega) | conv => whnf)
    | (refine DrawK.auto tabOK mixed (by kernel_rfl) ?_; conv => whnf)
    | (refine Br.n (fun _ => ?_) (fun _ => ?_) <;> conv => whnf)
    | (refine Br.b (fun _ => ?_) (fun _ => ?_) <;> conv => whnf)
    | (refine CallK.pure (slices_Contains_string_string_ _ _) (by repeat' (first | exact ArgP.nil | refine ArgP.cons ?_ ?_ | exact Sub.refl _ | exact Sub.tt rfl | exact Sub.ff rfl)) ?_; rintro _ rfl; conv => whnf)
    | (refine And.intro rfl ?_; conv => whnf)
    | (refine And.intro ⟨by decide, by decide⟩ ?_; conv => whnf)
    | (refine And.intro ⟨rfl, rfl, by decide⟩ ?_; conv => whnf)
    | (refine BsK.pure (fun x hx => by rcases List.mem_singleton.1 hx with rfl; rfl) rfl ?_; conv => whnf)
    | (refine IdxK.map (by omega) (fun _ => rfl) ?_; conv => whnf)
    | (refine IdxK.xs (by omega) ?_; conv => whnf)
    | (refine IdxK.ss (by omega) ?_; conv => whnf)
    | (refine ByteK.at (by omega) ?_; conv => whnf)
    | (refine Wr.i64 (by omega) (by omega) ?_; conv => whnf))
  exact RetK.p rfl
set_option maxRecDepth 100000 in
theorem flat_Sheet_Proc_1 (n : Str) (f : Pr) : SpecP Tryz.prog 151 [.agg f.cells, .ip [.str n]] (fun r => r = .bool (f.name == n)) := by
  refine SpecP.body I_flat_Sheet_Proc_1 tabOK Tryz.func151 rfl Tryz.call151 (by show 2 ≤ _; decide) ?_
  conv => whnf
  repeat' (
    first
    | (intro (_ : _ ≤ 9223372036854775807); conv => whnf)
    | (refine Br.dec (fun _ => ?_) (fun _ => ?_) <;> first | (exfalso; omega) | conv => whnf)
    | (refine Br.dec2 (fun _ => ?_) (fun _ => ?_) <;> first | (exfalso; omega) | conv => whnf)
    | (refine DrawK.auto tabOK mixed (by kernel_rfl) ?_; conv => whnf)
    | (refine Br.n (fun _ => ?_) (fun _ => ?_) <;> conv => whnf)
    | (refine Br.b (fun _ => ?_) (fun _ => ?_) <;> conv => whnf)
    | (refine And.intro rfl ?_; conv => whnf)
    | (refine And.intro ⟨by decide, by decide⟩ ?_; conv => whnf)
    | (refine And.intro ⟨rfl, rfl, by decide⟩ ?_; conv => whnf)
    | (refine BsK.pure (fun x hx => by rcases List.mem_singleton.1 hx with rfl; rfl) rfl ?_; conv => whnf)
    | (refine IdxK.map (by omega) (fun _ => rfl) ?_; conv => whnf)
    | (refine IdxK.xs (by omega) ?_; conv => whnf)
    | (refine IdxK.ss (by omega) ?_; conv => whnf)
    | (refine ByteK.at (by omega) ?_; conv => whnf)
    | (refine Wr.i64 (by omega) (by omega) ?_; conv => whnf))
  exact RetK.p rfl
set_option maxRecDepth 100000 in
theorem touch_known_1 (n : Str) (f : Pr) : SpecP Tryz.prog 251 [.agg f.cells, .ip [.str n]] (fun r => r = .bool (f.name == n)) := by
  refine SpecP.body I_touch_known_1 tabOK Tryz.func251 rfl Tryz.call251 (by show 2 ≤ _; decide) ?_
  conv => whnf
  repeat' (
    first
    | (intro (_ : _ ≤ 9223372036854775807); conv => whnf)
    | (refine Br.dec (fun _ => ?_) (fun _ => ?_) <;> first | (exfalso; omega) | conv => whnf)
    | (refine Br.dec2 (fun _ => ?_) (fun _ => ?_) <;> first | (exfalso; omega) | conv => whnf)
    | (refine DrawK.auto tabOK mixed (by kernel_rfl) ?_; conv => whnf)
    | (refine Br.n (fun _ => ?_) (fun _ => ?_) <;> conv => whnf)
    | (refine Br.b (fun _ => ?_) (fun _ => ?_) <;> conv => whnf)
    | (refine And.intro rfl ?_; conv => whnf)
    | (refine And.intro ⟨by decide, by decide⟩ ?_; conv => whnf)
    | (refine And.intro ⟨rfl, rfl, by decide⟩ ?_; conv => whnf)
    | (refine BsK.pure (fun x hx => by rcases List.mem_singleton.1 hx with rfl; rfl) rfl ?_; conv => whnf)
    | (refine IdxK.map (by omega) (fun _ => rfl) ?_; conv => whnf)
    | (refine IdxK.xs (by omega) ?_; conv => whnf)
    | (refine IdxK.ss (by omega) ?_; conv => whnf)
    | (refine ByteK.at (by omega) ?_; conv => whnf)
    | (refine Wr.i64 (by omega) (by omega) ?_; conv => whnf))
  exact RetK.p rfl
set_option maxRecDepth 100000 in
theorem flat_Sheet_Proc (s : Sheet) (n : Str) : SpecP Tryz.prog 112 [.ip s.cells, .str n] (fun r => r = .int .i64 (idxF (fun f => f.name == n) s.p.procs)) := by
  refine SpecP.body I_flat_Sheet_Proc tabOK Tryz.func112 rfl Tryz.call112 (by show 2 ≤ _; decide) ?_
  conv => whnf
  repeat' (
    first
    | (intro (_ : _ ≤ 9223372036854775807); conv => whnf)
    | (refine Br.dec (fun _ => ?_) (fun _ => ?_) <;> first | (exfalso; omega) | conv => whnf)
    | (refine Br.dec2 (fun _ => ?_) (fun _ => ?_) <;> first | (exfalso; omega) | conv => whnf)
    | (refine DrawK.auto tabOK mixed (by kernel_rfl) ?_; conv => whnf)
    | (refine Br.n (fun _ => ?_) (fun _ => ?_) <;> conv => whnf)
    | (refine Br.b (fun _ => ?_) (fun _ => ?_) <;> conv => whnf)
    | (refine CallK.pure (slices_IndexFunc_api_Proc_api_Proc_ _ _ _ (fun f=>f.name==n) (fun f=>flat_Sheet_Proc_1 n f)) (by repeat' (first | exact ArgP.nil | refine ArgP.cons ?_ ?_ | exact Sub.refl _ | exact Sub.tt rfl | exact Sub.ff rfl | exact Sub.int (by omega))) ?_; rintro _ rfl; conv => whnf)
    | (refine And.intro rfl ?_; conv => whnf)
    | (refine And.intro ⟨by decide, by decide⟩ ?_; conv => whnf)
    | (refine And.intro ⟨rfl, rfl, by decide⟩ ?_; conv => whnf)
    | (refine BsK.pure (fun x hx => by rcases List.mem_singleton.1 hx with rfl; rfl) rfl ?_; conv => whnf)
    | (refine IdxK.map (by omega) (fun _ => rfl) ?_; conv => whnf)
    | (refine IdxK.xs (by omega) ?_; conv => whnf)
    | (refine IdxK.ss (by omega) ?_; conv => whnf)
    | (refine ByteK.at (by omega) ?_; conv => whnf)
    | (refine Wr.i64 (by omega) (by omega) ?_; conv => whnf))
  exact RetK.p rfl
end Go.Ab
namespace Go.Ab
open Go.Proofs
theorem AppK.strs {es : List AV} {n : Nat} {K : Prop} (xs : List Str) (hn : n = es.length) (hb : es.length + xs.length ≤ 8796093022208) (hK : K) : AppK es (xs.map .str) n (xs.map AV.str).length 1 16 K :=
  .mk hn rfl (by rw [hn]; simp; omega) (by rw [hn]; simp [maxLen]; omega) (fun x hx => by obtain ⟨y, _, rfl⟩ := List.mem_map.1 hx; exact ⟨rfl, rfl⟩) hK
theorem AppK.str1 {es : List AV} {n : Nat} {K : Prop} {s : Str} (hn : n = es.length) (hb : es.length ≤ 8796093022000) (hK : K) : AppK es [.str s] n 1 1 16 K :=
  .mk hn rfl (by omega) (by simp only [maxLen]; omega) (fun x hx => by rcases List.mem_singleton.1 hx with rfl; exact ⟨rfl, rfl⟩) hK
theorem AppK.int1 {es : List AV} {n : Nat} {K : Prop} {s : Int} (hn : n = es.length) (hb : es.length ≤ 8796093022000) (hK : K) : AppK es [.int .i64 s] n 1 1 8 K :=
  .mk hn rfl (by omega) (by simp only [maxLen]; omega) (fun x hx => by rcases List.mem_singleton.1 hx with rfl; exact ⟨rfl, rfl⟩) hK
mutual
def gatX : X → List Str → List Str
  | .mk op _ name kids, out => gatXs kids (if op = 2 ∧ (out.any fun s => name == s) = false then out ++ [name] else out)
def gatXs : List X → List Str → List Str
  | [], out => out
  | x :: r, out => gatXs r (gatX x out)
end
theorem gatX_eq (x : X) (out : List Str) : gatX x out = gatXs x.kids (if x.op = 2 ∧ (out.any fun s => x.name == s) = false then out ++ [x.name] else out) := by
  cases x
  rw [gatX]
  rfl
theorem gatXs_step {l : List X} {j : Nat} {out : List Str} (hj : j < l.length) : gatXs (l.drop j) out = gatXs (l.drop (j + 1)) (gatX l[j] out) := by
  rw [drop_cons hj, gatXs]
theorem gatXs_end {l : List X} {j : Nat} {out : List Str} (hj : l.length ≤ j) : gatXs (l.drop j) out = out := by
  rw [List.drop_eq_nil_of_le hj, gatXs]
theorem deepB_kids {n : Nat} {x : X} (h : deepB (n + 1) x = true) : x.kids.length ≤ 2 ∧ (x.op = 2 → x.kids.length = 0) ∧ ∀ k ∈ x.kids, deepB n k = true := by
  rw [deepB] at h
  simp only [Bool.and_eq_true, decide_eq_true_eq] at h
  obtain ⟨h1, h2⟩ := h
  refine ⟨?_, fun he => ?_, ?_⟩
  · unfold kidsN at h1; (repeat' split at h1) <;> omega
  · unfold kidsN at h1; rw [if_pos (by omega)] at h1; omega
  · by_cases h3 : x.op = 1
    · have : x.kids.length = 0 := by unfold kidsN at h1; rw [if_pos (by omega)] at h1; omega
      rw [List.eq_nil_of_length_eq_zero this]
      simp
    · by_cases h4 : x.op = 2
      · have : x.kids.length = 0 := by unfold kidsN at h1; rw [if_pos (by omega)] at h1; omega
        rw [List.eq_nil_of_length_eq_zero this]
        simp
      · rw [if_neg h3, if_neg h4] at h2
        simp only [Bool.and_eq_true] at h2
        exact List.all_eq_true.1 h2.2
theorem gat_len : ∀ (n : Nat) (x : X) (out : List Str), deepB n x = true → out.length ≤ (gatX x out).length ∧ (gatX x out).length ≤ out.length + 2 ^ n := by
  intro n
  induction n with
  | zero => intro x out h; rw [deepB] at h; cases h
  | succ n ih =>
    intro x out h
    obtain ⟨h1, h2, h3⟩ := deepB_kids h
    have key : ∀ (l : List X) (o : List Str), (∀ k ∈ l, deepB n k = true) → o.length ≤ (gatXs l o).length ∧ (gatXs l o).length ≤ o.length + l.length * 2 ^ n := by
      intro l
      induction l with
      | nil => intro o _; simp [gatXs]
      | cons k r ihl =>
        intro o hk
        rw [gatXs]
        have h5 := ih k o (hk k (by simp))
        have h6 := ihl (gatX k o) fun k hk' => hk k (by simp [hk'])
        simp only [List.length_cons, Nat.add_mul, Nat.one_mul]
        omega
    rw [gatX_eq]
    have hp : 2 ^ (n + 1) = 2 * 2 ^ n := by rw [Nat.pow_succ]; omega
    have hpos : 0 < 2 ^ n := Nat.pow_pos (by decide)
    have h4 := key x.kids (if x.op = 2 ∧ (out.any fun s => x.name == s) = false then out ++ [x.name] else out) h3
    have h5 : x.kids.length * 2 ^ n ≤ 2 * 2 ^ n := Nat.mul_le_mul_right _ h1
    split at h4
    · rename_i hc
      have := h2 hc.1
      rw [this] at h4
      rw [if_pos hc]
      simp only [List.length_append, List.length_singleton] at h4
      omega
    · rename_i hc
      rw [if_neg hc]
      omega
def outH (t : Nat) (out : List Str) : Heap := [(2000, .own t 1 (out.map .str))]
set_option maxHeartbeats 1000000 in
set_option maxRecDepth 100000 in
theorem tree_gather : ∀ (n : Nat) (_ : n ≤ 20) (x : X) (_ : deepB n x = true) (out : List Str) (_ : out.length + 2 ^ n ≤ 1073741824),
    SpecH Tryz.prog 267 [.p (.agg x.cells), .hd 2000 0 out.length] (outH 9 out) (fun r H => r = .hd 2000 0 (gatX x out).length ∧ H = outH 9 (gatX x out)) := by
  intro n
  induction n with
  | zero => intro _ x h; rw [deepB] at h; cases h
  | succ n ih =>
    intro hn x hx out ho
    have hp : 2 ^ (n + 1) = 2 * 2 ^ n := by rw [Nat.pow_succ]; omega
    have hpos : 0 < 2 ^ n := Nat.pow_pos (by decide)
    obtain ⟨hk1, hk2, hk3⟩ := deepB_kids hx
    have hxl := X.avs_len x.kids
    refine SpecH.body I_tree_gather tabOK Tryz.func267 rfl Tryz.call267 (by show 2 ≤ _; decide) ?_
    conv => whnf
    repeat' (
      first
      | (intro (_ : _ ≤ 9223372036854775807); conv => whnf)
      | (refine Br.dec (fun _ => ?_) (fun _ => ?_) <;> first | (exfalso; omega) | conv => whnf)
      | (refine Br.dec2 (fun _ => ?_) (fun _ => ?_) <;> first | (exfalso; omega) | conv => whnf)
      | (refine DrawK.auto tabOK mixed (by kernel_rfl) ?_; conv => whnf)
      | (refine Br.n (fun _ => ?_) (fun _ => ?_) <;> conv => whnf)
      | (refine Br.b (fun _ => ?_) (fun _ => ?_) <;> conv => whnf)
      | (refine And.intro rfl ?_; conv => whnf)
      | (refine And.intro ⟨by decide, by decide⟩ ?_; conv => whnf)
      | (refine And.intro ⟨rfl, rfl, by decide⟩ ?_; conv => whnf)
      | (refine BsK.pure (fun x hx => by rcases List.mem_singleton.1 hx with rfl; rfl) rfl ?_; conv => whnf)
      | (refine IdxK.map (by omega) (fun _ => rfl) ?_; conv => whnf)
      | (refine IdxK.xs (by omega) ?_; conv => whnf)
      | (refine IdxK.ss (by omega) ?_; conv => whnf)
      | (refine ByteK.at (by omega) ?_; conv => whnf)
      | (refine Wr.i64 (by omega) (by omega) ?_; conv => whnf)
      | (refine CallK.borrow (slices_Contains_string_string_ out x.name) (.cons (.hd rfl (by simp)) (.cons (.p (Sub.refl _)) .nil)) (by rintro _ rfl; rfl) ?_; rintro _ rfl; conv => whnf)
      | (refine AppK.mk (by simp) rfl (by show (out.length+1) * 16 ≤ 140737488355328; omega) (by show out.length+1 ≤ 9223372036854775807; omega) (fun x hx => by rcases List.mem_singleton.1 hx with rfl; exact ⟨rfl, rfl⟩) ?_; conv => whnf))
    all_goals
      have hmul : ∀ j, j < x.kids.length → (x.kids.length - j) * 2 ^ n = (x.kids.length - (j + 1)) * 2 ^ n + 2 ^ n := fun j hj => by
        rw [show x.kids.length - j = (x.kids.length - (j + 1)) + 1 by omega, Nat.add_mul, Nat.one_mul]
      have hmul0 : x.kids.length * 2 ^ n ≤ 2 * 2 ^ n := Nat.mul_le_mul_right _ hk1
      first
      | refine LoopK.inv tabOK (fun i : Nat × List Str => ⟨[(1, .hd 2000 0 i.2.length), (23, .p (.sl (X.avs x.kids))), (24, .p (.int .i64 (X.avs x.kids).length)), (25, .p (.int .i64 i.1))], outH 9 i.2⟩) (fun i => i.1 ≤ x.kids.length ∧ gatXs (x.kids.drop i.1) i.2 = gatX x out ∧ i.2.length + (x.kids.length - i.1) * 2 ^ n ≤ 1073741824) (fun i => x.kids.length - i.1) (0, out ++ [x.name]) (Le.of_eq (by simp [outH]; exact ⟨rfl, rfl⟩)) ⟨Nat.zero_le _, by simp only [List.drop_zero]; rw [gatX_eq, if_pos ⟨by assumption, by assumption⟩], by have := hk2 (by assumption); simp [this]; omega⟩ ?_
      | refine LoopK.inv tabOK (fun i : Nat × List Str => ⟨[(1, .hd 2000 0 i.2.length), (23, .p (.sl (X.avs x.kids))), (24, .p (.int .i64 (X.avs x.kids).length)), (25, .p (.int .i64 i.1))], outH 9 i.2⟩) (fun i => i.1 ≤ x.kids.length ∧ gatXs (x.kids.drop i.1) i.2 = gatX x out ∧ i.2.length + (x.kids.length - i.1) * 2 ^ n ≤ 1073741824) (fun i => x.kids.length - i.1) (0, out) (Le.of_eq rfl) ⟨Nat.zero_le _, by simp only [List.drop_zero]; rw [gatX_eq, if_neg (by simp [*])], by simp only [Nat.sub_zero]; omega⟩ ?_
      rintro ⟨j, acc⟩ ⟨h2, h3, h4⟩
      simp only at h2 h3 h4 ⊢
      conv => whnf
      repeat' (
        first
        | (intro (_ : _ ≤ 9223372036854775807); conv => whnf)
        | (refine Br.dec (fun _ => ?_) (fun _ => ?_) <;> first | (exfalso; omega) | conv => whnf)
        | (refine Br.dec2 (fun _ => ?_) (fun _ => ?_) <;> first | (exfalso; omega) | conv => whnf)
        | (refine DrawK.auto tabOK mixed (by kernel_rfl) ?_; conv => whnf)
        | (refine Br.n (fun _ => ?_) (fun _ => ?_) <;> conv => whnf)
        | (refine Br.b (fun _ => ?_) (fun _ => ?_) <;> conv => whnf)
        | (refine And.intro rfl ?_; conv => whnf)
        | (refine And.intro ⟨by decide, by decide⟩ ?_; conv => whnf)
        | (refine And.intro ⟨rfl, rfl, by decide⟩ ?_; conv => whnf)
        | (refine BsK.pure (fun x hx => by rcases List.mem_singleton.1 hx with rfl; rfl) rfl ?_; conv => whnf)
        | (refine IdxK.map (by omega) (fun _ => rfl) ?_; conv => whnf)
        | (refine IdxK.xs (by omega) ?_; conv => whnf)
        | (refine IdxK.ss (by omega) ?_; conv => whnf)
        | (refine ByteK.at (by omega) ?_; conv => whnf)
        | (refine Wr.i64 (by omega) (by omega) ?_; conv => whnf))
      all_goals first
        | (rw [gatXs_end (by omega)] at h3
           exact ⟨_, .refl _, by rw [h3]; exact ⟨rfl, rfl⟩⟩)
        | (have hj : j < x.kids.length := by omega
           have hm := hmul j hj
           have hg := gat_len n x.kids[j] acc (hk3 _ (List.getElem_mem hj))
           refine CallK.heap [(2000, 2000)] 0 (by repeat' (first | exact ArgsH.nil | refine ArgsH.cons ?_ ?_ | exact LSub.refl _ | exact LSub.p Sub.nils | exact LSub.p (Sub.tt rfl) | exact LSub.p (Sub.ff rfl) | exact LSub.p (Sub.int (by omega)))) (by refine BlksH.cons (j := 2000) rfl rfl ?_ ?_; exact CSub.refl _; exact BlksH.nil) (ih (by omega) x.kids[j] (hk3 _ (List.getElem_mem hj)) acc (by omega)) rfl rfl ?_
           rintro l' H' ⟨rfl, rfl⟩
           conv => whnf
           refine Wr.i64 (by omega) (by omega) ?_
           conv => whnf
           exact ⟨(j + 1, gatX x.kids[j] acc), ⟨by simp only; omega, by simp only; rw [← h3, gatXs_step hj], by simp only; omega⟩, by simp only; omega, Le.of_eq rfl⟩)
def namesX (x : X) : List Str := bif mayX x then gatX x [] else []
theorem namesX_len (x : X) : (namesX x).length ≤ 1048576 := by
  unfold namesX
  cases h : mayX x with
  | false => simp
  | true =>
    have := (gat_len 20 x [] h).2
    simpa using this
set_option maxRecDepth 100000 in
theorem tree_Names (x : X) : SpecP Tryz.prog 249 [.agg x.cells] (fun r => r = eStrs (namesX x)) := by
  refine SpecP.body I_tree_Names tabOK Tryz.func249 rfl Tryz.call249 (by show 1 ≤ _; decide) ?_
  conv => whnf
  repeat' (
    first
    | (intro (_ : _ ≤ 9223372036854775807); conv => whnf)
    | (refine Br.dec (fun _ => ?_) (fun _ => ?_) <;> first | (exfalso; omega) | conv => whnf)
    | (refine Br.dec2 (fun _ => ?_) (fun _ => ?_) <;> first | (exfalso; omega) | conv => whnf)
    | (refine DrawK.auto tabOK mixed (by kernel_rfl) ?_; conv => whnf)
    | (refine Br.n (fun _ => ?_) (fun _ => ?_) <;> conv => whnf)
    | (refine Br.b (fun _ => ?_) (fun _ => ?_) <;> conv => whnf)
    | (refine CallK.pure (tree_MayExpr _) (by repeat' (first | exact ArgP.nil | refine ArgP.cons ?_ ?_ | exact Sub.refl _ | exact Sub.tt rfl | exact Sub.ff rfl)) ?_; rintro _ rfl; conv => whnf)
    | (refine And.intro rfl ?_; conv => whnf)
    | (refine And.intro ⟨by decide, by decide⟩ ?_; conv => whnf)
    | (refine And.intro ⟨rfl, rfl, by decide⟩ ?_; conv => whnf)
    | (refine BsK.pure (fun x hx => by rcases List.mem_singleton.1 hx with rfl; rfl) rfl ?_; conv => whnf)
    | (refine IdxK.map (by omega) (fun _ => rfl) ?_; conv => whnf)
    | (refine IdxK.xs (by omega) ?_; conv => whnf)
    | (refine IdxK.ss (by omega) ?_; conv => whnf)
    | (refine ByteK.at (by omega) ?_; conv => whnf)
    | (refine Wr.i64 (by omega) (by omega) ?_; conv => whnf))
  · refine CallK.nil 5 9 1 rfl (.cons rfl (.row .nil)) ?_
    refine CallK.heap [(2000, 5)] 0 (by repeat' (first | exact ArgsH.nil | refine ArgsH.cons ?_ ?_ | exact LSub.refl _ | exact LSub.p Sub.nils | exact LSub.p (Sub.tt rfl) | exact LSub.p (Sub.ff rfl) | exact LSub.p (Sub.int (by omega)))) (by refine BlksH.cons (j := 5) rfl rfl ?_ ?_; exact CSub.refl _; exact BlksH.nil) (tree_gather 20 (by omega) x (by assumption) [] (by simp)) rfl rfl ?_
    rintro l' H' ⟨rfl, rfl⟩
    conv => whnf
    refine ⟨_, .hd rfl (by simp), ?_⟩
    unfold namesX
    rw [show mayX x = true by assumption]
    rfl
  · refine ⟨_, .p Sub.nils, ?_⟩
    unfold namesX
    rw [show mayX x = false by assumption]
    rfl
def namesA (a : Arg) : List Str := (bif a.ref then [a.name] else []) ++ namesX a.x
def namesH (t : S) : List Str := (bif t.kind ≠ 10 && !(t.name == []) then [t.name] else []) ++ namesX t.x
def namesT (t : S) : List Str := namesH t ++ t.args.flatMap namesA
theorem namesA_len (a : Arg) : (namesA a).length ≤ 1048577 := by
  have := namesX_len a.x
  unfold namesA
  cases a.ref <;> simp <;> omega
theorem namesH_len (t : S) : (namesH t).length ≤ 1048577 := by
  have := namesX_len t.x
  unfold namesH
  cases (t.kind ≠ 10 && !(t.name == []) : Bool) <;> simp <;> omega
theorem flatMap_len {α β : Type} {f : α → List β} {c : Nat} (h : ∀ a, (f a).length ≤ c) : ∀ l : List α, (l.flatMap f).length ≤ l.length * c
  | [] => by simp
  | x :: r => by
    have := flatMap_len h r
    have := h x
    simp only [List.flatMap_cons, List.length_append, List.length_cons, Nat.add_mul, Nat.one_mul]
    omega
def accN (t : S) (j : Nat) : List Str := namesH t ++ (t.args.take j).flatMap namesA
theorem accN_len (t : S) {j : Nat} (h : j ≤ t.args.length) (ha : t.args.length ≤ 20000) : (accN t j).length ≤ 21000000000 := by
  have h1 := namesH_len t
  have h2 := flatMap_len namesA_len (t.args.take j)
  have h3 : (t.args.take j).length * 1048577 ≤ 20000 * 1048577 := Nat.mul_le_mul_right _ (by simp; omega)
  unfold accN
  simp only [List.length_append]
  omega
theorem accN_step {t : S} {j : Nat} (hj : j < t.args.length) : accN t (j + 1) = accN t j ++ namesA t.args[j] := by
  unfold accN
  rw [List.take_succ_eq_append_getElem hj, List.flatMap_append, List.append_assoc]
  simp
def namesI (t : S) (tS : Nat) (j : Nat) : St := ⟨[(3, .hd 0 0 (accN t j).length), (25, .p (.sl (t.args.map fun a => .agg a.cells))), (26, .p (.int .i64 (t.args.map fun a => AV.agg a.cells).length)), (27, .p (.int .i64 j))], [(0, .own tS 1 ((accN t j).map .str))]⟩
set_option maxHeartbeats 1000000 in
set_option maxRecDepth 100000 in
theorem flat_Names (t : S) (ha : t.args.length ≤ 20000) : SpecP Tryz.prog 218 [.agg t.cells] (fun r => r = eStrs (namesT t)) := by
  refine SpecP.body I_flat_Names tabOK Tryz.func218 rfl Tryz.call218 (by show 1 ≤ _; decide) ?_
  conv => whnf
  repeat' (
    first
    | (intro (_ : _ ≤ 9223372036854775807); conv => whnf)
    | (refine Br.dec (fun _ => ?_) (fun _ => ?_) <;> first | (exfalso; omega) | conv => whnf)
    | (refine Br.dec2 (fun _ => ?_) (fun _ => ?_) <;> first | (exfalso; omega) | conv => whnf)
    | (refine DrawK.auto tabOK mixed (by kernel_rfl) ?_; conv => whnf)
    | (refine Br.n (fun _ => ?_) (fun _ => ?_) <;> conv => whnf)
    | (refine Br.b (fun _ => ?_) (fun _ => ?_) <;> conv => whnf)
    | (refine CallK.pure (tree_Names _) (by repeat' (first | exact ArgP.nil | refine ArgP.cons ?_ ?_ | exact Sub.refl _ | exact Sub.tt rfl | exact Sub.ff rfl)) ?_; rintro _ rfl; conv => whnf)
    | (refine And.intro rfl ?_; conv => whnf)
    | (refine And.intro ⟨by decide, by decide⟩ ?_; conv => whnf)
    | (refine And.intro ⟨rfl, rfl, by decide⟩ ?_; conv => whnf)
    | (refine BsK.pure (fun x hx => by rcases List.mem_singleton.1 hx with rfl; rfl) rfl ?_; conv => whnf)
    | (refine IdxK.map (by omega) (fun _ => rfl) ?_; conv => whnf)
    | (refine IdxK.xs (by omega) ?_; conv => whnf)
    | (refine IdxK.ss (by omega) ?_; conv => whnf)
    | (refine ByteK.at (by omega) ?_; conv => whnf)
    | (refine Wr.i64 (by omega) (by omega) ?_; conv => whnf)
    | (refine AppK.strs _ (by simp) (by have := namesX_len t.x; simp; omega) ?_; conv => whnf)
    | (refine AppK.str1 (by simp) (by simp) ?_; conv => whnf))
  all_goals
    have hl : (t.args.map fun a => AV.agg a.cells).length = t.args.length := List.length_map _
    refine LoopK.inv tabOK (namesI t 9) (fun j => j ≤ t.args.length) (fun j => t.args.length - j) 0 (Le.of_eq ?_) (Nat.zero_le _) ?_
    · first
        | (have e : accN t 0 = namesX t.x := by simp [accN, namesH, show t.kind = 10 by assumption]
           rw [namesI, e]; simp only [Nat.zero_add, List.length_map, List.length_append, List.map_append, List.nil_append]; rfl)
        | (have e : accN t 0 = namesX t.x := by simp [accN, namesH, show t.name = [] by simpa using (show (t.name == []) = true by assumption)]
           rw [namesI, e]; simp only [Nat.zero_add, List.length_map, List.length_append, List.map_append, List.nil_append]; rfl)
        | (have e : accN t 0 = [t.name] ++ namesX t.x := by
             have : (t.name == []) = false := by assumption
             simp [accN, namesH, show ¬ t.kind = 10 by assumption, this]
           rw [namesI, e]; simp only [Nat.zero_add, List.length_map, List.length_append, List.map_append, List.nil_append]; rfl)
    intro j h2
    have hacc := accN_len t h2 ha
    conv => whnf
    repeat' (
      first
      | (intro (_ : _ ≤ 9223372036854775807); conv => whnf)
      | (refine Br.dec (fun _ => ?_) (fun _ => ?_) <;> first | (exfalso; omega) | conv => whnf)
      | (refine Br.dec2 (fun _ => ?_) (fun _ => ?_) <;> first | (exfalso; omega) | conv => whnf)
      | (refine DrawK.auto tabOK mixed (by kernel_rfl) ?_; conv => whnf)
      | (refine Br.n (fun _ => ?_) (fun _ => ?_) <;> conv => whnf)
      | (refine Br.b (fun _ => ?_) (fun _ => ?_) <;> conv => whnf)
      | (refine CallK.pure (tree_Names _) (by repeat' (first | exact ArgP.nil | refine ArgP.cons ?_ ?_ | exact Sub.refl _ | exact Sub.tt rfl | exact Sub.ff rfl)) ?_; rintro _ rfl; conv => whnf)
      | (refine And.intro rfl ?_; conv => whnf)
      | (refine And.intro ⟨by decide, by decide⟩ ?_; conv => whnf)
      | (refine And.intro ⟨rfl, rfl, by decide⟩ ?_; conv => whnf)
      | (refine BsK.pure (fun x hx => by rcases List.mem_singleton.1 hx with rfl; rfl) rfl ?_; conv => whnf)
      | (refine IdxK.map (by omega) (fun _ => rfl) ?_; conv => whnf)
      | (refine IdxK.xs (by omega) ?_; conv => whnf)
      | (refine IdxK.ss (by omega) ?_; conv => whnf)
      | (refine ByteK.at (by omega) ?_; conv => whnf)
      | (refine Wr.i64 (by omega) (by omega) ?_; conv => whnf)
      | (refine AppK.strs _ (by simp) (by have := namesX_len (t.args[j]'(by omega)).x; simp; omega) ?_; conv => whnf)
      | (refine AppK.str1 (by simp) (by simp; omega) ?_; conv => whnf))
    all_goals first
      | exact ⟨_, .hd rfl (by simp), by
          have : t.args.take j = t.args := List.take_of_length_le (by omega)
          rw [namesT, ← this]; rfl⟩
      | (have hj : j < t.args.length := by omega
         have hst := accN_step hj
         refine ⟨j + 1, by show j + 1 ≤ _; omega, by show t.args.length - (j + 1) < t.args.length - j; omega, Le.of_eq ?_⟩
         first
           | (have hn : namesA t.args[j] = [t.args[j].name] ++ namesX t.args[j].x := by rw [namesA, show t.args[j].ref = true by assumption]; rfl
              rw [namesI, hst, hn]
              simp only [List.length_append, List.map_append, List.length_map, ← List.append_assoc, ← Nat.add_assoc]
              rfl)
           | (have hn : namesA t.args[j] = namesX t.args[j].x := by rw [namesA, show t.args[j].ref = false by assumption]; rfl
              rw [namesI, hst, hn]
              simp only [List.length_append, List.map_append, List.length_map]
              rfl))
end Go.Ab
