/- way: places by numbers, steps by numbers; graph: made of edges. -/
import Derived.Test.YtneccajakpeodaaGreatCdpS10
import Derived.Test.YtneccajakpeodaaGreatCdpS12
set_option linter.unusedSimpArgs false
set_option linter.unusedVariables false
set_option maxRecDepth 100000
set_option maxHeartbeats 16000000
namespace Go.Ab
open Go.Proofs
def bv : Bool → AV
 | true => .tt
 | false => .ff
structure Way where
 p : Pg
 j : Nat
 n : Int
 real : List Step
 live : List Bool
def Way.cells (w : Way) : List AV := [.ip (sheetOf w.p).cells, .int .i64 w.j, .int .i64 w.n, eSteps w.real, .sl (w.live.map bv)]
def wayH (p : Pg) (j : Nat) (n : Int) (real : AV) (lv : List AV) : Heap := [(1000, .obj 114 [.p (.ip (sheetOf p).cells), .p (.int .i64 j), .p (.int .i64 n), .p real, .hd 2000 0 lv.length]), (2000, .own 4 1 lv)]
def indexI (lo hi n x : Int) : Int := if x = 0 then 0 else if x = -1 then n - 1 else if lo ≤ x ∧ x < hi then x - lo + 1 else -1
def loI (p : Pg) (j : Nat) : Int := (offN p.procs j : Nat) + 1
def hiI (p : Pg) (j : Nat) (f : Pr) : Int := (offN p.procs j + cntL f.body : Nat) + 1
theorem way_Way_Index (w : Way) (f : Pr) (hj : w.p.procs[w.j]? = some f) (hc : cntP w.p.procs ≤ 1000) (hn : 0 ≤ w.n ∧ w.n ≤ 5000) (x : Int) : SpecP Tryz.prog 124 [.ip w.cells, .int .i64 x] (fun r => r = .int .i64 (indexI (loI w.p w.j) (hiI w.p w.j f) w.n x)) := by
 refine SpecP.body I_way_Way_Index tabOK Tryz.func124 rfl Tryz.call124 (by show 2 ≤ _; decide) ?_
 conv => whnf
 obtain ⟨_, _, _, hlen, hsp⟩ := sheet_spec w.p
 obtain ⟨hlo, hhi, hle, _⟩ := hsp w.j f hj
 repeat' (first | ((first | (refine DrawK.auto tabOK mixed (by kernel_rfl) ?_) | (refine Wr.i64 (by omega) (by omega) ?_) | (refine IdxK.at rfl (eInts_at hlo) rfl ?_) | (refine IdxK.at rfl (eInts_at hhi) rfl ?_)); conv => whnf) | (refine Br.dec (fun _ => ?_) (fun _ => ?_) <;> first | (exfalso; omega) | conv => whnf))
 all_goals exact RetK.int (by unfold indexI loI hiI; (repeat' split) <;> omega)
theorem way_Index_own (p : Pg) (j : Nat) (f : Pr) (n : Int) (real : AV) (lv : List AV) (hj : p.procs[j]? = some f) (hc : cntP p.procs ≤ 1000) (hn : 0 ≤ n ∧ n ≤ 5000) (x : Int) :
  SpecH Tryz.prog 124 [.ptr 1000 0, .p (.int .i64 x)] (wayH p j n real lv) (fun r H => r = .p (.int .i64 (indexI (loI p j) (hiI p j f) n x)) ∧ H = wayH p j n real lv) := by
 obtain ⟨_, _, _, hlen, hsp⟩ := sheet_spec p
 obtain ⟨hlo, hhi, hle, _⟩ := hsp j f hj
 refine SpecH.body I_way_Way_Index tabOK Tryz.func124 rfl Tryz.call124 (by show 2 ≤ _; decide) ?_
 conv => whnf
 repeat' (first | ((first | (refine DrawK.auto tabOK mixed (by kernel_rfl) ?_) | (refine Wr.i64 (by omega) (by omega) ?_) | (refine IdxK.at rfl (eInts_at hlo) rfl ?_) | (refine IdxK.at rfl (eInts_at hhi) rfl ?_)); conv => whnf) | (refine Br.dec (fun _ => ?_) (fun _ => ?_) <;> first | (exfalso; omega) | conv => whnf))
 all_goals exact ⟨_, LSub.p (Sub.int (by unfold indexI loI hiI; (repeat' split) <;> omega)), rfl, rfl⟩
def avP (l : List (Int × Int)) : List AV := l.map fun x => .agg [.int .i64 x.1, .int .i64 x.2]
def ixP (p : Pg) (j : Nat) (f : Pr) (n : Int) (s : Step) : Int × Int := (indexI (loI p j) (hiI p j f) n s.src, indexI (loI p j) (hiI p j f) n s.dst)
theorem way_Way_Pairs (w : Way) (f : Pr) (hj : w.p.procs[w.j]? = some f) (hc : cntP w.p.procs ≤ 1000) (hn : 0 ≤ w.n ∧ w.n ≤ 5000) (l : List Step) (hlen : l.length ≤ 1000000) : SpecP Tryz.prog 157 [.ip w.cells, eSteps l] (fun r => r = .sl (avP (l.map (ixP w.p w.j f w.n)))) := by
 refine SpecP.body I_way_Way_Pairs tabOK Tryz.func157 rfl Tryz.call157 (by show 2 ≤ _; decide) ?_
 conv => whnf
 repeat' (intro (_ : _ ≤ 9223372036854775807); conv => whnf)
 have hl : (l.map fun s => AV.agg s.cells).length = l.length := List.length_map _
 refine LoopK.inv tabOK (fun i : Nat × List (Int × Int) => ⟨[(0, .p (.ip w.cells)), (5, .hd 0 0 i.2.length), (8, .p (eSteps l)), (9, .p (.int .i64 (l.map fun s => AV.agg s.cells).length)), (10, .p (.int .i64 i.1))], [(0, .own 47 2 (avP i.2))]⟩)
  (fun i => i.1 ≤ l.length ∧ i.2 = (l.take i.1).map (ixP w.p w.j f w.n)) (fun i => l.length - i.1) (0, [])
  (Le.mk [(0, .own 47 2 [])] (by simp [Chunk.new0]; rfl) (by simp) (by simp) (.cons (.refl _) (.cons (.nil List.mem_cons_self) (.cons (.refl _) (.cons (.refl _) (.cons (.refl _) .nil))))) (.new List.mem_cons_self .nil))
  ⟨Nat.zero_le _, rfl⟩ ?_
 rintro ⟨m, acc⟩ ⟨h2, h3⟩
 simp only at h2 h3 ⊢
 rcases Nat.lt_or_ge m l.length with hm | hm
 rotate_left 1
 ·rw [List.take_of_length_le hm] at h3
  subst h3
  conv => whnf
  repeat' (refine Br.dec (fun _ => ?_) (fun _ => ?_) <;> first | (exfalso; omega) | conv => whnf)
  exact ⟨_, .hd rfl (by simp [avP]), rfl⟩
 have hacl : acc.length = m := by rw [h3]; simp; omega
 conv => whnf
 repeat' (first | ((first | (refine DrawK.auto tabOK mixed (by kernel_rfl) ?_) | (refine And.intro rfl ?_) | (refine And.intro ⟨by decide, by decide⟩ ?_) | (refine BsK.pure (fun x hx => by rcases List.mem_singleton.1 hx with rfl; rfl) rfl ?_) | (refine IdxK.map (by omega) (fun _ => rfl) ?_) | (refine Wr.i64 (by omega) (by omega) ?_) | (refine CallK.pure (way_Way_Index w f hj hc hn _) (.cons (Sub.refl _) (.cons (Sub.refl _) .nil)) ?_; rintro _ rfl) | (refine AppK.mk (by simp [avP]) rfl (by show (acc.length+1) * 16 ≤ 140737488355328; omega) (by show acc.length+1 ≤ 9223372036854775807; omega) (fun x hx => by rcases List.mem_singleton.1 hx with rfl; exact ⟨rfl, rfl⟩) ?_)); conv => whnf) | (refine Br.dec (fun _ => ?_) (fun _ => ?_) <;> first | (exfalso; omega) | conv => whnf))
 exact ⟨(m + 1, acc ++ [ixP w.p w.j f w.n l[m]]), ⟨by simp only; omega, by simp only; rw [h3, List.take_succ_eq_append_getElem hm, List.map_append]; rfl⟩, by simp only; omega, Le.of_eq (by simp only [avP, List.length_append, List.map_append]; rfl)⟩
theorem SpecH.frzret {P : Program} {f : FuncId} {args : List LV} {H H0 : Heap} {e : TypeId} {sz : Nat} {Q : List AV → Prop} (hrow : rowHK 0 H0 fun H => H = H0)
  (h : SpecH P f args H (fun r H' => ∃ es, r = .hd 0 0 es.length ∧ H' = (0, .own e sz es) :: H0 ∧ Q es)) : SpecH P f args H (fun r H' => ∃ es, r = .p (.sl es) ∧ H' = H0 ∧ Q es) := by
 refine ⟨h.go, fun σ β w vals h1 h2 h3 => (h.ok σ β w vals h1 h2 h3).mono fun ex w' hx => ?_⟩
 obtain ⟨l, u, σ', β', H', he, ⟨es, rfl, rfl, hQ⟩, hrep, hrel, hlat⟩ := hx
 obtain ⟨s', rfl, hle⟩ := Le.row (N := 1) (s := ⟨[(0, .hd 0 0 es.length)], (0, .own e sz es) :: H0⟩) (k := 0) (e := e) (sz := sz) (es := es) (set := [0]) rfl (K := fun s => s = ⟨[(0, .p (.sl es))], H0⟩) (by
  show LenK es.length es _
  refine ⟨rfl, ?_⟩
  show rowHK 0 H0 fun H => (⟨[(0, .p (.sl es))], H⟩ : St) = ⟨[(0, .p (.sl es))], H0⟩
  have key : ∀ {H1 : Heap} {K K' : Heap → Prop}, (∀ H, K H → K' H) → rowHK 0 H1 K → rowHK 0 H1 K' := fun {H1} => by
   induction H1 with
   | nil => intro K K' hK h; exact hK _ h
   | cons x r ih =>
     intro K K' hK h
     obtain ⟨j, c⟩ := x
     simp only [rowHK] at h ⊢
     cases hb : j == 0 with
     | true =>
       simp only [hb, cond_true] at h ⊢
       exact ih hK h
     | false =>
       simp only [hb, cond_false] at h ⊢
       cases c with
       | obj e ls => simp only [forceL_eq] at h ⊢; exact ih (fun H hH => hK _ hH) h
       | own e sz es => exact ih (fun H hH => hK _ hH) h
       | ext x => exact ih (fun H hH => hK _ hH) h
  exact key (fun H hH => by rw [hH]) hrow)
 obtain ⟨σ2, β2, hr2, hl2⟩ := hle σ' β' { tmps := #[u], defers := [] } w' ⟨rfl, rfl, fun i => by
  match i with
  | 0 => simpa [getS] using hrep
  | i + 1 => exact .p (by simpa [getS] using Rep.any _), hrel⟩
 exact ⟨.p (.sl es), u, σ2, β2, H0, he, ⟨es, rfl, rfl, hQ⟩, by simpa [getS] using hr2.slots 0, hr2.heap, hlat.trans hl2⟩
theorem way_Pairs_own (p : Pg) (j : Nat) (f : Pr) (n : Int) (real : AV) (lv : List AV) (hj : p.procs[j]? = some f) (hc : cntP p.procs ≤ 1000) (hn : 0 ≤ n ∧ n ≤ 5000) (l : List Step) (hlen : l.length ≤ 1000000) :
  SpecH Tryz.prog 157 [.ptr 1000 0, .p (eSteps l)] (wayH p j n real lv) (fun r H => ∃ es, r = .p (.sl es) ∧ H = wayH p j n real lv ∧ es = avP (l.map (ixP p j f n))) := by
 refine SpecH.frzret (e := 47) (sz := 2) rfl ?_
 refine SpecH.body I_way_Way_Pairs tabOK Tryz.func157 rfl Tryz.call157 (by show 2 ≤ _; decide) ?_
 conv => whnf
 repeat' (intro (_ : _ ≤ 9223372036854775807); conv => whnf)
 have hl : (l.map fun s => AV.agg s.cells).length = l.length := List.length_map _
 refine LoopK.inv tabOK (fun i : Nat × List (Int × Int) => ⟨[(0, .ptr 1000 0), (5, .hd 0 0 i.2.length), (8, .p (eSteps l)), (9, .p (.int .i64 (l.map fun s => AV.agg s.cells).length)), (10, .p (.int .i64 i.1))], (0, .own 47 2 (avP i.2)) :: wayH p j n real lv⟩)
  (fun i => i.1 ≤ l.length ∧ i.2 = (l.take i.1).map (ixP p j f n)) (fun i => l.length - i.1) (0, [])
  (Le.mk [(0, .own 47 2 [])] (by simp [Chunk.new0]; rfl) (by simp) (by simp [wayH]) (.cons (.refl _) (.cons (.nil List.mem_cons_self) (.cons (.refl _) (.cons (.refl _) (.cons (.refl _) .nil))))) (.new List.mem_cons_self (.cons rfl (.refl _) (.cons rfl (.refl _) .nil))))
  ⟨Nat.zero_le _, rfl⟩ ?_
 rintro ⟨m, acc⟩ ⟨h2, h3⟩
 simp only at h2 h3 ⊢
 rcases Nat.lt_or_ge m l.length with hm | hm
 rotate_left 1
 ·rw [List.take_of_length_le hm] at h3
  subst h3
  conv => whnf
  repeat' (refine Br.dec (fun _ => ?_) (fun _ => ?_) <;> first | (exfalso; omega) | conv => whnf)
  exact ⟨_, LSub.refl _, avP (l.map (ixP p j f n)), by simp [avP], rfl, rfl⟩
 have hacl : acc.length = m := by rw [h3]; simp; omega
 conv => whnf
 repeat' (first | ((first | (refine DrawK.auto tabOK mixed (by kernel_rfl) ?_) | (refine And.intro rfl ?_) | (refine And.intro ⟨by decide, by decide⟩ ?_) | (refine BsK.pure (fun x hx => by rcases List.mem_singleton.1 hx with rfl; rfl) rfl ?_) | (refine IdxK.map (by omega) (fun _ => rfl) ?_) | (refine Wr.i64 (by omega) (by omega) ?_) | (refine AppK.mk (by simp [avP]) rfl (by show (acc.length+1) * 16 ≤ 140737488355328; omega) (by show acc.length+1 ≤ 9223372036854775807; omega) (fun x hx => by rcases List.mem_singleton.1 hx with rfl; exact ⟨rfl, rfl⟩) ?_)); conv => whnf) | (refine Br.dec (fun _ => ?_) (fun _ => ?_) <;> first | (exfalso; omega) | conv => whnf) | (refine CallK.heap [(1000, 1000), (2000, 2000)] 0 (by repeat' (first | exact ArgsH.nil | refine ArgsH.cons ?_ ?_ | exact LSub.refl _ | exact LSub.p Sub.nils | exact LSub.p (Sub.tt rfl) | exact LSub.p (Sub.ff rfl) | exact LSub.p (Sub.int (by omega)))) (by refine BlksH.cons (j := 1000) rfl rfl ?_ ?_; exact CSub.refl _; refine BlksH.cons (j := 2000) rfl rfl ?_ ?_; exact CSub.refl _; exact BlksH.nil) (way_Index_own p j f n real lv hj hc hn _) rfl rfl ?_; rintro l' H' ⟨rfl, rfl⟩; conv => whnf))
 exact ⟨(m + 1, acc ++ [ixP p j f n l[m]]), ⟨by simp only; omega, by simp only; rw [h3, List.take_succ_eq_append_getElem hm, List.map_append]; rfl⟩, by simp only; omega, Le.mk [] (by simp) (by simp) (by simp [wayH]) (.cons (.refl _) (.cons (.of_eq (by simp only [List.length_append]; rfl)) (.cons (.refl _) (.cons (.refl _) (.cons (.of_eq rfl) .nil))))) (.cons rfl (.of_eq (by simp only [avP, List.map_append]; rfl)) (.cons rfl (.refl _) (.cons rfl (.refl _) .nil)))⟩
theorem insI_sorted {l : List Int} {x : Int} (h : l.Pairwise (· ≤ ·)) : (insI l (l.countP (· < x)) x).Pairwise (· ≤ ·) := by
 induction l with
 | nil => simp [insI]
 | cons a r ih =>
   obtain ⟨h1, h2⟩ := List.pairwise_cons.1 h
   by_cases ha : a < x
   ·have e : insI (a :: r) ((a :: r).countP (· < x)) x = a :: insI r (r.countP (· < x)) x := by
     unfold insI
     rw [List.countP_cons_of_pos (by simpa using ha)]
     rfl
    rw [e, List.pairwise_cons]
    refine ⟨fun b hb => ?_, ih h2⟩
    unfold insI at hb
    rcases List.mem_append.1 hb with hb | hb
    ·exact h1 b (List.mem_of_mem_take hb)
    ·rcases List.mem_cons.1 hb with rfl | hb
     ·omega
     ·exact h1 b (List.mem_of_mem_drop hb)
   ·have e0 : (a :: r).countP (· < x) = 0 := by
     rw [List.countP_eq_zero]
     intro b hb
     rcases List.mem_cons.1 hb with rfl | hb
     ·simpa using ha
     ·have := h1 b hb
      simp; omega
    rw [e0]
    show (x :: a :: r).Pairwise (· ≤ ·)
    refine List.pairwise_cons.2 ⟨fun b hb => ?_, h⟩
    rcases List.mem_cons.1 hb with rfl | hb
    ·omega
    ·have := h1 b hb
     omega
def grInv (n m : Nat) (N : List (List Int)) : Prop := N.length = n ∧ ∀ r ∈ N, r.Pairwise (· ≤ ·) ∧ r.length ≤ m
theorem grInv_put {n m : Nat} {N : List (List Int)} (h : grInv n m N) (a : Nat) (b : Int) : grInv n (m + 1) (putR N a b) := by
 unfold putR
 refine ⟨by rw [List.length_set]; exact h.1, fun r hr => ?_⟩
 rcases List.mem_or_eq_of_mem_set hr with hr | rfl
 ·obtain ⟨h1, h2⟩ := h.2 r hr
  exact ⟨h1, by omega⟩
 ·rcases Nat.lt_or_ge a N.length with ha | ha
  ·have hm : N.getD a [] ∈ N := by
    rw [List.getD_eq_getElem?_getD, List.getElem?_eq_getElem ha]
    exact List.getElem_mem ha
   obtain ⟨h1, h2⟩ := h.2 _ hm
   exact ⟨insI_sorted h1, by rw [insI_len List.countP_le_length]; omega⟩
  ·have : N.getD a [] = [] := by simp [List.getElem?_eq_none ha]
   rw [this]
   exact ⟨by simp [insI], by simp [insI]⟩
theorem grInv_mono {n m m' : Nat} {N : List (List Int)} (h : grInv n m N) (hm : m ≤ m') : grInv n m' N := ⟨h.1, fun r hr => ⟨(h.2 r hr).1, Nat.le_trans (h.2 r hr).2 hm⟩⟩
def addE (n : Nat) (g : List (List Int) × List (List Int)) (e : Int × Int) : List (List Int) × List (List Int) :=
 bif hasB n e.1 && hasB n e.2 && !(g.1.getD e.1.toNat []).contains e.2 then (putR g.1 e.1.toNat e.2, putR g.2 e.2.toNat e.1) else g
def graphE (n : Nat) (l : List (Int × Int)) : List (List Int) × List (List Int) := l.foldl (addE n) (List.replicate n [], List.replicate n [])
def eMat (m : List (List Int)) : AV := .sl ((avI m).map .sl)
def eGraph (g : List (List Int) × List (List Int)) : AV := .ip [eMat g.1, eMat g.2]
theorem addE_1 (n : Nat) (g : List (List Int) × List (List Int)) (e : Int × Int) : (addE n g e).1 = bif hasB n e.1 && hasB n e.2 && !(g.1.getD e.1.toNat []).contains e.2 then putR g.1 e.1.toNat e.2 else g.1 := by
 unfold addE
 cases hasB n e.1 && hasB n e.2 && !(g.1.getD e.1.toNat []).contains e.2 <;> rfl
theorem addE_2 (n : Nat) (g : List (List Int) × List (List Int)) (e : Int × Int) : (addE n g e).2 = bif hasB n e.1 && hasB n e.2 && !(g.1.getD e.1.toNat []).contains e.2 then putR g.2 e.2.toNat e.1 else g.2 := by
 unfold addE
 cases hasB n e.1 && hasB n e.2 && !(g.1.getD e.1.toNat []).contains e.2 <;> rfl
theorem addE_inv {n m : Nat} {g : List (List Int) × List (List Int)} (h : grInv n m g.1 ∧ grInv n m g.2) (e : Int × Int) : grInv n (m + 1) (addE n g e).1 ∧ grInv n (m + 1) (addE n g e).2 := by
 rw [addE_1, addE_2]
 cases hasB n e.1 && hasB n e.2 && !(g.1.getD e.1.toNat []).contains e.2
 ·exact ⟨grInv_mono h.1 (by omega), grInv_mono h.2 (by omega)⟩
 ·exact ⟨grInv_put h.1 _ _, grInv_put h.2 _ _⟩
theorem graphE_succ {n m : Nat} {l : List (Int × Int)} (hm : m < l.length) : graphE n (l.take (m + 1)) = addE n (graphE n (l.take m)) l[m] := by
 unfold graphE
 rw [List.take_succ_eq_append_getElem hm, List.foldl_append]
 rfl
theorem graphE_inv {n : Nat} {l : List (Int × Int)} : ∀ {m : Nat}, m ≤ l.length → grInv n m (graphE n (l.take m)).1 ∧ grInv n m (graphE n (l.take m)).2
 | 0, _ => by
   have : grInv n 0 (List.replicate n []) := ⟨by simp, fun r hr => by rw [List.eq_of_mem_replicate hr]; simp⟩
   exact ⟨this, this⟩
 | m + 1, h => by
   rw [graphE_succ h]
   exact addE_inv (graphE_inv (by omega)) _
theorem mats_begin {N' : Nat} {sl : List (Nat × LV)} (n a b : Nat) (h0 : (sl.all fun x => x.2.xfree 0) = true) (h1 : (sl.all fun x => x.2.xfree 1) = true) :
  Le N' ⟨sl, [(2, .obj 213 [.hd a 0 n, .hd b 0 n]), (1, .own 36 1 (List.replicate n .nils)), (0, .own 36 1 (List.replicate n .nils))]⟩
   ⟨sl, [(2, .obj 213 [.hd a 0 n, .hd b 0 n]), (1, .ext (.mat 36 3 1 (List.replicate n []) [])), (0, .ext (.mat 36 3 1 (List.replicate n []) []))]⟩ := by
 have hm := Le.toMat (N := N') (sl := sl) (H := [(2, .obj 213 [.hd a 0 n, .hd b 0 n]), (1, .own 36 1 (List.replicate n .nils)), (0, .own 36 1 (List.replicate n .nils))])
  (H' := [(2, .obj 213 [.hd a 0 n, .hd b 0 n]), (1, .own 36 1 (List.replicate n .nils)), (0, .ext (.mat 36 3 1 (List.replicate (List.replicate n AV.nils).length []) []))])
  0 3 1 (e := 36) (es := List.replicate n .nils) rfl (fun x hx => List.eq_of_mem_replicate hx) rfl h0 rfl rfl (by simp [labN])
 have hm2 := Le.toMat (N := N') (sl := sl) (H := [(2, .obj 213 [.hd a 0 n, .hd b 0 n]), (1, .own 36 1 (List.replicate n .nils)), (0, .ext (.mat 36 3 1 (List.replicate (List.replicate n AV.nils).length []) []))])
  (H' := [(2, .obj 213 [.hd a 0 n, .hd b 0 n]), (1, .ext (.mat 36 3 1 (List.replicate (List.replicate n AV.nils).length []) [])), (0, .ext (.mat 36 3 1 (List.replicate (List.replicate n AV.nils).length []) []))])
  1 3 1 (e := 36) (es := List.replicate n .nils) rfl (fun x hx => List.eq_of_mem_replicate hx) rfl h1 rfl rfl (by simp [labN])
 have := hm.trans hm2
 simpa using this
theorem graph_New (n : Nat) (hn : n ≤ 5000) (l : List (Int × Int)) (hlen : l.length ≤ 1000000) : SpecP Tryz.prog 209 [.int .i64 n, .sl (avP l)] (fun r => r = eGraph (graphE n l)) := by
 refine SpecP.body I_graph_New tabOK Tryz.func209 rfl Tryz.call209 (by show 2 ≤ _; decide) ?_
 conv => whnf
 repeat' (first | ((first | (intro (_ : _ ≤ 9223372036854775807)) | (refine DrawK.auto tabOK mixed (by kernel_rfl) ?_) | (refine And.intro rfl ?_) | (refine And.intro ⟨rfl, rfl, by decide⟩ ?_) | (refine MkK.mk n rfl (by show 24 * n ≤ 140737488355328; omega) (by unfold maxLen; omega) ?_)); conv => whnf) | (refine Br.dec (fun _ => ?_) (fun _ => ?_) <;> first | (exfalso; omega) | conv => whnf) | (refine And.intro ?_ ?_ <;> conv => whnf))
 all_goals have hl : (avP l).length = l.length := List.length_map _
 ·refine LoopK.inv tabOK (fun m : Nat => ⟨[(5, .ptr (0 + 1 + 1) 0), (20, .p (.sl (avP l))), (21, .p (.int .i64 (avP l).length)), (22, .p (.int .i64 m))], [(0 + 1 + 1, .obj 213 [.hd 0 0 n, .hd (0 + 1) 0 n]), (0, .ext (.mat 36 3 1 (avI (graphE n (l.take m)).1) [])), (0 + 1, .ext (.mat 36 3 1 (avI (graphE n (l.take m)).2) []))]⟩)
   (fun m => m ≤ l.length) (fun m => l.length - m) 0 (by
     refine Le.trans (mats_begin n _ _ rfl rfl) ?_
     exact Le.mk [] (by simp) (by simp) (by simp) (.cons (.refl _) (.cons (.refl _) (.cons (.refl _) (.cons (.refl _) .nil)))) (.cons rfl (.refl _) (.cons rfl (.of_eq (by simp [avI, graphE])) (.cons rfl (.of_eq (by simp [avI, graphE])) .nil)))) (Nat.zero_le _) ?_
  rintro m h2
  obtain ⟨g1, g2⟩ := graphE_inv (n := n) h2
  rcases Nat.lt_or_ge m l.length with hm | hm
  ·have hme : (avP l)[m]? = some (.agg [.int .i64 l[m].1, .int .i64 l[m].2]) := by simp [avP, hm]
   conv => whnf
   repeat' (first | ((first | (refine And.intro rfl ?_) | (refine Wr.i64 (by omega) (by omega) ?_) | (refine IdxK.at rfl hme rfl ?_) | (refine IdxL.mk 0 rfl (by decide) ?_) | (refine IdxL.mk 1 rfl (by decide) ?_)); conv => whnf) | (refine Br.dec (fun _ => ?_) (fun _ => ?_) <;> first | (exfalso; omega) | conv => whnf) | (refine CallK.heap [(1000, 0+1+1), (2001, 0), (2002, 1)] 0 (by repeat' (first | exact ArgsH.nil | refine ArgsH.cons ?_ ?_ | exact LSub.refl _ | exact LSub.p Sub.nils | exact LSub.p (Sub.tt rfl) | exact LSub.p (Sub.ff rfl) | exact LSub.p (Sub.int (by omega)))) (by refine BlksH.cons (j := 2) rfl rfl ?_ ?_; exact CSub.refl _; refine BlksH.cons (j := 0) rfl rfl ?_ ?_; exact CSub.refl _; refine BlksH.cons (j := 1) rfl rfl ?_ ?_; exact CSub.refl _; exact BlksH.nil) (graph_Add n _ _ l[m].1 l[m].2 g1.1 g2.1 hn (fun r hr => ⟨(g1.2 r hr).1, by have := (g1.2 r hr).2; omega⟩) (fun r hr => ⟨(g2.2 r hr).1, by have := (g2.2 r hr).2; omega⟩)) rfl rfl ?_; rintro l' H' ⟨t, rfl, rfl⟩; conv => whnf))
   exact ⟨m + 1, hm, by omega, Le.of_eq (by rw [graphE_succ hm, addE_1, addE_2]; rfl)⟩
  ·rw [List.take_of_length_le hm] at g1 g2 ⊢
   conv => whnf
   repeat' (refine Br.dec (fun _ => ?_) (fun _ => ?_) <;> first | (exfalso; omega) | conv => whnf)
   exact ⟨_, .ptr (cs := [eMat (graphE n l).1, eMat (graphE n l).2]) rfl rfl (fun i x c h1 h3 => by
    match i, h1, h3 with
    | 0, h1, h3 => cases h1; cases h3; exact .mat rfl (by rw [avI, List.length_map, g1.1])
    | 1, h1, h3 => cases h1; cases h3; exact .mat rfl (by rw [avI, List.length_map, g2.1])), rfl⟩
 ·refine LoopK.inv tabOK (fun m : Nat => ⟨[(5, .ptr (0 + 1 + 1) 0), (20, .p (.sl (avP l))), (21, .p (.int .i64 (avP l).length)), (22, .p (.int .i64 m))], [(0 + 1 + 1, .obj 213 [.hd (0 + 1) 0 n, .hd 0 0 n]), (0 + 1, .ext (.mat 36 3 1 (avI (graphE n (l.take m)).1) [])), (0, .ext (.mat 36 3 1 (avI (graphE n (l.take m)).2) []))]⟩)
   (fun m => m ≤ l.length) (fun m => l.length - m) 0 (by
     refine Le.trans (mats_begin n _ _ rfl rfl) ?_
     exact Le.mk [] (by simp) (by simp) (by simp) (.cons (.refl _) (.cons (.refl _) (.cons (.refl _) (.cons (.refl _) .nil)))) (.cons rfl (.refl _) (.cons rfl (.of_eq (by simp [avI, graphE])) (.cons rfl (.of_eq (by simp [avI, graphE])) .nil)))) (Nat.zero_le _) ?_
  rintro m h2
  obtain ⟨g1, g2⟩ := graphE_inv (n := n) h2
  rcases Nat.lt_or_ge m l.length with hm | hm
  ·have hme : (avP l)[m]? = some (.agg [.int .i64 l[m].1, .int .i64 l[m].2]) := by simp [avP, hm]
   conv => whnf
   repeat' (first | ((first | (refine And.intro rfl ?_) | (refine Wr.i64 (by omega) (by omega) ?_) | (refine IdxK.at rfl hme rfl ?_) | (refine IdxL.mk 0 rfl (by decide) ?_) | (refine IdxL.mk 1 rfl (by decide) ?_)); conv => whnf) | (refine Br.dec (fun _ => ?_) (fun _ => ?_) <;> first | (exfalso; omega) | conv => whnf) | (refine CallK.heap [(1000, 0+1+1), (2001, 1), (2002, 0)] 0 (by repeat' (first | exact ArgsH.nil | refine ArgsH.cons ?_ ?_ | exact LSub.refl _ | exact LSub.p Sub.nils | exact LSub.p (Sub.tt rfl) | exact LSub.p (Sub.ff rfl) | exact LSub.p (Sub.int (by omega)))) (by refine BlksH.cons (j := 2) rfl rfl ?_ ?_; exact CSub.refl _; refine BlksH.cons (j := 1) rfl rfl ?_ ?_; exact CSub.refl _; refine BlksH.cons (j := 0) rfl rfl ?_ ?_; exact CSub.refl _; exact BlksH.nil) (graph_Add n _ _ l[m].1 l[m].2 g1.1 g2.1 hn (fun r hr => ⟨(g1.2 r hr).1, by have := (g1.2 r hr).2; omega⟩) (fun r hr => ⟨(g2.2 r hr).1, by have := (g2.2 r hr).2; omega⟩)) rfl rfl ?_; rintro l' H' ⟨t, rfl, rfl⟩; conv => whnf))
   exact ⟨m + 1, hm, by omega, Le.of_eq (by rw [graphE_succ hm, addE_1, addE_2]; rfl)⟩
  ·rw [List.take_of_length_le hm] at g1 g2 ⊢
   conv => whnf
   repeat' (refine Br.dec (fun _ => ?_) (fun _ => ?_) <;> first | (exfalso; omega) | conv => whnf)
   exact ⟨_, .ptr (cs := [eMat (graphE n l).1, eMat (graphE n l).2]) rfl rfl (fun i x c h1 h3 => by
    match i, h1, h3 with
    | 0, h1, h3 => cases h1; cases h3; exact .mat rfl (by rw [avI, List.length_map, g1.1])
    | 1, h1, h3 => cases h1; cases h3; exact .mat rfl (by rw [avI, List.length_map, g2.1])), rfl⟩
open Go.Proofs
def seeW (st : List Bool × List Int) (b : Int) : List Bool × List Int := bif st.1.getD b.toNat false then st else (st.1.set b.toNat true, st.2 ++ [b])
def walkF (rows : List (List Int)) : Nat → Nat → List Bool × List Int → List Bool × List Int
 | 0, _, st => st
 | k + 1, i, st => match st.2[i]? with
   | some a => walkF rows k (i + 1) ((rows.getD a.toNat []).foldl seeW st)
   | none => st
def wkInv (n : Nat) (st : List Bool × List Int) : Prop := st.1.length = n ∧ st.2.length ≤ st.1.count true ∧ ∀ x ∈ st.2, 0 ≤ x ∧ x < n
theorem seeW_inv {n : Nat} {st : List Bool × List Int} (h : wkInv n st) {b : Int} (hb : 0 ≤ b ∧ b < n) : wkInv n (seeW st b) := by
 unfold seeW
 obtain ⟨h1, h2, h3⟩ := h
 have hlt : b.toNat < st.1.length := by omega
 cases hs : st.1.getD b.toNat false with
 | true => exact ⟨h1, h2, h3⟩
 | false =>
   have hg : st.1[b.toNat] = false := by simpa [hlt] using hs
   refine ⟨by simpa using h1, ?_, fun x hx => ?_⟩
   ·simp only [cond_false, List.length_append, List.length_singleton]
    rw [List.count_set hlt, hg]
    simp
    omega
   ·rcases List.mem_append.1 hx with hx | hx
    ·exact h3 x hx
    ·rw [List.mem_singleton.1 hx]; exact hb
theorem foldW_inv {n : Nat} {l : List Int} : ∀ {st : List Bool × List Int}, wkInv n st → (∀ b ∈ l, 0 ≤ b ∧ b < n) → wkInv n (l.foldl seeW st) := by
 induction l with
 | nil => intro st h _; exact h
 | cons b r ih => intro st h hl; exact ih (seeW_inv h (hl b List.mem_cons_self)) fun c hc => hl c (List.mem_cons_of_mem _ hc)
theorem wkInv_len {n : Nat} {st : List Bool × List Int} (h : wkInv n st) : st.2.length ≤ n := by
 refine Nat.le_trans h.2.1 ?_
 rw [← h.1]
 exact List.count_le_length
def rowsIn (n : Nat) (rows : List (List Int)) : Prop := rows.length = n ∧ ∀ r ∈ rows, ∀ b ∈ r, 0 ≤ b ∧ b < n
def walkH (st : List Bool × List Int) : Heap := [(1000, .own 4 1 (st.1.map bv)), (2000, .own 3 1 (st.2.map (.int .i64)))]
theorem graph_walk (n : Nat) (hn : n ≤ 5000) (rows : List (List Int)) (hr : rowsIn n rows) (st : List Bool × List Int) (hs : wkInv n st) :
  SpecH Tryz.prog 211 [.p (eMat rows), .hd 1000 0 n, .hd 2000 0 st.2.length] (walkH st) (fun r H => r = .hd 2000 0 (walkF rows (n + 1) 0 st).2.length ∧ H = walkH (walkF rows (n + 1) 0 st)) := by
 refine SpecH.body I_graph_walk tabOK Tryz.func211 rfl Tryz.call211 (by show 3 ≤ _; decide) ?_
 conv => whnf
 skip
 refine LoopK.inv tabOK (fun x : Nat × List Bool × List Int => ⟨[(0, .p (eMat rows)), (1, .hd 1000 0 n), (2, .hd 2000 0 x.2.2.length), (7, .p (.int .i64 x.1))], walkH x.2⟩)
  (fun x => wkInv n x.2 ∧ x.1 ≤ x.2.2.length ∧ walkF rows (n + 1 - x.1) x.1 x.2 = walkF rows (n + 1) 0 st) (fun x => n - x.1) (0, st) (Le.of_eq rfl) ⟨hs, Nat.zero_le _, rfl⟩ ?_
 rintro ⟨i, seen, todo⟩ ⟨h1, h2, h3⟩
 simp only at h1 h2 h3 ⊢
 have hle := wkInv_len h1
 simp only at hle
 rw [show n + 1 - i = n - i + 1 by omega, walkF] at h3
 rcases Nat.lt_or_ge i todo.length with hi | hi
 rotate_left 1
 ·simp only [List.getElem?_eq_none hi] at h3
  conv => whnf
  repeat' (first | (intro (_ : _ ≤ 9223372036854775807); conv => whnf) | (refine Br.dec (fun _ => ?_) (fun _ => ?_) <;> first | (exfalso; omega) | conv => whnf))
  exact ⟨_, LSub.of_eq (by rw [← h3]), rfl, by rw [← h3]; rfl⟩
 simp only [List.getElem?_eq_getElem hi] at h3
 have hx := h1.2.2 _ (List.getElem_mem hi)
 have hxr : todo[i].toNat < rows.length := by rw [hr.1]; omega
 have hrow : ((avI rows).map AV.sl)[todo[i].toNat]? = some (.sl (rows[todo[i].toNat].map (.int .i64))) := by simp [avI, hxr]
 have hgd : rows.getD todo[i].toNat [] = rows[todo[i].toNat] := by simp [hxr]
 rw [hgd] at h3
 have hrin := hr.2 _ (List.getElem_mem hxr)
 conv => whnf
 repeat' (first | ((first | (intro (_ : _ ≤ 9223372036854775807)) | (refine And.intro rfl ?_) | (refine IdxL.mk i (by omega) (by omega) ?_) | (refine LdOwn.mk i 0 (.int .i64 todo[i]) (by omega) (by simp [hi]) ?_) | (refine IdxK.at (by omega) hrow rfl ?_)); conv => whnf) | (refine Br.dec (fun _ => ?_) (fun _ => ?_) <;> first | (exfalso; omega) | conv => whnf))
 have hrb : (rows[todo[i].toNat].map (AV.int .i64)).length ≤ 9223372036854775807 := by assumption
 generalize rows[todo[i].toNat] = row at hrin h3 hrb ⊢
 have hrl : (row.map (AV.int .i64)).length = row.length := List.length_map _
 refine LoopK.inv tabOK (fun x : Nat × List Bool × List Int => ⟨[(0, .p (eMat rows)), (1, .hd 1000 0 n), (2, .hd 2000 0 x.2.2.length), (7, .p (.int .i64 i)), (22, .p (.sl (row.map (.int .i64)))), (23, .p (.int .i64 (row.map (AV.int .i64)).length)), (24, .p (.int .i64 x.1))], walkH x.2⟩)
  (fun x => wkInv n x.2 ∧ todo.length ≤ x.2.2.length ∧ x.1 ≤ row.length ∧ walkF rows (n - i) (i + 1) ((row.drop x.1).foldl seeW x.2) = walkF rows (n + 1) 0 st) (fun x => row.length - x.1) (0, seen, todo) (Le.of_eq rfl) ⟨h1, Nat.le_refl _, Nat.zero_le _, h3⟩ ?_
 rintro ⟨q, s2, t2⟩ ⟨h4, h5, h6, h7⟩
 simp only at h4 h5 h6 h7 ⊢
 have hle2 := wkInv_len h4
 simp only at hle2
 rcases Nat.lt_or_ge q row.length with hq | hq
 rotate_left 1
 ·rw [List.drop_eq_nil_of_le hq] at h7
  conv => whnf
  repeat' (first | (refine Wr.i64 (by omega) (by omega) ?_; conv => whnf) | (refine Br.dec (fun _ => ?_) (fun _ => ?_) <;> first | (exfalso; omega) | conv => whnf))
  exact ⟨(i + 1, s2, t2), ⟨h4, by simp only; omega, by simp only; rw [show n + 1 - (i + 1) = n - i by omega]; exact h7⟩, by simp only; omega, Le.of_eq rfl⟩
 rw [List.drop_eq_getElem_cons hq, List.foldl_cons] at h7
 have hb := hrin _ (List.getElem_mem hq)
 have h8 := seeW_inv h4 hb
 have hbl : row[q].toNat < s2.length := by have := h4.1; simp only at this; omega
 cases hsb : s2.getD row[q].toNat false with
 | true =>
   have e1 : seeW (s2, t2) row[q] = (s2, t2) := by unfold seeW; simp only [hsb, cond_true]
   have e2 : (s2.map bv)[row[q].toNat]? = some .tt := by
    have : s2[row[q].toNat] = true := by simpa [hbl] using hsb
    simp [hbl, this, bv]
   rw [e1] at h7
   conv => whnf
   repeat' (first | ((first | (refine And.intro rfl ?_) | (refine IdxK.map (by omega) (fun _ => rfl) ?_) | (refine Wr.i64 (by omega) (by omega) ?_) | (refine IdxL.mk row[q].toNat (by omega) (by have := h4.1; simp only at this; omega) ?_) | (refine LdOwn.mk row[q].toNat 0 .tt (by omega) e2 ?_)); conv => whnf) | (refine Br.dec (fun _ => ?_) (fun _ => ?_) <;> first | (exfalso; omega) | conv => whnf))
   all_goals exact ⟨(q + 1, s2, t2), ⟨h4, h5, by simp only; omega, h7⟩, by simp only; omega, Le.of_eq rfl⟩
 | false =>
   have e1 : seeW (s2, t2) row[q] = (s2.set row[q].toNat true, t2 ++ [row[q]]) := by unfold seeW; simp only [hsb, cond_false]
   have e2 : (s2.map bv)[row[q].toNat]? = some .ff := by
    have : s2[row[q].toNat] = false := by simpa [hbl] using hsb
    simp [hbl, this, bv]
   rw [e1] at h7 h8
   conv => whnf
   repeat' (first | ((first | (refine And.intro rfl ?_) | (refine And.intro ⟨by decide, by decide⟩ ?_) | (refine BsK.pure (fun x hx => by rcases List.mem_singleton.1 hx with rfl; rfl) rfl ?_) | (refine IdxK.map (by omega) (fun _ => rfl) ?_) | (refine Wr.i64 (by omega) (by omega) ?_) | (refine IdxL.mk row[q].toNat (by omega) (by have := h4.1; simp only at this; omega) ?_) | (refine LdOwn.mk row[q].toNat 0 .ff (by omega) e2 ?_) | (refine StOwn.mk row[q].toNat 0 .ff .tt (by omega) e2 (Nat.le_refl 1) rfl ?_) | (refine AppK.int1 (by simp) (by simp; omega) ?_)); conv => whnf) | (refine Br.dec (fun _ => ?_) (fun _ => ?_) <;> first | (exfalso; omega) | conv => whnf))
   all_goals exact ⟨(q + 1, s2.set row[q].toNat true, t2 ++ [row[q]]), ⟨h8, by simp; omega, by simp only; omega, h7⟩, by simp only; omega, Le.of_eq (by simp only [walkH, List.length_append, List.map_append, List.map_set]; rfl)⟩
open Go.Proofs
def lstI : Nat → List Bool → List Int
 | _, [] => []
 | i, b :: r => bif b then (i : Int) :: lstI (i + 1) r else lstI (i + 1) r
theorem graph_listed (seen : List Bool) (hn : seen.length ≤ 1000000) :
  SpecH Tryz.prog 212 [.hd 1000 0 seen.length] [(1000, .own 4 1 (seen.map bv))] (fun r H => ∃ es, r = .p (.sl es) ∧ H = [(1000, .own 4 1 (seen.map bv))] ∧ es = (lstI 0 seen).map (.int .i64)) := by
 refine SpecH.frzret (e := 3) (sz := 1) rfl ?_
 refine SpecH.body I_graph_listed tabOK Tryz.func212 rfl Tryz.call212 (by show 1 ≤ _; decide) ?_
 conv => whnf
 repeat' (intro (_ : _ ≤ 9223372036854775807); conv => whnf)
 refine LoopK.inv tabOK (fun i : Nat × List Int => ⟨[(3, .hd 0 0 i.2.length), (6, .hd 1000 0 seen.length), (7, .p (.int .i64 seen.length)), (8, .p (.int .i64 i.1))], [(0, .own 3 1 (i.2.map (.int .i64))), (1000, .own 4 1 (seen.map bv))]⟩)
  (fun i => i.1 ≤ seen.length ∧ i.2.length ≤ i.1 ∧ i.2 ++ lstI i.1 (seen.drop i.1) = lstI 0 seen) (fun i => seen.length - i.1) (0, [])
  (Le.mk [(0, .own 3 1 [])] (by simp [Chunk.new0]; rfl) (by simp) (by simp) (.cons (.nil List.mem_cons_self) (.cons (.refl _) (.cons (.refl _) (.cons (.refl _) .nil)))) (.new List.mem_cons_self (.cons rfl (.refl _) .nil)))
  ⟨Nat.zero_le _, Nat.le_refl _, rfl⟩ ?_
 rintro ⟨m, acc⟩ ⟨h2, h3, h4⟩
 simp only at h2 h3 h4 ⊢
 rcases Nat.lt_or_ge m seen.length with hm | hm
 rotate_left 1
 ·rw [List.drop_eq_nil_of_le hm, lstI, List.append_nil] at h4
  subst h4
  conv => whnf
  repeat' (refine Br.dec (fun _ => ?_) (fun _ => ?_) <;> first | (exfalso; omega) | conv => whnf)
  exact ⟨_, LSub.refl _, (lstI 0 seen).map (.int .i64), by simp, rfl, rfl⟩
 rw [List.drop_eq_getElem_cons hm, lstI] at h4
 cases hsb : seen[m] with
 | true =>
   rw [hsb, cond_true] at h4
   have e2 : (seen.map bv)[m]? = some .tt := by simp [hm, hsb, bv]
   conv => whnf
   repeat' (first | ((first | (refine And.intro rfl ?_) | (refine And.intro ⟨by decide, by decide⟩ ?_) | (refine BsK.pure (fun x hx => by rcases List.mem_singleton.1 hx with rfl; rfl) rfl ?_) | (refine Wr.i64 (by omega) (by omega) ?_) | (refine IdxL.mk m rfl hm ?_) | (refine LdOwn.mk m 0 .tt (by omega) e2 ?_) | (refine AppK.int1 (by simp) (by simp; omega) ?_)); conv => whnf) | (refine Br.dec (fun _ => ?_) (fun _ => ?_) <;> first | (exfalso; omega) | conv => whnf))
   exact ⟨(m + 1, acc ++ [(m : Int)]), ⟨by simp only; omega, by simp; omega, by simpa using h4⟩, by simp only; omega, Le.of_eq (by simp only [List.length_append, List.map_append]; rfl)⟩
 | false =>
   rw [hsb, cond_false] at h4
   have e2 : (seen.map bv)[m]? = some .ff := by simp [hm, hsb, bv]
   conv => whnf
   repeat' (first | ((first | (refine And.intro rfl ?_) | (refine Wr.i64 (by omega) (by omega) ?_) | (refine IdxL.mk m rfl hm ?_) | (refine LdOwn.mk m 0 .ff (by omega) e2 ?_)); conv => whnf) | (refine Br.dec (fun _ => ?_) (fun _ => ?_) <;> first | (exfalso; omega) | conv => whnf))
   exact ⟨(m + 1, acc), ⟨by simp only; omega, by simp only; omega, h4⟩, by simp only; omega, Le.of_eq rfl⟩
theorem graph_Graph_has (g : List (List Int) × List (List Int)) (a : Int) : SpecP Tryz.prog 210 [eGraph g, .int .i64 a] (fun r => r = .bool (hasB g.1.length a)) := by
 refine SpecP.body I_graph_Graph_has tabOK Tryz.func210 rfl Tryz.call210 (by show 2 ≤ _; decide) ?_
 conv => whnf
 repeat' (first | (intro (_ : _ ≤ 9223372036854775807); conv => whnf) | (refine Br.dec (fun _ => ?_) (fun _ => ?_) <;> first | (exfalso; omega) | conv => whnf))
 all_goals have hl : ((avI g.1).map AV.sl).length = g.1.length := by simp [avI]
 all_goals first
  | exact RetK.bool (by unfold hasB; simp [*]; done)
  | exact RetK.ff (by unfold hasB; simp; omega)
 all_goals trace_state
def startW (n : Nat) (l : List Int) : List Bool × List Int := l.foldl (fun st a => bif hasB n a then seeW st a else st) (List.replicate n false, [])
def reachB (rows : List (List Int)) (l : List Int) : List Bool := (walkF rows (rows.length + 1) 0 (startW rows.length l)).1
theorem wkInv_start (n : Nat) : wkInv n (List.replicate n false, []) := ⟨by simp, by simp [List.count_replicate], by simp⟩
theorem walkF_inv {n : Nat} {rows : List (List Int)} (hr : rowsIn n rows) : ∀ (k i : Nat) {st : List Bool × List Int}, wkInv n st → wkInv n (walkF rows k i st)
 | 0, _, _, h => h
 | k + 1, i, st, h => by
   rw [walkF]
   split
   ·rename_i a ha
    have hx := h.2.2 a (List.mem_of_getElem? ha)
    refine walkF_inv hr k (i + 1) (foldW_inv h ?_)
    have hlt : a.toNat < rows.length := by rw [hr.1]; omega
    rw [List.getD_eq_getElem?_getD, List.getElem?_eq_getElem hlt]
    exact hr.2 _ (List.getElem_mem hlt)
   ·exact h
theorem hasB_iff {n : Nat} {a : Int} (h : hasB n a = true) : 0 ≤ a ∧ a < n := by
 unfold hasB at h
 simpa using h
theorem graph_Graph_Reach (n : Nat) (hn : n ≤ 5000) (g : List (List Int) × List (List Int)) (hg : rowsIn n g.1) (l : List Int) (hlen : l.length ≤ 1000000) : SpecP Tryz.prog 151 [eGraph g, eInts l] (fun r => r = eInts (lstI 0 (reachB g.1 l))) := by
 refine SpecP.body I_graph_Graph_Reach tabOK Tryz.func151 rfl Tryz.call151 (by show 2 ≤ _; decide) ?_
 conv => whnf
 have hl : ((avI g.1).map AV.sl).length = n := by simp [avI, hg.1]
 repeat' ((first | (intro (_ : _ ≤ 9223372036854775807)) | (refine And.intro ⟨rfl, rfl, by decide⟩ ?_) | (refine MkK.mk n (by rw [hl]) (by show 1 * n ≤ 140737488355328; omega) (by unfold maxLen; omega) ?_)); conv => whnf)
 have hll : (l.map (AV.int .i64)).length = l.length := List.length_map _
 refine LoopK.inv tabOK (fun x : Nat × List Bool × List Int => ⟨[(0, .p (eGraph g)), (5, .hd 0 0 n), (6, .hd 1 0 x.2.2.length), (17, .p (eInts l)), (18, .p (.int .i64 (l.map (AV.int .i64)).length)), (19, .p (.int .i64 x.1))], [(0, .own 4 1 (x.2.1.map bv)), (1, .own 3 1 (x.2.2.map (.int .i64)))]⟩)
  (fun x => x.1 ≤ l.length ∧ wkInv n x.2 ∧ (l.drop x.1).foldl (fun st a => bif hasB n a then seeW st a else st) x.2 = startW n l) (fun x => l.length - x.1) (0, List.replicate n false, [])
  (Le.mk [(1, .own 3 1 [])] (by simp [Chunk.new0]; rfl) (by simp) (by simp) (.cons (.refl _) (.cons (.refl _) (.cons (.nil List.mem_cons_self) (.cons (.refl _) (.cons (.refl _) (.cons (.refl _) .nil)))))) (.cons rfl (.of_eq (by rw [List.map_replicate]; rfl)) (.new List.mem_cons_self .nil)))
  ⟨Nat.zero_le _, wkInv_start n, rfl⟩ ?_
 rintro ⟨m, seen, todo⟩ ⟨h2, h3, h4⟩
 simp only at h2 h3 h4 ⊢
 have hsl : seen.length = n := h3.1
 have htl : todo.length ≤ n := wkInv_len h3
 rcases Nat.lt_or_ge m l.length with hm | hm
 rotate_left 1
 ·rw [List.drop_eq_nil_of_le hm, List.foldl_nil] at h4
  conv => whnf
  repeat' (first | (refine Br.dec (fun _ => ?_) (fun _ => ?_) <;> first | (exfalso; omega) | conv => whnf) | (refine CallK.heap [(1000, 0), (2000, 1)] 0 (by repeat' (first | exact ArgsH.nil | refine ArgsH.cons ?_ ?_ | exact LSub.refl _ | exact LSub.p Sub.nils | exact LSub.p (Sub.tt rfl) | exact LSub.p (Sub.ff rfl) | exact LSub.p (Sub.int (by omega)))) (by refine BlksH.cons (j := 0) rfl rfl ?_ ?_; exact CSub.refl _; refine BlksH.cons (j := 1) rfl rfl ?_ ?_; exact CSub.refl _; exact BlksH.nil) (graph_walk n hn g.1 hg (seen, todo) h3) rfl rfl ?_; rintro l' H' ⟨rfl, rfl⟩; conv => whnf))
  have hwl : (walkF g.1 (n + 1) 0 (seen, todo)).1.length = n := (walkF_inv hg _ _ h3).1
  refine CallK.heap [(1000, 0)] 0 (ArgsH.cons (LSub.of_eq (by rw [hwl]; rfl)) ArgsH.nil) (by refine BlksH.cons (j := 0) rfl rfl ?_ ?_; exact CSub.refl _; exact BlksH.nil) (graph_listed (walkF g.1 (n + 1) 0 (seen, todo)).1 (by omega)) rfl rfl ?_
  rintro l' H' ⟨es, rfl, rfl, rfl⟩
  conv => whnf
  skip
  exact RetK.p (by unfold eInts reachB; rw [hg.1, ← h4])
 rw [List.drop_eq_getElem_cons hm, List.foldl_cons] at h4
 have hhas : SpecP Tryz.prog 210 [eGraph g, .int .i64 l[m]] (fun r => r = .bool (hasB n l[m])) := by
  have := graph_Graph_has g l[m]
  rwa [hg.1] at this
 cases hsb : seen.getD l[m].toNat false with
 | true =>
   have e1 : (bif hasB n l[m] then seeW (seen, todo) l[m] else (seen, todo)) = (seen, todo) := by unfold seeW; simp only [hsb, cond_true]; cases hasB n l[m] <;> rfl
   have e2 : hasB n l[m] = true → (seen.map bv)[l[m].toNat]? = some .tt := fun h => by
    have hb := hasB_iff h
    have hlt : l[m].toNat < seen.length := by omega
    have : seen[l[m].toNat] = true := by simpa [hlt] using hsb
    simp [hlt, this, bv]
   rw [e1] at h4
   conv => whnf
   repeat' (first | ((first | (refine And.intro rfl ?_) | (refine IdxK.map (by omega) (fun _ => rfl) ?_) | (refine Wr.i64 (by omega) (by omega) ?_) | (refine CallK.pure hhas (.cons (Sub.refl _) (.cons (Sub.refl _) .nil)) ?_; rintro _ rfl) | (refine IdxL.mk l[m].toNat (by have := hasB_iff (by assumption); omega) (by have := hasB_iff (by assumption); omega) ?_) | (refine LdOwn.mk l[m].toNat 0 .tt (by omega) (e2 (by assumption)) ?_)); conv => whnf) | (refine Br.dec (fun _ => ?_) (fun _ => ?_) <;> first | (exfalso; omega) | conv => whnf) | (refine Br.b (fun _ => ?_) (fun _ => ?_) <;> conv => whnf))
   all_goals exact ⟨(m + 1, seen, todo), ⟨by simp only; omega, h3, h4⟩, by simp only; omega, Le.of_eq rfl⟩
 | false =>
   have e2 : hasB n l[m] = true → (seen.map bv)[l[m].toNat]? = some .ff := fun h => by
    have hb := hasB_iff h
    have hlt : l[m].toNat < seen.length := by omega
    have : seen[l[m].toNat] = false := by simpa [hlt] using hsb
    simp [hlt, this, bv]
   conv => whnf
   repeat' (first | ((first | (refine And.intro rfl ?_) | (refine And.intro ⟨by decide, by decide⟩ ?_) | (refine BsK.pure (fun x hx => by rcases List.mem_singleton.1 hx with rfl; rfl) rfl ?_) | (refine IdxK.map (by omega) (fun _ => rfl) ?_) | (refine Wr.i64 (by omega) (by omega) ?_) | (refine CallK.pure hhas (.cons (Sub.refl _) (.cons (Sub.refl _) .nil)) ?_; rintro _ rfl) | (refine IdxL.mk l[m].toNat (by have := hasB_iff (by assumption); omega) (by have := hasB_iff (by assumption); omega) ?_) | (refine LdOwn.mk l[m].toNat 0 .ff (by omega) (e2 (by assumption)) ?_) | (refine StOwn.mk l[m].toNat 0 .ff .tt (by omega) (e2 (by assumption)) (Nat.le_refl 1) rfl ?_) | (refine AppK.int1 (by simp) (by simp; omega) ?_)); conv => whnf) | (refine Br.dec (fun _ => ?_) (fun _ => ?_) <;> first | (exfalso; omega) | conv => whnf) | (refine Br.b (fun _ => ?_) (fun _ => ?_) <;> conv => whnf))
   ·have hh : hasB n l[m] = true := by assumption
    have e1 : (bif hasB n l[m] then seeW (seen, todo) l[m] else (seen, todo)) = (seen.set l[m].toNat true, todo ++ [l[m]]) := by unfold seeW; simp only [hsb, hh, cond_true, cond_false]
    have h8 := seeW_inv h3 (hasB_iff hh)
    rw [e1] at h4
    have e3 : seeW (seen, todo) l[m] = (seen.set l[m].toNat true, todo ++ [l[m]]) := by unfold seeW; simp only [hsb, cond_false]
    rw [e3] at h8
    exact ⟨(m + 1, seen.set l[m].toNat true, todo ++ [l[m]]), ⟨by simp only; omega, h8, h4⟩, by simp only; omega, Le.of_eq (by simp only [List.length_append, List.map_append, List.map_set]; rfl)⟩
   ·have hh : hasB n l[m] = false := by assumption
    have e1 : (bif hasB n l[m] then seeW (seen, todo) l[m] else (seen, todo)) = (seen, todo) := by rw [hh]; rfl
    rw [e1] at h4
    exact ⟨(m + 1, seen, todo), ⟨by simp only; omega, h3, h4⟩, by simp only; omega, Le.of_eq rfl⟩
open Go.Proofs
theorem way_Way_graph (w : Way) (f : Pr) (n : Nat) (hw : w.n = n) (hj : w.p.procs[w.j]? = some f) (hc : cntP w.p.procs ≤ 1000) (hn : n ≤ 5000) (l : List Step) (hlen : l.length ≤ 1000000) : SpecP Tryz.prog 150 [.ip w.cells, eSteps l] (fun r => r = eGraph (graphE n (l.map (ixP w.p w.j f w.n)))) := by
 refine SpecP.body I_way_Way_graph tabOK Tryz.func150 rfl Tryz.call150 (by show 2 ≤ _; decide) ?_
 conv => whnf
 repeat' ((first | (refine DrawK.auto tabOK mixed (by kernel_rfl) ?_) | (refine CallK.pure (way_Way_Pairs w f hj hc (by omega) l hlen) (.cons (Sub.refl _) (.cons (Sub.refl _) .nil)) ?_; rintro _ rfl) | (refine CallK.pure (graph_New n hn (l.map (ixP w.p w.j f w.n)) (by rw [List.length_map]; exact hlen)) (.cons (Sub.int hw) (.cons (Sub.refl _) .nil)) ?_; rintro _ rfl)); conv => whnf)
 exact RetK.p rfl
theorem way_graph_own (p : Pg) (j : Nat) (f : Pr) (n : Nat) (real : AV) (lv : List AV) (hj : p.procs[j]? = some f) (hc : cntP p.procs ≤ 1000) (hn : n ≤ 5000) (l : List Step) (hlen : l.length ≤ 1000000) :
  SpecH Tryz.prog 150 [.ptr 1000 0, .p (eSteps l)] (wayH p j n real lv) (fun r H => r = .p (eGraph (graphE n (l.map (ixP p j f n)))) ∧ H = wayH p j n real lv) := by
 refine SpecH.body I_way_Way_graph tabOK Tryz.func150 rfl Tryz.call150 (by show 2 ≤ _; decide) ?_
 conv => whnf
 refine DrawK.of tabOK mixed (.cons 0 false (.cons 1 false (.cons 2 false (.cons 4 false (.cons 5 false (.fork 3 (.cons 6 true (.cons 7 true (.cons 8 true .nil))) 6 (.cons 3 true (.cons 7 true (.cons 8 true .nil))))))))) (by kernel_rfl) ?_
 conv => whnf
 repeat' (first | (refine CallK.pure (graph_New n hn (l.map (ixP p j f n)) (by rw [List.length_map]; exact hlen)) (.cons (Sub.refl _) (.cons (Sub.refl _) .nil)) ?_; rintro _ rfl; conv => whnf) | (refine And.intro ?_ ?_ <;> conv => whnf) | (refine CallK.heap [(1000, 1000), (2000, 2000)] 0 (by repeat' (first | exact ArgsH.nil | refine ArgsH.cons ?_ ?_ | exact LSub.refl _ | exact LSub.p Sub.nils | exact LSub.p (Sub.tt rfl) | exact LSub.p (Sub.ff rfl) | exact LSub.p (Sub.int (by omega)))) (by refine BlksH.cons (j := 1000) rfl rfl ?_ ?_; exact CSub.refl _; refine BlksH.cons (j := 2000) rfl rfl ?_ ?_; exact CSub.refl _; exact BlksH.nil) (way_Pairs_own p j f n real lv hj hc (by omega) l hlen) rfl rfl ?_; rintro l' H' ⟨es, rfl, rfl, rfl⟩; conv => whnf))
 all_goals exact ⟨_, LSub.refl _, rfl, rfl⟩
theorem rowsIn_put {n : Nat} {N : List (List Int)} (h : rowsIn n N) {a : Nat} {b : Int} (hb : 0 ≤ b ∧ b < n) : rowsIn n (putR N a b) := by
 unfold putR
 refine ⟨by rw [List.length_set]; exact h.1, fun r hr x hx => ?_⟩
 rcases List.mem_or_eq_of_mem_set hr with hr | rfl
 ·exact h.2 r hr x hx
 ·unfold insI at hx
  have hg : ∀ y ∈ N.getD a [], 0 ≤ y ∧ y < n := fun y hy => by
   rcases Nat.lt_or_ge a N.length with ha | ha
   ·rw [List.getD_eq_getElem?_getD, List.getElem?_eq_getElem ha] at hy
    exact h.2 _ (List.getElem_mem ha) y hy
   ·rw [List.getD_eq_getElem?_getD, List.getElem?_eq_none ha] at hy
    cases hy
  rcases List.mem_append.1 hx with hx | hx
  ·exact hg x (List.mem_of_mem_take hx)
  ·rcases List.mem_cons.1 hx with rfl | hx
   ·exact hb
   ·exact hg x (List.mem_of_mem_drop hx)
theorem addE_in {n : Nat} {g : List (List Int) × List (List Int)} (h : rowsIn n g.1 ∧ rowsIn n g.2) (e : Int × Int) : rowsIn n (addE n g e).1 ∧ rowsIn n (addE n g e).2 := by
 rw [addE_1, addE_2]
 cases hc : hasB n e.1 && hasB n e.2 && !(g.1.getD e.1.toNat []).contains e.2
 ·exact h
 ·simp only [Bool.and_eq_true] at hc
  exact ⟨rowsIn_put h.1 (hasB_iff hc.1.2), rowsIn_put h.2 (hasB_iff hc.1.1)⟩
theorem foldE_in {n : Nat} (l : List (Int × Int)) : ∀ {g : List (List Int) × List (List Int)}, rowsIn n g.1 ∧ rowsIn n g.2 → rowsIn n (l.foldl (addE n) g).1 ∧ rowsIn n (l.foldl (addE n) g).2 := by
 induction l with
 | nil => intro g h; exact h
 | cons e r ih => intro g h; exact ih (addE_in h e)
theorem graphE_in (n : Nat) (l : List (Int × Int)) : rowsIn n (graphE n l).1 ∧ rowsIn n (graphE n l).2 := by
 have h0 : rowsIn n (List.replicate n []) := ⟨by simp, fun r hr => by rw [List.eq_of_mem_replicate hr]; simp⟩
 exact foldE_in l ⟨h0, h0⟩
theorem Wr.eq {n m : Int} {K : Int → Prop} (h : n = m) (h1 : -9223372036854775808 ≤ m) (h2 : m ≤ 9223372036854775807) (hK : K m) : Wr .i64 n K := by
 subst h
 exact Wr.i64 h1 h2 hK
theorem compFrom_len : ∀ (a : Step) (l : List Step), (compFrom a l).length ≤ l.length
 | _, [] => Nat.le_refl _
 | a, b :: r => by
   have := compFrom_len b r
   rw [compFrom]
   cases sameStep b a <;> simp <;> omega
theorem normS_len (l : List Step) : (normS l).length ≤ l.length := by
 unfold normS
 rw [← sortSt_len (l := l)]
 cases sortSt l with
 | nil => exact Nat.le_refl _
 | cons a r =>
   have := compFrom_len a r
   simp [compF]; omega
theorem goesI_len (sh : Sheet) (f : Pr) (it : Item) : (goesI sh f it).length ≤ 2 := by
 unfold goesI; split <;> (try split) <;> (try split) <;> (try split) <;> (try split) <;> (try split) <;> simp
theorem flatMap_len2 {α β : Type} {g : α → List β} (h : ∀ x, (g x).length ≤ 2) : ∀ l : List α, (l.flatMap g).length ≤ 2 * l.length
 | [] => by simp
 | a :: r => by
   have := flatMap_len2 h r
   have := h a
   rw [List.flatMap_cons, List.length_append, List.length_cons]
   omega
theorem stepsRaw_len (p : Pg) (j : Nat) (f : Pr) : (stepsRaw p j f).length ≤ 1 + 2 * cntL f.body := by
 unfold stepsRaw
 have := flatMap_len2 (g := fun it => (goesI (sheetOf p) f it).map (Step.mk it.s.id · 1)) (fun it => by rw [List.length_map]; exact goesI_len _ _ _) (itL j 0 (-1) 0 (offN p.procs j) f.body)
 rw [itL_len] at this
 rw [List.length_cons]
 omega
theorem lstI_mem : ∀ (i : Nat) (l : List Bool) (a : Int), a ∈ lstI i l → (i : Int) ≤ a ∧ a < i + l.length
 | _, [], _, h => by rw [lstI] at h; cases h
 | i, b :: r, a, h => by
   rw [lstI] at h
   have key : a ∈ lstI (i + 1) r → (i : Int) ≤ a ∧ a < i + (b :: r).length := fun h => by
    have := lstI_mem (i + 1) r a h
    simp only [List.length_cons]
    omega
   cases b with
   | false => exact key h
   | true =>
     rcases List.mem_cons.1 h with rfl | h
     ·simp only [List.length_cons]; omega
     ·exact key h
theorem startW_inv (n : Nat) (l : List Int) : wkInv n (startW n l) := by
 unfold startW
 have : ∀ (l : List Int) (st : List Bool × List Int), wkInv n st → wkInv n (l.foldl (fun st a => bif hasB n a then seeW st a else st) st) := fun l => by
  induction l with
  | nil => intro st h; exact h
  | cons a r ih =>
    intro st h
    refine ih _ ?_
    show wkInv n (bif hasB n a then seeW st a else st)
    cases hb : hasB n a with
    | true => exact seeW_inv h (hasB_iff hb)
    | false => exact h
 exact this l _ (wkInv_start n)
theorem reachB_len {n : Nat} {rows : List (List Int)} (h : rowsIn n rows) (l : List Int) : (reachB rows l).length = n := by
 unfold reachB
 rw [h.1]
 exact (walkF_inv h _ _ (startW_inv n l)).1
def setAll (l : List Int) (b : List Bool) : List Bool := l.foldl (fun b a => b.set a.toNat true) b
def newWay (p : Pg) (j : Nat) (f : Pr) : Way :=
 let real := normS (stepsRaw p j f)
 let n := cntL f.body + 2
 ⟨p, j, n, real, setAll (lstI 0 (reachB (graphE n (real.map (ixP p j f n))).1 [0])) (List.replicate n false)⟩
theorem way_New (p : Pg) (j : Nat) (f : Pr) (hj : p.procs[j]? = some f) (hc : cntP p.procs ≤ 1000) (hl : ∀ it ∈ itsOf p j f, it.s.kind = 7 → 1 ≤ it.loop ∧ it.loop ≤ (sheetOf p).l.length) (hok : ∀ s ∈ stepsRaw p j f, okSt s) : SpecP Tryz.prog 94 [.ip (sheetOf p).cells, .int .i64 j] (fun r => r = .ip (newWay p j f).cells) := by
 refine SpecP.body I_way_New tabOK Tryz.func94 rfl Tryz.call94 (by show 2 ≤ _; decide) ?_
 conv => whnf
 obtain ⟨_, _, _, hlen, hsp⟩ := sheet_spec p
 obtain ⟨hlo, hhi, hle, _⟩ := hsp j f hj
 repeat' ((first | (refine DrawK.auto tabOK mixed (by kernel_rfl) ?_) | (refine And.intro rfl ?_) | (refine And.intro ⟨rfl, rfl, by decide⟩ ?_) | (refine IdxK.at rfl (eInts_at hlo) rfl ?_) | (refine IdxK.at rfl (eInts_at hhi) rfl ?_) | (refine CallK.pure (flat_Sheet_Steps p j f hj hc hl hok) (.cons (Sub.refl _) (.cons (Sub.refl _) .nil)) ?_; rintro _ rfl) | (refine Wr.eq (m := cntL f.body) (by omega) (by omega) (by omega) ?_) | (refine Wr.eq (m := (cntL f.body+2 : Nat)) (by omega) (by omega) (by omega) ?_) | (refine MkK.mk (cntL f.body+2) rfl (by show 1 * _ ≤ 140737488355328; omega) (by unfold maxLen; omega) ?_)); conv => whnf)
 have hrl : (normS (stepsRaw p j f)).length ≤ 1000000 := by have := normS_len (stepsRaw p j f); have := stepsRaw_len p j f; omega
 refine CallK.heap [(1000, 0), (2000, 1)] 0 (by repeat' (first | exact ArgsH.nil | refine ArgsH.cons ?_ ?_ | exact LSub.refl _ | exact LSub.p Sub.nils | exact LSub.p (Sub.tt rfl) | exact LSub.p (Sub.ff rfl) | exact LSub.p (Sub.int (by omega)))) (BlksH.cons (j := 0) rfl rfl (CSub.of_eq (by rw [List.length_replicate]; rfl)) (BlksH.cons (j := 1) rfl rfl (CSub.refl _) BlksH.nil)) (way_graph_own p j f (cntL f.body + 2) (eSteps (normS (stepsRaw p j f))) (List.replicate (cntL f.body + 2) .ff) hj hc (by omega) (normS (stepsRaw p j f)) hrl) rfl rfl ?_
 rintro l' H' ⟨rfl, rfl⟩
 conv => whnf
 obtain ⟨hgi, _⟩ := graphE_in (cntL f.body + 2) ((normS (stepsRaw p j f)).map (ixP p j f (cntL f.body + 2 : Nat)))
 repeat' ((first | (intro (_ : _ ≤ 9223372036854775807)) | (refine And.intro rfl ?_) | (refine And.intro ⟨by decide, by decide⟩ ?_) | (refine BsK.pure (fun x hx => by rcases List.mem_singleton.1 hx with rfl; rfl) rfl ?_) | (refine CallK.pure (graph_Graph_Reach (cntL f.body+2) (by omega) _ hgi [0] (by simp)) (.cons (Sub.refl _) (.cons (Sub.refl _) .nil)) ?_; rintro _ rfl)); conv => whnf)
 have hlm : ∀ a ∈ lstI 0 (reachB (graphE (cntL f.body + 2) ((normS (stepsRaw p j f)).map (ixP p j f (cntL f.body + 2 : Nat)))).1 [0]), 0 ≤ a ∧ a < (cntL f.body + 2 : Nat) := fun a ha => by
  have := lstI_mem _ _ _ ha
  rw [reachB_len hgi] at this
  omega
 have hnw : newWay p j f = ⟨p, j, (cntL f.body + 2 : Nat), normS (stepsRaw p j f), setAll (lstI 0 (reachB (graphE (cntL f.body + 2) ((normS (stepsRaw p j f)).map (ixP p j f (cntL f.body + 2 : Nat)))).1 [0])) (List.replicate (cntL f.body + 2) false)⟩ := rfl
 rw [hnw]
 have hlb : ((lstI 0 (reachB (graphE (cntL f.body + 2) ((normS (stepsRaw p j f)).map (ixP p j f (cntL f.body + 2 : Nat)))).1 [0])).map (AV.int .i64)).length ≤ 9223372036854775807 := by assumption
 generalize lstI 0 (reachB (graphE (cntL f.body + 2) ((normS (stepsRaw p j f)).map (ixP p j f (cntL f.body + 2 : Nat)))).1 [0]) = lst at hlm hlb ⊢
 have hll : (lst.map (AV.int .i64)).length = lst.length := List.length_map _
 refine LoopK.inv tabOK (fun x : Nat × List Bool => ⟨[(5, .ptr 0 0), (46, .p (eInts lst)), (47, .p (.int .i64 (lst.map (AV.int .i64)).length)), (48, .p (.int .i64 x.1))], [(0, .obj 114 [.p (.ip (sheetOf p).cells), .p (.int .i64 j), .p (.int .i64 (cntL f.body + 2 : Nat)), .p (eSteps (normS (stepsRaw p j f))), .hd 1 0 (cntL f.body + 2)]), (1, .own 4 1 (x.2.map bv))]⟩)
  (fun x => x.1 ≤ lst.length ∧ x.2.length = cntL f.body + 2 ∧ setAll (lst.drop x.1) x.2 = setAll lst (List.replicate (cntL f.body + 2) false)) (fun x => lst.length - x.1) (0, List.replicate (cntL f.body + 2) false)
  (Le.of_eq (by simp only [List.map_replicate, List.length_replicate]; rfl)) ⟨Nat.zero_le _, by simp, rfl⟩ ?_
 rintro ⟨m, b⟩ ⟨h2, h3, h4⟩
 simp only at h2 h3 h4 ⊢
 rcases Nat.lt_or_ge m lst.length with hm | hm
 rotate_left 1
 ·rw [List.drop_eq_nil_of_le hm] at h4
  rw [← h4]
  conv => whnf
  repeat' (refine Br.dec (fun _ => ?_) (fun _ => ?_) <;> first | (exfalso; omega) | conv => whnf)
  exact ⟨_, .ptr (cs := [.ip (sheetOf p).cells, .int .i64 j, .int .i64 (cntL f.body + 2 : Nat), eSteps (normS (stepsRaw p j f)), .sl (b.map bv)]) rfl rfl (fun i x c h5 h6 => by
   match i, h5, h6 with
   | 0, h5, h6 => cases h5; cases h6; exact .p (Sub.refl _)
   | 1, h5, h6 => cases h5; cases h6; exact .p (Sub.refl _)
   | 2, h5, h6 => cases h5; cases h6; exact .p (Sub.refl _)
   | 3, h5, h6 => cases h5; cases h6; exact .p (Sub.refl _)
   | 4, h5, h6 => cases h5; cases h6; exact .hd rfl (by rw [List.length_map, h3])), rfl⟩
 rw [List.drop_eq_getElem_cons hm] at h4
 have ha := hlm _ (List.getElem_mem hm)
 have hal : lst[m].toNat < b.length := by omega
 have hbe : (b.map bv)[lst[m].toNat]? = some (bv b[lst[m].toNat]) := by simp [hal]
 conv => whnf
 repeat' (first | ((first | (refine And.intro rfl ?_) | (refine IdxK.map (by omega) (fun _ => rfl) ?_) | (refine Wr.i64 (by omega) (by omega) ?_) | (refine IdxL.mk lst[m].toNat (by omega) (by omega) ?_) | (refine StOwn.mk lst[m].toNat 0 (bv b[lst[m].toNat]) .tt (by omega) hbe (Nat.le_refl 1) (by cases b[lst[m].toNat] <;> rfl) ?_)); conv => whnf) | (refine Br.dec (fun _ => ?_) (fun _ => ?_) <;> first | (exfalso; omega) | conv => whnf))
 exact ⟨(m + 1, b.set lst[m].toNat true), ⟨by simp only; omega, by simp only [List.length_set]; exact h3, h4⟩, by simp only; omega, Le.of_eq (by simp only [List.map_set]; rfl)⟩
open Go.Proofs
theorem chk_parts {p : Pg} (h : chkB p = true) : mayB p = true ∧ (scopeB p).1 = 0 ∧ (arityB p).1 = 0 ∧ (jumpB p).1 = 0 ∧ (aliasB p).1 = 0 := by
 unfold chkB allB at h
 simp only [decide_eq_true_eq] at h
 by_cases h1 : mayB p = false
 ·rw [if_pos h1] at h; cases h
 rw [if_neg h1] at h
 by_cases h2 : (scopeB p).1 = 0
 ·rw [if_neg (by omega)] at h
  by_cases h3 : (arityB p).1 = 0
  ·rw [if_neg (by omega)] at h
   by_cases h4 : (jumpB p).1 = 0
   ·rw [if_neg (by omega)] at h
    exact ⟨by simpa using h1, h2, h3, h4, h⟩
   ·rw [if_pos h4] at h; exact absurd h h4
  ·rw [if_pos h3] at h; exact absurd h h3
 ·rw [if_pos h2] at h; exact absurd h h2
theorem jumpR_leads {f : Pr} : ∀ (l : List Item) (seen : List Str) {s : List Str}, jumpR f l seen = .ok s → ∀ it ∈ l, leadsB f it = true
 | [], _, _, _, it, h => by cases h
 | a :: r, seen, s, h, it, hi => by
   rw [jumpR] at h
   cases hj : joinO seen a.s.labels with
   | none => rw [hj] at h; cases h
   | some s1 =>
     rw [hj] at h
     simp only at h
     cases hl : leadsB f a with
     | false => rw [hl] at h; cases h
     | true =>
       rw [hl, cond_true] at h
       rcases List.mem_cons.1 hi with rfl | hi
       ·exact hl
       ·exact jumpR_leads r s1 h it hi
theorem jump_leads_all {p : Pg} (hs : (scopeB p).1 = 0) (h : (jumpB p).1 = 0) {j : Nat} {f : Pr} (hj : p.procs[j]? = some f) : ∀ it ∈ itsOf p j f, leadsB f it = true := by
 unfold jumpB at h
 rw [if_neg (by omega)] at h
 have hn : (List.range p.procs.length).findSome? (jumpAt p) = none := by
  cases hq : (List.range p.procs.length).findSome? (jumpAt p) with
  | none => rfl
  | some a => rw [hq] at h; cases h
 rw [List.findSome?_eq_none_iff] at hn
 have hlt : j < p.procs.length := (List.getElem?_eq_some_iff.1 hj).1
 have := hn j (List.mem_range.2 hlt)
 unfold jumpAt at this
 rw [hj] at this
 simp only at this
 cases hr : jumpR f (itL (j : Nat) 0 (-1) 0 (offN p.procs j) f.body) [] with
 | error id => rw [hr] at this; cases this
 | ok seen => exact jumpR_leads _ _ hr
mutual
theorem flS_head : ∀ (t u v : S), u ∈ flS t → v ∈ u.thn ∨ v ∈ u.els → v ∈ flS t
 | .mk id kind labels name proc x has args thn els, u, v, h, hv => by
   rw [flS] at h ⊢
   rcases List.mem_cons.1 h with rfl | h
   ·refine List.mem_cons_of_mem _ (List.mem_append.2 ?_)
    rcases hv with hv | hv
    ·exact .inl (flL_self thn v hv)
    ·exact .inr (flL_self els v hv)
   ·rcases List.mem_append.1 h with h | h
    ·exact List.mem_cons_of_mem _ (List.mem_append.2 (.inl (flL_head thn u v h hv)))
    ·exact List.mem_cons_of_mem _ (List.mem_append.2 (.inr (flL_head els u v h hv)))
theorem flL_head : ∀ (l : List S) (u v : S), u ∈ flL l → v ∈ u.thn ∨ v ∈ u.els → v ∈ flL l
 | [], u, v, h, hv => by rw [flL] at h; cases h
 | t :: r, u, v, h, hv => by
   rw [flL] at h ⊢
   rcases List.mem_append.1 h with h | h
   ·exact List.mem_append.2 (.inl (flS_head t u v h hv))
   ·exact List.mem_append.2 (.inr (flL_head r u v h hv))
end
theorem its_s {p : Pg} {j : Nat} {f : Pr} {it : Item} (h : it ∈ itsOf p j f) : it.s ∈ flL f.body := by
 unfold itsOf at h
 rw [← itL_s (j : Nat) 0 (-1) 0 (offN p.procs j) f.body]
 exact List.mem_map.2 ⟨it, h, rfl⟩
theorem body_id {p : Pg} (hm : mayB p = true) {j : Nat} {f : Pr} (hj : p.procs[j]? = some f) {t : S} (h : t ∈ flL f.body) : (offN p.procs j : Int) + 1 ≤ t.id ∧ t.id ≤ (offN p.procs j + cntL f.body : Nat) := by
 have h1 := may_ids hm hj
 have h2 : t.id ∈ idsN (offN p.procs j) (cntL f.body) := by
  rw [← h1]
  exact List.mem_map.2 ⟨t, h, rfl⟩
 have := idsN_mem h2
 omega
theorem its_rng {p : Pg} {j : Nat} {f : Pr} {it : Item} (h : it ∈ itsOf p j f) : okI (offN p.procs j) (offN p.procs j + cntL f.body) it.next ∧ (it.loop = 0 ∨ ((offN p.procs j : Int) + 1 ≤ it.loop ∧ it.loop ≤ (offN p.procs j + cntL f.body : Nat))) :=
 itL_rng (j : Nat) _ _ f.body 0 (-1) 0 _ it h (.inl rfl) (.inl rfl) (Nat.le_refl _) (Nat.le_refl _)
theorem sheet_its {p : Pg} {j : Nat} {f : Pr} (hj : p.procs[j]? = some f) {k : Nat} (h1 : offN p.procs j ≤ k) (h2 : k < offN p.procs j + cntL f.body) : ∃ it, (sheetOf p).l[k]? = some it ∧ it ∈ itsOf p j f := by
 obtain ⟨_, _, _, hlen, hsp⟩ := sheet_spec p
 obtain ⟨_, _, hle, hd⟩ := hsp j f hj
 have hk : k < (sheetOf p).l.length := by omega
 refine ⟨(sheetOf p).l[k], List.getElem?_eq_getElem hk, ?_⟩
 unfold itsOf
 rw [← hd]
 refine List.mem_iff_getElem?.2 ⟨k - offN p.procs j, ?_⟩
 rw [List.getElem?_drop, List.getElem?_take, if_pos (by omega), show offN p.procs j + (k - offN p.procs j) = k by omega, List.getElem?_eq_getElem hk]
theorem goes_ok {p : Pg} (hm : mayB p = true) {j : Nat} {f : Pr} (hj : p.procs[j]? = some f) {it : Item} (h : it ∈ itsOf p j f) (hl : leadsB f it = true) : ∀ x ∈ goesI (sheetOf p) f it, okI (offN p.procs j) (offN p.procs j + cntL f.body) x := by
 obtain ⟨hnx, hlo⟩ := its_rng h
 have hs := its_s h
 have hid := body_id hm hj hs
 have hhead : ∀ (l : List S) (o : Int), (∀ v ∈ l, v ∈ it.s.thn ∨ v ∈ it.s.els) → okI (offN p.procs j) (offN p.procs j + cntL f.body) o → okI (offN p.procs j) (offN p.procs j + cntL f.body) (headI l o) := fun l o hv ho => by
  cases l with
  | nil => exact ho
  | cons v r => exact .inr (body_id hm hj (flL_head f.body it.s v hs (hv v List.mem_cons_self)))
 have hloop : it.s.kind = 7 ∨ it.s.kind = 8 → (offN p.procs j : Int) + 1 ≤ it.loop ∧ it.loop ≤ (offN p.procs j + cntL f.body : Nat) := fun hk => by
  unfold leadsB at hl
  rw [if_pos hk] at hl
  rcases hlo with h0 | h0
  ·rw [h0] at hl; cases hl
  ·exact h0
 intro x hx
 unfold goesI at hx
 split at hx
 ·simp only [List.mem_cons, List.not_mem_nil, or_false] at hx
  rcases hx with rfl | rfl
  ·exact hhead _ _ (fun v hv => .inl hv) hnx
  ·exact hhead _ _ (fun v hv => .inr hv) hnx
 split at hx
 ·simp only [List.mem_cons, List.not_mem_nil, or_false] at hx
  rcases hx with rfl | rfl
  ·exact hhead _ _ (fun v hv => .inl hv) (.inr hid)
  ·exact hnx
 split at hx
 ·rename_i hk
  have hlp := hloop (.inl hk)
  obtain ⟨u, hu1, hu2⟩ := sheet_its hj (k := (it.loop - 1).toNat) (by omega) (by omega)
  rw [hu1] at hx
  rw [List.mem_singleton.1 hx]
  exact (its_rng hu2).1
 split at hx
 ·rename_i hk
  rw [List.mem_singleton.1 hx]
  exact .inr (hloop (.inr hk))
 split at hx
 ·rw [List.mem_singleton.1 hx]
  exact .inl rfl
 split at hx
 ·rename_i h7 h8 _ hk
  rw [List.mem_singleton.1 hx]
  unfold leadsB at hl
  rw [if_neg (by omega), if_pos hk] at hl
  unfold atB at hl ⊢
  split
  ·rename_i t ht
   exact .inr (body_id hm hj (List.mem_of_find?_eq_some ht))
  ·rename_i hn
   rw [hn] at hl
   simp only at hl
   cases hfin : f.fin.any fun s => it.s.name == s with
   | true => exact .inl rfl
   | false => rw [hfin] at hl; cases hl
 ·rw [List.mem_singleton.1 hx]
  exact hnx
theorem chk_way {p : Pg} (h : chkB p = true) {j : Nat} {f : Pr} (hj : p.procs[j]? = some f) : (∀ it ∈ itsOf p j f, it.s.kind = 7 → 1 ≤ it.loop ∧ it.loop ≤ (sheetOf p).l.length) ∧
  (∀ s ∈ stepsRaw p j f, (s.src = 0 ∨ ((offN p.procs j : Int) + 1 ≤ s.src ∧ s.src ≤ (offN p.procs j + cntL f.body : Nat))) ∧ okI (offN p.procs j) (offN p.procs j + cntL f.body) s.dst) ∧ ∀ s ∈ stepsRaw p j f, okSt s := by
 obtain ⟨hm, hs, _, hjm, _⟩ := chk_parts h
 have hld := jump_leads_all hs hjm hj
 obtain ⟨_, _, _, hlen, hsp⟩ := sheet_spec p
 obtain ⟨_, _, hle, _⟩ := hsp j f hj
 obtain ⟨_, _, hcn⟩ := mayB_cnt hm
 have key : ∀ s ∈ stepsRaw p j f, (s.src = 0 ∨ ((offN p.procs j : Int) + 1 ≤ s.src ∧ s.src ≤ (offN p.procs j + cntL f.body : Nat))) ∧ okI (offN p.procs j) (offN p.procs j + cntL f.body) s.dst := fun s hx => by
  unfold stepsRaw at hx
  rcases List.mem_cons.1 hx with rfl | hx
  ·refine ⟨.inl rfl, ?_⟩
   show okI _ _ (if offN p.procs j < offN p.procs j + cntL f.body then ((offN p.procs j : Nat) + 1 : Int) else -1)
   split
   ·exact .inr ⟨by omega, by omega⟩
   ·exact .inl rfl
  ·obtain ⟨it, hit, hz⟩ := List.mem_flatMap.1 hx
   obtain ⟨y, hy, rfl⟩ := List.mem_map.1 hz
   exact ⟨.inr (body_id hm hj (its_s hit)), goes_ok hm hj hit (hld it hit) y hy⟩
 refine ⟨fun it hit hk => ?_, key, fun s hx => ?_⟩
 ·have hl := hld it hit
  unfold leadsB at hl
  rw [if_pos (.inl hk)] at hl
  rcases (its_rng hit).2 with h0 | h0
  ·rw [h0] at hl; cases hl
  ·omega
 ·obtain ⟨h1, h2⟩ := key s hx
  unfold okSt okI at *
  omega
open Go.Proofs
def wayO (p : Pg) (n : Str) : Option Way := bif chkB p then (match p.procs.find? (fun f => f.name == n) with
 | some f => some (newWay p (p.procs.findIdx fun f => f.name == n) f)
 | none => none) else none
def eWay : Option Way → AV
 | some w => .ip w.cells
 | none => .nilp
theorem chk_cnt {p : Pg} (h : chkB p = true) : p.globals.length ≤ 16 ∧ p.procs.length ≤ 16 ∧ cntP p.procs ≤ 200 := mayB_cnt (chk_parts h).1
theorem idxF_no' {p : Pg} {n : Str} (h : ¬ n ∈ procsN p) : idxF (fun f => f.name == n) p.procs = -1 ∧ p.procs.find? (fun f => f.name == n) = none := by
 have h1 : p.procs.any (fun f => f.name == n) = false := by
  rw [List.any_eq_false]
  intro f hf hn
  exact h (List.mem_map.2 ⟨f, hf, by simpa using hn⟩)
 refine ⟨by unfold idxF; rw [h1]; rfl, ?_⟩
 rw [List.find?_eq_none]
 intro f hf
 have := List.any_eq_false.1 h1 f hf
 simpa using this
theorem idx_nat {p : Pg} {n : Str} (h : n ∈ procsN p) : ∃ (k : Nat) (hk : k < p.procs.length), idxF (fun f => f.name == n) p.procs = k ∧ p.procs.findIdx (fun f => f.name == n) = k ∧ p.procs.find? (fun f => f.name == n) = some p.procs[k] ∧ p.procs[k].name = n := by
 obtain ⟨k, hk, h1, h2, h3⟩ := proc_idx h
 refine ⟨k, hk, h1, ?_, h2, h3⟩
 unfold idxF at h1
 cases ha : p.procs.any (fun f => f.name == n) with
 | true => rw [ha, cond_true] at h1; omega
 | false => rw [ha, cond_false] at h1; omega
theorem way_Of (p : Pg) (hf : Fit p) (n : Str) : SpecP Tryz.prog 88 [.agg p.cells, .str n] (fun r => r = eWay (wayO p n)) := by
 refine SpecP.body I_way_Of tabOK Tryz.func88 rfl Tryz.call88 (by show 2 ≤ _; decide) ?_
 conv => whnf
 cases hc : chkB p with
 | false =>
   have e : wayO p n = none := by unfold wayO; rw [hc]; rfl
   have hA : ¬ (allB p).1 = 0 := by unfold chkB at hc; simpa using hc
   rw [e]
   repeat' (first | (refine CallK.pure (check_May p hf) (by repeat' (first | exact ArgP.nil | refine ArgP.cons ?_ ?_ | exact Sub.refl _ | exact Sub.tt rfl | exact Sub.ff rfl | exact Sub.int (by omega))) ?_; rintro _ rfl; conv => whnf) | (refine Br.dec2 (fun _ => ?_) (fun _ => ?_) <;> first | (exfalso; omega) | conv => whnf))
   all_goals first
    | exact RetK.p rfl
    | (exfalso; exact hA (by assumption))
 | true =>
   obtain ⟨hg, hpl, hcn⟩ := chk_cnt hc
   have hA : (allB p).1 = 0 := by unfold chkB at hc; simpa using hc
   have hsp : (sheetOf p).p.procs = p.procs := by rw [(sheet_spec p).1]
   by_cases hn : n ∈ procsN p
   ·obtain ⟨k, hk, h1, h2, h3, h4⟩ := idx_nat hn
    have e : wayO p n = some (newWay p k p.procs[k]) := by unfold wayO; rw [hc, h3, h2]; rfl
    have hkj : p.procs[k]? = some p.procs[k] := by simp
    obtain ⟨w1, _, w3⟩ := chk_way hc hkj
    rw [e]
    repeat' (first | ((first | (refine CallK.pure (check_May p hf) (by repeat' (first | exact ArgP.nil | refine ArgP.cons ?_ ?_ | exact Sub.refl _ | exact Sub.tt rfl | exact Sub.ff rfl | exact Sub.int (by omega))) ?_; rintro _ rfl) | (refine CallK.pure (flat_Sheet_Proc _ _) (by repeat' (first | exact ArgP.nil | refine ArgP.cons ?_ ?_ | exact Sub.refl _ | exact Sub.tt rfl | exact Sub.ff rfl)) ?_; rintro _ rfl) | (refine CallK.pure (flat_New p (by omega) (by omega)) (.cons (Sub.refl _) .nil) ?_; rintro _ rfl) | (refine CallK.pure (way_New p k p.procs[k] hkj (by omega) w1 w3) (.cons (Sub.refl _) (.cons (Sub.int h1) .nil)) ?_; rintro _ rfl)); conv => whnf) | (refine Br.dec (fun _ => ?_) (fun _ => ?_) <;> first | (exfalso; omega) | conv => whnf) | (refine Br.dec2 (fun _ => ?_) (fun _ => ?_) <;> first | (exfalso; omega) | conv => whnf))
    all_goals rw [hsp] at *
    all_goals first
     | exact RetK.p rfl
     | (exfalso; omega)
   ·obtain ⟨h1, h2⟩ := idxF_no' hn
    have e : wayO p n = none := by unfold wayO; rw [hc, h2]; rfl
    rw [e]
    repeat' (first | ((first | (refine CallK.pure (check_May p hf) (by repeat' (first | exact ArgP.nil | refine ArgP.cons ?_ ?_ | exact Sub.refl _ | exact Sub.tt rfl | exact Sub.ff rfl | exact Sub.int (by omega))) ?_; rintro _ rfl) | (refine CallK.pure (flat_Sheet_Proc _ _) (by repeat' (first | exact ArgP.nil | refine ArgP.cons ?_ ?_ | exact Sub.refl _ | exact Sub.tt rfl | exact Sub.ff rfl)) ?_; rintro _ rfl) | (refine CallK.pure (flat_New p (by omega) (by omega)) (.cons (Sub.refl _) .nil) ?_; rintro _ rfl)); conv => whnf) | (refine Br.dec (fun _ => ?_) (fun _ => ?_) <;> first | (exfalso; omega) | conv => whnf) | (refine Br.dec2 (fun _ => ?_) (fun _ => ?_) <;> first | (exfalso; omega) | conv => whnf))
    all_goals rw [hsp] at *
    all_goals first
     | exact RetK.p rfl
     | (exfalso; omega)
theorem wayO_some {p : Pg} {n : Str} {w : Way} (h : wayO p n = some w) : ∃ (k : Nat) (f : Pr), p.procs[k]? = some f ∧ w = newWay p k f ∧ chkB p = true ∧ f.name = n ∧ p.procs.find? (fun f => f.name == n) = some f := by
 unfold wayO at h
 cases hc : chkB p with
 | false => rw [hc] at h; cases h
 | true =>
   rw [hc, cond_true] at h
   by_cases hn : n ∈ procsN p
   ·obtain ⟨k, hk, h1, h2, h3, h4⟩ := idx_nat hn
    rw [h3, h2] at h
    cases h
    exact ⟨k, p.procs[k], by simp, rfl, rfl, h4, h3⟩
   ·rw [(idxF_no' hn).2] at h
    cases h
def fstI (p : Pg) (k : Nat) (f : Pr) : Int := if offN p.procs k < offN p.procs k + cntL f.body then ((offN p.procs k : Nat) + 1 : Int) else -1
def ofR (p : Pg) (n : Str) : List Step := match wayO p n with
 | some w => w.real
 | none => []
theorem cfg_Of (p : Pg) (hf : Fit p) (n : Str) : SpecP Tryz.prog 23 [.agg p.cells, .str n] (fun r => r = eSteps (ofR p n)) := by
 refine SpecP.body I_cfg_Of tabOK Tryz.func23 rfl Tryz.call23 (by show 2 ≤ _; decide) ?_
 conv => whnf
 have hW := way_Of p hf n
 unfold ofR
 cases hw : wayO p n with
 | none =>
   rw [hw] at hW
   repeat' (refine CallK.pure hW (.cons (Sub.refl _) (.cons (Sub.refl _) .nil)) ?_; rintro _ rfl; conv => whnf)
   exact ⟨_, .p Sub.nils, rfl⟩
 | some w =>
   rw [hw] at hW
   repeat' (refine CallK.pure hW (.cons (Sub.refl _) (.cons (Sub.refl _) .nil)) ?_; rintro _ rfl; conv => whnf)
   exact RetK.p rfl
open Go.Proofs
def placeI (p : Pg) (j : Nat) (n i : Int) : Int := if i = 0 then 0 else if i = n - 1 then -1 else loI p j + i - 1
theorem way_Way_Place (w : Way) (f : Pr) (hj : w.p.procs[w.j]? = some f) (hc : cntP w.p.procs ≤ 1000) (hn : 0 ≤ w.n ∧ w.n ≤ 5000) (i : Int) (hi : 0 ≤ i ∧ i ≤ 5000) : SpecP Tryz.prog 91 [.ip w.cells, .int .i64 i] (fun r => r = .int .i64 (placeI w.p w.j w.n i)) := by
 refine SpecP.body I_way_Way_Place tabOK Tryz.func91 rfl Tryz.call91 (by show 2 ≤ _; decide) ?_
 conv => whnf
 obtain ⟨_, _, _, hlen, hsp⟩ := sheet_spec w.p
 obtain ⟨hlo, hhi, hle, _⟩ := hsp w.j f hj
 repeat' (first | ((first | (refine DrawK.auto tabOK mixed (by kernel_rfl) ?_) | (refine Wr.i64 (by omega) (by omega) ?_) | (refine IdxK.at rfl (eInts_at hlo) rfl ?_)); conv => whnf) | (refine Br.dec (fun _ => ?_) (fun _ => ?_) <;> first | (exfalso; omega) | conv => whnf))
 all_goals exact RetK.int (by unfold placeI loI; (repeat' split) <;> omega)
open Go.Proofs
theorem DrawK.le {P : Program} {T : Tab} {N : Nat} {ops : Array Oper} {info : Info} {id : Nat} {K : St → Prop} {s s' : St} (hle : Le N s s') (h : DrawK P T N info id ops K s') : DrawK P T N info id ops K s := by
 refine ⟨⟨fun σ β a w hr => ?_⟩⟩
 obtain ⟨σ1, β1, hr1, hl1⟩ := hle σ β a w hr
 refine Code.wp_mono (fun e a' w' hk => ?_) (h.ok.ok σ1 β1 a w hr1)
 obtain ⟨σ', β', s2, hk, hr', hl⟩ := hk
 exact ⟨σ', β', s2, hk, hr', hl1.trans hl⟩
def stAt (p : Pg) (id : Int) : Option S := ((sheetOf p).l[(id - 1).toNat]?).map Item.s
open Go.Proofs
open Go.Proofs
def ltSt (a b : Step) : Prop := rankI a.src < rankI b.src ∨ (rankI a.src = rankI b.src ∧ rankI a.dst < rankI b.dst)
def okS1 (s : Step) : Prop := okSt s ∧ s.kind = 1
theorem Step.eq_of {a b : Step} (h1 : a.src = b.src) (h2 : a.dst = b.dst) (h3 : a.kind = b.kind) : a = b := by
 cases a; cases b; simp_all
theorem stepLt_iff {a b : Step} : stepLt a b = true ↔ rankI a.src < rankI b.src ∨ (rankI a.src = rankI b.src ∧ (rankI a.dst < rankI b.dst ∨ (rankI a.dst = rankI b.dst ∧ a.kind < b.kind))) := by
 have h : stepLt a b = decide (stepC a b < 0) := rfl
 rw [h, decide_eq_true_eq]
 unfold stepC
 simp only [orI]
 split
 ·rename_i h1
  rw [cmpI_zero] at h1
  split
  ·rename_i h2
   rw [cmpI_zero] at h2
   split
   ·rename_i h3
    rw [cmpI_zero] at h3
    omega
   ·rw [cmpI_neg]; omega
  ·rename_i h2
   rw [cmpI_zero] at h2
   rw [cmpI_neg]
   omega
 ·rename_i h1
  rw [cmpI_zero] at h1
  rw [cmpI_neg]
  omega
theorem sortSt_sorted (l : List Step) : (sortSt l).Pairwise fun a b => stepLt b a = false := by
 have := List.pairwise_mergeSort (le := fun x y => !stepLt y x) (fun a b c h1 h2 => by
  simp only [Bool.not_eq_true'] at h1 h2 ⊢
  rw [Bool.eq_false_iff, ne_eq, stepLt_iff] at h1 h2 ⊢
  omega) (fun a b => by
  cases h1 : stepLt b a with
  | false => rfl
  | true =>
    have h2 : stepLt a b = false := by
     rw [Bool.eq_false_iff, ne_eq, stepLt_iff]
     rw [stepLt_iff] at h1
     omega
    rw [h2]
    rfl) l
 refine List.Pairwise.imp ?_ this
 intro a b h
 simpa using h
theorem sameStep_iff {a b : Step} (ha : okS1 a) (hb : okS1 b) : sameStep a b = true ↔ a = b := by
 unfold sameStep
 simp only [Bool.and_eq_true, decide_eq_true_eq]
 refine ⟨fun h => Step.eq_of h.1 h.2 (by rw [ha.2, hb.2]), fun h => by rw [h]; exact ⟨rfl, rfl⟩⟩
theorem ltSt_of {a b : Step} (ha : okS1 a) (hb : okS1 b) (h : stepLt b a = false) (hne : a ≠ b) : ltSt a b := by
 rw [Bool.eq_false_iff, ne_eq, stepLt_iff] at h
 unfold ltSt
 by_cases h1 : rankI a.src = rankI b.src
 ·by_cases h2 : rankI a.dst = rankI b.dst
  ·exact absurd (Step.eq_of (rankI_inj ha.1.1 hb.1.1 h1) (rankI_inj ha.1.2 hb.1.2 h2) (by rw [ha.2, hb.2])) hne
  ·omega
 ·omega
theorem ltSt_trans {a b c : Step} (h : ltSt a b) (h' : ltSt b c) : ltSt a c := by unfold ltSt at *; omega
theorem ltSt_irrefl {a : Step} (h : ltSt a a) : False := by unfold ltSt at h; omega
theorem compFrom_spec : ∀ (l : List Step) (a : Step), okS1 a → (∀ s ∈ l, okS1 s) → (a :: l).Pairwise (fun a b => stepLt b a = false) → (a :: compFrom a l).Pairwise ltSt ∧ ∀ s, s ∈ a :: compFrom a l ↔ s ∈ a :: l
 | [], a, _, _, _ => ⟨by simp [compFrom], by simp [compFrom]⟩
 | b :: r, a, ha, hl, h => by
   have hb := hl b List.mem_cons_self
   have hr : ∀ s ∈ r, okS1 s := fun s hs => hl s (List.mem_cons_of_mem _ hs)
   rw [List.pairwise_cons] at h
   obtain ⟨h1, h2⟩ := h
   obtain ⟨i1, i2⟩ := compFrom_spec r b hb hr h2
   rw [compFrom]
   cases hs : sameStep b a with
   | true =>
     obtain rfl := (sameStep_iff hb ha).1 hs
     rw [cond_true]
     exact ⟨i1, fun s => by rw [i2]; simp⟩
   | false =>
     rw [cond_false]
     have hne : a ≠ b := fun e => by
      rw [(sameStep_iff hb ha).2 e.symm] at hs
      cases hs
     have hlt := ltSt_of ha hb (h1 b List.mem_cons_self) hne
     refine ⟨?_, fun s => by rw [List.mem_cons, i2, ← List.mem_cons (a := s) (b := a)]⟩
     rw [List.pairwise_cons]
     refine ⟨fun s hsm => ?_, i1⟩
     rcases List.mem_cons.1 hsm with rfl | hsm
     ·exact hlt
     ·exact ltSt_trans hlt ((List.pairwise_cons.1 i1).1 s hsm)
theorem normS_spec {l : List Step} (hok : ∀ s ∈ l, okS1 s) : (normS l).Pairwise ltSt ∧ ∀ s, s ∈ normS l ↔ s ∈ l := by
 have hp : ∀ s, s ∈ sortSt l ↔ s ∈ l := fun s => (sortSt_perm l).mem_iff
 have hs := sortSt_sorted l
 unfold normS
 cases hq : sortSt l with
 | nil =>
   rw [hq] at hp
   exact ⟨by simp [compF], fun s => by rw [← hp]; simp [compF]⟩
 | cons a r =>
   rw [hq] at hp hs
   have hok' : ∀ s ∈ a :: r, okS1 s := fun s h => hok s ((hp s).1 h)
   obtain ⟨h1, h2⟩ := compFrom_spec r a (hok' a List.mem_cons_self) (fun s h => hok' s (List.mem_cons_of_mem _ h)) hs
   exact ⟨h1, fun s => by rw [compF, h2, hp]⟩
theorem sorted_ext : ∀ {l m : List Step}, l.Pairwise ltSt → m.Pairwise ltSt → (∀ s, s ∈ l ↔ s ∈ m) → l = m
 | [], [], _, _, _ => rfl
 | [], b :: m, _, _, h => by have := (h b).2 List.mem_cons_self; cases this
 | a :: l, [], _, _, h => by have := (h a).1 List.mem_cons_self; cases this
 | a :: l, b :: m, hl, hm, h => by
   rw [List.pairwise_cons] at hl hm
   have hab : a = b := by
    rcases List.mem_cons.1 ((h a).1 List.mem_cons_self) with e | ha
    ·exact e
    ·rcases List.mem_cons.1 ((h b).2 List.mem_cons_self) with e | hb
     ·exact e.symm
     ·exact (ltSt_irrefl (ltSt_trans (hl.1 b hb) (hm.1 a ha))).elim
   subst hab
   congr 1
   refine sorted_ext hl.2 hm.2 fun s => ⟨fun hs => ?_, fun hs => ?_⟩
   ·rcases List.mem_cons.1 ((h s).1 (List.mem_cons_of_mem _ hs)) with rfl | h'
    ·exact (ltSt_irrefl (hl.1 _ hs)).elim
    ·exact h'
   ·rcases List.mem_cons.1 ((h s).2 (List.mem_cons_of_mem _ hs)) with rfl | h'
    ·exact (ltSt_irrefl (hm.1 _ hs)).elim
    ·exact h'
theorem stepsRaw_ok1 {p : Pg} (h : chkB p = true) {j : Nat} {f : Pr} (hj : p.procs[j]? = some f) : ∀ s ∈ stepsRaw p j f, okS1 s := by
 obtain ⟨_, _, h3⟩ := chk_way h hj
 intro s hs
 refine ⟨h3 s hs, ?_⟩
 unfold stepsRaw at hs
 rcases List.mem_cons.1 hs with rfl | hs
 ·rfl
 ·obtain ⟨it, _, hz⟩ := List.mem_flatMap.1 hs
  obtain ⟨y, _, rfl⟩ := List.mem_map.1 hz
  rfl
theorem real_spec {p : Pg} (h : chkB p = true) {j : Nat} {f : Pr} (hj : p.procs[j]? = some f) : (newWay p j f).real.Pairwise ltSt ∧ ∀ s, s ∈ (newWay p j f).real ↔ s ∈ stepsRaw p j f := normS_spec (stepsRaw_ok1 h hj)
theorem raw_src0 {p : Pg} (h : chkB p = true) {j : Nat} {f : Pr} (hj : p.procs[j]? = some f) {s : Step} (hs : s ∈ stepsRaw p j f) : s = ⟨0, fstI p j f, 1⟩ ∨ (1 ≤ s.src ∧ s.src ≤ 9223372036854775806) := by
 obtain ⟨_, _, hcn⟩ := chk_cnt h
 obtain ⟨_, _, _, hlen, hsp⟩ := sheet_spec p
 obtain ⟨_, _, hle, _⟩ := hsp j f hj
 unfold stepsRaw at hs
 rcases List.mem_cons.1 hs with rfl | hs
 ·exact .inl rfl
 ·obtain ⟨it, hit, hz⟩ := List.mem_flatMap.1 hs
  obtain ⟨y, _, rfl⟩ := List.mem_map.1 hz
  have := body_id (chk_parts h).1 hj (its_s hit)
  refine .inr ?_
  simp only
  omega
open Go.Proofs
def fitB (p : Pg) : Bool := decide (gPg p ≤ 20000)
theorem fit_of {p : Pg} (h : fitB p = true) : Fit p := by
 have := wg_Pg p
 have h1 : gPg p ≤ 20000 := by simpa [fitB] using h
 unfold Fit
 omega
theorem whittlerref3_Fits (p : Pg) : SpecP Tryz.prog 16 [.agg p.cells] (fun r => r = .bool (fitB p)) := by
 refine SpecP.body I_whittlerref3_Fits tabOK Tryz.func16 rfl Tryz.call16 (by show 1 ≤ _; decide) ?_
 conv => whnf
 have hl : (p.procs.map fun f => AV.agg f.cells).length = p.procs.length := List.length_map _
 have q0 := satI_rng (a := 0 + gTxs p.globals) (by omega)
 repeat' (refine CallK.pure (whittlerref3_weighTexts p.globals 0 (by omega)) (.cons (Sub.refl _) (.cons (Sub.refl _) .nil)) ?_; rintro _ rfl; conv => whnf)
 refine LoopK.inv tabOK (fun y : Nat × Int => ⟨[(1, .p (.ip p.cells)), (3, .p (.int .i64 y.2)), (4, .p (.int .i64 y.1))], []⟩) (fun y => y.1 ≤ p.procs.length ∧ (0 ≤ y.2 ∧ y.2 ≤ 20001) ∧ satI (y.2 + gPrs (p.procs.drop y.1)) = satI (gPg p : Nat)) (fun y => p.procs.length - y.1) (0, satI (0 + gTxs p.globals)) (Le.of_eq rfl) ⟨Nat.zero_le _, q0, by
  show satI (satI (0 + gTxs p.globals) + gPrs p.procs) = _
  rw [satI_sat (by omega)]
  congr 1
  unfold gPg
  omega⟩ ?_
 rintro ⟨j, m⟩ ⟨h2, h3, h4⟩
 simp only at h2 h3 h4 ⊢
 have last : ∀ {x : Int}, 0 ≤ x ∧ x ≤ 20001 → satI x = satI (gPg p : Nat) → (decide (x ≤ 20000)) = fitB p := fun {x} hx h => by
  unfold fitB
  unfold satI at h
  by_cases h1 : gPg p ≤ 20000
  ·rw [decide_eq_true h1, decide_eq_true_eq]
   split at h <;> split at h <;> omega
  ·rw [decide_eq_false h1, decide_eq_false_iff_not]
   split at h <;> split at h <;> omega
 rcases Nat.lt_or_ge j p.procs.length with hj | hj
 rotate_left 1
 ·rw [List.drop_eq_nil_of_le hj, gPrs] at h4
  conv => whnf
  repeat' (first | (intro (_ : _ ≤ 9223372036854775807); conv => whnf) | (refine Br.dec (fun _ => ?_) (fun _ => ?_) <;> first | (exfalso; omega) | conv => whnf))
  all_goals exact RetK.bool (last h3 (by rw [← h4]; simp))
 rw [List.drop_eq_getElem_cons hj, gPrs] at h4
 have hpe : gPr p.procs[j] = 1 + p.procs[j].name.length + gTxs p.procs[j].vars + gTxs p.procs[j].fin + gPms p.procs[j].params + gL p.procs[j].body := rfl
 have q1 := satI_rng (a := m + (1 + p.procs[j].name.length : Nat)) (by omega)
 have q2 := satI_rng (a := satI (m + (1 + p.procs[j].name.length : Nat)) + gTxs p.procs[j].vars) (by omega)
 have q3 := satI_rng (a := satI (satI (m + (1 + p.procs[j].name.length : Nat)) + gTxs p.procs[j].vars) + gTxs p.procs[j].fin) (by omega)
 conv => whnf
 repeat' (first | ((first | (intro (_ : _ ≤ 9223372036854775807)) | (refine DrawK.auto tabOK mixed (by kernel_rfl) ?_) | (refine And.intro rfl ?_) | (refine IdxK.map (by omega) (fun _ => rfl) ?_) | (refine CallK.pure (whittlerref3_weighText p.procs[j].name _ h3) (.cons (Sub.refl _) (.cons (Sub.refl _) .nil)) ?_; rintro _ rfl) | (refine CallK.pure (whittlerref3_weighTexts p.procs[j].vars _ q1) (.cons (Sub.refl _) (.cons (Sub.refl _) .nil)) ?_; rintro _ rfl) | (refine CallK.pure (whittlerref3_weighTexts p.procs[j].fin _ q2) (.cons (Sub.refl _) (.cons (Sub.refl _) .nil)) ?_; rintro _ rfl)); conv => whnf) | (refine Br.dec (fun _ => ?_) (fun _ => ?_) <;> first | (exfalso; omega) | conv => whnf))
 rotate_left 1
 ·exact RetK.bool (last h3 (by rw [← h4, ← satI_full (by omega) h3.2 (by omega), satI_id h3.2]))
 have h5 : satI (satI (satI (satI (m + (1 + p.procs[j].name.length : Nat)) + gTxs p.procs[j].vars) + gTxs p.procs[j].fin) + (gPms p.procs[j].params + (gL p.procs[j].body + gPrs (p.procs.drop (j + 1))) : Nat)) = satI (gPg p : Nat) := by
  rw [satI_sat (by omega), Int.add_assoc, satI_sat (by omega), Int.add_assoc, satI_sat (by omega), ← h4, hpe]
  congr 1
  omega
 generalize satI (satI (satI (m + (1 + p.procs[j].name.length : Nat)) + gTxs p.procs[j].vars) + gTxs p.procs[j].fin) = m0 at q3 h5 ⊢
 have hal : (p.procs[j].params.map fun a => AV.agg a.cells).length = p.procs[j].params.length := List.length_map _
 refine LoopK.inv tabOK (fun y : Nat × Int => ⟨[(1, .p (.ip p.cells)), (3, .p (.int .i64 y.2)), (4, .p (.int .i64 j)), (5, .p (.ip p.procs[j].cells)), (6, .p (.int .i64 y.1))], []⟩) (fun y => y.1 ≤ p.procs[j].params.length ∧ (0 ≤ y.2 ∧ y.2 ≤ 20001) ∧ satI (y.2 + (gPms (p.procs[j].params.drop y.1) + (gL p.procs[j].body + gPrs (p.procs.drop (j + 1))) : Nat)) = satI (gPg p : Nat)) (fun y => p.procs[j].params.length - y.1) (0, m0) (Le.of_eq rfl) ⟨Nat.zero_le _, q3, h5⟩ ?_
 rintro ⟨a, m2⟩ ⟨h6, h7, h8⟩
 simp only at h6 h7 h8 ⊢
 have fin : satI (m2 + (gL p.procs[j].body + gPrs (p.procs.drop (j + 1)) : Nat)) = satI (gPg p : Nat) → (0 ≤ satI (m2 + gL p.procs[j].body) ∧ satI (m2 + gL p.procs[j].body) ≤ 20001) ∧ satI (satI (m2 + gL p.procs[j].body) + gPrs (p.procs.drop (j + 1))) = satI (gPg p : Nat) := fun h => by
  refine ⟨satI_rng (by omega), ?_⟩
  rw [satI_sat (by omega), ← h]
  congr 1
  omega
 have full : m2 > 20000 → satI (m2 + (gL p.procs[j].body + gPrs (p.procs.drop (j + 1)) : Nat)) = satI (gPg p : Nat) := fun h => by
  rw [← h8, ← satI_full h h7.2 (by omega), ← satI_full h h7.2 (by omega)]
 rcases Nat.lt_or_ge a p.procs[j].params.length with ha | ha
 rotate_left 1
 ·have h9 : satI (m2 + (gL p.procs[j].body + gPrs (p.procs.drop (j + 1)) : Nat)) = satI (gPg p : Nat) := by
   rw [List.drop_eq_nil_of_le ha, gPms, Nat.zero_add] at h8
   exact h8
  obtain ⟨f1, f2⟩ := fin h9
  conv => whnf
  repeat' (first | ((first | (intro (_ : _ ≤ 9223372036854775807)) | (refine Wr.i64 (by omega) (by omega) ?_) | (refine CallK.pure (whittlerref3_weighStmts (gL p.procs[j].body+1) p.procs[j].body (by omega) m2 h7) (.cons (Sub.refl _) (.cons (Sub.refl _) .nil)) ?_; rintro _ rfl)); conv => whnf) | (refine Br.dec (fun _ => ?_) (fun _ => ?_) <;> first | (exfalso; omega) | conv => whnf))
  all_goals exact ⟨(j + 1, satI (m2 + gL p.procs[j].body)), ⟨by simp only; omega, f1, f2⟩, by simp only; omega, Le.of_eq rfl⟩
 rw [List.drop_eq_getElem_cons ha, gPms] at h8
 conv => whnf
 repeat' (first | ((first | (intro (_ : _ ≤ 9223372036854775807)) | (refine IdxK.map (by omega) (fun _ => rfl) ?_) | (refine Wr.i64 (by omega) (by omega) ?_) | (refine CallK.pure (whittlerref3_weighText p.procs[j].params[a].name _ h7) (.cons (Sub.refl _) (.cons (Sub.refl _) .nil)) ?_; rintro _ rfl) | (refine CallK.pure (whittlerref3_weighStmts (gL p.procs[j].body+1) p.procs[j].body (by omega) m2 h7) (.cons (Sub.refl _) (.cons (Sub.refl _) .nil)) ?_; rintro _ rfl)); conv => whnf) | (refine Br.dec (fun _ => ?_) (fun _ => ?_) <;> first | (exfalso; omega) | conv => whnf))
 ·have h10 : satI (satI (m2 + (1 + p.procs[j].params[a].name.length : Nat)) + (gPms (p.procs[j].params.drop (a + 1)) + (gL p.procs[j].body + gPrs (p.procs.drop (j + 1))) : Nat)) = satI (gPg p : Nat) := by
   rw [satI_sat (by omega), ← h8]
   congr 1
   omega
  exact ⟨(a + 1, satI (m2 + (1 + p.procs[j].params[a].name.length : Nat))), ⟨by simp only; omega, satI_rng (by omega), h10⟩, by simp only; omega, Le.of_eq rfl⟩
 ·obtain ⟨f1, f2⟩ := fin (full (by omega))
  exact ⟨(j + 1, satI (m2 + gL p.procs[j].body)), ⟨by simp only; omega, f1, f2⟩, by simp only; omega, Le.of_eq rfl⟩
open Go.Proofs
inductive SubE : List AV → List AV → Prop
 | nil : SubE [] []
 | cons {a b : AV} {xs ys : List AV} (h : SubL a.cells b.cells) (hs : SubE xs ys) : SubE (a :: xs) (b :: ys)
theorem SubE.get {xs ys : List AV} (h : SubE xs ys) : xs.length = ys.length ∧ ∀ (i : Nat) (b : AV), ys[i]? = some b → ∃ a, xs[i]? = some a ∧ SubL a.cells b.cells := by
 induction h with
 | nil => exact ⟨rfl, by simp⟩
 | cons h hs ih =>
   refine ⟨by simp [ih.1], fun i b hb => ?_⟩
   cases i with
   | zero => simp at hb; subst hb; exact ⟨_, rfl, h⟩
   | succ i => exact ih.2 i b (by simpa using hb)
theorem Sub.sl {xs ys : List AV} (h : SubE xs ys) : Sub (.sl xs) (.sl ys) := fun σ v hr => by
 obtain ⟨hl, hg⟩ := h.get
 cases hr with
 | nilsl =>
   obtain rfl : ys = [] := by simpa using hl.symm
   exact .nilsl
 | slz b =>
   obtain rfl : ys = [] := by simpa using hl.symm
   exact .slz b
 | sl _ b off cap sz cells u hb hcap hmax hsz hc hrr =>
   rw [hl]
   refine .sl ys b off cap sz cells u hb (by omega) hmax (fun i e hi => ?_) (fun i e j c hi hj => ?_) (fun i e j c hi hj => ?_)
   ·obtain ⟨a, h1, h2⟩ := hg i e hi
    rw [← hsz i a h1, h2.1]
   ·obtain ⟨a, h1, h2⟩ := hg i e hi
    obtain ⟨d, h3, _⟩ := h2.get hj
    exact hc i a j d h1 h3
   ·obtain ⟨a, h1, h2⟩ := hg i e hi
    obtain ⟨d, h3, h4⟩ := h2.get hj
    exact h4 _ _ (hrr i a j d h1 h3)
theorem whittlerref3_num (n : Int) : SpecP Tryz.prog 131 [.int .i64 n] (fun r => r = .agg (X.mk 1 n [] []).cells) := by
 refine SpecP.body I_whittlerref3_num tabOK Tryz.func131 rfl Tryz.call131 (by show 1 ≤ _; decide) ?_
 conv => whnf
 repeat' (refine And.intro rfl ?_; conv => whnf)
 exact ⟨_, .p (Sub.agg (by repeat' (first | exact SubL.nil | refine SubL.cons ?_ ?_ | exact Sub.refl _ | exact Sub.nils | exact Sub.ff rfl))), rfl⟩
theorem whittlerref3_name (s : Str) : SpecP Tryz.prog 132 [.str s] (fun r => r = .agg (X.mk 2 0 s []).cells) := by
 refine SpecP.body I_whittlerref3_name tabOK Tryz.func132 rfl Tryz.call132 (by show 1 ≤ _; decide) ?_
 conv => whnf
 repeat' (refine And.intro rfl ?_; conv => whnf)
 exact ⟨_, .p (Sub.agg (by repeat' (first | exact SubL.nil | refine SubL.cons ?_ ?_ | exact Sub.refl _ | exact Sub.nils | exact Sub.ff rfl))), rfl⟩
theorem whittlerref3_two (op : Int) (a b : X) : SpecP Tryz.prog 133 [.int .i64 op, .agg a.cells, .agg b.cells] (fun r => r = .agg (X.mk op 0 [] [a, b]).cells) := by
 refine SpecP.body I_whittlerref3_two tabOK Tryz.func133 rfl Tryz.call133 (by show 3 ≤ _; decide) ?_
 conv => whnf
 repeat' ((first | (refine And.intro rfl ?_) | (refine And.intro ⟨by decide, by decide⟩ ?_) | (refine BsK.pureL rfl rfl ?_)); conv => whnf)
 have e : X.avs [a, b] = [.agg a.cells, .agg b.cells] := by simp only [X.avs, X.av_eq]
 exact ⟨_, .p (Sub.agg (SubL.cons (Sub.refl _) (SubL.cons (Sub.refl _) (SubL.cons (Sub.refl _) (SubL.cons (Sub.of_eq (by show _ = AV.sl (X.avs [a, b]); rw [e]; rfl)) SubL.nil))))), rfl⟩
def bs (l : List Nat) : Str := l.map fun n => UInt8.ofNat n
def someP : Pg := ⟨[[103]], [
 ⟨[109, 97, 105, 110], [], [[118]], [
   .mk 1 1 [] [118] [] (.mk 1 2 [] []) false [] [] [],
   .mk 2 4 [] [103] [112] (.mk 0 0 [] []) false [⟨false, [], .mk 1 3 [] []⟩, ⟨true, [118], .mk 0 0 [] []⟩] [] [],
   .mk 3 3 [] [] [] (.mk 2 0 [118] []) false [] [] [],
   .mk 4 3 [] [] [] (.mk 2 0 [103] []) false [] [] []], []⟩,
 ⟨[112], [⟨[120], false⟩, ⟨[121], true⟩], [], [
   .mk 5 1 [] [121] [] (.mk 8 0 [] [.mk 2 0 [121] [], .mk 2 0 [120] []]) false [] [] [],
   .mk 6 5 [] [] [] (.mk 12 0 [] [.mk 2 0 [121] [], .mk 1 9 [] []]) false [] [.mk 7 10 [] [101] [] (.mk 0 0 [] []) false [] [] []] [],
   .mk 8 9 [] [] [] (.mk 2 0 [121] []) true [] [] []], [[101]]⟩]⟩
theorem whittlerref3_Some : SpecP Tryz.prog 74 [] (fun r => r = .agg someP.cells) := by
 refine SpecP.body I_whittlerref3_Some tabOK Tryz.func74 rfl Tryz.call74 (by show 0 ≤ _; decide) ?_
 conv => whnf
 repeat' ((first | (refine CallK.pure (whittlerref3_num _) (by repeat' (first | exact ArgP.nil | refine ArgP.cons ?_ ?_ | exact Sub.refl _ | exact Sub.tt rfl | exact Sub.ff rfl)) ?_; rintro _ rfl) | (refine CallK.pure (whittlerref3_name _) (by repeat' (first | exact ArgP.nil | refine ArgP.cons ?_ ?_ | exact Sub.refl _ | exact Sub.tt rfl | exact Sub.ff rfl)) ?_; rintro _ rfl) | (refine And.intro rfl ?_) | (refine And.intro ⟨by decide, by decide⟩ ?_) | (refine BsK.pure (fun x hx => by rcases List.mem_singleton.1 hx with rfl; rfl) rfl ?_) | (refine BsK.pureL rfl rfl ?_) | (refine CallK.pure (whittlerref3_two 8 (.mk 2 0 [121] []) (.mk 2 0 [120] [])) (.cons (Sub.refl _) (.cons (Sub.refl _) (.cons (Sub.refl _) .nil))) ?_; rintro _ rfl) | (refine CallK.pure (whittlerref3_two 12 (.mk 2 0 [121] []) (.mk 1 9 [] [])) (.cons (Sub.refl _) (.cons (Sub.refl _) (.cons (Sub.refl _) .nil))) ?_; rintro _ rfl)); conv => whnf)
 exact ⟨_, .p (Sub.agg (by repeat' (first | exact SubL.nil | exact SubE.nil | exact Sub.nils | exact Sub.ff rfl | exact Sub.tt rfl | refine SubL.cons ?_ ?_ | refine SubE.cons ?_ ?_ | exact Sub.refl _ | refine Sub.agg ?_ | refine Sub.sl ?_))), rfl⟩
end Go.Ab
