/- way: places by numbers, steps by numbers; graph: made of edges. -/
import Derived.Test.YtneccajakpeodaaGreatCdpW9
import Derived.Test.YtneccajakpeodaaGreatCdpW10
import Derived.Test.YtneccajakpeodaaGreatCdpW12
set_option linter.unusedSimpArgs false
set_option linter.unusedVariables false
set_option maxRecDepth 100000
set_option maxHeartbeats 16000000
namespace Go.Ab
open Go.Proofs
def bv : Bool → AV
 | true => .tt
 | false => .ff
structure Way where
 p : Pg
 j : Nat
 n : Int
 real : List Step
 live : List Bool
def Way.cells (w : Way) : List AV := [.ip (sheetOf w.p).cells, .int .i64 w.j, .int .i64 w.n, eSteps w.real, .sl (w.live.map bv)]
def wayH (p : Pg) (j : Nat) (n : Int) (real : AV) (lv : List AV) : Heap := [(1000, .obj 114 [.p (.ip (sheetOf p).cells), .p (.int .i64 j), .p (.int .i64 n), .p real, .hd 2000 0 lv.length]), (2000, .own 4 1 lv)]
def indexI (lo hi n x : Int) : Int := if x = 0 then 0 else if x = -1 then n - 1 else if lo ≤ x ∧ x < hi then x - lo + 1 else -1
def loI (p : Pg) (j : Nat) : Int := (offN p.procs j : Nat) + 1
def hiI (p : Pg) (j : Nat) (f : Pr) : Int := (offN p.procs j + cntL f.body : Nat) + 1
theorem way_Way_Index (w : Way) (f : Pr) (hj : w.p.procs[w.j]? = some f) (hc : cntP w.p.procs ≤ 1000) (hn : 0 ≤ w.n ∧ w.n ≤ 5000) (x : Int) : SpecP Tryz.prog 124 [.ip w.cells, .int .i64 x] (fun r => r = .int .i64 (indexI (loI w.p w.j) (hiI w.p w.j f) w.n x)) := by
 refine SpecP.body I_way_Way_Index tabOK Tryz.func124 rfl Tryz.call124 (by show 2 ≤ _; decide) ?_
 conv => whnf
 obtain ⟨_, _, _, hlen, hsp⟩ := sheet_spec w.p
 obtain ⟨hlo, hhi, hle, _⟩ := hsp w.j f hj
 repeat' (first | ((first | (refine DrawK.auto tabOK mixed (by kernel_rfl) ?_) | (refine Wr.i64 (by omega) (by omega) ?_) | (refine IdxK.at rfl (eInts_at hlo) rfl ?_) | (refine IdxK.at rfl (eInts_at hhi) rfl ?_)); conv => whnf) | (refine Br.dec (fun _ => ?_) (fun _ => ?_) <;> first | (exfalso; omega) | conv => whnf))
 all_goals exact RetK.int (by unfold indexI loI hiI; (repeat' split) <;> omega)
theorem way_Index_own (p : Pg) (j : Nat) (f : Pr) (n : Int) (real : AV) (lv : List AV) (hj : p.procs[j]? = some f) (hc : cntP p.procs ≤ 1000) (hn : 0 ≤ n ∧ n ≤ 5000) (x : Int) :
  SpecH Tryz.prog 124 [.ptr 1000 0, .p (.int .i64 x)] (wayH p j n real lv) (fun r H => r = .p (.int .i64 (indexI (loI p j) (hiI p j f) n x)) ∧ H = wayH p j n real lv) := by
 obtain ⟨_, _, _, hlen, hsp⟩ := sheet_spec p
 obtain ⟨hlo, hhi, hle, _⟩ := hsp j f hj
 refine SpecH.body I_way_Way_Index tabOK Tryz.func124 rfl Tryz.call124 (by show 2 ≤ _; decide) ?_
 conv => whnf
 repeat' (first | ((first | (refine DrawK.auto tabOK mixed (by kernel_rfl) ?_) | (refine Wr.i64 (by omega) (by omega) ?_) | (refine IdxK.at rfl (eInts_at hlo) rfl ?_) | (refine IdxK.at rfl (eInts_at hhi) rfl ?_)); conv => whnf) | (refine Br.dec (fun _ => ?_) (fun _ => ?_) <;> first | (exfalso; omega) | conv => whnf))
 all_goals exact ⟨_, LSub.p (Sub.int (by unfold indexI loI hiI; (repeat' split) <;> omega)), rfl, rfl⟩
def avP (l : List (Int × Int)) : List AV := l.map fun x => .agg [.int .i64 x.1, .int .i64 x.2]
def ixP (p : Pg) (j : Nat) (f : Pr) (n : Int) (s : Step) : Int × Int := (indexI (loI p j) (hiI p j f) n s.src, indexI (loI p j) (hiI p j f) n s.dst)
theorem way_Way_Pairs (w : Way) (f : Pr) (hj : w.p.procs[w.j]? = some f) (hc : cntP w.p.procs ≤ 1000) (hn : 0 ≤ w.n ∧ w.n ≤ 5000) (l : List Step) (hlen : l.length ≤ 1000000) : SpecP Tryz.prog 157 [.ip w.cells, eSteps l] (fun r => r = .sl (avP (l.map (ixP w.p w.j f w.n)))) := by
 refine SpecP.body I_way_Way_Pairs tabOK Tryz.func157 rfl Tryz.call157 (by show 2 ≤ _; decide) ?_
 conv => whnf
 repeat' (intro (_ : _ ≤ 9223372036854775807); conv => whnf)
 have hl : (l.map fun s => AV.agg s.cells).length = l.length := List.length_map _
 refine LoopK.inv tabOK (fun i : Nat × List (Int × Int) => ⟨[(0, .p (.ip w.cells)), (5, .hd 0 0 i.2.length), (8, .p (eSteps l)), (9, .p (.int .i64 (l.map fun s => AV.agg s.cells).length)), (10, .p (.int .i64 i.1))], [(0, .own 47 2 (avP i.2))]⟩)
  (fun i => i.1 ≤ l.length ∧ i.2 = (l.take i.1).map (ixP w.p w.j f w.n)) (fun i => l.length - i.1) (0, [])
  (Le.mk [(0, .own 47 2 [])] (by simp [Chunk.new0]; rfl) (by simp) (by simp) (.cons (.refl _) (.cons (.nil List.mem_cons_self) (.cons (.refl _) (.cons (.refl _) (.cons (.refl _) .nil))))) (.new List.mem_cons_self .nil))
  ⟨Nat.zero_le _, rfl⟩ ?_
 rintro ⟨m, acc⟩ ⟨h2, h3⟩
 simp only at h2 h3 ⊢
 rcases Nat.lt_or_ge m l.length with hm | hm
 rotate_left 1
 ·rw [List.take_of_length_le hm] at h3
  subst h3
  conv => whnf
  repeat' (refine Br.dec (fun _ => ?_) (fun _ => ?_) <;> first | (exfalso; omega) | conv => whnf)
  exact ⟨_, .hd rfl (by simp [avP]), rfl⟩
 have hacl : acc.length = m := by rw [h3]; simp; omega
 conv => whnf
 repeat' (first | ((first | (refine DrawK.auto tabOK mixed (by kernel_rfl) ?_) | (refine And.intro rfl ?_) | (refine And.intro ⟨by decide, by decide⟩ ?_) | (refine BsK.pure (fun x hx => by rcases List.mem_singleton.1 hx with rfl; rfl) rfl ?_) | (refine IdxK.map (by omega) (fun _ => rfl) ?_) | (refine Wr.i64 (by omega) (by omega) ?_) | (refine CallK.pure (way_Way_Index w f hj hc hn _) (.cons (Sub.refl _) (.cons (Sub.refl _) .nil)) ?_; rintro _ rfl) | (refine AppK.mk (by simp [avP]) rfl (by show (acc.length+1) * 16 ≤ 140737488355328; omega) (by show acc.length+1 ≤ 9223372036854775807; omega) (fun x hx => by rcases List.mem_singleton.1 hx with rfl; exact ⟨rfl, rfl⟩) ?_)); conv => whnf) | (refine Br.dec (fun _ => ?_) (fun _ => ?_) <;> first | (exfalso; omega) | conv => whnf))
 exact ⟨(m + 1, acc ++ [ixP w.p w.j f w.n l[m]]), ⟨by simp only; omega, by simp only; rw [h3, List.take_succ_eq_append_getElem hm, List.map_append]; rfl⟩, by simp only; omega, Le.of_eq (by simp only [avP, List.length_append, List.map_append]; rfl)⟩
theorem SpecH.frzret {P : Program} {f : FuncId} {args : List LV} {H H0 : Heap} {e : TypeId} {sz : Nat} {Q : List AV → Prop} (hrow : rowHK 0 H0 fun H => H = H0)
  (h : SpecH P f args H (fun r H' => ∃ es, r = .hd 0 0 es.length ∧ H' = (0, .own e sz es) :: H0 ∧ Q es)) : SpecH P f args H (fun r H' => ∃ es, r = .p (.sl es) ∧ H' = H0 ∧ Q es) := by
 refine ⟨h.go, fun σ β w vals h1 h2 h3 => (h.ok σ β w vals h1 h2 h3).mono fun ex w' hx => ?_⟩
 obtain ⟨l, u, σ', β', H', he, ⟨es, rfl, rfl, hQ⟩, hrep, hrel, hlat⟩ := hx
 obtain ⟨s', rfl, hle⟩ := Le.row (N := 1) (s := ⟨[(0, .hd 0 0 es.length)], (0, .own e sz es) :: H0⟩) (k := 0) (e := e) (sz := sz) (es := es) (set := [0]) rfl (K := fun s => s = ⟨[(0, .p (.sl es))], H0⟩) (by
  show LenK es.length es _
  refine ⟨rfl, ?_⟩
  show rowHK 0 H0 fun H => (⟨[(0, .p (.sl es))], H⟩ : St) = ⟨[(0, .p (.sl es))], H0⟩
  have key : ∀ {H1 : Heap} {K K' : Heap → Prop}, (∀ H, K H → K' H) → rowHK 0 H1 K → rowHK 0 H1 K' := fun {H1} => by
   induction H1 with
   | nil => intro K K' hK h; exact hK _ h
   | cons x r ih =>
     intro K K' hK h
     obtain ⟨j, c⟩ := x
     simp only [rowHK] at h ⊢
     cases hb : j == 0 with
     | true =>
       simp only [hb, cond_true] at h ⊢
       exact ih hK h
     | false =>
       simp only [hb, cond_false] at h ⊢
       cases c with
       | obj e ls => simp only [forceL_eq] at h ⊢; exact ih (fun H hH => hK _ hH) h
       | own e sz es => exact ih (fun H hH => hK _ hH) h
       | ext x => exact ih (fun H hH => hK _ hH) h
  exact key (fun H hH => by rw [hH]) hrow)
 obtain ⟨σ2, β2, hr2, hl2⟩ := hle σ' β' { tmps := #[u], defers := [] } w' ⟨rfl, rfl, fun i => by
  match i with
  | 0 => simpa [getS] using hrep
  | i + 1 => exact .p (by simpa [getS] using Rep.any _), hrel⟩
 exact ⟨.p (.sl es), u, σ2, β2, H0, he, ⟨es, rfl, rfl, hQ⟩, by simpa [getS] using hr2.slots 0, hr2.heap, hlat.trans hl2⟩
theorem way_Pairs_own (p : Pg) (j : Nat) (f : Pr) (n : Int) (real : AV) (lv : List AV) (hj : p.procs[j]? = some f) (hc : cntP p.procs ≤ 1000) (hn : 0 ≤ n ∧ n ≤ 5000) (l : List Step) (hlen : l.length ≤ 1000000) :
  SpecH Tryz.prog 157 [.ptr 1000 0, .p (eSteps l)] (wayH p j n real lv) (fun r H => ∃ es, r = .p (.sl es) ∧ H = wayH p j n real lv ∧ es = avP (l.map (ixP p j f n))) := by
 refine SpecH.frzret (e := 47) (sz := 2) rfl ?_
 refine SpecH.body I_way_Way_Pairs tabOK Tryz.func157 rfl Tryz.call157 (by show 2 ≤ _; decide) ?_
 conv => whnf
 repeat' (intro (_ : _ ≤ 9223372036854775807); conv => whnf)
 have hl : (l.map fun s => AV.agg s.cells).length = l.length := List.length_map _
 refine LoopK.inv tabOK (fun i : Nat × List (Int × Int) => ⟨[(0, .ptr 1000 0), (5, .hd 0 0 i.2.length), (8, .p (eSteps l)), (9, .p (.int .i64 (l.map fun s => AV.agg s.cells).length)), (10, .p (.int .i64 i.1))], (0, .own 47 2 (avP i.2)) :: wayH p j n real lv⟩)
  (fun i => i.1 ≤ l.length ∧ i.2 = (l.take i.1).map (ixP p j f n)) (fun i => l.length - i.1) (0, [])
  (Le.mk [(0, .own 47 2 [])] (by simp [Chunk.new0]; rfl) (by simp) (by simp [wayH]) (.cons (.refl _) (.cons (.nil List.mem_cons_self) (.cons (.refl _) (.cons (.refl _) (.cons (.refl _) .nil))))) (.new List.mem_cons_self (.cons rfl (.refl _) (.cons rfl (.refl _) .nil))))
  ⟨Nat.zero_le _, rfl⟩ ?_
 rintro ⟨m, acc⟩ ⟨h2, h3⟩
 simp only at h2 h3 ⊢
 rcases Nat.lt_or_ge m l.length with hm | hm
 rotate_left 1
 ·rw [List.take_of_length_le hm] at h3
  subst h3
  conv => whnf
  repeat' (refine Br.dec (fun _ => ?_) (fun _ => ?_) <;> first | (exfalso; omega) | conv => whnf)
  exact ⟨_, LSub.refl _, avP (l.map (ixP p j f n)), by simp [avP], rfl, rfl⟩
 have hacl : acc.length = m := by rw [h3]; simp; omega
 conv => whnf
 repeat' (first | ((first | (refine DrawK.auto tabOK mixed (by kernel_rfl) ?_) | (refine And.intro rfl ?_) | (refine And.intro ⟨by decide, by decide⟩ ?_) | (refine BsK.pure (fun x hx => by rcases List.mem_singleton.1 hx with rfl; rfl) rfl ?_) | (refine IdxK.map (by omega) (fun _ => rfl) ?_) | (refine Wr.i64 (by omega) (by omega) ?_) | (refine AppK.mk (by simp [avP]) rfl (by show (acc.length+1) * 16 ≤ 140737488355328; omega) (by show acc.length+1 ≤ 9223372036854775807; omega) (fun x hx => by rcases List.mem_singleton.1 hx with rfl; exact ⟨rfl, rfl⟩) ?_)); conv => whnf) | (refine Br.dec (fun _ => ?_) (fun _ => ?_) <;> first | (exfalso; omega) | conv => whnf) | (refine CallK.heap [(1000, 1000), (2000, 2000)] 0 (by repeat' (first | exact ArgsH.nil | refine ArgsH.cons ?_ ?_ | exact LSub.refl _ | exact LSub.p Sub.nils | exact LSub.p (Sub.tt rfl) | exact LSub.p (Sub.ff rfl) | exact LSub.p (Sub.int (by omega)))) (by refine BlksH.cons (j := 1000) rfl rfl ?_ ?_; exact CSub.refl _; refine BlksH.cons (j := 2000) rfl rfl ?_ ?_; exact CSub.refl _; exact BlksH.nil) (way_Index_own p j f n real lv hj hc hn _) rfl rfl ?_; rintro l' H' ⟨rfl, rfl⟩; conv => whnf))
 exact ⟨(m + 1, acc ++ [ixP p j f n l[m]]), ⟨by simp only; omega, by simp only; rw [h3, List.take_succ_eq_append_getElem hm, List.map_append]; rfl⟩, by simp only; omega, Le.mk [] (by simp) (by simp) (by simp [wayH]) (.cons (.refl _) (.cons (.of_eq (by simp only [List.length_append]; rfl)) (.cons (.refl _) (.cons (.refl _) (.cons (.of_eq rfl) .nil))))) (.cons rfl (.of_eq (by simp only [avP, List.map_append]; rfl)) (.cons rfl (.refl _) (.cons rfl (.refl _) .nil)))⟩
theorem insI_sorted {l : List Int} {x : Int} (h : l.Pairwise (· ≤ ·)) : (insI l (l.countP (· < x)) x).Pairwise (· ≤ ·) := by
 induction l with
 | nil => simp [insI]
 | cons a r ih =>
   obtain ⟨h1, h2⟩ := List.pairwise_cons.1 h
   by_cases ha : a < x
   ·have e : insI (a :: r) ((a :: r).countP (· < x)) x = a :: insI r (r.countP (· < x)) x := by
     unfold insI
     rw [List.countP_cons_of_pos (by simpa using ha)]
     rfl
    rw [e, List.pairwise_cons]
    refine ⟨fun b hb => ?_, ih h2⟩
    unfold insI at hb
    rcases List.mem_append.1 hb with hb | hb
    ·exact h1 b (List.mem_of_mem_take hb)
    ·rcases List.mem_cons.1 hb with rfl | hb
     ·omega
     ·exact h1 b (List.mem_of_mem_drop hb)
   ·have e0 : (a :: r).countP (· < x) = 0 := by
     rw [List.countP_eq_zero]
     intro b hb
     rcases List.mem_cons.1 hb with rfl | hb
     ·simpa using ha
     ·have := h1 b hb
      simp; omega
    rw [e0]
    show (x :: a :: r).Pairwise (· ≤ ·)
    refine List.pairwise_cons.2 ⟨fun b hb => ?_, h⟩
    rcases List.mem_cons.1 hb with rfl | hb
    ·omega
    ·have := h1 b hb
     omega
def grInv (n m : Nat) (N : List (List Int)) : Prop := N.length = n ∧ ∀ r ∈ N, r.Pairwise (· ≤ ·) ∧ r.length ≤ m
theorem grInv_put {n m : Nat} {N : List (List Int)} (h : grInv n m N) (a : Nat) (b : Int) : grInv n (m + 1) (putR N a b) := by
 unfold putR
 refine ⟨by rw [List.length_set]; exact h.1, fun r hr => ?_⟩
 rcases List.mem_or_eq_of_mem_set hr with hr | rfl
 ·obtain ⟨h1, h2⟩ := h.2 r hr
  exact ⟨h1, by omega⟩
 ·rcases Nat.lt_or_ge a N.length with ha | ha
  ·have hm : N.getD a [] ∈ N := by
    rw [List.getD_eq_getElem?_getD, List.getElem?_eq_getElem ha]
    exact List.getElem_mem ha
   obtain ⟨h1, h2⟩ := h.2 _ hm
   exact ⟨insI_sorted h1, by rw [insI_len List.countP_le_length]; omega⟩
  ·have : N.getD a [] = [] := by simp [List.getElem?_eq_none ha]
   rw [this]
   exact ⟨by simp [insI], by simp [insI]⟩
theorem grInv_mono {n m m' : Nat} {N : List (List Int)} (h : grInv n m N) (hm : m ≤ m') : grInv n m' N := ⟨h.1, fun r hr => ⟨(h.2 r hr).1, Nat.le_trans (h.2 r hr).2 hm⟩⟩
def addE (n : Nat) (g : List (List Int) × List (List Int)) (e : Int × Int) : List (List Int) × List (List Int) :=
 bif hasB n e.1 && hasB n e.2 && !(g.1.getD e.1.toNat []).contains e.2 then (putR g.1 e.1.toNat e.2, putR g.2 e.2.toNat e.1) else g
def graphE (n : Nat) (l : List (Int × Int)) : List (List Int) × List (List Int) := l.foldl (addE n) (List.replicate n [], List.replicate n [])
def eMat (m : List (List Int)) : AV := .sl ((avI m).map .sl)
def eGraph (g : List (List Int) × List (List Int)) : AV := .ip [eMat g.1, eMat g.2]
theorem addE_1 (n : Nat) (g : List (List Int) × List (List Int)) (e : Int × Int) : (addE n g e).1 = bif hasB n e.1 && hasB n e.2 && !(g.1.getD e.1.toNat []).contains e.2 then putR g.1 e.1.toNat e.2 else g.1 := by
 unfold addE
 cases hasB n e.1 && hasB n e.2 && !(g.1.getD e.1.toNat []).contains e.2 <;> rfl
theorem addE_2 (n : Nat) (g : List (List Int) × List (List Int)) (e : Int × Int) : (addE n g e).2 = bif hasB n e.1 && hasB n e.2 && !(g.1.getD e.1.toNat []).contains e.2 then putR g.2 e.2.toNat e.1 else g.2 := by
 unfold addE
 cases hasB n e.1 && hasB n e.2 && !(g.1.getD e.1.toNat []).contains e.2 <;> rfl
theorem addE_inv {n m : Nat} {g : List (List Int) × List (List Int)} (h : grInv n m g.1 ∧ grInv n m g.2) (e : Int × Int) : grInv n (m + 1) (addE n g e).1 ∧ grInv n (m + 1) (addE n g e).2 := by
 rw [addE_1, addE_2]
 cases hasB n e.1 && hasB n e.2 && !(g.1.getD e.1.toNat []).contains e.2
 ·exact ⟨grInv_mono h.1 (by omega), grInv_mono h.2 (by omega)⟩
 ·exact ⟨grInv_put h.1 _ _, grInv_put h.2 _ _⟩
theorem graphE_succ {n m : Nat} {l : List (Int × Int)} (hm : m < l.length) : graphE n (l.take (m + 1)) = addE n (graphE n (l.take m)) l[m] := by
 unfold graphE
 rw [List.take_succ_eq_append_getElem hm, List.foldl_append]
 rfl
theorem graphE_inv {n : Nat} {l : List (Int × Int)} : ∀ {m : Nat}, m ≤ l.length → grInv n m (graphE n (l.take m)).1 ∧ grInv n m (graphE n (l.take m)).2
 | 0, _ => by
   have : grInv n 0 (List.replicate n []) := ⟨by simp, fun r hr => by rw [List.eq_of_mem_replicate hr]; simp⟩
   exact ⟨this, this⟩
 | m + 1, h => by
   rw [graphE_succ h]
   exact addE_inv (graphE_inv (by omega)) _
theorem mats_begin {N' : Nat} {sl : List (Nat × LV)} (n a b : Nat) (h0 : (sl.all fun x => x.2.xfree 0) = true) (h1 : (sl.all fun x => x.2.xfree 1) = true) :
  Le N' ⟨sl, [(2, .obj 213 [.hd a 0 n, .hd b 0 n]), (1, .own 36 1 (List.replicate n .nils)), (0, .own 36 1 (List.replicate n .nils))]⟩
   ⟨sl, [(2, .obj 213 [.hd a 0 n, .hd b 0 n]), (1, .ext (.mat 36 3 1 (List.replicate n []) [])), (0, .ext (.mat 36 3 1 (List.replicate n []) []))]⟩ := by
 have hm := Le.toMat (N := N') (sl := sl) (H := [(2, .obj 213 [.hd a 0 n, .hd b 0 n]), (1, .own 36 1 (List.replicate n .nils)), (0, .own 36 1 (List.replicate n .nils))])
  (H' := [(2, .obj 213 [.hd a 0 n, .hd b 0 n]), (1, .own 36 1 (List.replicate n .nils)), (0, .ext (.mat 36 3 1 (List.replicate (List.replicate n AV.nils).length []) []))])
  0 3 1 (e := 36) (es := List.replicate n .nils) rfl (fun x hx => List.eq_of_mem_replicate hx) rfl h0 rfl rfl (by simp [labN])
 have hm2 := Le.toMat (N := N') (sl := sl) (H := [(2, .obj 213 [.hd a 0 n, .hd b 0 n]), (1, .own 36 1 (List.replicate n .nils)), (0, .ext (.mat 36 3 1 (List.replicate (List.replicate n AV.nils).length []) []))])
  (H' := [(2, .obj 213 [.hd a 0 n, .hd b 0 n]), (1, .ext (.mat 36 3 1 (List.replicate (List.replicate n AV.nils).length []) [])), (0, .ext (.mat 36 3 1 (List.replicate (List.replicate n AV.nils).length []) []))])
  1 3 1 (e := 36) (es := List.replicate n .nils) rfl (fun x hx => List.eq_of_mem_replicate hx) rfl h1 rfl rfl (by simp [labN])
 have := hm.trans hm2
 simpa using this
theorem graph_New (n : Nat) (hn : n ≤ 5000) (l : List (Int × Int)) (hlen : l.length ≤ 1000000) : SpecP Tryz.prog 209 [.int .i64 n, .sl (avP l)] (fun r => r = eGraph (graphE n l)) := by
 refine SpecP.body I_graph_New tabOK Tryz.func209 rfl Tryz.call209 (by show 2 ≤ _; decide) ?_
 conv => whnf
 repeat' (first | ((first | (intro (_ : _ ≤ 9223372036854775807)) | (refine DrawK.auto tabOK mixed (by kernel_rfl) ?_) | (refine And.intro rfl ?_) | (refine And.intro ⟨rfl, rfl, by decide⟩ ?_) | (refine MkK.mk n rfl (by show 24 * n ≤ 140737488355328; omega) (by unfold maxLen; omega) ?_)); conv => whnf) | (refine Br.dec (fun _ => ?_) (fun _ => ?_) <;> first | (exfalso; omega) | conv => whnf) | (refine And.intro ?_ ?_ <;> conv => whnf))
 all_goals have hl : (avP l).length = l.length := List.length_map _
 ·refine LoopK.inv tabOK (fun m : Nat => ⟨[(5, .ptr (0 + 1 + 1) 0), (20, .p (.sl (avP l))), (21, .p (.int .i64 (avP l).length)), (22, .p (.int .i64 m))], [(0 + 1 + 1, .obj 213 [.hd 0 0 n, .hd (0 + 1) 0 n]), (0, .ext (.mat 36 3 1 (avI (graphE n (l.take m)).1) [])), (0 + 1, .ext (.mat 36 3 1 (avI (graphE n (l.take m)).2) []))]⟩)
   (fun m => m ≤ l.length) (fun m => l.length - m) 0 (by
     refine Le.trans (mats_begin n _ _ rfl rfl) ?_
     exact Le.mk [] (by simp) (by simp) (by simp) (.cons (.refl _) (.cons (.refl _) (.cons (.refl _) (.cons (.refl _) .nil)))) (.cons rfl (.refl _) (.cons rfl (.of_eq (by simp [avI, graphE])) (.cons rfl (.of_eq (by simp [avI, graphE])) .nil)))) (Nat.zero_le _) ?_
  rintro m h2
  obtain ⟨g1, g2⟩ := graphE_inv (n := n) h2
  rcases Nat.lt_or_ge m l.length with hm | hm
  ·have hme : (avP l)[m]? = some (.agg [.int .i64 l[m].1, .int .i64 l[m].2]) := by simp [avP, hm]
   conv => whnf
   repeat' (first | ((first | (refine And.intro rfl ?_) | (refine Wr.i64 (by omega) (by omega) ?_) | (refine IdxK.at rfl hme rfl ?_) | (refine IdxL.mk 0 rfl (by decide) ?_) | (refine IdxL.mk 1 rfl (by decide) ?_)); conv => whnf) | (refine Br.dec (fun _ => ?_) (fun _ => ?_) <;> first | (exfalso; omega) | conv => whnf) | (refine CallK.heap [(1000, 0+1+1), (2001, 0), (2002, 1)] 0 (by repeat' (first | exact ArgsH.nil | refine ArgsH.cons ?_ ?_ | exact LSub.refl _ | exact LSub.p Sub.nils | exact LSub.p (Sub.tt rfl) | exact LSub.p (Sub.ff rfl) | exact LSub.p (Sub.int (by omega)))) (by refine BlksH.cons (j := 2) rfl rfl ?_ ?_; exact CSub.refl _; refine BlksH.cons (j := 0) rfl rfl ?_ ?_; exact CSub.refl _; refine BlksH.cons (j := 1) rfl rfl ?_ ?_; exact CSub.refl _; exact BlksH.nil) (graph_Add n _ _ l[m].1 l[m].2 g1.1 g2.1 hn (fun r hr => ⟨(g1.2 r hr).1, by have := (g1.2 r hr).2; omega⟩) (fun r hr => ⟨(g2.2 r hr).1, by have := (g2.2 r hr).2; omega⟩)) rfl rfl ?_; rintro l' H' ⟨t, rfl, rfl⟩; conv => whnf))
   exact ⟨m + 1, hm, by omega, Le.of_eq (by rw [graphE_succ hm, addE_1, addE_2]; rfl)⟩
  ·rw [List.take_of_length_le hm] at g1 g2 ⊢
   conv => whnf
   repeat' (refine Br.dec (fun _ => ?_) (fun _ => ?_) <;> first | (exfalso; omega) | conv => whnf)
   exact ⟨_, .ptr (cs := [eMat (graphE n l).1, eMat (graphE n l).2]) rfl rfl (fun i x c h1 h3 => by
    match i, h1, h3 with
    | 0, h1, h3 => cases h1; cases h3; exact .mat rfl (by rw [avI, List.length_map, g1.1])
    | 1, h1, h3 => cases h1; cases h3; exact .mat rfl (by rw [avI, List.length_map, g2.1])), rfl⟩
 ·refine LoopK.inv tabOK (fun m : Nat => ⟨[(5, .ptr (0 + 1 + 1) 0), (20, .p (.sl (avP l))), (21, .p (.int .i64 (avP l).length)), (22, .p (.int .i64 m))], [(0 + 1 + 1, .obj 213 [.hd (0 + 1) 0 n, .hd 0 0 n]), (0 + 1, .ext (.mat 36 3 1 (avI (graphE n (l.take m)).1) [])), (0, .ext (.mat 36 3 1 (avI (graphE n (l.take m)).2) []))]⟩)
   (fun m => m ≤ l.length) (fun m => l.length - m) 0 (by
     refine Le.trans (mats_begin n _ _ rfl rfl) ?_
     exact Le.mk [] (by simp) (by simp) (by simp) (.cons (.refl _) (.cons (.refl _) (.cons (.refl _) (.cons (.refl _) .nil)))) (.cons rfl (.refl _) (.cons rfl (.of_eq (by simp [avI, graphE])) (.cons rfl (.of_eq (by simp [avI, graphE])) .nil)))) (Nat.zero_le _) ?_
  rintro m h2
  obtain ⟨g1, g2⟩ := graphE_inv (n := n) h2
  rcases Nat.lt_or_ge m l.length with hm | hm
  ·have hme : (avP l)[m]? = some (.agg [.int .i64 l[m].1, .int .i64 l[m].2]) := by simp [avP, hm]
   conv => whnf
   repeat' (first | ((first | (refine And.intro rfl ?_) | (refine Wr.i64 (by omega) (by omega) ?_) | (refine IdxK.at rfl hme rfl ?_) | (refine IdxL.mk 0 rfl (by decide) ?_) | (refine IdxL.mk 1 rfl (by decide) ?_)); conv => whnf) | (refine Br.dec (fun _ => ?_) (fun _ => ?_) <;> first | (exfalso; omega) | conv => whnf) | (refine CallK.heap [(1000, 0+1+1), (2001, 1), (2002, 0)] 0 (by repeat' (first | exact ArgsH.nil | refine ArgsH.cons ?_ ?_ | exact LSub.refl _ | exact LSub.p Sub.nils | exact LSub.p (Sub.tt rfl) | exact LSub.p (Sub.ff rfl) | exact LSub.p (Sub.int (by omega)))) (by refine BlksH.cons (j := 2) rfl rfl ?_ ?_; exact CSub.refl _; refine BlksH.cons (j := 1) rfl rfl ?_ ?_; exact CSub.refl _; refine BlksH.cons (j := 0) rfl rfl ?_ ?_; exact CSub.refl _; exact BlksH.nil) (graph_Add n _ _ l[m].1 l[m].2 g1.1 g2.1 hn (fun r hr => ⟨(g1.2 r hr).1, by have := (g1.2 r hr).2; omega⟩) (fun r hr => ⟨(g2.2 r hr).1, by have := (g2.2 r hr).2; omega⟩)) rfl rfl ?_; rintro l' H' ⟨t, rfl, rfl⟩; conv => whnf))
   exact ⟨m + 1, hm, by omega, Le.of_eq (by rw [graphE_succ hm, addE_1, addE_2]; rfl)⟩
  ·rw [List.take_of_length_le hm] at g1 g2 ⊢
   conv => whnf
   repeat' (refine Br.dec (fun _ => ?_) (fun _ => ?_) <;> first | (exfalso; omega) | conv => whnf)
   exact ⟨_, .ptr (cs := [eMat (graphE n l).1, eMat (graphE n l).2]) rfl rfl (fun i x c h1 h3 => by
    match i, h1, h3 with
    | 0, h1, h3 => cases h1; cases h3; exact .mat rfl (by rw [avI, List.length_map, g1.1])
    | 1, h1, h3 => cases h1; cases h3; exact .mat rfl (by rw [avI, List.length_map, g2.1])), rfl⟩
open Go.Proofs
def seeW (st : List Bool × List Int) (b : Int) : List Bool × List Int := bif st.1.getD b.toNat false then st else (st.1.set b.toNat true, st.2 ++ [b])
def walkF (rows : List (List Int)) : Nat → Nat → List Bool × List Int → List Bool × List Int
 | 0, _, st => st
 | k + 1, i, st => match st.2[i]? with
   | some a => walkF rows k (i + 1) ((rows.getD a.toNat []).foldl seeW st)
   | none => st
def wkInv (n : Nat) (st : List Bool × List Int) : Prop := st.1.length = n ∧ st.2.length ≤ st.1.count true ∧ ∀ x ∈ st.2, 0 ≤ x ∧ x < n
theorem seeW_inv {n : Nat} {st : List Bool × List Int} (h : wkInv n st) {b : Int} (hb : 0 ≤ b ∧ b < n) : wkInv n (seeW st b) := by
 unfold seeW
 obtain ⟨h1, h2, h3⟩ := h
 have hlt : b.toNat < st.1.length := by omega
 cases hs : st.1.getD b.toNat false with
 | true => exact ⟨h1, h2, h3⟩
 | false =>
   have hg : st.1[b.toNat] = false := by simpa [hlt] using hs
   refine ⟨by simpa using h1, ?_, fun x hx => ?_⟩
   ·simp only [cond_false, List.length_append, List.length_singleton]
    rw [List.count_set hlt, hg]
    simp
    omega
   ·rcases List.mem_append.1 hx with hx | hx
    ·exact h3 x hx
    ·rw [List.mem_singleton.1 hx]; exact hb
theorem foldW_inv {n : Nat} {l : List Int} : ∀ {st : List Bool × List Int}, wkInv n st → (∀ b ∈ l, 0 ≤ b ∧ b < n) → wkInv n (l.foldl seeW st) := by
 induction l with
 | nil => intro st h _; exact h
 | cons b r ih => intro st h hl; exact ih (seeW_inv h (hl b List.mem_cons_self)) fun c hc => hl c (List.mem_cons_of_mem _ hc)
theorem wkInv_len {n : Nat} {st : List Bool × List Int} (h : wkInv n st) : st.2.length ≤ n := by
 refine Nat.le_trans h.2.1 ?_
 rw [← h.1]
 exact List.count_le_length
def rowsIn (n : Nat) (rows : List (List Int)) : Prop := rows.length = n ∧ ∀ r ∈ rows, ∀ b ∈ r, 0 ≤ b ∧ b < n
def walkH (st : List Bool × List Int) : Heap := [(1000, .own 4 1 (st.1.map bv)), (2000, .own 3 1 (st.2.map (.int .i64)))]
theorem graph_walk (n : Nat) (hn : n ≤ 5000) (rows : List (List Int)) (hr : rowsIn n rows) (st : List Bool × List Int) (hs : wkInv n st) :
  SpecH Tryz.prog 211 [.p (eMat rows), .hd 1000 0 n, .hd 2000 0 st.2.length] (walkH st) (fun r H => r = .hd 2000 0 (walkF rows (n + 1) 0 st).2.length ∧ H = walkH (walkF rows (n + 1) 0 st)) := by
 refine SpecH.body I_graph_walk tabOK Tryz.func211 rfl Tryz.call211 (by show 3 ≤ _; decide) ?_
 conv => whnf
 skip
 refine LoopK.inv tabOK (fun x : Nat × List Bool × List Int => ⟨[(0, .p (eMat rows)), (1, .hd 1000 0 n), (2, .hd 2000 0 x.2.2.length), (7, .p (.int .i64 x.1))], walkH x.2⟩)
  (fun x => wkInv n x.2 ∧ x.1 ≤ x.2.2.length ∧ walkF rows (n + 1 - x.1) x.1 x.2 = walkF rows (n + 1) 0 st) (fun x => n - x.1) (0, st) (Le.of_eq rfl) ⟨hs, Nat.zero_le _, rfl⟩ ?_
 rintro ⟨i, seen, todo⟩ ⟨h1, h2, h3⟩
 simp only at h1 h2 h3 ⊢
 have hle := wkInv_len h1
 simp only at hle
 rw [show n + 1 - i = n - i + 1 by omega, walkF] at h3
 rcases Nat.lt_or_ge i todo.length with hi | hi
 rotate_left 1
 ·simp only [List.getElem?_eq_none hi] at h3
  conv => whnf
  repeat' (first | (intro (_ : _ ≤ 9223372036854775807); conv => whnf) | (refine Br.dec (fun _ => ?_) (fun _ => ?_) <;> first | (exfalso; omega) | conv => whnf))
  exact ⟨_, LSub.of_eq (by rw [← h3]), rfl, by rw [← h3]; rfl⟩
 simp only [List.getElem?_eq_getElem hi] at h3
 have hx := h1.2.2 _ (List.getElem_mem hi)
 have hxr : todo[i].toNat < rows.length := by rw [hr.1]; omega
 have hrow : ((avI rows).map AV.sl)[todo[i].toNat]? = some (.sl (rows[todo[i].toNat].map (.int .i64))) := by simp [avI, hxr]
 have hgd : rows.getD todo[i].toNat [] = rows[todo[i].toNat] := by simp [hxr]
 rw [hgd] at h3
 have hrin := hr.2 _ (List.getElem_mem hxr)
 conv => whnf
 repeat' (first | ((first | (intro (_ : _ ≤ 9223372036854775807)) | (refine And.intro rfl ?_) | (refine IdxL.mk i (by omega) (by omega) ?_) | (refine LdOwn.mk i 0 (.int .i64 todo[i]) (by omega) (by simp [hi]) ?_) | (refine IdxK.at (by omega) hrow rfl ?_)); conv => whnf) | (refine Br.dec (fun _ => ?_) (fun _ => ?_) <;> first | (exfalso; omega) | conv => whnf))
 have hrb : (rows[todo[i].toNat].map (AV.int .i64)).length ≤ 9223372036854775807 := by assumption
 generalize rows[todo[i].toNat] = row at hrin h3 hrb ⊢
 have hrl : (row.map (AV.int .i64)).length = row.length := List.length_map _
 refine LoopK.inv tabOK (fun x : Nat × List Bool × List Int => ⟨[(0, .p (eMat rows)), (1, .hd 1000 0 n), (2, .hd 2000 0 x.2.2.length), (7, .p (.int .i64 i)), (22, .p (.sl (row.map (.int .i64)))), (23, .p (.int .i64 (row.map (AV.int .i64)).length)), (24, .p (.int .i64 x.1))], walkH x.2⟩)
  (fun x => wkInv n x.2 ∧ todo.length ≤ x.2.2.length ∧ x.1 ≤ row.length ∧ walkF rows (n - i) (i + 1) ((row.drop x.1).foldl seeW x.2) = walkF rows (n + 1) 0 st) (fun x => row.length - x.1) (0, seen, todo) (Le.of_eq rfl) ⟨h1, Nat.le_refl _, Nat.zero_le _, h3⟩ ?_
 rintro ⟨q, s2, t2⟩ ⟨h4, h5, h6, h7⟩
 simp only at h4 h5 h6 h7 ⊢
 have hle2 := wkInv_len h4
 simp only at hle2
 rcases Nat.lt_or_ge q row.length with hq | hq
 rotate_left 1
 ·rw [List.drop_eq_nil_of_le hq] at h7
  conv => whnf
  repeat' (first | (refine Wr.i64 (by omega) (by omega) ?_; conv => whnf) | (refine Br.dec (fun _ => ?_) (fun _ => ?_) <;> first | (exfalso; omega) | conv => whnf))
  exact ⟨(i + 1, s2, t2), ⟨h4, by simp only; omega, by simp only; rw [show n + 1 - (i + 1) = n - i by omega]; exact h7⟩, by simp only; omega, Le.of_eq rfl⟩
 rw [List.drop_eq_getElem_cons hq, List.foldl_cons] at h7
 have hb := hrin _ (List.getElem_mem hq)
 have h8 := seeW_inv h4 hb
 have hbl : row[q].toNat < s2.length := by have := h4.1; simp only at this; omega
 cases hsb : s2.getD row[q].toNat false with
 | true =>
   have e1 : seeW (s2, t2) row[q] = (s2, t2) := by unfold seeW; simp only [hsb, cond_true]
   have e2 : (s2.map bv)[row[q].toNat]? = some .tt := by
    have : s2[row[q].toNat] = true := by simpa [hbl] using hsb
    simp [hbl, this, bv]
   rw [e1] at h7
   conv => whnf
   repeat' (first | ((first | (refine And.intro rfl ?_) | (refine IdxK.map (by omega) (fun _ => rfl) ?_) | (refine Wr.i64 (by omega) (by omega) ?_) | (refine IdxL.mk row[q].toNat (by omega) (by have := h4.1; simp only at this; omega) ?_) | (refine LdOwn.mk row[q].toNat 0 .tt (by omega) e2 ?_)); conv => whnf) | (refine Br.dec (fun _ => ?_) (fun _ => ?_) <;> first | (exfalso; omega) | conv => whnf))
   all_goals exact ⟨(q + 1, s2, t2), ⟨h4, h5, by simp only; omega, h7⟩, by simp only; omega, Le.of_eq rfl⟩
 | false =>
   have e1 : seeW (s2, t2) row[q] = (s2.set row[q].toNat true, t2 ++ [row[q]]) := by unfold seeW; simp only [hsb, cond_false]
   have e2 : (s2.map bv)[row[q].toNat]? = some .ff := by
    have : s2[row[q].toNat] = false := by simpa [hbl] using hsb
    simp [hbl, this, bv]
   rw [e1] at h7 h8
   conv => whnf
   repeat' (first | ((first | (refine And.intro rfl ?_) | (refine And.intro ⟨by decide, by decide⟩ ?_) | (refine BsK.pure (fun x hx => by rcases List.mem_singleton.1 hx with rfl; rfl) rfl ?_) | (refine IdxK.map (by omega) (fun _ => rfl) ?_) | (refine Wr.i64 (by omega) (by omega) ?_) | (refine IdxL.mk row[q].toNat (by omega) (by have := h4.1; simp only at this; omega) ?_) | (refine LdOwn.mk row[q].toNat 0 .ff (by omega) e2 ?_) | (refine StOwn.mk row[q].toNat 0 .ff .tt (by omega) e2 (Nat.le_refl 1) rfl ?_) | (refine AppK.int1 (by simp) (by simp; omega) ?_)); conv => whnf) | (refine Br.dec (fun _ => ?_) (fun _ => ?_) <;> first | (exfalso; omega) | conv => whnf))
   all_goals exact ⟨(q + 1, s2.set row[q].toNat true, t2 ++ [row[q]]), ⟨h8, by simp; omega, by simp only; omega, h7⟩, by simp only; omega, Le.of_eq (by simp only [walkH, List.length_append, List.map_append, List.map_set]; rfl)⟩
open Go.Proofs
def lstI : Nat → List Bool → List Int
 | _, [] => []
 | i, b :: r => bif b then (i : Int) :: lstI (i + 1) r else lstI (i + 1) r
theorem graph_listed (seen : List Bool) (hn : seen.length ≤ 1000000) :
  SpecH Tryz.prog 212 [.hd 1000 0 seen.length] [(1000, .own 4 1 (seen.map bv))] (fun r H => ∃ es, r = .p (.sl es) ∧ H = [(1000, .own 4 1 (seen.map bv))] ∧ es = (lstI 0 seen).map (.int .i64)) := by
 refine SpecH.frzret (e := 3) (sz := 1) rfl ?_
 refine SpecH.body I_graph_listed tabOK Tryz.func212 rfl Tryz.call212 (by show 1 ≤ _; decide) ?_
 conv => whnf
 repeat' (intro (_ : _ ≤ 9223372036854775807); conv => whnf)
 refine LoopK.inv tabOK (fun i : Nat × List Int => ⟨[(3, .hd 0 0 i.2.length), (6, .hd 1000 0 seen.length), (7, .p (.int .i64 seen.length)), (8, .p (.int .i64 i.1))], [(0, .own 3 1 (i.2.map (.int .i64))), (1000, .own 4 1 (seen.map bv))]⟩)
  (fun i => i.1 ≤ seen.length ∧ i.2.length ≤ i.1 ∧ i.2 ++ lstI i.1 (seen.drop i.1) = lstI 0 seen) (fun i => seen.length - i.1) (0, [])
  (Le.mk [(0, .own 3 1 [])] (by simp [Chunk.new0]; rfl) (by simp) (by simp) (.cons (.nil List.mem_cons_self) (.cons (.refl _) (.cons (.refl _) (.cons (.refl _) .nil)))) (.new List.mem_cons_self (.cons rfl (.refl _) .nil)))
  ⟨Nat.zero_le _, Nat.le_refl _, rfl⟩ ?_
 rintro ⟨m, acc⟩ ⟨h2, h3, h4⟩
 simp only at h2 h3 h4 ⊢
 rcases Nat.lt_or_ge m seen.length with hm | hm
 rotate_left 1
 ·rw [List.drop_eq_nil_of_le hm, lstI, List.append_nil] at h4
  subst h4
  conv => whnf
  repeat' (refine Br.dec (fun _ => ?_) (fun _ => ?_) <;> first | (exfalso; omega) | conv => whnf)
  exact ⟨_, LSub.refl _, (lstI 0 seen).map (.int .i64), by simp, rfl, rfl⟩
 rw [List.drop_eq_getElem_cons hm, lstI] at h4
 cases hsb : seen[m] with
 | true =>
   rw [hsb, cond_true] at h4
   have e2 : (seen.map bv)[m]? = some .tt := by simp [hm, hsb, bv]
   conv => whnf
   repeat' (first | ((first | (refine And.intro rfl ?_) | (refine And.intro ⟨by decide, by decide⟩ ?_) | (refine BsK.pure (fun x hx => by rcases List.mem_singleton.1 hx with rfl; rfl) rfl ?_) | (refine Wr.i64 (by omega) (by omega) ?_) | (refine IdxL.mk m rfl hm ?_) | (refine LdOwn.mk m 0 .tt (by omega) e2 ?_) | (refine AppK.int1 (by simp) (by simp; omega) ?_)); conv => whnf) | (refine Br.dec (fun _ => ?_) (fun _ => ?_) <;> first | (exfalso; omega) | conv => whnf))
   exact ⟨(m + 1, acc ++ [(m : Int)]), ⟨by simp only; omega, by simp; omega, by simpa using h4⟩, by simp only; omega, Le.of_eq (by simp only [List.length_append, List.map_append]; rfl)⟩
 | false =>
   rw [hsb, cond_false] at h4
   have e2 : (seen.map bv)[m]? = some .ff := by simp [hm, hsb, bv]
   conv => whnf
   repeat' (first | ((first | (refine And.intro rfl ?_) | (refine Wr.i64 (by omega) (by omega) ?_) | (refine IdxL.mk m rfl hm ?_) | (refine LdOwn.mk m 0 .ff (by omega) e2 ?_)); conv => whnf) | (refine Br.dec (fun _ => ?_) (fun _ => ?_) <;> first | (exfalso; omega) | conv => whnf))
   exact ⟨(m + 1, acc), ⟨by simp only; omega, by simp only; omega, h4⟩, by simp only; omega, Le.of_eq rfl⟩
theorem graph_Graph_has (g : List (List Int) × List (List Int)) (a : Int) : SpecP Tryz.prog 210 [eGraph g, .int .i64 a] (fun r => r = .bool (hasB g.1.length a)) := by
 refine SpecP.body I_graph_Graph_has tabOK Tryz.func210 rfl Tryz.call210 (by show 2 ≤ _; decide) ?_
 conv => whnf
 repeat' (first | (intro (_ : _ ≤ 9223372036854775807); conv => whnf) | (refine Br.dec (fun _ => ?_) (fun _ => ?_) <;> first | (exfalso; omega) | conv => whnf))
 all_goals have hl : ((avI g.1).map AV.sl).length = g.1.length := by simp [avI]
 all_goals first
  | exact RetK.bool (by unfold hasB; simp [*]; done)
  | exact RetK.ff (by unfold hasB; simp; omega)
 all_goals trace_state
def startW (n : Nat) (l : List Int) : List Bool × List Int := l.foldl (fun st a => bif hasB n a then seeW st a else st) (List.replicate n false, [])
def reachB (rows : List (List Int)) (l : List Int) : List Bool := (walkF rows (rows.length + 1) 0 (startW rows.length l)).1
theorem wkInv_start (n : Nat) : wkInv n (List.replicate n false, []) := ⟨by simp, by simp [List.count_replicate], by simp⟩
theorem walkF_inv {n : Nat} {rows : List (List Int)} (hr : rowsIn n rows) : ∀ (k i : Nat) {st : List Bool × List Int}, wkInv n st → wkInv n (walkF rows k i st)
 | 0, _, _, h => h
 | k + 1, i, st, h => by
   rw [walkF]
   split
   ·rename_i a ha
    have hx := h.2.2 a (List.mem_of_getElem? ha)
    refine walkF_inv hr k (i + 1) (foldW_inv h ?_)
    have hlt : a.toNat < rows.length := by rw [hr.1]; omega
    rw [List.getD_eq_getElem?_getD, List.getElem?_eq_getElem hlt]
    exact hr.2 _ (List.getElem_mem hlt)
   ·exact h
theorem hasB_iff {n : Nat} {a : Int} (h : hasB n a = true) : 0 ≤ a ∧ a < n := by
 unfold hasB at h
 simpa using h
theorem graph_Graph_Reach (n : Nat) (hn : n ≤ 5000) (g : List (List Int) × List (List Int)) (hg : rowsIn n g.1) (l : List Int) (hlen : l.length ≤ 1000000) : SpecP Tryz.prog 151 [eGraph g, eInts l] (fun r => r = eInts (lstI 0 (reachB g.1 l))) := by
 refine SpecP.body I_graph_Graph_Reach tabOK Tryz.func151 rfl Tryz.call151 (by show 2 ≤ _; decide) ?_
 conv => whnf
 have hl : ((avI g.1).map AV.sl).length = n := by simp [avI, hg.1]
 repeat' ((first | (intro (_ : _ ≤ 9223372036854775807)) | (refine And.intro ⟨rfl, rfl, by decide⟩ ?_) | (refine MkK.mk n (by rw [hl]) (by show 1 * n ≤ 140737488355328; omega) (by unfold maxLen; omega) ?_)); conv => whnf)
 have hll : (l.map (AV.int .i64)).length = l.length := List.length_map _
 refine LoopK.inv tabOK (fun x : Nat × List Bool × List Int => ⟨[(0, .p (eGraph g)), (5, .hd 0 0 n), (6, .hd 1 0 x.2.2.length), (17, .p (eInts l)), (18, .p (.int .i64 (l.map (AV.int .i64)).length)), (19, .p (.int .i64 x.1))], [(0, .own 4 1 (x.2.1.map bv)), (1, .own 3 1 (x.2.2.map (.int .i64)))]⟩)
  (fun x => x.1 ≤ l.length ∧ wkInv n x.2 ∧ (l.drop x.1).foldl (fun st a => bif hasB n a then seeW st a else st) x.2 = startW n l) (fun x => l.length - x.1) (0, List.replicate n false, [])
  (Le.mk [(1, .own 3 1 [])] (by simp [Chunk.new0]; rfl) (by simp) (by simp) (.cons (.refl _) (.cons (.refl _) (.cons (.nil List.mem_cons_self) (.cons (.refl _) (.cons (.refl _) (.cons (.refl _) .nil)))))) (.cons rfl (.of_eq (by rw [List.map_replicate]; rfl)) (.new List.mem_cons_self .nil)))
  ⟨Nat.zero_le _, wkInv_start n, rfl⟩ ?_
 rintro ⟨m, seen, todo⟩ ⟨h2, h3, h4⟩
 simp only at h2 h3 h4 ⊢
 have hsl : seen.length = n := h3.1
 have htl : todo.length ≤ n := wkInv_len h3
 rcases Nat.lt_or_ge m l.length with hm | hm
 rotate_left 1
 ·rw [List.drop_eq_nil_of_le hm, List.foldl_nil] at h4
  conv => whnf
  repeat' (first | (refine Br.dec (fun _ => ?_) (fun _ => ?_) <;> first | (exfalso; omega) | conv => whnf) | (refine CallK.heap [(1000, 0), (2000, 1)] 0 (by repeat' (first | exact ArgsH.nil | refine ArgsH.cons ?_ ?_ | exact LSub.refl _ | exact LSub.p Sub.nils | exact LSub.p (Sub.tt rfl) | exact LSub.p (Sub.ff rfl) | exact LSub.p (Sub.int (by omega)))) (by refine BlksH.cons (j := 0) rfl rfl ?_ ?_; exact CSub.refl _; refine BlksH.cons (j := 1) rfl rfl ?_ ?_; exact CSub.refl _; exact BlksH.nil) (graph_walk n hn g.1 hg (seen, todo) h3) rfl rfl ?_; rintro l' H' ⟨rfl, rfl⟩; conv => whnf))
  have hwl : (walkF g.1 (n + 1) 0 (seen, todo)).1.length = n := (walkF_inv hg _ _ h3).1
  refine CallK.heap [(1000, 0)] 0 (ArgsH.cons (LSub.of_eq (by rw [hwl]; rfl)) ArgsH.nil) (by refine BlksH.cons (j := 0) rfl rfl ?_ ?_; exact CSub.refl _; exact BlksH.nil) (graph_listed (walkF g.1 (n + 1) 0 (seen, todo)).1 (by omega)) rfl rfl ?_
  rintro l' H' ⟨es, rfl, rfl, rfl⟩
  conv => whnf
  skip
  exact RetK.p (by unfold eInts reachB; rw [hg.1, ← h4])
 rw [List.drop_eq_getElem_cons hm, List.foldl_cons] at h4
 have hhas : SpecP Tryz.prog 210 [eGraph g, .int .i64 l[m]] (fun r => r = .bool (hasB n l[m])) := by
  have := graph_Graph_has g l[m]
  rwa [hg.1] at this
 cases hsb : seen.getD l[m].toNat false with
 | true =>
   have e1 : (bif hasB n l[m] then seeW (seen, todo) l[m] else (seen, todo)) = (seen, todo) := by unfold seeW; simp only [hsb, cond_true]; cases hasB n l[m] <;> rfl
   have e2 : hasB n l[m] = true → (seen.map bv)[l[m].toNat]? = some .tt := fun h => by
    have hb := hasB_iff h
    have hlt : l[m].toNat < seen.length := by omega
    have : seen[l[m].toNat] = true := by simpa [hlt] using hsb
    simp [hlt, this, bv]
   rw [e1] at h4
   conv => whnf
   repeat' (first | ((first | (refine And.intro rfl ?_) | (refine IdxK.map (by omega) (fun _ => rfl) ?_) | (refine Wr.i64 (by omega) (by omega) ?_) | (refine CallK.pure hhas (.cons (Sub.refl _) (.cons (Sub.refl _) .nil)) ?_; rintro _ rfl) | (refine IdxL.mk l[m].toNat (by have := hasB_iff (by assumption); omega) (by have := hasB_iff (by assumption); omega) ?_) | (refine LdOwn.mk l[m].toNat 0 .tt (by omega) (e2 (by assumption)) ?_)); conv => whnf) | (refine Br.dec (fun _ => ?_) (fun _ => ?_) <;> first | (exfalso; omega) | conv => whnf) | (refine Br.b (fun _ => ?_) (fun _ => ?_) <;> conv => whnf))
   all_goals exact ⟨(m + 1, seen, todo), ⟨by simp only; omega, h3, h4⟩, by simp only; omega, Le.of_eq rfl⟩
 | false =>
   have e2 : hasB n l[m] = true → (seen.map bv)[l[m].toNat]? = some .ff := fun h => by
    have hb := hasB_iff h
    have hlt : l[m].toNat < seen.length := by omega
    have : seen[l[m].toNat] = false := by simpa [hlt] using hsb
    simp [hlt, this, bv]
   conv => whnf
   repeat' (first | ((first | (refine And.intro rfl ?_) | (refine And.intro ⟨by decide, by decide⟩ ?_) | (refine BsK.pure (fun x hx => by rcases List.mem_singleton.1 hx with rfl; rfl) rfl ?_) | (refine IdxK.map (by omega) (fun _ => rfl) ?_) | (refine Wr.i64 (by omega) (by omega) ?_) | (refine CallK.pure hhas (.cons (Sub.refl _) (.cons (Sub.refl _) .nil)) ?_; rintro _ rfl) | (refine IdxL.mk l[m].toNat (by have := hasB_iff (by assumption); omega) (by have := hasB_iff (by assumption); omega) ?_) | (refine LdOwn.mk l[m].toNat 0 .ff (by omega) (e2 (by assumption)) ?_) | (refine StOwn.mk l[m].toNat 0 .ff .tt (by omega) (e2 (by assumption)) (Nat.le_refl 1) rfl ?_) | (refine AppK.int1 (by simp) (by simp; omega) ?_)); conv => whnf) | (refine Br.dec (fun _ => ?_) (fun _ => ?_) <;> first | (exfalso; omega) | conv => whnf) | (refine Br.b (fun _ => ?_) (fun _ => ?_) <;> conv => whnf))
   ·have hh : hasB n l[m] = true := by assumption
    have e1 : (bif hasB n l[m] then seeW (seen, todo) l[m] else (seen, todo)) = (seen.set l[m].toNat true, todo ++ [l[m]]) := by unfold seeW; simp only [hsb, hh, cond_true, cond_false]
    have h8 := seeW_inv h3 (hasB_iff hh)
    rw [e1] at h4
    have e3 : seeW (seen, todo) l[m] = (seen.set l[m].toNat true, todo ++ [l[m]]) := by unfold seeW; simp only [hsb, cond_false]
    rw [e3] at h8
    exact ⟨(m + 1, seen.set l[m].toNat true, todo ++ [l[m]]), ⟨by simp only; omega, h8, h4⟩, by simp only; omega, Le.of_eq (by simp only [List.length_append, List.map_append, List.map_set]; rfl)⟩
   ·have hh : hasB n l[m] = false := by assumption
    have e1 : (bif hasB n l[m] then seeW (seen, todo) l[m] else (seen, todo)) = (seen, todo) := by rw [hh]; rfl
    rw [e1] at h4
    exact ⟨(m + 1, seen, todo), ⟨by simp only; omega, h3, h4⟩, by simp only; omega, Le.of_eq rfl⟩
open Go.Proofs
theorem way_Way_graph (w : Way) (f : Pr) (n : Nat) (hw : w.n = n) (hj : w.p.procs[w.j]? = some f) (hc : cntP w.p.procs ≤ 1000) (hn : n ≤ 5000) (l : List Step) (hlen : l.length ≤ 1000000) : SpecP Tryz.prog 150 [.ip w.cells, eSteps l] (fun r => r = eGraph (graphE n (l.map (ixP w.p w.j f w.n)))) := by
 refine SpecP.body I_way_Way_graph tabOK Tryz.func150 rfl Tryz.call150 (by show 2 ≤ _; decide) ?_
 conv => whnf
 repeat' ((first | (refine DrawK.auto tabOK mixed (by kernel_rfl) ?_) | (refine CallK.pure (way_Way_Pairs w f hj hc (by omega) l hlen) (.cons (Sub.refl _) (.cons (Sub.refl _) .nil)) ?_; rintro _ rfl) | (refine CallK.pure (graph_New n hn (l.map (ixP w.p w.j f w.n)) (by rw [List.length_map]; exact hlen)) (.cons (Sub.int hw) (.cons (Sub.refl _) .nil)) ?_; rintro _ rfl)); conv => whnf)
 exact RetK.p rfl
theorem way_graph_own (p : Pg) (j : Nat) (f : Pr) (n : Nat) (real : AV) (lv : List AV) (hj : p.procs[j]? = some f) (hc : cntP p.procs ≤ 1000) (hn : n ≤ 5000) (l : List Step) (hlen : l.length ≤ 1000000) :
  SpecH Tryz.prog 150 [.ptr 1000 0, .p (eSteps l)] (wayH p j n real lv) (fun r H => r = .p (eGraph (graphE n (l.map (ixP p j f n)))) ∧ H = wayH p j n real lv) := by
 refine SpecH.body I_way_Way_graph tabOK Tryz.func150 rfl Tryz.call150 (by show 2 ≤ _; decide) ?_
 conv => whnf
 refine DrawK.of tabOK mixed (.cons 0 false (.cons 1 false (.cons 2 false (.cons 4 false (.cons 5 false (.fork 3 (.cons 6 true (.cons 7 true (.cons 8 true .nil))) 6 (.cons 3 true (.cons 7 true (.cons 8 true .nil))))))))) (by kernel_rfl) ?_
 conv => whnf
 repeat' (first | (refine CallK.pure (graph_New n hn (l.map (ixP p j f n)) (by rw [List.length_map]; exact hlen)) (.cons (Sub.refl _) (.cons (Sub.refl _) .nil)) ?_; rintro _ rfl; conv => whnf) | (refine And.intro ?_ ?_ <;> conv => whnf) | (refine CallK.heap [(1000, 1000), (2000, 2000)] 0 (by repeat' (first | exact ArgsH.nil | refine ArgsH.cons ?_ ?_ | exact LSub.refl _ | exact LSub.p Sub.nils | exact LSub.p (Sub.tt rfl) | exact LSub.p (Sub.ff rfl) | exact LSub.p (Sub.int (by omega)))) (by refine BlksH.cons (j := 1000) rfl rfl ?_ ?_; exact CSub.refl _; refine BlksH.cons (j := 2000) rfl rfl ?_ ?_; exact CSub.refl _; exact BlksH.nil) (way_Pairs_own p j f n real lv hj hc (by omega) l hlen) rfl rfl ?_; rintro l' H' ⟨es, rfl, rfl, rfl⟩; conv => whnf))
 all_goals exact ⟨_, LSub.refl _, rfl, rfl⟩
theorem rowsIn_put {n : Nat} {N : List (List Int)} (h : rowsIn n N) {a : Nat} {b : Int} (hb : 0 ≤ b ∧ b < n) : rowsIn n (putR N a b) := by
 unfold putR
 refine ⟨by rw [List.length_set]; exact h.1, fun r hr x hx => ?_⟩
 rcases List.mem_or_eq_of_mem_set hr with hr | rfl
 ·exact h.2 r hr x hx
 ·unfold insI at hx
  have hg : ∀ y ∈ N.getD a [], 0 ≤ y ∧ y < n := fun y hy => by
   rcases Nat.lt_or_ge a N.length with ha | ha
   ·rw [List.getD_eq_getElem?_getD, List.getElem?_eq_getElem ha] at hy
    exact h.2 _ (List.getElem_mem ha) y hy
   ·rw [List.getD_eq_getElem?_getD, List.getElem?_eq_none ha] at hy
    cases hy
  rcases List.mem_append.1 hx with hx | hx
  ·exact hg x (List.mem_of_mem_take hx)
  ·rcases List.mem_cons.1 hx with rfl | hx
   ·exact hb
   ·exact hg x (List.mem_of_mem_drop hx)
theorem addE_in {n : Nat} {g : List (List Int) × List (List Int)} (h : rowsIn n g.1 ∧ rowsIn n g.2) (e : Int × Int) : rowsIn n (addE n g e).1 ∧ rowsIn n (addE n g e).2 := by
 rw [addE_1, addE_2]
 cases hc : hasB n e.1 && hasB n e.2 && !(g.1.getD e.1.toNat []).contains e.2
 ·exact h
 ·simp only [Bool.and_eq_true] at hc
  exact ⟨rowsIn_put h.1 (hasB_iff hc.1.2), rowsIn_put h.2 (hasB_iff hc.1.1)⟩
theorem foldE_in {n : Nat} (l : List (Int × Int)) : ∀ {g : List (List Int) × List (List Int)}, rowsIn n g.1 ∧ rowsIn n g.2 → rowsIn n (l.foldl (addE n) g).1 ∧ rowsIn n (l.foldl (addE n) g).2 := by
 induction l with
 | nil => intro g h; exact h
 | cons e r ih => intro g h; exact ih (addE_in h e)
theorem graphE_in (n : Nat) (l : List (Int × Int)) : rowsIn n (graphE n l).1 ∧ rowsIn n (graphE n l).2 := by
 have h0 : rowsIn n (List.replicate n []) := ⟨by simp, fun r hr => by rw [List.eq_of_mem_replicate hr]; simp⟩
 exact foldE_in l ⟨h0, h0⟩
theorem Wr.eq {n m : Int} {K : Int → Prop} (h : n = m) (h1 : -9223372036854775808 ≤ m) (h2 : m ≤ 9223372036854775807) (hK : K m) : Wr .i64 n K := by
 subst h
 exact Wr.i64 h1 h2 hK
theorem compFrom_len : ∀ (a : Step) (l : List Step), (compFrom a l).length ≤ l.length
 | _, [] => Nat.le_refl _
 | a, b :: r => by
   have := compFrom_len b r
   rw [compFrom]
   cases sameStep b a <;> simp <;> omega
theorem normS_len (l : List Step) : (normS l).length ≤ l.length := by
 unfold normS
 rw [← sortSt_len (l := l)]
 cases sortSt l with
 | nil => exact Nat.le_refl _
 | cons a r =>
   have := compFrom_len a r
   simp [compF]; omega
theorem goesI_len (sh : Sheet) (f : Pr) (it : Item) : (goesI sh f it).length ≤ 2 := by
 unfold goesI; split <;> (try split) <;> (try split) <;> (try split) <;> (try split) <;> (try split) <;> simp
theorem flatMap_len2 {α β : Type} {g : α → List β} (h : ∀ x, (g x).length ≤ 2) : ∀ l : List α, (l.flatMap g).length ≤ 2 * l.length
 | [] => by simp
 | a :: r => by
   have := flatMap_len2 h r
   have := h a
   rw [List.flatMap_cons, List.length_append, List.length_cons]
   omega
theorem stepsRaw_len (p : Pg) (j : Nat) (f : Pr) : (stepsRaw p j f).length ≤ 1 + 2 * cntL f.body := by
 unfold stepsRaw
 have := flatMap_len2 (g := fun it => (goesI (sheetOf p) f it).map (Step.mk it.s.id · 1)) (fun it => by rw [List.length_map]; exact goesI_len _ _ _) (itL j 0 (-1) 0 (offN p.procs j) f.body)
 rw [itL_len] at this
 rw [List.length_cons]
 omega
theorem lstI_mem : ∀ (i : Nat) (l : List Bool) (a : Int), a ∈ lstI i l → (i : Int) ≤ a ∧ a < i + l.length
 | _, [], _, h => by rw [lstI] at h; cases h
 | i, b :: r, a, h => by
   rw [lstI] at h
   have key : a ∈ lstI (i + 1) r → (i : Int) ≤ a ∧ a < i + (b :: r).length := fun h => by
    have := lstI_mem (i + 1) r a h
    simp only [List.length_cons]
    omega
   cases b with
   | false => exact key h
   | true =>
     rcases List.mem_cons.1 h with rfl | h
     ·simp only [List.length_cons]; omega
     ·exact key h
theorem startW_inv (n : Nat) (l : List Int) : wkInv n (startW n l) := by
 unfold startW
 have : ∀ (l : List Int) (st : List Bool × List Int), wkInv n st → wkInv n (l.foldl (fun st a => bif hasB n a then seeW st a else st) st) := fun l => by
  induction l with
  | nil => intro st h; exact h
  | cons a r ih =>
    intro st h
    refine ih _ ?_
    show wkInv n (bif hasB n a then seeW st a else st)
    cases hb : hasB n a with
    | true => exact seeW_inv h (hasB_iff hb)
    | false => exact h
 exact this l _ (wkInv_start n)
theorem reachB_len {n : Nat} {rows : List (List Int)} (h : rowsIn n rows) (l : List Int) : (reachB rows l).length = n := by
 unfold reachB
 rw [h.1]
 exact (walkF_inv h _ _ (startW_inv n l)).1
def setAll (l : List Int) (b : List Bool) : List Bool := l.foldl (fun b a => b.set a.toNat true) b
def newWay (p : Pg) (j : Nat) (f : Pr) : Way :=
 let real := normS (stepsRaw p j f)
 let n := cntL f.body + 2
 ⟨p, j, n, real, setAll (lstI 0 (reachB (graphE n (real.map (ixP p j f n))).1 [0])) (List.replicate n false)⟩
theorem way_New (p : Pg) (j : Nat) (f : Pr) (hj : p.procs[j]? = some f) (hc : cntP p.procs ≤ 1000) (hl : ∀ it ∈ itsOf p j f, it.s.kind = 7 → 1 ≤ it.loop ∧ it.loop ≤ (sheetOf p).l.length) (hok : ∀ s ∈ stepsRaw p j f, okSt s) : SpecP Tryz.prog 94 [.ip (sheetOf p).cells, .int .i64 j] (fun r => r = .ip (newWay p j f).cells) := by
 refine SpecP.body I_way_New tabOK Tryz.func94 rfl Tryz.call94 (by show 2 ≤ _; decide) ?_
 conv => whnf
 obtain ⟨_, _, _, hlen, hsp⟩ := sheet_spec p
 obtain ⟨hlo, hhi, hle, _⟩ := hsp j f hj
 repeat' ((first | (refine DrawK.auto tabOK mixed (by kernel_rfl) ?_) | (refine And.intro rfl ?_) | (refine And.intro ⟨rfl, rfl, by decide⟩ ?_) | (refine IdxK.at rfl (eInts_at hlo) rfl ?_) | (refine IdxK.at rfl (eInts_at hhi) rfl ?_) | (refine CallK.pure (flat_Sheet_Steps p j f hj hc hl hok) (.cons (Sub.refl _) (.cons (Sub.refl _) .nil)) ?_; rintro _ rfl) | (refine Wr.eq (m := cntL f.body) (by omega) (by omega) (by omega) ?_) | (refine Wr.eq (m := (cntL f.body+2 : Nat)) (by omega) (by omega) (by omega) ?_) | (refine MkK.mk (cntL f.body+2) rfl (by show 1 * _ ≤ 140737488355328; omega) (by unfold maxLen; omega) ?_)); conv => whnf)
 have hrl : (normS (stepsRaw p j f)).length ≤ 1000000 := by have := normS_len (stepsRaw p j f); have := stepsRaw_len p j f; omega
 refine CallK.heap [(1000, 0), (2000, 1)] 0 (by repeat' (first | exact ArgsH.nil | refine ArgsH.cons ?_ ?_ | exact LSub.refl _ | exact LSub.p Sub.nils | exact LSub.p (Sub.tt rfl) | exact LSub.p (Sub.ff rfl) | exact LSub.p (Sub.int (by omega)))) (BlksH.cons (j := 0) rfl rfl (CSub.of_eq (by rw [List.length_replicate]; rfl)) (BlksH.cons (j := 1) rfl rfl (CSub.refl _) BlksH.nil)) (way_graph_own p j f (cntL f.body + 2) (eSteps (normS (stepsRaw p j f))) (List.replicate (cntL f.body + 2) .ff) hj hc (by omega) (normS (stepsRaw p j f)) hrl) rfl rfl ?_
 rintro l' H' ⟨rfl, rfl⟩
 conv => whnf
 obtain ⟨hgi, _⟩ := graphE_in (cntL f.body + 2) ((normS (stepsRaw p j f)).map (ixP p j f (cntL f.body + 2 : Nat)))
 repeat' ((first | (intro (_ : _ ≤ 9223372036854775807)) | (refine And.intro rfl ?_) | (refine And.intro ⟨by decide, by decide⟩ ?_) | (refine BsK.pure (fun x hx => by rcases List.mem_singleton.1 hx with rfl; rfl) rfl ?_) | (refine CallK.pure (graph_Graph_Reach (cntL f.body+2) (by omega) _ hgi [0] (by simp)) (.cons (Sub.refl _) (.cons (Sub.refl _) .nil)) ?_; rintro _ rfl)); conv => whnf)
 have hlm : ∀ a ∈ lstI 0 (reachB (graphE (cntL f.body + 2) ((normS (stepsRaw p j f)).map (ixP p j f (cntL f.body + 2 : Nat)))).1 [0]), 0 ≤ a ∧ a < (cntL f.body + 2 : Nat) := fun a ha => by
  have := lstI_mem _ _ _ ha
  rw [reachB_len hgi] at this
  omega
 have hnw : newWay p j f = ⟨p, j, (cntL f.body + 2 : Nat), normS (stepsRaw p j f), setAll (lstI 0 (reachB (graphE (cntL f.body + 2) ((normS (stepsRaw p j f)).map (ixP p j f (cntL f.body + 2 : Nat)))).1 [0])) (List.replicate (cntL f.body + 2) false)⟩ := rfl
 rw [hnw]
 have hlb : ((lstI 0 (reachB (graphE (cntL f.body + 2) ((normS (stepsRaw p j f)).map (ixP p j f (cntL f.body + 2 : Nat)))).1 [0])).map (AV.int .i64)).length ≤ 9223372036854775807 := by assumption
 generalize lstI 0 (reachB (graphE (cntL f.body + 2) ((normS (stepsRaw p j f)).map (ixP p j f (cntL f.body + 2 : Nat)))).1 [0]) = lst at hlm hlb ⊢
 have hll : (lst.map (AV.int .i64)).length = lst.length := List.length_map _
 refine LoopK.inv tabOK (fun x : Nat × List Bool => ⟨[(5, .ptr 0 0), (46, .p (eInts lst)), (47, .p (.int .i64 (lst.map (AV.int .i64)).length)), (48, .p (.int .i64 x.1))], [(0, .obj 114 [.p (.ip (sheetOf p).cells), .p (.int .i64 j), .p (.int .i64 (cntL f.body + 2 : Nat)), .p (eSteps (normS (stepsRaw p j f))), .hd 1 0 (cntL f.body + 2)]), (1, .own 4 1 (x.2.map bv))]⟩)
  (fun x => x.1 ≤ lst.length ∧ x.2.length = cntL f.body + 2 ∧ setAll (lst.drop x.1) x.2 = setAll lst (List.replicate (cntL f.body + 2) false)) (fun x => lst.length - x.1) (0, List.replicate (cntL f.body + 2) false)
  (Le.of_eq (by simp only [List.map_replicate, List.length_replicate]; rfl)) ⟨Nat.zero_le _, by simp, rfl⟩ ?_
 rintro ⟨m, b⟩ ⟨h2, h3, h4⟩
 simp only at h2 h3 h4 ⊢
 rcases Nat.lt_or_ge m lst.length with hm | hm
 rotate_left 1
 ·rw [List.drop_eq_nil_of_le hm] at h4
  rw [← h4]
  conv => whnf
  repeat' (refine Br.dec (fun _ => ?_) (fun _ => ?_) <;> first | (exfalso; omega) | conv => whnf)
  exact ⟨_, .ptr (cs := [.ip (sheetOf p).cells, .int .i64 j, .int .i64 (cntL f.body + 2 : Nat), eSteps (normS (stepsRaw p j f)), .sl (b.map bv)]) rfl rfl (fun i x c h5 h6 => by
   match i, h5, h6 with
   | 0, h5, h6 => cases h5; cases h6; exact .p (Sub.refl _)
   | 1, h5, h6 => cases h5; cases h6; exact .p (Sub.refl _)
   | 2, h5, h6 => cases h5; cases h6; exact .p (Sub.refl _)
   | 3, h5, h6 => cases h5; cases h6; exact .p (Sub.refl _)
   | 4, h5, h6 => cases h5; cases h6; exact .hd rfl (by rw [List.length_map, h3])), rfl⟩
 rw [List.drop_eq_getElem_cons hm] at h4
 have ha := hlm _ (List.getElem_mem hm)
 have hal : lst[m].toNat < b.length := by omega
 have hbe : (b.map bv)[lst[m].toNat]? = some (bv b[lst[m].toNat]) := by simp [hal]
 conv => whnf
 repeat' (first | ((first | (refine And.intro rfl ?_) | (refine IdxK.map (by omega) (fun _ => rfl) ?_) | (refine Wr.i64 (by omega) (by omega) ?_) | (refine IdxL.mk lst[m].toNat (by omega) (by omega) ?_) | (refine StOwn.mk lst[m].toNat 0 (bv b[lst[m].toNat]) .tt (by omega) hbe (Nat.le_refl 1) (by cases b[lst[m].toNat] <;> rfl) ?_)); conv => whnf) | (refine Br.dec (fun _ => ?_) (fun _ => ?_) <;> first | (exfalso; omega) | conv => whnf))
 exact ⟨(m + 1, b.set lst[m].toNat true), ⟨by simp only; omega, by simp only [List.length_set]; exact h3, h4⟩, by simp only; omega, Le.of_eq (by simp only [List.map_set]; rfl)⟩
open Go.Proofs
def eBs (l : List Bool) : AV := .sl (l.map bv)
theorem bv_cells (b : Bool) : (bv b).cells = [bv b] := by cases b <;> rfl
theorem slices_Equal_bool_bool_ (l m : List Bool) : SpecP Tryz.prog 184 [eBs l, eBs m] (fun r => r = .bool (decide (l = m))) := by
 refine SpecP.body I_slices_Equal_bool_bool_ tabOK Tryz.func184 rfl Tryz.call184 (by show 2 ≤ _; decide) ?_
 conv => whnf
 have h1 : (l.map bv).length = l.length := List.length_map _
 have h2 : (m.map bv).length = m.length := List.length_map _
 repeat' (first | (intro (_ : _ ≤ 9223372036854775807); conv => whnf) | (refine Br.dec2 (fun _ => ?_) (fun _ => ?_) <;> first | (exfalso; omega) | conv => whnf))
 all_goals first
  | exact RetK.ff (decide_eq_false fun h => by subst h; omega)
  | skip
 have hlen : l.length = m.length := by omega
 refine LoopK.inv tabOK (fun j : Nat => ⟨[(0, .p (eBs l)), (1, .p (eBs m)), (12, .p (.int .i64 (l.map bv).length)), (13, .p (.int .i64 j))], []⟩) (fun j => j ≤ l.length ∧ l.take j = m.take j) (fun j => l.length - j) 0 (Le.of_eq rfl) ⟨Nat.zero_le _, rfl⟩ ?_
 rintro j ⟨h3, h4⟩
 rcases Nat.lt_or_ge j l.length with hj | hj
 ·have e1 : (l.map bv)[j]? = some (bv l[j]) := by rw [List.getElem?_map, List.getElem?_eq_getElem hj]; rfl
  have e2 : (m.map bv)[j]? = some (bv (m[j]'(by omega))) := by rw [List.getElem?_map, List.getElem?_eq_getElem (by omega)]; rfl
  have hst : l[j] = m[j]'(by omega) → l.take (j + 1) = m.take (j + 1) := fun h => take_same h4 hj (by omega) h
  have hno : l[j] ≠ m[j]'(by omega) → ¬ l = m := fun h he => h (by subst he; rfl)
  generalize l[j] = x at e1 hst hno
  generalize m[j]'(by omega) = y at e2 hst hno
  cases x <;> cases y <;>
  conv => whnf
  repeat' (first | ((first | (refine DrawK.auto tabOK mixed (by kernel_rfl) ?_) | (refine Wr.i64 (by omega) (by omega) ?_) | (refine IdxK.at (k := j) rfl e1 rfl ?_) | (refine IdxK.at (k := j) rfl e2 rfl ?_) | (refine ValO.boolNeq tabOK rfl rfl rfl rfl rfl ?_)); conv => whnf) | (refine Br.dec (fun _ => ?_) (fun _ => ?_) <;> first | (exfalso; omega) | conv => whnf) | (refine Br.dec2 (fun _ => ?_) (fun _ => ?_) <;> first | (exfalso; omega) | conv => whnf))
  all_goals first
   | exact RetK.ff (decide_eq_false (hno (by decide)))
   | exact ⟨j + 1, ⟨by omega, hst rfl⟩, by omega, Le.of_eq rfl⟩
   | (exfalso; simp_all; done)
 ·conv => whnf
  repeat' (refine Br.dec (fun _ => ?_) (fun _ => ?_) <;> first | (exfalso; omega) | conv => whnf)
  exact RetK.tt (decide_eq_true (all_same h4 hj (by omega)))
def bmI (fm : List (List Bool)) : List (List AV) := fm.map fun r => r.map bv
def shH (fm : List (List Bool)) : Heap := [(1000, .ext (.mat 112 4 1 (bmI fm) []))]
def sharedB (fm : List (List Bool)) (l : List Int) (b : Nat) : Bool := l.all fun a => (fm.getD a.toNat []).getD b false
def sharedR (fm : List (List Bool)) (l : List Int) (n : Nat) : List Bool := (List.range n).map (sharedB fm l)
def shRow (fm : List (List Bool)) (l : List Int) (n j : Nat) (c : Bool) : List Bool := (sharedR fm l n).take j ++ c :: List.replicate (n - j - 1) false
theorem shRow_get {fm : List (List Bool)} {l : List Int} {n j : Nat} (hj : j < n) (c : Bool) : ((shRow fm l n j c).map bv)[j]? = some (bv c) := by
 have h1 : ((sharedR fm l n).take j).length = j := by unfold sharedR; simp; omega
 have h2 : (shRow fm l n j c)[j]? = some c := by
  unfold shRow
  rw [List.getElem?_append_right (by omega), h1, Nat.sub_self]
  rfl
 rw [List.getElem?_map, h2]
 rfl
theorem shRow_set {fm : List (List Bool)} {l : List Int} {n j : Nat} (hj : j < n) (c c' : Bool) : ((shRow fm l n j c).map bv).set j (bv c') = (shRow fm l n j c').map bv := by
 rw [← List.map_set]
 congr 1
 unfold shRow
 rw [List.set_append_right _ _ (by unfold sharedR; simp; omega)]
 have : j - ((sharedR fm l n).take j).length = 0 := by unfold sharedR; simp; omega
 rw [this]
 rfl
theorem shRow_succ {fm : List (List Bool)} {l : List Int} {n j : Nat} (hj : j < n) : shRow fm l n j (sharedB fm l j) = (sharedR fm l n).take (j + 1) ++ List.replicate (n - (j + 1)) false := by
 unfold shRow
 have : (sharedR fm l n)[j]? = some (sharedB fm l j) := by unfold sharedR; simp [hj]
 rw [List.take_add_one, this, List.append_assoc]
 rfl
theorem shRow_open {fm : List (List Bool)} {l : List Int} {n j : Nat} (hj : j < n) : (sharedR fm l n).take j ++ List.replicate (n - j) false = shRow fm l n j false := by
 unfold shRow
 rw [show n - j = (n - j - 1) + 1 by omega, List.replicate_succ]
 congr 2
theorem all_take_succ {α : Type} {f : α → Bool} {l : List α} {i : Nat} (hi : i < l.length) : (l.take (i + 1)).all f = ((l.take i).all f && f l[i]) := by
 rw [List.take_succ_eq_append_getElem hi, List.all_append]
 simp
theorem way_shared (fm : List (List Bool)) (l : List Int) (n : Nat) (hn : fm.length = n) (hn5 : n ≤ 5000) (hr : ∀ r ∈ fm, r.length = n) (hl : l.length ≤ 1000000) (hs : ∀ x ∈ l, 0 ≤ x ∧ x < n) : SpecH Tryz.prog 183 [.hd 1000 0 n, .p (eInts l)] (shH fm) (fun r H => r = .hd 0 0 n ∧ H = (0, .own 4 1 ((sharedR fm l n).map bv)) :: shH fm) := by
 refine SpecH.body I_way_shared tabOK Tryz.func183 rfl Tryz.call183 (by show 2 ≤ _; decide) ?_
 conv => whnf
 have hll : (l.map (AV.int .i64)).length = l.length := List.length_map _
 repeat' ((first | (intro (_ : _ ≤ 9223372036854775807)) | (refine And.intro ⟨rfl, rfl, by decide⟩ ?_) | (refine MkK.mk n rfl (by show 1 * _ ≤ 140737488355328; omega) (by unfold maxLen; omega) ?_)); conv => whnf)
 refine LoopK.inv tabOK (fun j : Nat => ⟨[(0, .hd 1000 0 n), (1, .p (eInts l)), (5, .hd 0 0 n), (13, .p (.int .i64 n)), (14, .p (.int .i64 j))], (0, .own 4 1 (((sharedR fm l n).take j ++ List.replicate (n - j) false).map bv)) :: shH fm⟩) (fun j => j ≤ n) (fun j => n - j) 0
  (Le.of_eq (by rw [show ((sharedR fm l n).take 0 ++ List.replicate (n - 0) false).map bv = List.replicate n .ff by simp [bv]]; rfl)) (Nat.zero_le _) ?_
 intro j h2
 rcases Nat.lt_or_ge j n with hj | hj
 rotate_left 1
 ·have hje : j = n := by omega
  subst hje
  have he : ((sharedR fm l j).take j ++ List.replicate (j - j) false) = sharedR fm l j := by
   rw [Nat.sub_self, List.take_of_length_le (by unfold sharedR; simp)]
   simp
  rw [he]
  conv => whnf
  repeat' (refine Br.dec (fun _ => ?_) (fun _ => ?_) <;> first | (exfalso; omega) | conv => whnf)
  exact ⟨_, LSub.refl _, rfl, rfl⟩
 rw [shRow_open hj]
 have hg0 := shRow_get (fm := fm) (l := l) hj false
 have hs0 := shRow_set (fm := fm) (l := l) hj false true
 generalize (shRow fm l n j false).map bv = row0 at hg0 hs0 ⊢
 unfold shH
 conv => whnf
 repeat' (first | ((first | (intro (_ : _ ≤ 9223372036854775807)) | (refine And.intro rfl ?_) | (refine IdxL.mk j rfl hj ?_) | (refine StOwn.mk j 0 _ (bv true) (by show (0+j)*1 = j*1+0; omega) hg0 (Nat.le_refl _) rfl ?_)); conv => whnf) | (refine Br.dec (fun _ => ?_) (fun _ => ?_) <;> first | (exfalso; omega) | conv => whnf))
 rw [hs0]
 refine LoopK.inv tabOK (fun i : Nat => ⟨[(0, .hd 1000 0 n), (1, .p (eInts l)), (5, .hd 0 0 n), (6, .p (.int .i64 j)), (13, .p (.int .i64 n)), (14, .p (.int .i64 j)), (20, .p (eInts l)), (21, .p (.int .i64 (l.map (AV.int .i64)).length)), (22, .p (.int .i64 i))], (0, .own 4 1 ((shRow fm l n j ((l.take i).all fun a => (fm.getD a.toNat []).getD j false)).map bv)) :: shH fm⟩) (fun i => i ≤ l.length) (fun i => l.length - i) 0
  (Le.of_eq rfl) (Nat.zero_le _) ?_
 intro i h3
 rcases Nat.lt_or_ge i l.length with hi | hi
 rotate_left 1
 ·have hje : i = l.length := by omega
  subst hje
  rw [List.take_of_length_le (Nat.le_refl _), show (l.all fun a => (fm.getD a.toNat []).getD j false) = sharedB fm l j from rfl, shRow_succ hj]
  conv => whnf
  repeat' (first | (refine Wr.i64 (by omega) (by omega) ?_; conv => whnf) | (refine Br.dec (fun _ => ?_) (fun _ => ?_) <;> first | (exfalso; omega) | conv => whnf))
  exact ⟨j + 1, hj, by omega, Le.of_eq rfl⟩
 have hsa := hs _ (List.getElem_mem hi)
 have hal : l[i].toNat < fm.length := by omega
 have hrl := hr _ (List.getElem_mem hal)
 have hli : (l.map (AV.int .i64))[i]? = some (.int .i64 l[i]) := by rw [List.getElem?_map, List.getElem?_eq_getElem hi]; rfl
 have hfr : (bmI fm)[l[i].toNat]? = some (fm[l[i].toNat].map bv) := by unfold bmI; rw [List.getElem?_map, List.getElem?_eq_getElem hal]; rfl
 have hfv : (fm[l[i].toNat].map bv)[j]? = some (bv (fm[l[i].toNat][j]'(by omega))) := by rw [List.getElem?_map, List.getElem?_eq_getElem (by omega)]; rfl
 have hnx : ((l.take (i + 1)).all fun a => (fm.getD a.toNat []).getD j false) = (((l.take i).all fun a => (fm.getD a.toNat []).getD j false) && fm[l[i].toNat][j]'(by omega)) := by
  rw [all_take_succ hi]
  congr 1
  simp only [List.getD_eq_getElem?_getD]
  rw [List.getElem?_eq_getElem hal, Option.getD_some, List.getElem?_eq_getElem (by omega), Option.getD_some]
 have hrn : (fm[l[i].toNat].map bv).length = n := by rw [List.length_map, hrl]
 generalize fm[l[i].toNat][j]'(by omega) = v at hfv hnx
 generalize ((l.take i).all fun a => (fm.getD a.toNat []).getD j false) = c at hnx ⊢
 have hgc := shRow_get (fm := fm) (l := l) hj c
 have hsc := shRow_set (fm := fm) (l := l) hj c (c && v)
 generalize (shRow fm l n j c).map bv = row at hgc hsc ⊢
 cases c <;> cases v <;> unfold shH <;>
 conv => whnf
 repeat' (first | ((first | (refine And.intro rfl ?_) | (refine IdxK.map (by omega) (fun _ => rfl) ?_) | (refine Wr.i64 (by omega) (by omega) ?_) | (refine IdxL.mk j rfl hj ?_) | (refine IdxL.mk l[i].toNat (by omega) (by omega) ?_) | (refine IdxL.mk j rfl (by rw [hrn]; exact hj) ?_) | (refine LdOwn.mk j 0 _ (by show (0+j)*1 = j*1+0; omega) hgc ?_) | (refine RowK.mk l[i].toNat _ (by omega) hfr (by simp) ?_) | (refine RLd.mk _ j 0 _ hfr (by simp) (by omega) hfv ?_) | (refine StOwn.mk j 0 _ (bv false) (by show (0+j)*1 = j*1+0; omega) hgc (Nat.le_refl _) rfl ?_) | (refine StOwn.mk j 0 _ (bv true) (by show (0+j)*1 = j*1+0; omega) hgc (Nat.le_refl _) rfl ?_)); conv => whnf) | (refine Br.dec (fun _ => ?_) (fun _ => ?_) <;> first | (exfalso; omega) | conv => whnf))
 all_goals first
  | exact ⟨i + 1, hi, by omega, Le.of_eq (by rw [hnx, ← hsc]; rfl)⟩
  | (exfalso; simp_all; done)
open Go.Proofs
def filRow (n a : Nat) : List Bool := (List.range n).map fun b => decide (a < n - 1) || decide (a = b)
theorem filRow_len (n a : Nat) : (filRow n a).length = n := by unfold filRow; simp
inductive Avd (nx : List (List Int)) (n b : Nat) : Nat → Prop
 | exit (h : b ≠ n - 1) : Avd nx n b (n - 1)
 | step {a t : Nat} (hab : a ≠ b) (ht : (t : Int) ∈ nx.getD a []) (h : Avd nx n b t) : Avd nx n b a
def rowF (n : Nat) (nx : List (List Int)) (fm : List (List Bool)) (a : Nat) : List Bool := (sharedR fm (nx.getD a []) n).set a true
def bitF (fm : List (List Bool)) (a b : Nat) : Bool := (fm.getD a []).getD b false
theorem rowF_len (n : Nat) (nx : List (List Int)) (fm : List (List Bool)) (a : Nat) : (rowF n nx fm a).length = n := by unfold rowF sharedR; simp
theorem rowF_get {n : Nat} {nx : List (List Int)} {fm : List (List Bool)} {a b : Nat} (hb : b < n) : (rowF n nx fm a).getD b false = (decide (a = b) || sharedB fm (nx.getD a []) b) := by
 unfold rowF
 have hs : (sharedR fm (nx.getD a []) n)[b]? = some (sharedB fm (nx.getD a []) b) := by unfold sharedR; simp [hb]
 have hl : (sharedR fm (nx.getD a []) n).length = n := by unfold sharedR; simp
 rw [List.getD_eq_getElem?_getD]
 by_cases hab : a = b
 ·subst hab
  rw [List.getElem?_set_self (by omega), decide_eq_true rfl]
  rfl
 ·rw [List.getElem?_set_ne hab, hs, decide_eq_false hab]
  rfl
theorem shared_iff {fm : List (List Bool)} {l : List Int} {b : Nat} : sharedB fm l b = true ↔ ∀ t ∈ l, bitF fm t.toNat b = true := by
 unfold sharedB bitF
 rw [List.all_eq_true]
structure FolI (n : Nat) (nx : List (List Int)) (fm : List (List Bool)) : Prop where
 len : fm.length = n
 rows : ∀ r ∈ fm, r.length = n
 last : fm.getD (n - 1) [] = filRow n (n - 1)
 post : ∀ a b, a < n - 1 → b < n → (rowF n nx fm a).getD b false = true → bitF fm a b = true
 min : ∀ a b, a < n → b < n → bitF fm a b = false → Avd nx n b a
structure FollowP (n : Nat) (nx : List (List Int)) (fm : List (List Bool)) : Prop where
 inv : FolI n nx fm
 fix : ∀ a, a < n - 1 → fm.getD a [] = rowF n nx fm a
theorem filRow_get {n a b : Nat} (hb : b < n) : (filRow n a).getD b false = (decide (a < n - 1) || decide (a = b)) := by
 unfold filRow
 rw [List.getD_eq_getElem?_getD, List.getElem?_map, List.getElem?_range hb]
 rfl
theorem fil_bit {n a b : Nat} (ha : a < n) (hb : b < n) : bitF ((List.range n).map (filRow n)) a b = (decide (a < n - 1) || decide (a = b)) := by
 have hg : ((List.range n).map (filRow n)).getD a [] = filRow n a := by
  rw [List.getD_eq_getElem?_getD, List.getElem?_map, List.getElem?_range ha]
  rfl
 unfold bitF
 rw [hg, filRow_get hb]
theorem FolI.start {n : Nat} (hn : 2 ≤ n) (nx : List (List Int)) : FolI n nx ((List.range n).map (filRow n)) := by
 refine ⟨by simp, fun r hr => ?_, ?_, fun a b ha hb _ => ?_, fun a b ha hb h => ?_⟩
 ·obtain ⟨a, _, rfl⟩ := List.mem_map.1 hr
  exact filRow_len n a
 ·rw [List.getD_eq_getElem?_getD, List.getElem?_map, List.getElem?_range (by omega)]
  rfl
 ·rw [fil_bit (by omega) hb, decide_eq_true ha]
  rfl
 ·rw [fil_bit ha hb, Bool.or_eq_false_iff, decide_eq_false_iff_not, decide_eq_false_iff_not] at h
  have : a = n - 1 := by omega
  subst this
  exact .exit fun e => h.2 e.symm
theorem bit_set {fm : List (List Bool)} {a : Nat} (ha : a < fm.length) (l : List Bool) (x b : Nat) : bitF (fm.set a l) x b = if x = a then l.getD b false else bitF fm x b := by
 unfold bitF
 by_cases h : x = a
 ·subst h
  rw [if_pos rfl, List.getD_eq_getElem?_getD (l := fm.set x l), List.getElem?_set_self ha]
  rfl
 ·rw [if_neg h, List.getD_eq_getElem?_getD (l := fm.set a l), List.getElem?_set_ne (Ne.symm h), ← List.getD_eq_getElem?_getD]
theorem FolI.step {n : Nat} {nx : List (List Int)} {fm : List (List Bool)} (h : FolI n nx fm) (hnx : ∀ a, ∀ x ∈ nx.getD a [], 0 ≤ x ∧ x < (n : Int)) {a : Nat} (ha : a < n - 1) : FolI n nx (fm.set a (rowF n nx fm a)) := by
 have hal : a < fm.length := by have := h.len; omega
 have mono : ∀ x b, b < n → bitF (fm.set a (rowF n nx fm a)) x b = true → bitF fm x b = true := fun x b hb hx => by
  rw [bit_set hal] at hx
  split at hx
  ·rename_i he
   subst he
   exact h.post _ b ha hb hx
  ·exact hx
 have rmono : ∀ x b, b < n → (rowF n nx (fm.set a (rowF n nx fm a)) x).getD b false = true → (rowF n nx fm x).getD b false = true := fun x b hb hx => by
  rw [rowF_get hb, Bool.or_eq_true] at hx ⊢
  rcases hx with hx | hx
  ·exact .inl hx
  ·exact .inr (shared_iff.2 fun t ht => mono _ b hb (shared_iff.1 hx t ht))
 refine ⟨by rw [List.length_set]; exact h.len, fun r hr => ?_, ?_, fun x b hx hb hr => ?_, fun x b hx hb hf => ?_⟩
 ·rcases List.mem_or_eq_of_mem_set hr with hr | rfl
  ·exact h.rows r hr
  ·exact rowF_len _ _ _ _
 ·rw [List.getD_eq_getElem?_getD, List.getElem?_set_ne (by omega), ← List.getD_eq_getElem?_getD]
  exact h.last
 ·have h1 := rmono x b hb hr
  rw [bit_set hal]
  split
  ·rename_i he
   subst he
   exact h1
  ·exact h.post x b hx hb h1
 ·rw [bit_set hal] at hf
  split at hf
  ·rename_i he
   subst he
   rw [rowF_get hb, Bool.or_eq_false_iff, decide_eq_false_iff_not] at hf
   have hno : ¬ ∀ t ∈ nx.getD x [], bitF fm t.toNat b = true := fun hall => by
    rw [shared_iff.2 hall] at hf
    cases hf.2
   obtain ⟨t, ht⟩ := Classical.not_forall.1 hno
   obtain ⟨ht1, ht2⟩ := Classical.not_imp.1 ht
   have hr := hnx x t ht1
   have hbf : bitF fm t.toNat b = false := by cases hq : bitF fm t.toNat b with | true => exact absurd hq ht2 | false => rfl
   exact .step hf.1 (by rw [Int.toNat_of_nonneg hr.1]; exact ht1) (h.min t.toNat b (by omega) hb hbf)
  ·exact h.min x b hx hb hf
def cntB (fm : List (List Bool)) : Nat := (fm.map fun r => r.count true).sum
theorem cnt_set {fm : List (List Bool)} {a : Nat} (ha : a < fm.length) (l : List Bool) : cntB (fm.set a l) + (fm.getD a []).count true = cntB fm + l.count true := by
 unfold cntB
 induction fm generalizing a with
 | nil => simp at ha
 | cons r fm ih =>
   cases a with
   | zero => simp; omega
   | succ a =>
     have := ih (a := a) (by simpa using ha)
     simp only [List.set_cons_succ, List.map_cons, List.sum_cons, List.getD_cons_succ]
     omega
theorem count_lt : ∀ {r s : List Bool}, r.length = s.length → (∀ b : Nat, r.getD b false = true → s.getD b false = true) → r ≠ s → r.count true < s.count true
 | [], [], _, _, h => absurd rfl h
 | x :: r, y :: s, hl, hle, hne => by
   have h0 := hle 0
   have hr : ∀ b : Nat, r.getD b false = true → s.getD b false = true := fun b hb => hle (b + 1) hb
   have hle2 : r.count true ≤ s.count true := by
    by_cases he : r = s
    ·subst he; exact Nat.le_refl _
    ·exact Nat.le_of_lt (count_lt (by simpa using hl) hr he)
   simp only [List.getD_cons_zero] at h0
   by_cases he : r = s
   ·subst he
    cases x <;> cases y
    ·exact absurd rfl hne
    ·simp
    ·cases h0 rfl
    ·exact absurd rfl hne
   ·have := count_lt (by simpa using hl) hr he
    cases x <;> cases y <;> simp_all <;> omega
theorem FolI.less {n : Nat} {nx : List (List Int)} {fm : List (List Bool)} (h : FolI n nx fm) {a : Nat} (ha : a < n - 1) (hne : rowF n nx fm a ≠ fm.getD a []) : cntB (fm.set a (rowF n nx fm a)) < cntB fm := by
 have hal : a < fm.length := by have := h.len; omega
 have h1 := cnt_set hal (rowF n nx fm a)
 have hrl : (fm.getD a []).length = n := by
  rw [List.getD_eq_getElem?_getD, List.getElem?_eq_getElem hal]
  exact h.rows _ (List.getElem_mem hal)
 have h2 := count_lt (r := rowF n nx fm a) (s := fm.getD a []) (by rw [rowF_len, hrl]) (fun b hb => by
  rcases Nat.lt_or_ge b n with hbn | hbn
  ·exact h.post a b ha hbn hb
  ·rw [List.getD_eq_getElem?_getD, List.getElem?_eq_none (by rw [rowF_len]; exact hbn)] at hb
   cases hb) hne
 omega
open Go.Proofs
def idsN (n c : Nat) : List Int := (List.range' (n + 1) c).map fun (k : Nat) => (k : Int)
theorem idsN_add (n a b : Nat) : idsN n (a + b) = idsN n a ++ idsN (n + a) b := by
 unfold idsN
 rw [← List.map_append, show n + a + 1 = n + 1 + 1 * a by omega, List.range'_append]
theorem idsN_one (n : Nat) : idsN n 1 = [((n + 1 : Nat) : Int)] := by simp [idsN]
mutual
theorem rowS_ids (nest : Int) : ∀ (t : S) {n : Nat} {m : Int}, rowS nest n t = some m → (flS t).map S.id = idsN n (cntS t)
 | .mk id kind labels name proc x has args thn els, n, m, h => by
   simp only [rowS] at h
   split at h
   ·cases h
   split at h
   ·cases h
   rename_i hid
   cases hn : namesB labels <;> rw [hn] at h
   ·cases h
   cases hf : fieldsB (.mk id kind labels name proc x has args thn els) <;> rw [hf] at h
   ·cases h
   simp only [cond_true] at h
   split at h
   ·rename_i m1 h1
    have h1' : rowL (nest + 1) ((n + 1 : Nat) : Int) thn = some m1 := by rw [← h1]; rfl
    have h2 := rowL_cnt _ _ thn h1'
    have h3 := rowL_ids (nest + 1) thn h1'
    have h' : rowL (nest + 1) ((n + 1 + cntL thn : Nat) : Int) els = some m := by rw [← h, h2]; rfl
    have h4 := rowL_ids (nest + 1) els h'
    rw [flS, cntS, List.map_cons, List.map_append, h3, h4, show 1 + cntL thn + cntL els = 1 + (cntL thn + cntL els) by omega, idsN_add, idsN_one, idsN_add]
    have : id = ((n + 1 : Nat) : Int) := by omega
    rw [show (S.mk id kind labels name proc x has args thn els).id = id from rfl, this]
    rfl
   ·cases h
theorem rowL_ids (nest : Int) : ∀ (l : List S) {n : Nat} {m : Int}, rowL nest n l = some m → (flL l).map S.id = idsN n (cntL l)
 | [], n, m, h => by rw [flL, cntL]; rfl
 | t :: r, n, m, h => by
   simp only [rowL] at h
   split at h
   ·cases h
   split at h
   ·rename_i m1 h1
    have h2 := rowS_cnt _ _ t h1
    have h3 := rowS_ids nest t h1
    have h' : rowL nest ((n + cntS t : Nat) : Int) r = some m := by rw [← h, h2]; rfl
    have h4 := rowL_ids nest r h'
    rw [flL, cntL, List.map_append, h3, h4, idsN_add]
   ·cases h
end
theorem mayPrs_ids : ∀ (l : List Pr) {n : Nat} {m : Int}, mayPrs n l = some m → ∀ (j : Nat) (f : Pr), l[j]? = some f → (flL f.body).map S.id = idsN (n + offN l j) (cntL f.body)
 | [], _, _, _, j, f, hj => by simp at hj
 | g :: r, n, m, h, j, f, hj => by
   rw [mayPrs] at h
   cases hm : mayPr g <;> rw [hm] at h
   ·cases h
   simp only [cond_true] at h
   split at h
   ·rename_i m1 h1
    cases j with
    | zero =>
      simp at hj
      subst hj
      exact rowL_ids 1 g.body h1
    | succ j =>
      have h2 := rowL_cnt _ _ g.body h1
      have h' : mayPrs ((n + cntL g.body : Nat) : Int) r = some m := by rw [← h, h2]; rfl
      have := mayPrs_ids r h' j f (by simpa using hj)
      rw [offN, this, Nat.add_assoc]
   ·cases h
theorem may_ids {p : Pg} (h : mayB p = true) {j : Nat} {f : Pr} (hj : p.procs[j]? = some f) : (flL f.body).map S.id = idsN (offN p.procs j) (cntL f.body) := by
 unfold mayB at h
 simp only [Bool.and_eq_true] at h
 cases hm : mayPrs 0 p.procs with
 | none => rw [hm] at h; cases h.2
 | some m =>
   have := mayPrs_ids p.procs (n := 0) hm j f hj
   simpa using this
theorem idsN_mem {n c : Nat} {a : Int} (h : a ∈ idsN n c) : (n : Int) + 1 ≤ a ∧ a ≤ n + c := by
 unfold idsN at h
 obtain ⟨k, hk, rfl⟩ := List.mem_map.1 h
 rw [List.mem_range'] at hk
 obtain ⟨i, hi, rfl⟩ := hk
 omega
def okI (lo hi : Nat) (x : Int) : Prop := x = -1 ∨ ((lo : Int) + 1 ≤ x ∧ x ≤ hi)
mutual
theorem itS_rng (proc : Int) (lo hi : Nat) : ∀ (t : S) (up nx loop : Int) (n : Nat) (it : Item), it ∈ itS proc up nx loop n t → okI lo hi nx → (loop = 0 ∨ ((lo : Int) + 1 ≤ loop ∧ loop ≤ hi)) → lo ≤ n → n + cntS t ≤ hi →
  okI lo hi it.next ∧ (it.loop = 0 ∨ ((lo : Int) + 1 ≤ it.loop ∧ it.loop ≤ hi))
 | .mk id kind labels name pr x has args thn els, up, nx, loop, n, it, h, h1, h2, h3, h4 => by
   rw [itS] at h
   rw [cntS] at h4
   rcases List.mem_cons.1 h with rfl | h
   ·exact ⟨h1, h2⟩
   ·have h5 : okI lo hi (if kind = 6 then ((n : Int) + 1) else nx) := by
     split
     ·exact .inr ⟨by omega, by omega⟩
     ·exact h1
    have h6 : (if kind = 6 then ((n : Int) + 1) else loop) = 0 ∨ ((lo : Int) + 1 ≤ (if kind = 6 then ((n : Int) + 1) else loop) ∧ (if kind = 6 then ((n : Int) + 1) else loop) ≤ hi) := by
     split
     ·exact .inr ⟨by omega, by omega⟩
     ·exact h2
    rcases List.mem_append.1 h with h | h
    ·exact itL_rng proc lo hi thn _ _ _ _ it h h5 h6 (by omega) (by omega)
    ·exact itL_rng proc lo hi els _ _ _ _ it h h5 h6 (by omega) (by omega)
theorem itL_rng (proc : Int) (lo hi : Nat) : ∀ (l : List S) (up nx loop : Int) (n : Nat) (it : Item), it ∈ itL proc up nx loop n l → okI lo hi nx → (loop = 0 ∨ ((lo : Int) + 1 ≤ loop ∧ loop ≤ hi)) → lo ≤ n → n + cntL l ≤ hi →
  okI lo hi it.next ∧ (it.loop = 0 ∨ ((lo : Int) + 1 ≤ it.loop ∧ it.loop ≤ hi))
 | [], up, nx, loop, n, it, h, h1, h2, h3, h4 => by rw [itL] at h; cases h
 | t :: r, up, nx, loop, n, it, h, h1, h2, h3, h4 => by
   rw [itL] at h
   rw [cntL] at h4
   rcases List.mem_append.1 h with h | h
   ·refine itS_rng proc lo hi t _ _ _ _ it h ?_ h2 h3 (by omega)
    cases r with
    | nil => exact h1
    | cons u r =>
      have : 1 ≤ cntL (u :: r) := by rw [cntL, cntS_eq]; omega
      exact .inr ⟨by simp; omega, by simp; omega⟩
   ·exact itL_rng proc lo hi r _ _ _ _ it h h1 h2 (by omega) (by omega)
end
theorem flL_self : ∀ (l : List S) (v : S), v ∈ l → v ∈ flL l
 | [], v, h => by cases h
 | t :: r, v, h => by
   rw [flL]
   rcases List.mem_cons.1 h with rfl | h
   ·refine List.mem_append.2 (.inl ?_)
    rw [flS_eq]
    exact List.mem_cons_self
   ·exact List.mem_append.2 (.inr (flL_self r v h))
open Go.Proofs
theorem chk_parts {p : Pg} (h : chkB p = true) : mayB p = true ∧ (scopeB p).1 = 0 ∧ (arityB p).1 = 0 ∧ (jumpB p).1 = 0 ∧ (aliasB p).1 = 0 := by
 unfold chkB allB at h
 simp only [decide_eq_true_eq] at h
 by_cases h1 : mayB p = false
 ·rw [if_pos h1] at h; cases h
 rw [if_neg h1] at h
 by_cases h2 : (scopeB p).1 = 0
 ·rw [if_neg (by omega)] at h
  by_cases h3 : (arityB p).1 = 0
  ·rw [if_neg (by omega)] at h
   by_cases h4 : (jumpB p).1 = 0
   ·rw [if_neg (by omega)] at h
    exact ⟨by simpa using h1, h2, h3, h4, h⟩
   ·rw [if_pos h4] at h; exact absurd h h4
  ·rw [if_pos h3] at h; exact absurd h h3
 ·rw [if_pos h2] at h; exact absurd h h2
theorem jumpR_leads {f : Pr} : ∀ (l : List Item) (seen : List Str) {s : List Str}, jumpR f l seen = .ok s → ∀ it ∈ l, leadsB f it = true
 | [], _, _, _, it, h => by cases h
 | a :: r, seen, s, h, it, hi => by
   rw [jumpR] at h
   cases hj : joinO seen a.s.labels with
   | none => rw [hj] at h; cases h
   | some s1 =>
     rw [hj] at h
     simp only at h
     cases hl : leadsB f a with
     | false => rw [hl] at h; cases h
     | true =>
       rw [hl, cond_true] at h
       rcases List.mem_cons.1 hi with rfl | hi
       ·exact hl
       ·exact jumpR_leads r s1 h it hi
theorem jump_leads_all {p : Pg} (hs : (scopeB p).1 = 0) (h : (jumpB p).1 = 0) {j : Nat} {f : Pr} (hj : p.procs[j]? = some f) : ∀ it ∈ itsOf p j f, leadsB f it = true := by
 unfold jumpB at h
 rw [if_neg (by omega)] at h
 have hn : (List.range p.procs.length).findSome? (jumpAt p) = none := by
  cases hq : (List.range p.procs.length).findSome? (jumpAt p) with
  | none => rfl
  | some a => rw [hq] at h; cases h
 rw [List.findSome?_eq_none_iff] at hn
 have hlt : j < p.procs.length := (List.getElem?_eq_some_iff.1 hj).1
 have := hn j (List.mem_range.2 hlt)
 unfold jumpAt at this
 rw [hj] at this
 simp only at this
 cases hr : jumpR f (itL (j : Nat) 0 (-1) 0 (offN p.procs j) f.body) [] with
 | error id => rw [hr] at this; cases this
 | ok seen => exact jumpR_leads _ _ hr
mutual
theorem flS_head : ∀ (t u v : S), u ∈ flS t → v ∈ u.thn ∨ v ∈ u.els → v ∈ flS t
 | .mk id kind labels name proc x has args thn els, u, v, h, hv => by
   rw [flS] at h ⊢
   rcases List.mem_cons.1 h with rfl | h
   ·refine List.mem_cons_of_mem _ (List.mem_append.2 ?_)
    rcases hv with hv | hv
    ·exact .inl (flL_self thn v hv)
    ·exact .inr (flL_self els v hv)
   ·rcases List.mem_append.1 h with h | h
    ·exact List.mem_cons_of_mem _ (List.mem_append.2 (.inl (flL_head thn u v h hv)))
    ·exact List.mem_cons_of_mem _ (List.mem_append.2 (.inr (flL_head els u v h hv)))
theorem flL_head : ∀ (l : List S) (u v : S), u ∈ flL l → v ∈ u.thn ∨ v ∈ u.els → v ∈ flL l
 | [], u, v, h, hv => by rw [flL] at h; cases h
 | t :: r, u, v, h, hv => by
   rw [flL] at h ⊢
   rcases List.mem_append.1 h with h | h
   ·exact List.mem_append.2 (.inl (flS_head t u v h hv))
   ·exact List.mem_append.2 (.inr (flL_head r u v h hv))
end
theorem its_s {p : Pg} {j : Nat} {f : Pr} {it : Item} (h : it ∈ itsOf p j f) : it.s ∈ flL f.body := by
 unfold itsOf at h
 rw [← itL_s (j : Nat) 0 (-1) 0 (offN p.procs j) f.body]
 exact List.mem_map.2 ⟨it, h, rfl⟩
theorem body_id {p : Pg} (hm : mayB p = true) {j : Nat} {f : Pr} (hj : p.procs[j]? = some f) {t : S} (h : t ∈ flL f.body) : (offN p.procs j : Int) + 1 ≤ t.id ∧ t.id ≤ (offN p.procs j + cntL f.body : Nat) := by
 have h1 := may_ids hm hj
 have h2 : t.id ∈ idsN (offN p.procs j) (cntL f.body) := by
  rw [← h1]
  exact List.mem_map.2 ⟨t, h, rfl⟩
 have := idsN_mem h2
 omega
theorem its_rng {p : Pg} {j : Nat} {f : Pr} {it : Item} (h : it ∈ itsOf p j f) : okI (offN p.procs j) (offN p.procs j + cntL f.body) it.next ∧ (it.loop = 0 ∨ ((offN p.procs j : Int) + 1 ≤ it.loop ∧ it.loop ≤ (offN p.procs j + cntL f.body : Nat))) :=
 itL_rng (j : Nat) _ _ f.body 0 (-1) 0 _ it h (.inl rfl) (.inl rfl) (Nat.le_refl _) (Nat.le_refl _)
theorem sheet_its {p : Pg} {j : Nat} {f : Pr} (hj : p.procs[j]? = some f) {k : Nat} (h1 : offN p.procs j ≤ k) (h2 : k < offN p.procs j + cntL f.body) : ∃ it, (sheetOf p).l[k]? = some it ∧ it ∈ itsOf p j f := by
 obtain ⟨_, _, _, hlen, hsp⟩ := sheet_spec p
 obtain ⟨_, _, hle, hd⟩ := hsp j f hj
 have hk : k < (sheetOf p).l.length := by omega
 refine ⟨(sheetOf p).l[k], List.getElem?_eq_getElem hk, ?_⟩
 unfold itsOf
 rw [← hd]
 refine List.mem_iff_getElem?.2 ⟨k - offN p.procs j, ?_⟩
 rw [List.getElem?_drop, List.getElem?_take, if_pos (by omega), show offN p.procs j + (k - offN p.procs j) = k by omega, List.getElem?_eq_getElem hk]
theorem goes_ok {p : Pg} (hm : mayB p = true) {j : Nat} {f : Pr} (hj : p.procs[j]? = some f) {it : Item} (h : it ∈ itsOf p j f) (hl : leadsB f it = true) : ∀ x ∈ goesI (sheetOf p) f it, okI (offN p.procs j) (offN p.procs j + cntL f.body) x := by
 obtain ⟨hnx, hlo⟩ := its_rng h
 have hs := its_s h
 have hid := body_id hm hj hs
 have hhead : ∀ (l : List S) (o : Int), (∀ v ∈ l, v ∈ it.s.thn ∨ v ∈ it.s.els) → okI (offN p.procs j) (offN p.procs j + cntL f.body) o → okI (offN p.procs j) (offN p.procs j + cntL f.body) (headI l o) := fun l o hv ho => by
  cases l with
  | nil => exact ho
  | cons v r => exact .inr (body_id hm hj (flL_head f.body it.s v hs (hv v List.mem_cons_self)))
 have hloop : it.s.kind = 7 ∨ it.s.kind = 8 → (offN p.procs j : Int) + 1 ≤ it.loop ∧ it.loop ≤ (offN p.procs j + cntL f.body : Nat) := fun hk => by
  unfold leadsB at hl
  rw [if_pos hk] at hl
  rcases hlo with h0 | h0
  ·rw [h0] at hl; cases hl
  ·exact h0
 intro x hx
 unfold goesI at hx
 split at hx
 ·simp only [List.mem_cons, List.not_mem_nil, or_false] at hx
  rcases hx with rfl | rfl
  ·exact hhead _ _ (fun v hv => .inl hv) hnx
  ·exact hhead _ _ (fun v hv => .inr hv) hnx
 split at hx
 ·simp only [List.mem_cons, List.not_mem_nil, or_false] at hx
  rcases hx with rfl | rfl
  ·exact hhead _ _ (fun v hv => .inl hv) (.inr hid)
  ·exact hnx
 split at hx
 ·rename_i hk
  have hlp := hloop (.inl hk)
  obtain ⟨u, hu1, hu2⟩ := sheet_its hj (k := (it.loop - 1).toNat) (by omega) (by omega)
  rw [hu1] at hx
  rw [List.mem_singleton.1 hx]
  exact (its_rng hu2).1
 split at hx
 ·rename_i hk
  rw [List.mem_singleton.1 hx]
  exact .inr (hloop (.inr hk))
 split at hx
 ·rw [List.mem_singleton.1 hx]
  exact .inl rfl
 split at hx
 ·rename_i h7 h8 _ hk
  rw [List.mem_singleton.1 hx]
  unfold leadsB at hl
  rw [if_neg (by omega), if_pos hk] at hl
  unfold atB at hl ⊢
  split
  ·rename_i t ht
   exact .inr (body_id hm hj (List.mem_of_find?_eq_some ht))
  ·rename_i hn
   rw [hn] at hl
   simp only at hl
   cases hfin : f.fin.any fun s => it.s.name == s with
   | true => exact .inl rfl
   | false => rw [hfin] at hl; cases hl
 ·rw [List.mem_singleton.1 hx]
  exact hnx
theorem chk_way {p : Pg} (h : chkB p = true) {j : Nat} {f : Pr} (hj : p.procs[j]? = some f) : (∀ it ∈ itsOf p j f, it.s.kind = 7 → 1 ≤ it.loop ∧ it.loop ≤ (sheetOf p).l.length) ∧
  (∀ s ∈ stepsRaw p j f, (s.src = 0 ∨ ((offN p.procs j : Int) + 1 ≤ s.src ∧ s.src ≤ (offN p.procs j + cntL f.body : Nat))) ∧ okI (offN p.procs j) (offN p.procs j + cntL f.body) s.dst) ∧ ∀ s ∈ stepsRaw p j f, okSt s := by
 obtain ⟨hm, hs, _, hjm, _⟩ := chk_parts h
 have hld := jump_leads_all hs hjm hj
 obtain ⟨_, _, _, hlen, hsp⟩ := sheet_spec p
 obtain ⟨_, _, hle, _⟩ := hsp j f hj
 obtain ⟨_, _, hcn⟩ := mayB_cnt hm
 have key : ∀ s ∈ stepsRaw p j f, (s.src = 0 ∨ ((offN p.procs j : Int) + 1 ≤ s.src ∧ s.src ≤ (offN p.procs j + cntL f.body : Nat))) ∧ okI (offN p.procs j) (offN p.procs j + cntL f.body) s.dst := fun s hx => by
  unfold stepsRaw at hx
  rcases List.mem_cons.1 hx with rfl | hx
  ·refine ⟨.inl rfl, ?_⟩
   show okI _ _ (if offN p.procs j < offN p.procs j + cntL f.body then ((offN p.procs j : Nat) + 1 : Int) else -1)
   split
   ·exact .inr ⟨by omega, by omega⟩
   ·exact .inl rfl
  ·obtain ⟨it, hit, hz⟩ := List.mem_flatMap.1 hx
   obtain ⟨y, hy, rfl⟩ := List.mem_map.1 hz
   exact ⟨.inr (body_id hm hj (its_s hit)), goes_ok hm hj hit (hld it hit) y hy⟩
 refine ⟨fun it hit hk => ?_, key, fun s hx => ?_⟩
 ·have hl := hld it hit
  unfold leadsB at hl
  rw [if_pos (.inl hk)] at hl
  rcases (its_rng hit).2 with h0 | h0
  ·rw [h0] at hl; cases hl
  ·omega
 ·obtain ⟨h1, h2⟩ := key s hx
  unfold okSt okI at *
  omega
end Go.Ab
