/- ref3: main alone, without calls, without jumps. -/
import Derived.Test.YtneccajakpeodaaGreatCdpF10
import Derived.Test.YtneccajakpeodaaGreatCdpF17
import Derived.Test.YtneccajakpeodaaGreatCdpF18
import Derived.Test.YtneccajakpeodaaGreatCdpF19
set_option linter.unusedSimpArgs false
set_option linter.unusedVariables false
set_option maxRecDepth 100000
set_option maxHeartbeats 16000000
namespace Go.Ab
open Go.Proofs
def onRow (b : Bool) (p : Pg) (j : Nat) : List Pr := ((p.procs.take j).filter fun f => f.name == mainS).map (onPr b)
theorem onRow_succ (b : Bool) (p : Pg) {j : Nat} (hj : j < p.procs.length) : onRow b p (j + 1) = onRow b p j ++ (if p.procs[j].name == mainS then [onPr b p.procs[j]] else []) := by
 unfold onRow
 rw [List.take_succ_eq_append_getElem hj, List.filter_append, List.map_append]
 congr 1
 cases h : p.procs[j].name == mainS <;> simp [h]
theorem onRow_len (b : Bool) (p : Pg) (j : Nat) : (onRow b p j).length ≤ j := by
 unfold onRow
 rw [List.length_map]
 exact Nat.le_trans (List.length_filter_le _ _) (by rw [List.length_take]; omega)
def onSt (b : Bool) (p : Pg) (j : Nat) : St := ⟨[(1, .p (.bool b)), (4, .ptr 1 0), (5, .ptr 0 0), (14, .hd 26 0 p.procs.length), (15, .p (.int .i64 p.procs.length)), (16, .p (.int .i64 j))], [(26, .own 67 5 (p.procs.map fun f => .agg f.cells)), (0, .obj 25 [.p (eStrs p.globals), .hd 2 0 (onRow b p j).length]), (1, .obj 25 [.p .nils, .p .nils]), (2, .own 67 5 ((onRow b p j).map fun f => .agg f.cells))]⟩
def onFz (b : Bool) (p : Pg) (j : Nat) : St := ⟨[(1, .p (.bool b)), (4, .ptr 1 0), (5, .ptr 0 0), (14, .hd 26 0 p.procs.length), (15, .p (.int .i64 p.procs.length)), (16, .p (.int .i64 j))], [(26, .own 67 5 (p.procs.map fun f => .agg f.cells)), (0, .obj 25 [.p (eStrs p.globals), .p (.sl ((onRow b p j).map fun f => .agg f.cells))]), (1, .obj 25 [.p .nils, .p .nils])]⟩
theorem on_fz {N : Nat} (b : Bool) (p : Pg) (j : Nat) : Le N (onSt b p j) (onFz b p j) := by
 refine Le.rowObj (k := 2) (q := 0) (cs := [eStrs p.globals, .sl ((onRow b p j).map fun f => .agg f.cells)]) rfl rfl rfl (fun i l c h1 h2 => ?_) (fun i => ?_) ?_ fun i c' hm => ?_
 ·match i, h1, h2 with
  | 0, h1, h2 => cases h1; cases h2; exact .inl ⟨_, rfl, Sub.refl _⟩
  | 1, h1, h2 => cases h1; cases h2; exact .inr ⟨_, rfl, by rw [List.length_map], rfl⟩
  | i + 2, h1, h2 => simp at h1
 ·refine getS_kill (fun x hx => ?_) i
  simp only [List.mem_cons, List.not_mem_nil, or_false] at hx
  rcases hx with rfl | rfl | rfl | rfl | rfl | rfl <;> rfl
 ·show [26, 0, 1].Sublist [26, 0, 1, 2]
  decide
 ·simp only [List.mem_cons, List.not_mem_nil, or_false, Prod.mk.injEq] at hm
  rcases hm with ⟨rfl, rfl⟩ | ⟨rfl, rfl⟩ | ⟨rfl, rfl⟩
  ·exact ⟨by decide, .inr ⟨List.mem_cons_self, rfl⟩⟩
  ·exact ⟨by decide, .inl ⟨rfl, rfl⟩⟩
  ·exact ⟨by decide, .inr ⟨List.mem_cons_of_mem _ (List.mem_cons_of_mem _ List.mem_cons_self), rfl⟩⟩
theorem whittlerref3_Only (b : Bool) (p : Pg) (h : CopyF p) (hn : 0 < p.procs.length) (hN : CopyF (onlyRaw b p)) (hc : cntP (onlyRaw b p).procs ≤ 100000) : SpecP Tryz.prog 47 [.agg p.cells, .bool b] (fun r => r = .agg (onlyPg b p).cells) := by
 refine SpecP.body I_whittlerref3_Only tabOK Tryz.func47 rfl Tryz.call47 (by show 2 ≤ _; decide) ?_
 conv => whnf
 have hgt := whittlerref3_texts p.globals h.globals
 have hpm : (p.procs.map fun f => AV.agg f.cells).length = p.procs.length := List.length_map _
 have hpl := h.procs
 repeat' ((first | (intro (_ : _ ≤ 9223372036854775807)) | (refine And.intro rfl ?_) | (refine CallK.pure hgt (.cons (Sub.refl _) .nil) ?_; rintro _ rfl) | (refine CallK.heap [] 20 (ArgsH.cons (LSub.refl _) ArgsH.nil) BlksH.nil (whittlerref3_Copy p h) rfl rfl ?_; rintro l' H' ⟨rfl, rfl⟩)); conv => whnf)
 refine LoopK.inv tabOK (fun x : Nat × Bool => if x.2 then onFz b p x.1 else onSt b p x.1) (fun x => x.1 ≤ p.procs.length ∧ (x.2 = false → x.1 < p.procs.length) ∧ (x.2 = true → x.1 = p.procs.length)) (fun x => p.procs.length - x.1) (0, false)
  (Le.mk [(2, .own 67 5 [])] (by simp [Chunk.new0]; rfl) (by simp) (by simp) (.cons (.refl _) (.cons (.refl _) (.cons (.refl _) (.cons (.refl _) (.cons (.refl _) (.cons (.refl _) .nil)))))) (.cons rfl (.refl _) (.cons rfl (.obj (.cons (.refl _) (.cons (.nil List.mem_cons_self) .nil))) (.cons rfl (.refl _) (.new List.mem_cons_self .nil))))) ⟨Nat.zero_le _, fun _ => hn, fun h => by cases h⟩ ?_
 rintro ⟨j, m⟩ ⟨h2, h3, h4⟩
 simp only at h2 h3 h4
 cases m with
 | false =>
   have hj := h3 rfl
   obtain ⟨hv, hfin, hpm2, hcb, hok⟩ := h.pr _ (List.getElem_mem hj)
   have h7 := whittlerref3_only b (cntL p.procs[j].body + 1) p.procs[j].body (by omega) (by omega) fun t ht => (hok t ht).1
   have hget : (p.procs.map fun f => AV.agg f.cells)[j]? = some (.agg p.procs[j].cells) := by rw [List.getElem?_map, List.getElem?_eq_getElem hj]; rfl
   have hsucc := onRow_succ b p hj
   have hlr := onRow_len b p j
   have fin : ∃ x : Nat × Bool, (x.1 ≤ p.procs.length ∧ (x.2 = false → x.1 < p.procs.length) ∧ (x.2 = true → x.1 = p.procs.length)) ∧ p.procs.length - x.1 < p.procs.length - j ∧ Le Tryz.f47.ntmps (onSt b p (j + 1)) (if x.2 then onFz b p x.1 else onSt b p x.1) := by
    rcases Nat.lt_or_ge (j + 1) p.procs.length with hj1 | hj1
    ·exact ⟨(j + 1, false), ⟨by simp only; omega, fun _ => hj1, fun h => by cases h⟩, by simp only; omega, Le.of_eq rfl⟩
    ·exact ⟨(j + 1, true), ⟨by simp only; omega, (fun h => by cases h), fun _ => by simp only; omega⟩, by simp only; omega, on_fz b p (j + 1)⟩
   obtain ⟨x, hx1, hx2, hx3⟩ := fin
   unfold onSt at hx3 ⊢
   rw [hsucc] at hx3
   have hrl : ((onRow b p j).map fun f => AV.agg f.cells).length = (onRow b p j).length := List.length_map _
   generalize onRow b p j = row at hx3 hlr hrl ⊢
   cases hm : p.procs[j].name == mainS with
   | true =>
     rw [hm, if_pos rfl, List.map_append, List.length_append] at hx3
     have hm' : (p.procs[j].name == ([109, 97, 105, 110] : Str)) = true := hm
     cases b <;>
     conv => whnf
     repeat' (first | ((first | (refine And.intro rfl ?_) | (refine And.intro ⟨by decide, by decide⟩ ?_) | (refine BsK.pure (fun x hx => by rcases List.mem_singleton.1 hx with rfl; rfl) rfl ?_) | (refine Wr.i64 (by omega) (by omega) ?_) | (refine LdOwn.mk j 0 (.agg p.procs[j].cells) (by show (0+j)*5 = j*5+0; omega) hget ?_) | (refine IdxL.mk j rfl hj ?_) | (refine CallK.pure h7 (.cons (Sub.refl _) (.cons (by first | exact Sub.refl _ | exact Sub.tt rfl | exact Sub.ff rfl) .nil)) ?_; rintro _ rfl) | (refine AppK.mk hrl.symm rfl (by show (row.length+1) * 112 ≤ 140737488355328; omega) (by show row.length+1 ≤ 9223372036854775807; omega) (fun x hx => by rcases List.mem_singleton.1 hx with rfl; exact ⟨rfl, rfl⟩) ?_)); conv => whnf) | (refine Br.dec (fun _ => ?_) (fun _ => ?_) <;> first | (exfalso; omega) | conv => whnf) | (refine Br.n (fun _ => ?_) (fun _ => ?_) <;> conv => whnf) | (refine Br.b (fun _ => ?_) (fun _ => ?_) <;> conv => whnf))
     all_goals first
      | exact ⟨x, hx1, hx2, (Le.of_eq rfl).trans hx3⟩
      | (exfalso; simp_all; done)
      | exact ⟨x, hx1, hx2, (Le.els (.same (.same (.same (.els (ElS.snoc (ElS.refl (row.map fun f => AV.agg f.cells)) (x' := .agg (onPr false p.procs[j]).cells) (by rfl) (fun i c' hc => by
         match i, hc with
         | 0, hc => cases hc; exact ⟨_, rfl, Sub.refl _⟩
         | 1, hc => cases hc; exact ⟨_, rfl, Sub.refl _⟩
         | 2, hc => cases hc; exact ⟨_, rfl, Sub.refl _⟩
         | 3, hc => cases hc; exact ⟨_, rfl, Sub.refl _⟩
         | 4, hc => cases hc; exact ⟨_, rfl, Sub.nils⟩
         | i + 5, hc => simp [AV.cells, Pr.cells] at hc)) .nil))))).trans ((Le.of_eq (by rfl)).trans hx3)⟩
      | (refine ⟨x, hx1, hx2, (Le.els (.same (.same (.same (.els (ElS.snoc (ElS.refl (row.map fun f => AV.agg f.cells)) (x' := .agg (onPr false p.procs[j]).cells) ?_ ?_) .nil))))).trans ((Le.of_eq ?_).trans hx3)⟩ <;> trace_state)
   | false =>
     rw [hm, if_neg (by decide), List.append_nil] at hx3
     have hm' : (p.procs[j].name == ([109, 97, 105, 110] : Str)) = false := hm
     conv => whnf
     repeat' (first | ((first | (refine And.intro rfl ?_) | (refine And.intro ⟨by decide, by decide⟩ ?_) | (refine BsK.pure (fun x hx => by rcases List.mem_singleton.1 hx with rfl; rfl) rfl ?_) | (refine Wr.i64 (by omega) (by omega) ?_) | (refine LdOwn.mk j 0 (.agg p.procs[j].cells) (by show (0+j)*5 = j*5+0; omega) hget ?_) | (refine IdxL.mk j rfl hj ?_) | (refine CallK.pure h7 (.cons (Sub.refl _) (.cons (by first | exact Sub.refl _ | exact Sub.tt rfl | exact Sub.ff rfl) .nil)) ?_; rintro _ rfl) | (refine AppK.mk hrl.symm rfl (by show (row.length+1) * 112 ≤ 140737488355328; omega) (by show row.length+1 ≤ 9223372036854775807; omega) (fun x hx => by rcases List.mem_singleton.1 hx with rfl; exact ⟨rfl, rfl⟩) ?_)); conv => whnf) | (refine Br.dec (fun _ => ?_) (fun _ => ?_) <;> first | (exfalso; omega) | conv => whnf) | (refine Br.n (fun _ => ?_) (fun _ => ?_) <;> conv => whnf) | (refine Br.b (fun _ => ?_) (fun _ => ?_) <;> conv => whnf))
     all_goals first
      | exact ⟨x, hx1, hx2, (Le.of_eq rfl).trans hx3⟩
      | (exfalso; simp_all; done)
      | trace_state
 | true =>
   have hje := h4 rfl
   subst hje
   have hA : onRow b p p.procs.length = (onlyRaw b p).procs := by
    unfold onRow onlyRaw
    rw [List.take_of_length_le (Nat.le_refl _)]
   unfold onFz
   rw [hA]
   have hNum := whittlerref3_Number (onlyRaw b p) hN hc
   conv => whnf
   repeat' (first | ((first | (refine And.intro rfl ?_) | (refine CallK.pure hNum (.cons (Sub.refl _) .nil) ?_; rintro _ rfl)); conv => whnf) | (refine Br.dec (fun _ => ?_) (fun _ => ?_) <;> first | (exfalso; omega) | conv => whnf))
   exact ⟨_, .p (Sub.refl _), rfl⟩
open Go.Proofs
open Go.Proofs
theorem okC_of {p : Pg} (h : Fit p) {f : Pr} (hf : f ∈ p.procs) : ∀ t ∈ flL f.body, okC t := fun t ht => by
 have h1 := h.pr hf
 unfold wPr at h1
 have h2 := flL_w _ _ ht
 have h3 := wS_eq t
 have h4 := wTxs_len t.labels
 have h5 := wArgs_len t.args
 refine ⟨by omega, by omega, by omega, fun a ha => ?_⟩
 have key : ∀ (l : List Arg), a ∈ l → wX a.x ≤ wArgs l := fun l => by
  induction l with
  | nil => intro h; cases h
  | cons b r ih =>
    intro h
    rw [wArgs]
    rcases List.mem_cons.1 h with rfl | h
    ·omega
    ·have := ih h; omega
 have := key _ ha
 omega
theorem swap_ok {p : Pg} (h : Fit p) (hc : chkB p = true) : p.procs.length ≤ 1000 ∧ p.globals.length ≤ 1000000 ∧ ∀ f ∈ p.procs, f.vars.length ≤ 1000000 ∧ f.fin.length ≤ 1000000 ∧ f.params.length ≤ 1000000 ∧ cntL f.body ≤ 1000000 ∧ ∀ t ∈ flL f.body, okC t := by
 obtain ⟨h1, h2, h3⟩ := chk_cnt hc
 refine ⟨by omega, by omega, fun f hf => ?_⟩
 have h4 := h.pr hf
 unfold wPr at h4
 have h5 := wTxs_len f.vars
 have h6 := wTxs_len f.fin
 have h7 := wPms_len f.params
 have h8 := cnt_wL f.body
 exact ⟨by omega, by omega, by omega, by omega, okC_of h hf⟩
open Go.Proofs
theorem okC_on {b : Bool} {s : S} (h : okC s ∧ s.id ≠ -1) : okC (onS b s) ∧ (onS b s).id ≠ -1 := by
 have hl : ∀ l : List Str, l.length ≤ 1000000 → (if b then l else []).length ≤ 1000000 := fun l hl => by
  split
  ·exact hl
  ·simp
 rw [onS_eq]
 split
 ·refine ⟨⟨by show wX (.mk 1 7 [] []) ≤ 20000; rw [wX, wXs]; omega, hl _ h.1.2.1, by show ([] : List Arg).length ≤ 1000000; simp, fun a ha => by cases ha⟩, by show (0 : Int) ≠ -1; decide⟩
 ·exact ⟨⟨h.1.1, hl _ h.1.2.1, h.1.2.2.1, h.1.2.2.2⟩, h.2⟩
theorem on_thn' (b : Bool) (s : S) : (onS b s).thn = onL b s.thn ∧ (onS b s).els = onL b s.els := by
 rw [onS_eq]
 split <;> exact ⟨rfl, rfl⟩
mutual
theorem okS_on {b : Bool} : ∀ (s : S), (∀ t ∈ flS s, okC t ∧ t.id ≠ -1) → ∀ t ∈ flS (onS b s), okC t ∧ t.id ≠ -1
 | .mk id kind labels name proc x has args thn els, h, t, ht => by
   obtain ⟨h1, h2⟩ := on_thn' b (.mk id kind labels name proc x has args thn els)
   rw [flS_eq, h1, h2] at ht
   rcases List.mem_cons.1 ht with rfl | ht
   ·exact okC_on (h _ (by rw [flS]; exact List.mem_cons_self))
   ·rcases List.mem_append.1 ht with ht | ht
    ·exact okL_on thn (fun u hu => h u (by rw [flS]; exact List.mem_cons_of_mem _ (List.mem_append.2 (.inl hu)))) t ht
    ·exact okL_on els (fun u hu => h u (by rw [flS]; exact List.mem_cons_of_mem _ (List.mem_append.2 (.inr hu)))) t ht
theorem okL_on {b : Bool} : ∀ (l : List S), (∀ t ∈ flL l, okC t ∧ t.id ≠ -1) → ∀ t ∈ flL (onL b l), okC t ∧ t.id ≠ -1
 | [], h, t, ht => by rw [onL, flL] at ht; cases ht
 | s :: r, h, t, ht => by
   rw [onL, flL] at ht
   rcases List.mem_append.1 ht with ht | ht
   ·exact okS_on s (fun u hu => h u (by rw [flL]; exact List.mem_append.2 (.inl hu))) t ht
   ·exact okL_on r (fun u hu => h u (by rw [flL]; exact List.mem_append.2 (.inr hu))) t ht
end
theorem copyF {p : Pg} (hf : Fit p) (hc : chkB p = true) : CopyF p := by
 obtain ⟨h1, h2, h3⟩ := swap_ok hf hc
 have hcn := (chk_cnt hc).2.2
 refine ⟨h1, h2, fun f hf' => ?_⟩
 obtain ⟨a1, a2, a3, _, a5⟩ := h3 f hf'
 have a4 := cntP_mem _ _ hf'
 obtain ⟨j, hj, hje⟩ := List.mem_iff_getElem.1 hf'
 have hj' : p.procs[j]? = some f := by rw [List.getElem?_eq_getElem hj, hje]
 exact ⟨a1, a2, a3, by omega, fun t ht => ⟨a5 t ht, by have := (body_id (chk_parts hc).1 hj' ht).1; omega⟩⟩
theorem copyF_raw {p : Pg} {b : Bool} (hf : Fit p) (hc : chkB p = true) {f : Pr} (hm : p.procs.filter (fun f => f.name == mainS) = [f]) : CopyF (onlyRaw b p) ∧ cntP (onlyRaw b p).procs ≤ 100000 := by
 have hC := copyF hf hc
 have hmem : f ∈ p.procs := (List.mem_filter.1 (by rw [hm]; exact List.mem_cons_self)).1
 obtain ⟨a1, a2, a3, a4, a5⟩ := hC.pr f hmem
 have e : onlyRaw b p = ⟨p.globals, [onPr b f]⟩ := by
  unfold onlyRaw
  rw [hm]
  rfl
 rw [e]
 refine ⟨⟨by simp, hC.globals, fun g hg => ?_⟩, ?_⟩
 ·rcases List.mem_singleton.1 hg with rfl
  refine ⟨a1, ?_, a3, ?_, okL_on f.body a5⟩
  ·show (if b then f.fin else []).length ≤ 1000000
   split
   ·exact a2
   ·simp
  ·show cntL (onL b f.body) ≤ 100000
   rw [cntL_on]
   exact a4
 ·show cntL (onL b f.body) + 0 ≤ 100000
  rw [cntL_on]
  omega
mutual
theorem wS_on : ∀ (s : S) (n : Nat), wS (nmS n (onS false s)) ≤ wS s
 | .mk id kind labels name proc x has args thn els, n => by
   have h1 := wL_on thn (n + 1)
   have h2 := wL_on els (n + 1 + cntL thn)
   have h3 := wX_pos x
   obtain ⟨e1, e2, _⟩ := on_thn (.mk id kind labels name proc x has args thn els) n
   rw [wS_eq, e1, e2, (on_own _ n).labels, wS]
   by_cases hk : kind = 4 ∨ 7 ≤ kind
   ·obtain ⟨_, _, k3, k4⟩ := (on_own (.mk id kind labels name proc x has args thn els) n).off hk
    rw [k3, k4, wX, wXs, wTxs, wArgs]
    show 1 + 0 + 0 + 1 + 1 + 0 + wL (nmL (n + 1) (onL false thn)) + wL (nmL (n + 1 + cntL thn) (onL false els)) ≤ _
    omega
   ·obtain ⟨_, _, k3, k4⟩ := (on_own (.mk id kind labels name proc x has args thn els) n).on hk
    rw [k3, k4, wTxs]
    show wX x + 0 + 1 + 1 + wArgs args + wL (nmL (n + 1) (onL false thn)) + wL (nmL (n + 1 + cntL thn) (onL false els)) ≤ _
    omega
theorem wL_on : ∀ (l : List S) (n : Nat), wL (nmL n (onL false l)) ≤ wL l
 | [], n => by rw [onL, nmL]; exact Nat.le_refl _
 | s :: r, n => by
   have h1 := wS_on s n
   have h2 := wL_on r (n + cntS s)
   rw [onL, nmL, wL, wL, cntS_on]
   omega
end
theorem g_fit {p : Pg} (hf : Fit p) {f : Pr} (hmem : f ∈ p.procs) : Fit ⟨p.globals, [gOf false f]⟩ := by
 have h1 := wPr_mem hmem
 have h2 := wL_on f.body 0
 unfold Fit wPg at *
 simp only [wPrs]
 have e : wPr (gOf false f) = 1 + wTxs f.vars + 0 + wPms f.params + wL (nmL 0 (onL false f.body)) := rfl
 rw [e]
 unfold wPr at h1
 omega
structure FreeF (p q : Pg) (g : Pr) : Prop where
 only : onlyPg false p = q
 chk : chkB q = true
 fit : Fit q
 at0 : q.procs[0]? = some g
 way : wayO q mainS = some (newWay q 0 g)
 kind : ∀ u ∈ flL g.body, u.kind < 7
 cnt : cntP q.procs = cntL g.body
 ends : endsR q = [mainS]
 copy : CopyF p
 raw : CopyF (onlyRaw false p) ∧ cntP (onlyRaw false p).procs ≤ 100000
 pos : 0 < p.procs.length
theorem free_facts {p : Pg} (hf : Fit p) (hc : chkB p = true) : ∃ (q : Pg) (g : Pr), FreeF p q g := by
 obtain ⟨k, f, hk, hm, hn, hp⟩ := main_one hc
 have hmem : f ∈ p.procs := List.mem_of_getElem? hk
 have hq := g_chk hc hk hn hp
 exact ⟨⟨p.globals, [gOf false f]⟩, gOf false f, only_eq hm, hq, g_fit hf hmem, rfl, g_way hq hn, fun u hu => g_kind hu, g_cntP, g_ends hq hn, copyF hf hc, copyF_raw hf hc hm, by have := (List.getElem?_eq_some_iff.1 hk).1; omega⟩
theorem FreeF.live {p q : Pg} {g : Pr} (h : FreeF p q g) : (liveR q mainS).length = cntP q.procs := by
 unfold liveR
 rw [h.way]
 show (liveL (newWay q 0 g)).length = _
 rw [live_len h.chk h.at0 h.kind, h.cnt]
open Go.Proofs
open Go.Proofs
theorem FreeF.steps {p q : Pg} {g : Pr} (h : FreeF p q g) : ∃ (d : Int) (r : List Step), ofR q mainS = ⟨0, d, 1⟩ :: r ∧ augO q mainS = wantR (⟨0, d, 1⟩ :: r) ∧ dataO q mainS = ⟨0, d, 1⟩ :: r ∧ trapsO q mainS = [] := by
 obtain ⟨r, hr, _⟩ := real_head h.chk h.at0
 refine ⟨fstI q 0 g, r, ?_, ?_, ?_, ?_⟩
 ·unfold ofR
  rw [h.way]
  exact hr
 ·rw [augO_some h.way h.at0, free_aug h.chk h.at0 h.kind, hr]
 ·rw [dataO_some h.way h.at0, free_data h.chk h.at0 h.kind, hr]
 ·rw [trapsO_some h.way h.at0, free_traps h.chk h.at0 h.kind]
open Go.Proofs
def onlyI (sh : Sheet) (f : Pr) (R : Int → Int → Prop) (l : List Item) : Prop := ∀ it ∈ l, it.s.kind < 7 ∧ ∀ y, R it.s.id y → y ∈ goesI sh f it
theorem onlyI.sub {sh : Sheet} {f : Pr} {R : Int → Int → Prop} {l m : List Item} (h : onlyI sh f R l) (hs : ∀ x ∈ m, x ∈ l) : onlyI sh f R m := fun it hi => h it (hs it hi)
theorem head_in {nest m nx : Int} {n : Nat} : ∀ {l : List S}, rowL nest n l = some m → headI l nx = nx ∨ (headI l nx = (n : Int) + 1 ∧ 1 ≤ cntL l)
 | [], _ => .inl rfl
 | u :: r, h => by
   refine .inr ⟨head_row h, ?_⟩
   have := cntS_pa u
   rw [cntL]
   omega
theorem goes_free {sh : Sheet} {f : Pr} {it : Item} (hk : it.s.kind < 7) : goesI sh f it = if it.s.kind = 5 then [headI it.s.thn it.next, headI it.s.els it.next] else if it.s.kind = 6 then [headI it.s.thn it.s.id, it.next] else [it.next] := by
 unfold goesI
 split
 ·rfl
 ·split
  ·rfl
  ·rw [if_neg (by omega), if_neg (by omega), if_neg (by omega), if_neg (by omega)]
mutual
theorem clsS {sh : Sheet} {f : Pr} (proc : Int) : ∀ (t : S) {nest m : Int} (up nx lp : Int) (n : Nat), rowS nest n t = some m → (∀ it ∈ itS proc up nx lp n t, it.s.kind < 7) → ∀ it ∈ itS proc up nx lp n t, ∀ y ∈ goesI sh f it, rng (n + 1) (n + cntS t) y ∨ y = nx
 | .mk id kind labels name pr x has args thn els, nest, m, up, nx, lp, n, h, hk, it, hi, y, hy => by
   obtain ⟨_, hid, m1, h3, h4⟩ := rowS_parts h
   have hid : id = (n : Int) + 1 := hid
   have hc : cntS (.mk id kind labels name pr x has args thn els) = 1 + cntL thn + cntL els := cntS_pa _
   have hm1 := rowL_cnt _ _ thn h3
   have h3' : rowL (nest + 1) ((n + 1 : Nat) : Int) thn = some m1 := by rw [← h3]; rfl
   have h4' : rowL (nest + 1) ((n + 1 + cntL thn : Nat) : Int) els = some m := by
    rw [← h4, hm1]
    congr 1
   rw [itS] at hi hk
   have inner : ∀ w : Int, w = (if kind = 6 then (n : Int) + 1 else nx) → rng (n + 1) (n + cntS (.mk id kind labels name pr x has args thn els)) w ∨ w = nx := fun w hw => by
    split at hw
    ·left
     constructor <;> omega
    ·exact .inr hw
   have hd1 : ∀ w : Int, headI thn w = w ∨ rng (n + 1) (n + cntS (.mk id kind labels name pr x has args thn els)) (headI thn w) := fun w => by
    rcases head_in (nx := w) h3' with h5 | ⟨h5, h6⟩
    ·exact .inl h5
    ·right
     constructor <;> omega
   have hd2 : ∀ w : Int, headI els w = w ∨ rng (n + 1) (n + cntS (.mk id kind labels name pr x has args thn els)) (headI els w) := fun w => by
    rcases head_in (nx := w) h4' with h5 | ⟨h5, h6⟩
    ·exact .inl h5
    ·right
     constructor <;> omega
   rcases List.mem_cons.1 hi with rfl | hi
   ·rw [goes_free (hk _ List.mem_cons_self)] at hy
    simp only [show (S.mk id kind labels name pr x has args thn els).kind = kind from rfl, show (S.mk id kind labels name pr x has args thn els).thn = thn from rfl, show (S.mk id kind labels name pr x has args thn els).els = els from rfl, show (S.mk id kind labels name pr x has args thn els).id = id from rfl] at hy
    split at hy
    ·rcases List.mem_cons.1 hy with rfl | hy
     ·rcases hd1 nx with h5 | h5
      ·exact .inr h5
      ·exact .inl h5
     ·rw [List.mem_singleton.1 hy]
      rcases hd2 nx with h5 | h5
      ·exact .inr h5
      ·exact .inl h5
    ·split at hy
     ·rcases List.mem_cons.1 hy with rfl | hy
      ·rcases hd1 id with h5 | h5
       ·rw [h5]
        left
        constructor <;> omega
       ·exact .inl h5
      ·exact .inr (List.mem_singleton.1 hy)
     ·exact .inr (List.mem_singleton.1 hy)
   ·rcases List.mem_append.1 hi with hi | hi
    ·rcases clsL proc thn _ _ _ (n + 1) h3' (fun x hx => hk x (List.mem_cons_of_mem _ (List.mem_append.2 (.inl hx)))) it hi y hy with ⟨h5, h6⟩ | h5
     ·left
      constructor <;> omega
     ·exact inner y h5
    ·rcases clsL proc els _ _ _ (n + 1 + cntL thn) h4' (fun x hx => hk x (List.mem_cons_of_mem _ (List.mem_append.2 (.inr hx)))) it hi y hy with ⟨h5, h6⟩ | h5
     ·left
      constructor <;> omega
     ·exact inner y h5
theorem clsL {sh : Sheet} {f : Pr} (proc : Int) : ∀ (l : List S) {nest m : Int} (up nx lp : Int) (n : Nat), rowL nest n l = some m → (∀ it ∈ itL proc up nx lp n l, it.s.kind < 7) → ∀ it ∈ itL proc up nx lp n l, ∀ y ∈ goesI sh f it, rng (n + 1) (n + cntL l) y ∨ y = nx
 | [], nest, m, up, nx, lp, n, h, hk, it, hi, y, hy => by rw [itL] at hi; cases hi
 | t :: r, nest, m, up, nx, lp, n, h, hk, it, hi, y, hy => by
   obtain ⟨_, m1, h1, h2⟩ := rowL_parts h
   have hm1 := rowS_cnt _ _ t h1
   have h2' : rowL nest ((n + cntS t : Nat) : Int) r = some m := by rw [← h2, hm1]; rfl
   have hc : cntL (t :: r) = cntS t + cntL r := by rw [cntL]
   rw [itL] at hi hk
   rcases List.mem_append.1 hi with hi | hi
   ·rcases clsS proc t up _ lp n h1 (fun x hx => hk x (List.mem_append.2 (.inl hx))) it hi y hy with ⟨h5, h6⟩ | h5
    ·left
     constructor <;> omega
    ·rw [next_head h2'] at h5
     rcases head_in (nx := nx) h2' with h6 | ⟨h6, h7⟩
     ·exact .inr (h5.trans h6)
     ·left
      constructor <;> omega
   ·rcases clsL proc r up nx lp (n + cntS t) h2' (fun x hx => hk x (List.mem_append.2 (.inr hx))) it hi y hy with ⟨h5, h6⟩ | h5
    ·left
     constructor <;> omega
    ·exact .inr h5
end
theorem thru {R : Int → Int → Prop} {D : Int → Prop} {nx b : Int} (hcl : ∀ v w, D v → R v w → D w ∨ w = nx) (h1 : ¬ D (-1)) {v : Int} (h : AvdP R b v) (hv : D v ∨ v = nx) : AvdP R b nx := by
 induction h with
 | exit h =>
   rcases hv with hv | rfl
   ·exact absurd hv h1
   ·exact .exit h
 | @step a t hab hs h2 ih =>
   rcases hv with hv | rfl
   ·exact ih (hcl _ _ hv hs)
   ·exact .step hab hs h2
theorem Pth.avd {R : Int → Int → Prop} {Q : Int → Prop} {a c b : Int} (h : Pth R Q a c) (hQ : ∀ v, Q v → v ≠ b) (hc : AvdP R b c) : AvdP R b a := by
 induction h with
 | refl => exact hc
 | head hq hr _ ih => exact .step (hQ _ hq) hr (ih hc)
theorem row_item {proc up nx lp : Int} {n : Nat} {nest m : Int} {l : List S} (h : rowL nest n l = some m) {v : Int} (hv : rng (n + 1) (n + cntL l) v) : ∃ it ∈ itL proc up nx lp n l, it.s.id = v := ids_it h hv.1 hv.2
theorem stm_item {proc up nx lp : Int} {n : Nat} {nest m : Int} {t : S} (h : rowS nest n t = some m) {v : Int} (hv : rng (n + 1) (n + cntS t) v) : ∃ it ∈ itS proc up nx lp n t, it.s.id = v := by
 have h2 : v ∈ idsN n (cntS t) := idsN_has hv.1 (by have := hv.2; omega)
 rw [← rowS_ids nest t h, ← itS_s proc up nx lp n t, List.map_map] at h2
 obtain ⟨it, hi, he⟩ := List.mem_map.1 h2
 exact ⟨it, hi, he⟩
theorem thruL {sh : Sheet} {f : Pr} {R : Int → Int → Prop} {proc up nx lp : Int} {n : Nat} {nest m : Int} {l : List S} (h : rowL nest n l = some m) (ho : onlyI sh f R (itL proc up nx lp n l)) {b v : Int} (ha : AvdP R b v) (hv : rng (n + 1) (n + cntL l) v ∨ v = nx) : AvdP R b nx := by
 refine thru (D := rng (n + 1) (n + cntL l)) (fun v w hv hw => ?_) (fun hd => by unfold rng at hd; omega) ha hv
 obtain ⟨it, hi, rfl⟩ := row_item (proc := proc) (up := up) (nx := nx) (lp := lp) h hv
 exact clsL proc l up nx lp n h (fun x hx => (ho x hx).1) it hi w ((ho it hi).2 w hw)
theorem thruS {sh : Sheet} {f : Pr} {R : Int → Int → Prop} {proc up nx lp : Int} {n : Nat} {nest m : Int} {t : S} (h : rowS nest n t = some m) (ho : onlyI sh f R (itS proc up nx lp n t)) {b v : Int} (ha : AvdP R b v) (hv : rng (n + 1) (n + cntS t) v ∨ v = nx) : AvdP R b nx := by
 refine thru (D := rng (n + 1) (n + cntS t)) (fun v w hv hw => ?_) (fun hd => by unfold rng at hd; omega) ha hv
 obtain ⟨it, hi, rfl⟩ := stm_item (proc := proc) (up := up) (nx := nx) (lp := lp) h hv
 exact clsS proc t up nx lp n h (fun x hx => (ho x hx).1) it hi w ((ho it hi).2 w hw)
theorem topL {sh : Sheet} {f : Pr} {R : Int → Int → Prop} (proc : Int) : ∀ (l : List S) {nest m : Int} (up nx lp : Int) (n : Nat), rowL nest n l = some m → onlyI sh f R (itL proc up nx lp n l) → up ≤ n → ∀ it ∈ itL proc up nx lp n l, it.up = up → ¬ AvdP R it.s.id (headI l nx)
 | [], nest, m, up, nx, lp, n, h, ho, hu, it, hi, he => by rw [itL] at hi; cases hi
 | t :: r, nest, m, up, nx, lp, n, h, ho, hu, it, hi, he => by
   obtain ⟨_, m1, h1, h2⟩ := rowL_parts h
   have hm1 := rowS_cnt _ _ t h1
   have h2' : rowL nest ((n + cntS t : Nat) : Int) r = some m := by rw [← h2, hm1]; rfl
   have hid := (rowS_parts h1).2.1
   rw [itL] at hi ho
   have e : headI (t :: r) nx = t.id := rfl
   rw [e]
   rcases List.mem_append.1 hi with hi | hi
   ·rw [itS_eq] at hi
    rcases List.mem_cons.1 hi with rfl | hi
    ·exact avd_no_self
    ·have inn : ∀ (l' : List S) (nx' lp' : Int) (n' : Nat), n + 1 ≤ n' → it ∈ itL proc (n + 1) nx' lp' n' l' → False := fun l' nx' lp' n' hn' hm => by
      obtain ⟨i, hi'⟩ := List.mem_iff_getElem?.1 hm
      have := itL_up proc nx' lp' l' _ n' i it hi'
      omega
     rcases List.mem_append.1 hi with hi | hi
     ·exact (inn _ _ _ _ (Nat.le_refl _) hi).elim
     ·exact (inn _ _ _ _ (by omega) hi).elim
   ·have q := topL proc r up nx lp (n + cntS t) h2' (ho.sub fun x hx => List.mem_append.2 (.inr hx)) (by omega) it hi he
    intro ha
    refine q ?_
    have := thruS h1 (ho.sub fun x hx => List.mem_append.2 (.inl hx)) ha (.inl (by rw [hid]; have := cntS_pa t; constructor <;> omega))
    rw [next_head h2'] at this
    exact this
structure CtxF (sh : Sheet) (f : Pr) (R : Int → Int → Prop) (proc : Int) (L : List Item) (it : Item) : Prop where
 row : ∃ (n : Nat) (nest m up lp : Int), rowS nest n it.s = some m ∧ (∀ x ∈ itS proc up it.next lp n it.s, x ∈ L) ∧ AvdD R (rng (n + 1) (n + cntS it.s)) it.next
mutual
theorem ctxS {sh : Sheet} {f : Pr} {R : Int → Int → Prop} (proc : Int) (L : List Item) : ∀ (t : S) {nest m : Int} (up nx lp : Int) (n : Nat), rowS nest n t = some m → stepI sh f R (itS proc up nx lp n t) → (∀ x ∈ itS proc up nx lp n t, x ∈ L) → AvdD R (rng (n + 1) (n + cntS t)) nx → ∀ it ∈ itS proc up nx lp n t, CtxF sh f R proc L it
 | .mk id kind labels name pr x has args thn els, nest, m, up, nx, lp, n, h, hs, hL, hx, it, hi => by
   have P := partsF h hs
   have hid : id = (n : Int) + 1 := P.id
   have hc : cntS (.mk id kind labels name pr x has args thn els) = 1 + cntL thn + cntL els := cntS_pa _
   obtain ⟨nest1, m1, h3⟩ := P.thn
   obtain ⟨nest2, m2, h4⟩ := P.els
   have hxt : ∀ D : Int → Prop, (∀ v, D v → rng (n + 1 + 1) (n + cntS (.mk id kind labels name pr x has args thn els)) v) → AvdD R D (if kind = 6 then (n : Int) + 1 else nx) := fun D hD => by
    have hx2 : AvdD R D nx := hx.mono fun v hv => by
     have := hD v hv
     unfold rng at this ⊢
     omega
    split
    ·rename_i k6
     refine .step (fun hd => ?_) (by rw [← hid]; exact (P.go.k6 k6).2) hx2
     have := hD _ hd
     unfold rng at this
     omega
    ·exact hx2
   have hi0 := hi
   rw [itS] at hi hL
   rcases List.mem_cons.1 hi with rfl | hi
   ·exact ⟨⟨n, nest, m, up, lp, h, fun x hx => hL x (by rw [itS] at hx; exact hx), hx⟩⟩
   rcases List.mem_append.1 hi with hi | hi
   ·exact ctxL proc L thn _ _ _ (n + 1) h3 P.st (fun x hx => hL x (List.mem_cons_of_mem _ (List.mem_append.2 (.inl hx)))) (hxt _ fun v hv => by unfold rng at hv ⊢; omega) it hi
   ·exact ctxL proc L els _ _ _ (n + 1 + cntL thn) h4 P.se (fun x hx => hL x (List.mem_cons_of_mem _ (List.mem_append.2 (.inr hx)))) (hxt _ fun v hv => by unfold rng at hv ⊢; omega) it hi
theorem ctxL {sh : Sheet} {f : Pr} {R : Int → Int → Prop} (proc : Int) (L : List Item) : ∀ (l : List S) {nest m : Int} (up nx lp : Int) (n : Nat), rowL nest n l = some m → stepI sh f R (itL proc up nx lp n l) → (∀ x ∈ itL proc up nx lp n l, x ∈ L) → AvdD R (rng (n + 1) (n + cntL l)) nx → ∀ it ∈ itL proc up nx lp n l, CtxF sh f R proc L it
 | [], nest, m, up, nx, lp, n, h, hs, hL, hx, it, hi => by rw [itL] at hi; cases hi
 | t :: r, nest, m, up, nx, lp, n, h, hs, hL, hx, it, hi => by
   obtain ⟨_, m1, h1, h2⟩ := rowL_parts h
   have hm1 := rowS_cnt _ _ t h1
   have h2' : rowL nest ((n + cntS t : Nat) : Int) r = some m := by rw [← h2, hm1]; rfl
   have hc : cntL (t :: r) = cntS t + cntL r := by rw [cntL]
   rw [itL] at hs hi hL
   have hsr := hs.sub (m := itL proc up nx lp (n + cntS t) r) fun x hx => List.mem_append.2 (.inr hx)
   rcases List.mem_append.1 hi with hi | hi
   ·refine ctxS proc L t up _ lp n h1 (hs.sub fun x hx => List.mem_append.2 (.inl hx)) (fun x hx => hL x (List.mem_append.2 (.inl hx))) ?_ it hi
    rw [next_head h2']
    refine (passL proc r up nx lp (n + cntS t) h2' hsr).off (fun v hv hd => ?_) (hx.mono fun v hv => ?_)
    ·unfold rng at hv hd
     omega
    ·unfold rng at hv ⊢
     omega
   ·exact ctxL proc L r up nx lp (n + cntS t) h2' hsr (fun x hx => hL x (List.mem_append.2 (.inr hx))) (hx.mono fun v hv => by unfold rng at hv ⊢; omega) it hi
end
structure RowF (R : Int → Int → Prop) (l : List S) (up nx : Int) (lo : Nat) (L : List Item) : Prop where
 top : ∀ it ∈ L, rng (lo + 1) (lo + cntL l) it.s.id → it.up = up → ¬ AvdP R it.s.id (headI l nx)
 nst : ∀ it ∈ L, rng (lo + 1) (lo + cntL l) it.s.id → it.up ≠ up → AvdP R it.s.id (headI l nx)
 out : ∀ b, ¬ rng (lo + 1) (lo + cntL l) b → (AvdP R b (headI l nx) ↔ AvdP R b nx)
theorem rowF_of {sh : Sheet} {f : Pr} {R : Int → Int → Prop} {proc up nx lp : Int} {n : Nat} {nest m : Int} {l : List S} {L : List Item} (h : rowL nest n l = some m) (hs : stepI sh f R (itL proc up nx lp n l)) (ho : onlyI sh f R (itL proc up nx lp n l)) (hu : up ≤ n) (hW : ∀ it ∈ L, WithinF R it.s) (hsub : ∀ x ∈ itL proc up nx lp n l, x ∈ L) (hinj : ∀ a ∈ L, ∀ b ∈ L, a.s.id = b.s.id → a = b) : RowF R l up nx n L := by
 have own : ∀ it ∈ L, rng (n + 1) (n + cntL l) it.s.id → it ∈ itL proc up nx lp n l := fun it hi hr => by
  obtain ⟨it', h1, h2⟩ := row_item (proc := proc) (up := up) (nx := nx) (lp := lp) h hr
  rw [hinj it hi it' (hsub it' h1) h2.symm]
  exact h1
 refine ⟨fun it hi hr he => topL proc l up nx lp n h ho hu it (own it hi hr) he, fun it hi hr he => ?_, fun b hb => ?_⟩
 ·have hi := own it hi hr
  rcases itL_in proc l up nx lp n h it hi with h1 | ⟨iu, h1, h2, h3, h4⟩
  ·exact absurd h1 he
  ·exact (enterL proc l up nx lp n h hs iu h1).avd (fun v hv => by have := hv.2; omega) ((hW iu (hsub iu h1)).off _ h3 h4)
 ·constructor
  ·intro ha
   refine thruL h ho ha ?_
   rcases head_in (nx := nx) h with h1 | ⟨h1, h2⟩
   ·exact .inr h1
   ·exact .inl ⟨by omega, by omega⟩
  ·exact fun ha => (passL proc l up nx lp n h hs).avd (fun v hv e => hb (e ▸ hv)) ha
theorem free_dec {sh : Sheet} {f : Pr} {R : Int → Int → Prop} {proc : Int} {L : List Item} (hs : stepI sh f R L) (ho : onlyI sh f R L) (hC : ∀ it ∈ L, CtxF sh f R proc L it) (hW : ∀ it ∈ L, WithinF R it.s) (hinj : ∀ a ∈ L, ∀ b ∈ L, a.s.id = b.s.id → a = b)
  (hup : ∀ it ∈ L, it.up = 0 ∨ ∃ iu ∈ L, iu.s.id = it.up ∧ iu.s.id < it.s.id ∧ it.s.id < iu.s.id + cntS iu.s) {y x : Item} (hy : y ∈ L) (hx : x ∈ L) : (∃ t, R y.s.id t ∧ ¬ AvdP R x.s.id t ∧ (y.s.id = x.s.id ∨ AvdP R x.s.id y.s.id)) ↔ y.s.id = x.up ∨ (y.s.id = x.s.id ∧ x.s.kind = 6) := by
 obtain ⟨n, nest, m, up, lp, hr, hsub, hout⟩ := (hC y hy).row
 have P := partsF hr (hs.sub hsub)
 have hid := P.id
 have hc := cntS_pa y.s
 obtain ⟨nest1, m1, h3⟩ := P.thn
 obtain ⟨nest2, m2, h4⟩ := P.els
 have hk := (ho y hy).1
 have hgo : ∀ t, R y.s.id t → t ∈ goesI sh f y := (ho y hy).2
 rw [goes_free hk] at hgo
 have hst : ∀ x ∈ itL proc (n + 1) (if y.s.kind = 6 then n + 1 else y.next) (if y.s.kind = 6 then n + 1 else lp) (n + 1) y.s.thn, x ∈ L := fun x hx => hsub x (by rw [itS_eq]; exact List.mem_cons_of_mem _ (List.mem_append.2 (.inl hx)))
 have hse : ∀ x ∈ itL proc (n + 1) (if y.s.kind = 6 then n + 1 else y.next) (if y.s.kind = 6 then n + 1 else lp) (n + 1 + cntL y.s.thn) y.s.els, x ∈ L := fun x hx => hsub x (by rw [itS_eq]; exact List.mem_cons_of_mem _ (List.mem_append.2 (.inr hx)))
 have FT := rowF_of h3 P.st (ho.sub hst) (by omega) hW hst hinj
 have FE := rowF_of h4 P.se (ho.sub hse) (by omega) hW hse hinj
 have hupx : x.s.id ≠ y.s.id → ¬ (y.s.id < x.s.id ∧ x.s.id < y.s.id + cntS y.s) → y.s.id ≠ x.up := fun h1 h2 h5 => by
  rcases hup x hx with h6 | ⟨iu, h6, h7, h8, h9⟩
  ·omega
  ·have : iu = y := hinj iu h6 y hy (by omega)
   subst this
   exact h2 ⟨h8, h9⟩
 have hself : y.s.id ≠ y.up := fun h5 => by
  rcases hup y hy with h6 | ⟨iu, h6, h7, h8, h9⟩ <;> omega
 by_cases hxy : x.s.id = y.s.id
 ·have e : x = y := hinj x hx y hy hxy
  subst e
  have hn : AvdP R x.s.id x.next := hout.one ⟨by omega, by omega⟩
  constructor
  ·rintro ⟨t, hR, hF, _⟩
   refine .inr ⟨rfl, Classical.byContradiction fun hk6 => hF ?_⟩
   have ht := hgo t hR
   by_cases hk5 : x.s.kind = 5
   ·simp only [if_pos hk5] at ht
    simp only [if_neg hk6] at FT FE
    rcases List.mem_cons.1 ht with rfl | ht
    ·exact (FT.out _ (by unfold rng; omega)).2 hn
    ·rw [List.mem_singleton.1 ht]
     exact (FE.out _ (by unfold rng; omega)).2 hn
   ·rw [if_neg hk5, if_neg hk6] at ht
    rw [List.mem_singleton.1 ht]
    exact hn
  ·rintro (h5 | ⟨_, hk6⟩)
   ·exact absurd h5 hself
   ·refine ⟨_, (P.go.k6 hk6).1, ?_, .inl rfl⟩
    simp only [if_pos hk6] at FT
    rw [← hid] at FT
    exact fun ha => avd_no_self ((FT.out _ (by unfold rng; omega)).1 ha)
 ·have hne : ¬ (y.s.id = x.s.id ∧ x.s.kind = 6) := fun h5 => hxy h5.1.symm
  by_cases hin : y.s.id < x.s.id ∧ x.s.id < y.s.id + cntS y.s
  ·have hn : AvdP R x.s.id y.next := hout.one ⟨by omega, by omega⟩
   have hoff := (hW y hy).off _ hin.1 hin.2
   have hwhere : rng ((n + 1 : Nat) + 1) ((n + 1 : Nat) + cntL y.s.thn) x.s.id ∨ rng ((n + 1 + cntL y.s.thn : Nat) + 1) ((n + 1 + cntL y.s.thn : Nat) + cntL y.s.els) x.s.id := by
    unfold rng
    omega
   have hupe : y.s.id = x.up ↔ x.up = (n : Int) + 1 := by rw [hid]; exact eq_comm
   constructor
   ·rintro ⟨t, hR, hF, _⟩
    refine .inl (Classical.byContradiction fun hno => hF ?_)
    have hno : x.up ≠ (n : Int) + 1 := fun h5 => hno (hupe.2 h5)
    have ht := hgo t hR
    by_cases hk5 : y.s.kind = 5
    ·have hk6 : ¬ y.s.kind = 6 := by omega
     simp only [if_pos hk5] at ht
     simp only [if_neg hk6] at FT FE
     rcases hwhere with hw | hw
     ·have hw2 : ¬ rng ((n + 1 + cntL y.s.thn : Nat) + 1) ((n + 1 + cntL y.s.thn : Nat) + cntL y.s.els) x.s.id := by unfold rng at hw ⊢; omega
      rcases List.mem_cons.1 ht with rfl | ht
      ·exact FT.nst x hx hw hno
      ·rw [List.mem_singleton.1 ht]
       exact (FE.out _ hw2).2 hn
     ·have hw2 : ¬ rng ((n + 1 : Nat) + 1) ((n + 1 : Nat) + cntL y.s.thn) x.s.id := by unfold rng at hw ⊢; omega
      rcases List.mem_cons.1 ht with rfl | ht
      ·exact (FT.out _ hw2).2 hn
      ·rw [List.mem_singleton.1 ht]
       exact FE.nst x hx hw hno
    ·by_cases hk6 : y.s.kind = 6
     ·rw [if_neg hk5, if_pos hk6] at ht
      simp only [if_pos hk6] at FT
      rw [← hid] at FT
      have he0 : y.s.els = [] := List.eq_nil_of_length_eq_zero (P.one.els.resolve_right hk5)
      rcases hwhere with hw | hw
      ·rcases List.mem_cons.1 ht with rfl | ht
       ·exact FT.nst x hx hw (by rw [hid]; exact hno)
       ·rw [List.mem_singleton.1 ht]
        exact hn
      ·rw [he0] at hw
       unfold rng cntL at hw
       omega
     ·rw [if_neg hk5, if_neg hk6] at ht
      rw [List.mem_singleton.1 ht]
      exact hn
   ·rintro (h5 | h5)
    ·have hu := hupe.1 h5
     by_cases hk5 : y.s.kind = 5
     ·have hk6 : ¬ y.s.kind = 6 := by omega
      simp only [if_neg hk6] at FT FE
      rcases hwhere with hw | hw
      ·exact ⟨_, (P.go.k5 hk5).1, FT.top x hx hw hu, .inr hoff⟩
      ·exact ⟨_, (P.go.k5 hk5).2, FE.top x hx hw hu, .inr hoff⟩
     ·have he0 : y.s.els = [] := List.eq_nil_of_length_eq_zero (P.one.els.resolve_right hk5)
      rcases hwhere with hw | hw
      ·by_cases hk6 : y.s.kind = 6
       ·simp only [if_pos hk6] at FT
        rw [← hid] at FT
        exact ⟨_, (P.go.k6 hk6).1, FT.top x hx hw (by rw [hid]; exact hu), .inr hoff⟩
       ·have ht0 : y.s.thn = [] := List.eq_nil_of_length_eq_zero (by rcases P.one.thn with h | h | h; exact h; exact absurd h hk5; exact absurd h hk6)
        rw [ht0] at hw
        unfold rng cntL at hw
        omega
      ·rw [he0] at hw
       unfold rng cntL at hw
       omega
    ·exact absurd h5 hne
  ·have hnr : ¬ rng (n + 1) (n + cntS y.s) x.s.id := by unfold rng; omega
   have hw1 : ¬ rng ((n + 1 : Nat) + 1) ((n + 1 : Nat) + cntL y.s.thn) x.s.id := by unfold rng; omega
   have hw2 : ¬ rng ((n + 1 + cntL y.s.thn : Nat) + 1) ((n + 1 + cntL y.s.thn : Nat) + cntL y.s.els) x.s.id := by unfold rng; omega
   constructor
   ·rintro ⟨t, hR, hF, h5⟩
    exfalso
    have ha : AvdP R x.s.id y.s.id := by
     rcases h5 with h5 | h5
     ·exact absurd h5.symm hxy
     ·exact h5
    have hn : AvdP R x.s.id y.next := thruS hr (ho.sub hsub) ha (.inl ⟨by omega, by omega⟩)
    have ht := hgo t hR
    refine hF ?_
    by_cases hk5 : y.s.kind = 5
    ·have hk6 : ¬ y.s.kind = 6 := by omega
     simp only [if_pos hk5] at ht
     simp only [if_neg hk6] at FT FE
     rcases List.mem_cons.1 ht with rfl | ht
     ·exact (FT.out _ hw1).2 hn
     ·rw [List.mem_singleton.1 ht]
      exact (FE.out _ hw2).2 hn
    ·by_cases hk6 : y.s.kind = 6
     ·rw [if_neg hk5, if_pos hk6] at ht
      simp only [if_pos hk6] at FT
      rw [← hid] at FT
      rcases List.mem_cons.1 ht with rfl | ht
      ·exact (FT.out _ hw1).2 ha
      ·rw [List.mem_singleton.1 ht]
       exact hn
     ·rw [if_neg hk5, if_neg hk6] at ht
      rw [List.mem_singleton.1 ht]
      exact hn
   ·rintro (h5 | h5)
    ·exact absurd h5 (hupx hxy hin)
    ·exact absurd h5 hne
open Go.Proofs
theorem ids_len {p : Pg} (h : chkB p = true) (k : Int) : (allR p).length ≤ 1000 ∧ (idsR p k).length ≤ 1000000 := by
 have h1 := (may_facts (chk_parts h).1).len
 refine ⟨by omega, ?_⟩
 unfold idsR
 rw [List.length_map]
 have := List.length_filter_le (kindB k) (allR p)
 omega
theorem small_chk {p : Pg} {m : Int} (h : smallB p m = true) : chkB p = true := by
 unfold smallB at h
 rw [Bool.and_eq_true] at h
 exact h.1
open Go.Proofs
theorem sortedI_ext : ∀ {l m : List Int}, l.Pairwise (· < ·) → m.Pairwise (· < ·) → (∀ x, x ∈ l ↔ x ∈ m) → l = m
 | [], [], _, _, _ => rfl
 | [], b :: m, _, _, h => absurd ((h b).2 List.mem_cons_self) List.not_mem_nil
 | a :: l, [], _, _, h => absurd ((h a).1 List.mem_cons_self) List.not_mem_nil
 | a :: l, b :: m, hl, hm, h => by
   rw [List.pairwise_cons] at hl hm
   have hab : a = b := by
    rcases List.mem_cons.1 ((h a).1 List.mem_cons_self) with h1 | h1
    ·exact h1
    rcases List.mem_cons.1 ((h b).2 List.mem_cons_self) with h2 | h2
    ·exact h2.symm
    have := hm.1 a h1
    have := hl.1 b h2
    omega
   subst hab
   congr 1
   refine sortedI_ext hl.2 hm.2 fun x => ?_
   constructor
   ·intro hx
    rcases List.mem_cons.1 ((h x).1 (List.mem_cons_of_mem _ hx)) with h1 | h1
    ·have := hl.1 x hx
     omega
    ·exact h1
   ·intro hx
    rcases List.mem_cons.1 ((h x).2 (List.mem_cons_of_mem _ hx)) with h1 | h1
    ·have := hm.1 x hx
     omega
    ·exact h1
section
variable {p : Pg} {j : Nat} {f : Pr} {n : Str}
theorem decL_sorted (h : chkB p = true) (hj : p.procs[j]? = some f) : (decL (newWay p j f) f (cntL f.body + 2)).Pairwise fun u v => u.2 = v.2 → ixI p j f u.1 < ixI p j f v.1 := by
 have inj : ∀ x y : Nat, x < cntL f.body + 2 → y < cntL f.body + 2 → placeI p j (cntL f.body + 2 : Nat) x = placeI p j (cntL f.body + 2 : Nat) y → x = y := fun x y hx hy he => by
  have h1 := ix_place (p := p) (j := j) (f := f) (i := (x : Int)) (by omega)
  have h2 := ix_place (p := p) (j := j) (f := f) (i := (y : Int)) (by omega)
  rw [he, h2.2] at h1
  omega
 unfold decL
 rw [List.pairwise_flatMap]
 constructor
 ·intro x hx
  rw [List.pairwise_map]
  refine (List.Pairwise.filter _ List.nodup_range).imp_of_mem fun {y z} hy hz hne he => absurd ?_ hne
  exact inj y z (List.mem_range.1 (List.mem_filter.1 hy).1) (List.mem_range.1 (List.mem_filter.1 hz).1) he
 ·refine List.pairwise_lt_range.imp_of_mem fun {x y} hx hy hlt u hu v hv he => ?_
  obtain ⟨x', _, rfl⟩ := List.mem_map.1 hu
  obtain ⟨y', _, rfl⟩ := List.mem_map.1 hv
  rw [List.mem_range] at hx hy
  have h1 := (ix_place (p := p) (j := j) (f := f) (i := (x : Int)) (by omega)).2
  have h2 := (ix_place (p := p) (j := j) (f := f) (i := (y : Int)) (by omega)).2
  show ixI p j f (placeI p j (cntL f.body + 2 : Nat) x) < ixI p j f (placeI p j (cntL f.body + 2 : Nat) y)
  omega
theorem byR_sorted (h : chkB p = true) (hj : p.procs[j]? = some f) (hw : wayO p n = some (newWay p j f)) (id : Int) : (byR p n id).Pairwise (· < ·) := by
 unfold byR
 rw [decO_some hw hj, List.pairwise_map]
 refine ((decL_sorted h hj).filter _).imp_of_mem fun {u v} hu hv hlt => ?_
 obtain ⟨hu1, hu2⟩ := List.mem_filter.1 hu
 obtain ⟨hv1, hv2⟩ := List.mem_filter.1 hv
 rw [decide_eq_true_eq] at hu2 hv2
 have h1 := hlt (by rw [hu2, hv2])
 obtain ⟨q1, _, _, t1, ht1, _⟩ := (dec_iff h hj (a := u.1) (b := u.2)).1 hu1
 obtain ⟨q2, _, _, t2, ht2, _⟩ := (dec_iff h hj (a := v.1) (b := v.2)).1 hv1
 have e1 := (aR_pl h hj ht1).2.2.1
 have e2 := (aR_pl h hj ht2).2.2.1
 unfold ixI indexI loI hiI at h1
 unfold plP at q1 q2
 (repeat' split at h1) <;> omega
theorem aug_onlyI (h : chkB p = true) (hj : p.procs[j]? = some f) (hk : ∀ u ∈ flL f.body, u.kind < 7) : onlyI (sheetOf p) f (aR p j f) (itsOf p j f) := fun it hi => by
 refine ⟨hk _ (its_s hi), fun y hy => ?_⟩
 have hb := body_id (chk_parts h).1 hj (its_s hi)
 rcases (aR_iff h hj).1 hy with ⟨s, hs, h1, h2⟩ | ⟨h1, _⟩ | ⟨l, _, t, ht, _, h10, h1, _⟩ | ⟨it', hi', h7, h1, _⟩
 ·have h3 := ((real_spec h hj).2 s).1 hs
  unfold stepsRaw at h3
  rcases List.mem_cons.1 h3 with rfl | h3
  ·have h1 : (0 : Int) = it.s.id := h1
   omega
  ·obtain ⟨it', hi', h4⟩ := List.mem_flatMap.1 h3
   obtain ⟨z, hz, rfl⟩ := List.mem_map.1 h4
   have he : it' = it := it_inj (chk_parts h).1 hj hi' hi h1
   subst he
   have h2 : z = y := h2
   rw [← h2]
   exact hz
 ·omega
 ·have := hk t ht
  omega
 ·have := hk _ (its_s hi')
  omega
theorem aug_entry (h : chkB p = true) (hj : p.procs[j]? = some f) {y : Int} (hy : aR p j f 0 y) : y = headI f.body (-1) ∨ y = -1 := by
 rcases (aR_iff h hj).1 hy with ⟨s, hs, h1, h2⟩ | ⟨_, h2⟩ | ⟨l, _, t, ht, _, h10, h1, _⟩ | ⟨it', hi', h7, h1, _⟩
 ·rcases raw_src0 h hj (((real_spec h hj).2 s).1 hs) with h3 | h3
  ·rw [h3] at h2
   rw [← fst_head h hj]
   exact .inl h2.symm
  ·omega
 ·exact .inr h2
 ·have := body_id (chk_parts h).1 hj ht
  omega
 ·have := body_id (chk_parts h).1 hj (its_s hi')
  omega
def wantC (u id k : Int) : List Int := if k = 6 then [u, id] else [u]
theorem free_by (h : chkB p = true) (hj : p.procs[j]? = some f) (hw : wayO p n = some (newWay p j f)) (hk : ∀ u ∈ flL f.body, u.kind < 7) {x : Item} (hx : x ∈ itsOf p j f) : byR p n x.s.id = wantC x.up x.s.id x.s.kind ∧ 0 ≤ x.up ∧ x.up < x.s.id := by
 obtain ⟨m, hr⟩ := may_row (chk_parts h).1 hj
 have hm := (chk_parts h).1
 have hs := aug_stepI h hj
 have ho := aug_onlyI h hj hk
 have hW := within h hj
 have hinj : ∀ a ∈ itsOf p j f, ∀ b ∈ itsOf p j f, a.s.id = b.s.id → a = b := fun a ha b hb he => it_inj hm hj ha hb he
 have hC : ∀ it ∈ itsOf p j f, CtxF (sheetOf p) f (aR p j f) j (itsOf p j f) it := ctxL (j : Nat) (itsOf p j f) f.body 0 (-1) 0 (offN p.procs j) hr hs (fun x hx => hx) (.exit fun hd => by unfold rng at hd; omega)
 have hup : ∀ it ∈ itsOf p j f, it.up = 0 ∨ ∃ iu ∈ itsOf p j f, iu.s.id = it.up ∧ iu.s.id < it.s.id ∧ it.s.id < iu.s.id + cntS iu.s := itL_in (j : Nat) f.body 0 (-1) 0 (offN p.procs j) hr
 have hbx := body_id hm hj (its_s hx)
 have hux : 0 ≤ x.up ∧ x.up < x.s.id := by
  rcases hup x hx with h1 | ⟨iu, h1, h2, h3, _⟩
  ·omega
  ·have := body_id hm hj (its_s h1)
   omega
 have FB := rowF_of (up := 0) (nx := -1) (L := itsOf p j f) hr hs ho (by omega) hW (fun x hx => hx) hinj
 have hrx : rng ((offN p.procs j : Nat) + 1) ((offN p.procs j : Nat) + cntL f.body) x.s.id := ⟨by omega, by omega⟩
 refine ⟨sortedI_ext (byR_sorted h hj hw _) ?_ fun y => ?_, hux⟩
 ·unfold wantC
  split
  ·exact List.pairwise_cons.2 ⟨fun z hz => by rw [List.mem_singleton.1 hz]; exact hux.2, List.pairwise_singleton _ _⟩
  ·exact List.pairwise_singleton _ _
 ·have hwm : y ∈ wantC x.up x.s.id x.s.kind ↔ y = x.up ∨ (y = x.s.id ∧ x.s.kind = 6) := by
   unfold wantC
   split
   ·rename_i h6
    simp [h6]
   ·rename_i h6
    simp [h6]
  have hd : decP p j f y x.s.id ↔ ∃ t, aR p j f y t ∧ ¬ AvdP (aR p j f) x.s.id t ∧ (y = x.s.id ∨ AvdP (aR p j f) x.s.id y) := by
   unfold decP folP
   refine exists_congr fun t => and_congr_right fun _ => and_congr_right fun _ => or_congr_right ?_
   exact Classical.not_not
  rw [byR_iff h hj hw, hwm, hd]
  have hplx : plP p j f x.s.id := .inr (.inr hbx)
  by_cases hy0 : y = 0
  ·subst hy0
   have e0 : (0 : Int) = x.up ∨ ((0 : Int) = x.s.id ∧ x.s.kind = 6) ↔ x.up = 0 := by omega
   rw [e0]
   constructor
   ·rintro ⟨_, _, _, t, hR, hF, _⟩
    refine Classical.byContradiction fun hu => hF ?_
    rcases aug_entry h hj hR with rfl | rfl
    ·exact FB.nst x hx hrx hu
    ·exact .exit (by omega)
   ·intro hu
    refine ⟨.inl rfl, hplx, by omega, _, (aR_iff h hj).2 (.inl (entry_go h hj)), ?_, .inr (.step (by omega) ((aR_iff h hj).2 (.inr (.inl ⟨rfl, rfl⟩))) (.exit (by omega)))⟩
    rw [fst_head h hj]
    exact FB.top x hx hrx hu
  ·have key : plP p j f y → y ≠ -1 → ∃ it ∈ itsOf p j f, it.s.id = y := fun h1 h2 => by
    rcases h1 with h1 | h1 | h1
    ·exact absurd h1 hy0
    ·exact absurd h1 h2
    ·exact ids_it hr h1.1 (by omega)
   constructor
   ·rintro ⟨h1, _, _, t, hR, h3⟩
    obtain ⟨it, hi, rfl⟩ := key h1 (aR_pl h hj hR).2.2.1
    exact (free_dec hs ho hC hW hinj hup hi hx).1 ⟨t, hR, h3⟩
   ·intro h1
    have hit : ∃ it ∈ itsOf p j f, it.s.id = y := by
     rcases h1 with h1 | ⟨h1, _⟩
     ·rcases hup x hx with h2 | ⟨iu, h2, h3, _⟩
      ·omega
      ·exact ⟨iu, h2, by omega⟩
     ·exact ⟨x, hx, h1.symm⟩
    obtain ⟨it, hi, rfl⟩ := hit
    exact ⟨.inr (.inr (body_id hm hj (its_s hi))), hplx, by omega, (free_dec hs ho hC hW hinj hup hi hx).2 h1⟩
end
theorem in_last {p : Pg} (h : chkB p = true) {id : Int} (h1 : 1 ≤ id) (h2 : id ≤ (sheetOf p).l.length) : inR p id = if upAt (sheetOf p) id = 0 then [] else (upF (sheetOf p) 299 (upAt (sheetOf p) (upAt (sheetOf p) id))).reverse ++ [upAt (sheetOf p) id] := by
 unfold inR
 rw [h, decide_eq_true h1, decide_eq_true h2]
 show (upF (sheetOf p) (299 + 1) _).reverse = _
 rw [upF]
 split
 ·rfl
 ·rw [List.reverse_cons]
open Go.Proofs
theorem FreeF.cdep {p q : Pg} {g : Pr} (F : FreeF p q g) (n : Int) (h0 : pickR (idsR q 0) n ≠ 0) : ∃ (u : Int) (xs : List Int), byR q mainS (pickR (idsR q 0) n) = wantC u (pickR (idsR q 0) n) (stmtR q (pickR (idsR q 0) n)).kind ∧ inR q (pickR (idsR q 0) n) = (if u = 0 then [] else xs ++ [u]) ∧ xs.length ≤ 100000 := by
 have hne : idsR q 0 ≠ [] := fun e => h0 (by rw [e]; rfl)
 obtain ⟨k, f, t, hk, ht, he, _⟩ := proc_way F.chk (pick_in n hne)
 rw [← he]
 have hb := body_id (chk_parts F.chk).1 hk ht
 obtain ⟨_, _, _, hlen, hsp⟩ := sheet_spec q
 obtain ⟨_, _, hle, _⟩ := hsp k f hk
 have hcn := F.cnt
 have ho : offN q.procs 0 = 0 := by cases q.procs <;> rw [offN]
 obtain ⟨t', ht', _, hid⟩ := stAt_own F.chk F.at0 (a := t.id) (by rw [ho]; omega) (by rw [ho]; omega)
 obtain ⟨x, hx, hxs⟩ := it_of (p := q) (j := 0) ht'
 rw [← hxs] at hid
 rw [← hid]
 obtain ⟨h1, h2, h3⟩ := free_by F.chk F.at0 F.way F.kind hx
 have hs : stmtR q x.s.id = x.s := stmt_own F.chk F.at0 (its_s hx)
 have hup : upAt (sheetOf q) x.s.id = x.up := by unfold upAt; rw [it_at F.chk F.at0 hx]; rfl
 have hl := in_last F.chk (id := x.s.id) (by omega) (by omega)
 rw [hup] at hl
 rw [hs]
 refine ⟨x.up, _, h1, hl, ?_⟩
 have hcq := (chk_cnt F.chk).2.2
 rw [List.length_reverse]
 by_cases hu0 : x.up = 0
 ·have := upF_len q 299 (upAt (sheetOf q) x.up) (by
   rw [hu0]
   unfold upAt
   cases hq : (sheetOf q).l[((0 : Int) - 1).toNat]? with
   | none => exact Int.le_refl _
   | some it =>
     have := up_rng q (id := 1) (by omega)
     unfold upAt at this
     rw [show ((1 : Int) - 1).toNat = ((0 : Int) - 1).toNat by decide, hq] at this
     exact this.1)
  have h5 : upAt (sheetOf q) x.up < 1 := by
   have := up_rng q (id := 1) (by omega)
   rw [hu0]
   unfold upAt at this ⊢
   rw [show ((0 : Int) - 1).toNat = ((1 : Int) - 1).toNat by decide]
   exact this.2
  omega
 ·have h4 := up_rng q (id := x.up) (by omega)
  have := upF_len q 299 (upAt (sheetOf q) x.up) h4.1
  have := body_id (chk_parts F.chk).1 F.at0 (its_s hx)
  rw [ho] at this
  omega
theorem whittlerlaw18_CdepFree (p : Pg) (n : Int) : SpecP Tryz.prog 6 [.agg p.cells, .int .i64 n] (fun r => r = .tt) := by
 refine SpecP.body I_whittlerlaw18_CdepFree tabOK Tryz.func6 rfl Tryz.call6 (by show 2 ≤ _; decide) ?_
 conv => whnf
 cases hfb : fitB p with
 | false =>
   have hno : ¬ gPg p ≤ 20000 := by unfold fitB at hfb; simpa using hfb
   repeat' (first | ((first | (refine CallK.pure (whittlerref3_Fits _) (by repeat' (first | exact ArgP.nil | refine ArgP.cons ?_ ?_ | exact Sub.refl _ | exact Sub.tt rfl | exact Sub.ff rfl)) ?_; rintro _ rfl) | (refine CallK.pure whittlerlaw18_deciding .nil ?_; rintro _ rfl)); conv => whnf) | (refine Br.dec2 (fun _ => ?_) (fun _ => ?_) <;> first | (exfalso; omega) | conv => whnf))
   all_goals first
    | exact ⟨_, .p (Sub.refl _), rfl⟩
    | (exfalso; simp_all; done)
 | true =>
   have hf : Fit p := fit_of hfb
   have hfit : gPg p ≤ 20000 := by unfold fitB at hfb; simpa using hfb
   have hS := whittlerlaw18_small p hf 100
   cases hs : smallB p 100 with
   | false =>
     rw [hs] at hS
     repeat' (first | ((first | (refine CallK.pure (whittlerref3_Fits _) (by repeat' (first | exact ArgP.nil | refine ArgP.cons ?_ ?_ | exact Sub.refl _ | exact Sub.tt rfl | exact Sub.ff rfl)) ?_; rintro _ rfl) | (refine CallK.pure whittlerlaw18_deciding .nil ?_; rintro _ rfl) | (refine CallK.pure hS (.cons (Sub.refl _) (.cons (Sub.refl _) .nil)) ?_; rintro _ rfl)); conv => whnf) | (refine Br.dec2 (fun _ => ?_) (fun _ => ?_) <;> first | (exfalso; omega) | conv => whnf) | (refine Br.n (fun _ => ?_) (fun _ => ?_) <;> conv => whnf))
     all_goals first
      | contradiction
      | exact ⟨_, .p (Sub.refl _), rfl⟩
   | true =>
     rw [hs] at hS
     obtain ⟨q, g, F⟩ := free_facts hf (small_chk hs)
     have hO := whittlerref3_Only false p F.copy F.pos F.raw.1 F.raw.2
     rw [F.only] at hO
     obtain ⟨hl1, hl2⟩ := ids_len F.chk 0
     have hI := whittlerref6_Ids q 0 hl1
     have hP := whittlerref6_Pick (idsR q 0) n hl2
     have hK := F.cdep n
     generalize pickR (idsR q 0) n = id at hP hK
     by_cases h0 : id = 0
     ·subst h0
      repeat' (first | ((first | (refine CallK.pure (whittlerref3_Fits _) (by repeat' (first | exact ArgP.nil | refine ArgP.cons ?_ ?_ | exact Sub.refl _ | exact Sub.tt rfl | exact Sub.ff rfl)) ?_; rintro _ rfl) | (refine And.intro rfl ?_) | (refine CallK.pure whittlerlaw18_deciding .nil ?_; rintro _ rfl) | (refine CallK.pure hS (.cons (Sub.refl _) (.cons (Sub.refl _) .nil)) ?_; rintro _ rfl) | (refine CallK.pure hO (.cons (Sub.refl _) (.cons (by first | exact Sub.refl _ | exact Sub.ff rfl) .nil)) ?_; rintro _ rfl) | (refine CallK.pure hI (.cons (Sub.refl _) (.cons (Sub.refl _) .nil)) ?_; rintro _ rfl) | (refine CallK.pure hP (.cons (Sub.refl _) (.cons (Sub.refl _) .nil)) ?_; rintro _ rfl)); conv => whnf) | (refine Br.dec (fun _ => ?_) (fun _ => ?_) <;> first | (exfalso; omega) | conv => whnf) | (refine Br.dec2 (fun _ => ?_) (fun _ => ?_) <;> first | (exfalso; omega) | conv => whnf) | (refine Br.n (fun _ => ?_) (fun _ => ?_) <;> conv => whnf))
      all_goals first
       | contradiction
       | exact ⟨_, .p (Sub.refl _), rfl⟩
       | exact ⟨_, .p (Sub.tt' rfl), rfl⟩
       | skip
     ·obtain ⟨u, xs, e1, e2, hxl⟩ := hK h0
      have hB := cdep_By q F.fit mainS id
      rw [e1] at hB
      have hIn := cdep_In q F.fit id
      rw [e2] at hIn
      have hSt := whittlerref6_Stmt q id
      have hE := whittlerref12_EqInts (wantC u id (stmtR q id).kind) (wantC u id (stmtR q id).kind)
      simp only [decide_true] at hE
      clear e1 e2 hK
      generalize stmtR q id = st at hB hSt hE
      unfold wantC at hB hE
      by_cases hu : u = 0
      ·subst hu
       rw [if_pos rfl] at hIn
       by_cases h6 : st.kind = 6
       ·rw [if_pos h6] at hB hE
        repeat' (first | ((first | (intro (_ : _ ≤ 9223372036854775807)) | (refine CallK.pure (whittlerref3_Fits _) (by repeat' (first | exact ArgP.nil | refine ArgP.cons ?_ ?_ | exact Sub.refl _ | exact Sub.tt rfl | exact Sub.ff rfl)) ?_; rintro _ rfl) | (refine And.intro rfl ?_) | (refine And.intro ⟨by decide, by decide⟩ ?_) | (refine Wr.i64 (by omega) (by omega) ?_) | (refine CallK.pure whittlerlaw18_deciding .nil ?_; rintro _ rfl) | (refine CallK.pure hS (.cons (Sub.refl _) (.cons (Sub.refl _) .nil)) ?_; rintro _ rfl) | (refine CallK.pure hO (.cons (Sub.refl _) (.cons (by first | exact Sub.refl _ | exact Sub.ff rfl) .nil)) ?_; rintro _ rfl) | (refine CallK.pure hI (.cons (Sub.refl _) (.cons (Sub.refl _) .nil)) ?_; rintro _ rfl) | (refine CallK.pure hP (.cons (Sub.refl _) (.cons (Sub.refl _) .nil)) ?_; rintro _ rfl) | (refine CallK.pure hIn (.cons (Sub.refl _) (.cons (Sub.refl _) .nil)) ?_; rintro _ rfl) | (refine CallK.pure hSt (.cons (Sub.refl _) (.cons (Sub.refl _) .nil)) ?_; rintro _ rfl) | (refine CallK.pure hB (.cons (Sub.refl _) (.cons (Sub.refl _) (.cons (Sub.refl _) .nil))) ?_; rintro _ rfl) | (refine BsK.own (fun x hx => by rcases List.mem_singleton.1 hx with rfl; rfl) rfl ?_) | (refine AppK.int1 rfl (by simp) ?_)); conv => whnf) | (refine Br.dec (fun _ => ?_) (fun _ => ?_) <;> first | (exfalso; omega) | conv => whnf) | (refine Br.dec2 (fun _ => ?_) (fun _ => ?_) <;> first | (exfalso; omega) | conv => whnf) | (refine Br.n (fun _ => ?_) (fun _ => ?_) <;> conv => whnf) | (refine CallK.borrow hE (.cons (.p (Sub.refl _)) (.cons (.hd rfl rfl) .nil)) (by rintro _ rfl; rfl) ?_; rintro _ rfl; conv => whnf))
        all_goals first
         | contradiction
         | exact ⟨_, .p (Sub.tt' rfl), rfl⟩
         | skip
       ·rw [if_neg h6] at hB hE
        repeat' (first | ((first | (intro (_ : _ ≤ 9223372036854775807)) | (refine CallK.pure (whittlerref3_Fits _) (by repeat' (first | exact ArgP.nil | refine ArgP.cons ?_ ?_ | exact Sub.refl _ | exact Sub.tt rfl | exact Sub.ff rfl)) ?_; rintro _ rfl) | (refine And.intro rfl ?_) | (refine And.intro ⟨by decide, by decide⟩ ?_) | (refine Wr.i64 (by omega) (by omega) ?_) | (refine CallK.pure whittlerlaw18_deciding .nil ?_; rintro _ rfl) | (refine CallK.pure hS (.cons (Sub.refl _) (.cons (Sub.refl _) .nil)) ?_; rintro _ rfl) | (refine CallK.pure hO (.cons (Sub.refl _) (.cons (by first | exact Sub.refl _ | exact Sub.ff rfl) .nil)) ?_; rintro _ rfl) | (refine CallK.pure hI (.cons (Sub.refl _) (.cons (Sub.refl _) .nil)) ?_; rintro _ rfl) | (refine CallK.pure hP (.cons (Sub.refl _) (.cons (Sub.refl _) .nil)) ?_; rintro _ rfl) | (refine CallK.pure hIn (.cons (Sub.refl _) (.cons (Sub.refl _) .nil)) ?_; rintro _ rfl) | (refine CallK.pure hSt (.cons (Sub.refl _) (.cons (Sub.refl _) .nil)) ?_; rintro _ rfl) | (refine CallK.pure hB (.cons (Sub.refl _) (.cons (Sub.refl _) (.cons (Sub.refl _) .nil))) ?_; rintro _ rfl) | (refine BsK.own (fun x hx => by rcases List.mem_singleton.1 hx with rfl; rfl) rfl ?_)); conv => whnf) | (refine Br.dec (fun _ => ?_) (fun _ => ?_) <;> first | (exfalso; omega) | conv => whnf) | (refine Br.dec2 (fun _ => ?_) (fun _ => ?_) <;> first | (exfalso; omega) | conv => whnf) | (refine Br.n (fun _ => ?_) (fun _ => ?_) <;> conv => whnf) | (refine CallK.borrow hE (.cons (.p (Sub.refl _)) (.cons (.hd rfl rfl) .nil)) (by rintro _ rfl; rfl) ?_; rintro _ rfl; conv => whnf))
        all_goals first
         | contradiction
         | exact ⟨_, .p (Sub.tt' rfl), rfl⟩
         | skip
      ·by_cases h6 : st.kind = 6
       ·rw [if_pos h6] at hB hE
        rw [if_neg hu] at hIn
        have hlen : ((xs ++ [u]).map (AV.int .i64)).length = xs.length + 1 := by simp
        have hgl : ((xs ++ [u]).map (AV.int .i64))[xs.length]? = some (.int .i64 u) := by rw [List.getElem?_map, List.getElem?_append_right (Nat.le_refl _), Nat.sub_self]; rfl
        repeat' (first | ((first | (intro (_ : _ ≤ 9223372036854775807)) | (refine CallK.pure (whittlerref3_Fits _) (by repeat' (first | exact ArgP.nil | refine ArgP.cons ?_ ?_ | exact Sub.refl _ | exact Sub.tt rfl | exact Sub.ff rfl)) ?_; rintro _ rfl) | (refine And.intro rfl ?_) | (refine And.intro ⟨by decide, by decide⟩ ?_) | (refine Wr.i64 (by omega) (by omega) ?_) | (refine CallK.pure whittlerlaw18_deciding .nil ?_; rintro _ rfl) | (refine CallK.pure hS (.cons (Sub.refl _) (.cons (Sub.refl _) .nil)) ?_; rintro _ rfl) | (refine CallK.pure hO (.cons (Sub.refl _) (.cons (by first | exact Sub.refl _ | exact Sub.ff rfl) .nil)) ?_; rintro _ rfl) | (refine CallK.pure hI (.cons (Sub.refl _) (.cons (Sub.refl _) .nil)) ?_; rintro _ rfl) | (refine CallK.pure hP (.cons (Sub.refl _) (.cons (Sub.refl _) .nil)) ?_; rintro _ rfl) | (refine CallK.pure hIn (.cons (Sub.refl _) (.cons (Sub.refl _) .nil)) ?_; rintro _ rfl) | (refine CallK.pure hSt (.cons (Sub.refl _) (.cons (Sub.refl _) .nil)) ?_; rintro _ rfl) | (refine CallK.pure hB (.cons (Sub.refl _) (.cons (Sub.refl _) (.cons (Sub.refl _) .nil))) ?_; rintro _ rfl) | (refine IdxK.at (k := xs.length) (by omega) hgl rfl ?_) | (refine BsK.own (fun x hx => by rcases List.mem_singleton.1 hx with rfl; rfl) rfl ?_) | (refine AppK.int1 rfl (by simp) ?_)); conv => whnf) | (refine Br.dec (fun _ => ?_) (fun _ => ?_) <;> first | (exfalso; omega) | conv => whnf) | (refine Br.dec2 (fun _ => ?_) (fun _ => ?_) <;> first | (exfalso; omega) | conv => whnf) | (refine Br.n (fun _ => ?_) (fun _ => ?_) <;> conv => whnf) | (refine CallK.borrow hE (.cons (.p (Sub.refl _)) (.cons (.hd rfl rfl) .nil)) (by rintro _ rfl; rfl) ?_; rintro _ rfl; conv => whnf))
        all_goals first
         | contradiction
         | exact ⟨_, .p (Sub.tt' rfl), rfl⟩
         | skip
       ·rw [if_neg h6] at hB hE
        rw [if_neg hu] at hIn
        have hlen : ((xs ++ [u]).map (AV.int .i64)).length = xs.length + 1 := by simp
        have hgl : ((xs ++ [u]).map (AV.int .i64))[xs.length]? = some (.int .i64 u) := by rw [List.getElem?_map, List.getElem?_append_right (Nat.le_refl _), Nat.sub_self]; rfl
        repeat' (first | ((first | (intro (_ : _ ≤ 9223372036854775807)) | (refine CallK.pure (whittlerref3_Fits _) (by repeat' (first | exact ArgP.nil | refine ArgP.cons ?_ ?_ | exact Sub.refl _ | exact Sub.tt rfl | exact Sub.ff rfl)) ?_; rintro _ rfl) | (refine And.intro rfl ?_) | (refine And.intro ⟨by decide, by decide⟩ ?_) | (refine Wr.i64 (by omega) (by omega) ?_) | (refine CallK.pure whittlerlaw18_deciding .nil ?_; rintro _ rfl) | (refine CallK.pure hS (.cons (Sub.refl _) (.cons (Sub.refl _) .nil)) ?_; rintro _ rfl) | (refine CallK.pure hO (.cons (Sub.refl _) (.cons (by first | exact Sub.refl _ | exact Sub.ff rfl) .nil)) ?_; rintro _ rfl) | (refine CallK.pure hI (.cons (Sub.refl _) (.cons (Sub.refl _) .nil)) ?_; rintro _ rfl) | (refine CallK.pure hP (.cons (Sub.refl _) (.cons (Sub.refl _) .nil)) ?_; rintro _ rfl) | (refine CallK.pure hIn (.cons (Sub.refl _) (.cons (Sub.refl _) .nil)) ?_; rintro _ rfl) | (refine CallK.pure hSt (.cons (Sub.refl _) (.cons (Sub.refl _) .nil)) ?_; rintro _ rfl) | (refine CallK.pure hB (.cons (Sub.refl _) (.cons (Sub.refl _) (.cons (Sub.refl _) .nil))) ?_; rintro _ rfl) | (refine IdxK.at (k := xs.length) (by omega) hgl rfl ?_) | (refine BsK.own (fun x hx => by rcases List.mem_singleton.1 hx with rfl; rfl) rfl ?_)); conv => whnf) | (refine Br.dec (fun _ => ?_) (fun _ => ?_) <;> first | (exfalso; omega) | conv => whnf) | (refine Br.dec2 (fun _ => ?_) (fun _ => ?_) <;> first | (exfalso; omega) | conv => whnf) | (refine Br.n (fun _ => ?_) (fun _ => ?_) <;> conv => whnf) | (refine CallK.borrow hE (.cons (.p (Sub.refl _)) (.cons (.hd rfl rfl) .nil)) (by rintro _ rfl; rfl) ?_; rintro _ rfl; conv => whnf))
        all_goals first
         | contradiction
         | exact ⟨_, .p (Sub.tt' rfl), rfl⟩
         | skip
end Go.Ab
