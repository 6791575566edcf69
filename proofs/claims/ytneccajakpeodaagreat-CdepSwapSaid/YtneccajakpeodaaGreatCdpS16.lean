/- way: all steps, those of the data. -/
import Derived.Test.YtneccajakpeodaaGreatCdpS10
import Derived.Test.YtneccajakpeodaaGreatCdpS14
import Derived.Test.YtneccajakpeodaaGreatCdpS15
set_option linter.unusedSimpArgs false
set_option linter.unusedVariables false
set_option maxRecDepth 100000
set_option maxHeartbeats 16000000
namespace Go.Ab
open Go.Proofs
def fOf (it : Item) : List Step := if it.s.kind = 7 ∨ it.s.kind = 8 ∨ it.s.kind = 9 ∨ it.s.kind = 10 then [⟨it.s.id, it.next, 2⟩] else []
structure WayT (w : Way) (f : Pr) (n : Nat) : Prop where
 hw : w.n = n
 hj : w.p.procs[w.j]? = some f
 hc : cntP w.p.procs ≤ 1000
 hn : n ≤ 5000
 hn2 : 2 ≤ n
 hlen : w.real.length ≤ 1000000
 hr : ∀ t ∈ prsW w f, (0 ≤ t.1 ∧ t.1 < n) ∧ 0 ≤ t.2 ∧ t.2 < n
 htl : (trapsW w f).length ≤ 5000
 hti : ∀ l ∈ trapsW w f, l.length ≤ 5000 ∧ ∀ id ∈ l, 1 ≤ id ∧ id ≤ (sheetOf w.p).l.length
 hok : ∀ s ∈ w.real, okSt s
 hfk : ∀ it ∈ itsOf w.p w.j f, ∀ s ∈ fOf it, okSt s
theorem vOf_mem {p : Pg} {id : Int} {s : Step} (h : s ∈ vOf p id) : s = ⟨id, -1, 3⟩ := by
 unfold vOf at h
 split at h
 ·split at h
  ·simpa using h
  ·simp at h
 ·simp at h
theorem WayT.virt_ok {w : Way} {f : Pr} {n : Nat} (h : WayT w f n) : ∀ s ∈ virtW w f, okSt s := fun s hs => by
 unfold virtW at hs
 obtain ⟨l, hl, hs⟩ := List.mem_flatMap.1 hs
 obtain ⟨id, hid, hs⟩ := List.mem_flatMap.1 hs
 obtain ⟨_, _, _, hsl, _⟩ := sheet_spec w.p
 have h1 := (h.hti l hl).2 id hid
 have h2 := h.hc
 rw [vOf_mem hs]
 exact ⟨by show id ≠ _; omega, by show (-1 : Int) ≠ _; decide⟩
theorem WayT.virt_len {w : Way} {f : Pr} {n : Nat} (h : WayT w f n) : (virtW w f).length ≤ 25000000 := by
 have h1 := flatMap_take_len (g := fun l => l.flatMap (vOf w.p)) (c := 5000) (trapsW w f) fun l hl => by
  have h2 := flatMap_take_len (g := vOf w.p) (c := 1) l fun id _ => vOf_len w.p id
  have h3 := (h.hti l hl).1
  omega
 have h2 := h.htl
 unfold virtW
 omega
def dataW (w : Way) (f : Pr) : List Step := normS (virtW w f ++ w.real)
def augRaw (w : Way) (f : Pr) : List Step := virtW w f ++ w.real ++ [⟨0, -1, 2⟩] ++ (itsOf w.p w.j f).flatMap fOf
def augW (w : Way) (f : Pr) : List Step := normS (augRaw w f)
theorem fOf_len (it : Item) : (fOf it).length ≤ 1 := by
 unfold fOf
 split <;> simp
theorem way_Way_Aug (w : Way) (f : Pr) (n : Nat) (h : WayT w f n) : SpecP Tryz.prog 102 [.ip w.cells] (fun r => r = eSteps (augW w f)) := by
 refine SpecP.body I_way_Way_Aug tabOK Tryz.func102 rfl Tryz.call102 (by show 1 ≤ _; decide) ?_
 conv => whnf
 have hlen := h.hlen
 have hvl := h.virt_len
 have hvok := h.virt_ok
 have hcc := h.hc
 have hits : itL w.j 0 (-1) 0 (offN w.p.procs w.j) f.body = itsOf w.p w.j f := rfl
 repeat' (first | ((first | (refine DrawK.auto tabOK mixed (by kernel_rfl) ?_) | (refine And.intro ⟨by decide, by decide⟩ ?_)); conv => whnf) | (refine CallK.heap [] 0 (ArgsH.cons (LSub.refl _) ArgsH.nil) BlksH.nil (way_virtual w f n h.hw h.hj h.hc h.hn h.hn2 h.hlen h.hr h.htl h.hti) rfl rfl ?_; rintro l' H' ⟨rfl, rfl⟩; conv => whnf))
 have hml : (w.real.map fun s => AV.agg s.cells).length = w.real.length := List.length_map _
 have hvm : (avS (virtW w f)).length = (virtW w f).length := by simp [avS]
 refine AppK.mk hvm.symm rfl (by rw [hml]; show ((virtW w f).length + w.real.length) * 24 ≤ 140737488355328; omega) (by rw [hml]; show (virtW w f).length + w.real.length ≤ 9223372036854775807; omega) (fun x hx => by obtain ⟨s, _, rfl⟩ := List.mem_map.1 hx; exact ⟨rfl, rfl⟩) ?_
 conv => whnf
 have happ : avS (virtW w f) ++ (w.real.map fun s => AV.agg s.cells) = avS (virtW w f ++ w.real) := by simp [avS]
 have hlp : (virtW w f).length + (w.real.map fun s => AV.agg s.cells).length = (virtW w f ++ w.real).length := by simp
 rw [happ, hlp]
 have hbl : (virtW w f ++ w.real).length ≤ 26000000 := by rw [List.length_append]; omega
 have hbok : ∀ s ∈ virtW w f ++ w.real ++ [⟨0, -1, 2⟩], okSt s := fun s hs => by
  rcases List.mem_append.1 hs with hs | hs
  ·exact (List.mem_append.1 hs).elim (hvok s) (h.hok s)
  ·rw [List.mem_singleton.1 hs]
   exact ⟨by decide, by decide⟩
 have hraw : augRaw w f = virtW w f ++ w.real ++ [⟨0, -1, 2⟩] ++ (itsOf w.p w.j f).flatMap fOf := rfl
 unfold augW
 rw [hraw]
 clear hraw happ hlp hml hvm hvok hvl hlen
 generalize virtW w f ++ w.real = base at hbl hbok ⊢
 repeat' ((first | (intro (_ : _ ≤ 9223372036854775807)) | (refine DrawK.auto tabOK mixed (by kernel_rfl) ?_) | (refine And.intro rfl ?_) | (refine And.intro ⟨by decide, by decide⟩ ?_) | (refine BsK.pure (fun x hx => by rcases List.mem_singleton.1 hx with rfl; rfl) rfl ?_) | (refine CallK.pure (Of_at w.p h.hj hcc) (.cons (Sub.refl _) (.cons (Sub.refl _) .nil)) ?_; rintro _ rfl) | (refine AppK.mk (by simp [avS]) rfl (by show (base.length+1) * 24 ≤ 140737488355328; omega) (by show base.length+1 ≤ 9223372036854775807; omega) (fun x hx => by rcases List.mem_singleton.1 hx with rfl; exact ⟨rfl, rfl⟩) ?_)); conv => whnf)
 rw [hits]
 have hib : (itsOf w.p w.j f).length ≤ 1000 := by
  obtain ⟨_, _, _, hsl, hsp⟩ := sheet_spec w.p
  obtain ⟨_, _, hle, _⟩ := hsp w.j f h.hj
  rw [← hits, itL_len]
  omega
 have hfok := h.hfk
 generalize itsOf w.p w.j f = its at hib hfok ⊢
 have hil := eItems_len its
 refine LoopK.inv tabOK (fun x : Nat × List Step => ⟨[(3, .hd 0 0 x.2.length), (25, .p (eItems its)), (26, .p (.int .i64 (its.map fun i => AV.agg i.cells).length)), (27, .p (.int .i64 x.1))], [(0, .own 79 3 (avS x.2))]⟩)
  (fun x => x.1 ≤ its.length ∧ x.2.length ≤ base.length + 1 + x.1 ∧ x.2 ++ (its.drop x.1).flatMap fOf = base ++ [⟨0, -1, 2⟩] ++ its.flatMap fOf) (fun x => its.length - x.1) (0, base ++ [⟨0, -1, 2⟩])
  (Le.of_eq (by simp only [avS, List.length_append, List.map_append]; rfl)) ⟨Nat.zero_le _, by simp, rfl⟩ ?_
 rintro ⟨m, acc⟩ ⟨h1, h2, h3⟩
 simp only at h1 h2 h3 ⊢
 rcases Nat.lt_or_ge m its.length with hm | hm
 rotate_left 1
 ·rw [List.drop_eq_nil_of_le hm, List.flatMap_nil, List.append_nil] at h3
  have hok : ∀ s ∈ acc, okSt s := fun s hs => by
   rw [h3] at hs
   rcases List.mem_append.1 hs with hs | hs
   ·exact hbok s hs
   ·obtain ⟨it, hi, hs⟩ := List.mem_flatMap.1 hs
    exact hfok it hi s hs
  rw [← h3]
  conv => whnf
  repeat' (first | (refine Br.dec (fun _ => ?_) (fun _ => ?_) <;> first | (exfalso; omega) | conv => whnf) | (refine CallK.heap [(1000, 0)] 0 (by repeat' (first | exact ArgsH.nil | refine ArgsH.cons ?_ ?_ | exact LSub.refl _ | exact LSub.p Sub.nils | exact LSub.p (Sub.tt rfl) | exact LSub.p (Sub.ff rfl) | exact LSub.p (Sub.int (by omega)))) (by refine BlksH.cons (j := 0) rfl rfl ?_ ?_; exact CSub.refl _; exact BlksH.nil) (flat_Sort acc hok (by omega)) rfl rfl ?_; rintro l' H' ⟨rfl, rfl⟩; conv => whnf))
  exact ⟨_, .hd rfl (by simp [avS]), rfl⟩
 rw [flatMap_step hm] at h3
 have hf : fOf its[m] = if its[m].s.kind = 7 ∨ its[m].s.kind = 8 ∨ its[m].s.kind = 9 ∨ its[m].s.kind = 10 then [⟨its[m].s.id, its[m].next, 2⟩] else [] := rfl
 conv => whnf
 repeat' (first | ((first | (refine And.intro rfl ?_) | (refine And.intro ⟨by decide, by decide⟩ ?_) | (refine BsK.pure (fun x hx => by rcases List.mem_singleton.1 hx with rfl; rfl) rfl ?_) | (refine IdxK.map (by omega) (fun _ => rfl) ?_) | (refine Wr.i64 (by omega) (by omega) ?_) | (refine AppK.mk (by simp [avS]) rfl (by show (acc.length+1) * 24 ≤ 140737488355328; omega) (by show acc.length+1 ≤ 9223372036854775807; omega) (fun x hx => by rcases List.mem_singleton.1 hx with rfl; exact ⟨rfl, rfl⟩) ?_)); conv => whnf) | (refine Br.dec (fun _ => ?_) (fun _ => ?_) <;> first | (exfalso; omega) | conv => whnf))
 all_goals first
  | (rw [if_pos (by omega)] at hf
     rw [hf] at h3
     exact ⟨(m + 1, acc ++ [⟨its[m].s.id, its[m].next, 2⟩]), ⟨hm, by simp; omega, by simpa using h3⟩, by simp only; omega, Le.of_eq (by simp only [avS, List.length_append, List.map_append]; rfl)⟩)
  | (rw [if_neg (by omega)] at hf
     rw [hf] at h3
     exact ⟨(m + 1, acc), ⟨hm, by simp only; omega, by simpa using h3⟩, by simp only; omega, Le.of_eq rfl⟩)
open Go.Proofs
open Go.Proofs
open Go.Proofs
theorem cntL_len : ∀ l : List S, l.length ≤ cntL l
 | [] => by simp
 | t :: r => by
   rw [cntL, List.length_cons]
   have := cntL_len r
   have : 1 ≤ cntS t := by cases t; rw [cntS]; omega
   omega
def okC (t : S) : Prop := wX t.x ≤ 20000 ∧ t.labels.length ≤ 1000000 ∧ t.args.length ≤ 1000000 ∧ ∀ a ∈ t.args, wX a.x ≤ 20000
theorem cntL_mem : ∀ {l : List S} {t : S}, t ∈ l → cntS t ≤ cntL l
 | a :: r, t, h => by
   rw [cntL]
   rcases List.mem_cons.1 h with rfl | h
   ·omega
   ·have := cntL_mem h
    omega
open Go.Proofs
def ElS (es es' : List AV) : Prop := es'.length = es.length ∧ ∀ (m : Nat) (x' : AV), es'[m]? = some x' → ∃ x, es[m]? = some x ∧ x'.cells.length = x.cells.length ∧ ∀ (j : Nat) (c' : AV), x'.cells[j]? = some c' → ∃ c, x.cells[j]? = some c ∧ Sub c c'
theorem ElS.refl (es : List AV) : ElS es es := ⟨rfl, fun _ x' h => ⟨x', h, rfl, fun _ c' hc => ⟨c', hc, Sub.refl _⟩⟩⟩
inductive SubH : Heap → Heap → Prop
 | nil : SubH [] []
 | same {c : Nat × Chunk} {H H' : Heap} (h : SubH H H') : SubH (c :: H) (c :: H')
 | els {k : Nat} {e : TypeId} {sz : Nat} {es es' : List AV} {H H' : Heap} (hp : ElS es es') (h : SubH H H') : SubH ((k, .own e sz es) :: H) ((k, .own e sz es') :: H')
theorem SubH.get {H H' : Heap} (h : SubH H H') : H'.map (·.1) = H.map (·.1) ∧ ∀ j c', (j, c') ∈ H' → (j, c') ∈ H ∨ ∃ e sz es es', (j, Chunk.own e sz es) ∈ H ∧ c' = .own e sz es' ∧ ElS es es' := by
 induction h with
 | nil => exact ⟨rfl, by simp⟩
 | same h ih =>
   refine ⟨by simp [ih.1], fun j c' hj => ?_⟩
   rcases List.mem_cons.1 hj with rfl | hj
   ·exact .inl List.mem_cons_self
   ·rcases ih.2 j c' hj with h1 | ⟨e, sz, es, es', h1, h2⟩
    ·exact .inl (List.mem_cons_of_mem _ h1)
    ·exact .inr ⟨e, sz, es, es', List.mem_cons_of_mem _ h1, h2⟩
 | @els k e sz es es' H H' hp h ih =>
   refine ⟨by simp [ih.1], fun j c' hj => ?_⟩
   rcases List.mem_cons.1 hj with hj | hj
   ·cases hj
    exact .inr ⟨e, sz, es, es', List.mem_cons_self, rfl, hp⟩
   ·rcases ih.2 j c' hj with h1 | ⟨e, sz, es, es', h1, h2⟩
    ·exact .inl (List.mem_cons_of_mem _ h1)
    ·exact .inr ⟨e, sz, es, es', List.mem_cons_of_mem _ h1, h2⟩
theorem Le.els {N : Nat} {sl : List (Nat × LV)} {H H' : Heap} (h : SubH H H') : Le N ⟨sl, H⟩ ⟨sl, H'⟩ := fun σ β a w hr => by
 obtain ⟨hk, hc⟩ := h.get
 refine ⟨σ, β, ⟨hr.size, hr.defers, hr.slots, ⟨hr.heap.mem, fun j c' hj => ?_, by show (H'.map (·.1)).Nodup; rw [hk]; exact hr.heap.nodup, fun j hj => hr.heap.apart j (by rw [← hk]; exact hj), fun j hj j' hj' => hr.heap.inj j (by rw [← hk]; exact hj) j' (by rw [← hk]; exact hj')⟩⟩, Mem.le_refl σ, Frm.refl _ w, fun b h0 h1 => absurd h0 h1, fun b ⟨j, hj, r⟩ => .inl ⟨j, by rw [← hk]; exact hj, r⟩, fun _ _ _ => rfl⟩
 rcases hc j c' hj with h1 | ⟨e, sz, es, es', h1, rfl, h2⟩
 ·exact hr.heap.chunks j c' h1
 ·rcases hr.heap.chunks j _ h1 with ⟨h3, h4⟩ | ⟨i, vs, h3, h4, h5, h6, h7, h8, h9⟩
  ·refine .inl ⟨h3, ?_⟩
   have := h2.1
   rw [h4] at this
   exact List.eq_nil_of_length_eq_zero this
  ·refine .inr ⟨i, vs, h3, h4, h5, h6, by rw [h2.1]; exact h7, h8, fun m x' hx => ?_⟩
   obtain ⟨x, g1, g2, g3⟩ := h2.2 m x' hx
   refine ⟨by rw [g2]; exact (h9 m x g1).1, fun j c' hc => ?_⟩
   obtain ⟨c, g4, g5⟩ := g3 j c' hc
   obtain ⟨u, g6, g7⟩ := (h9 m x g1).2 j c g4
   exact ⟨u, g6, g5 _ _ g7⟩
open Go.Proofs
theorem Rel.layI {N : Nat} {σ : Mem} {β : Lab} {s s' : St} {a : Act} {w : World} (hr : Rel N σ β s a w) {k : Nat} {i : BInfo} (hi : β k = some i) (hk : k ∈ s.H.map (·.1)) (hcell : ∀ b, i.has b → ∃ c e fr, w.heap[b]? = some (.cells c e fr))
  (hsl : ∀ τ : Mem, σ.le τ → (∀ b c e fr, i.has b → w.heap[b]? = some (.cells c e fr) → τ b = some c) → ∀ j v, RepL σ β (getS s.sl j) v → RepL τ β (getS s'.sl j) v)
  (hch : ∀ τ : Mem, σ.le τ → ∀ j c', (j, c') ∈ s'.H → j ≠ k ∧ ∃ c, (j, c) ∈ s.H ∧ (c.holds σ β w j → c'.holds τ β w j)) (hnd : (s'.H.map (·.1)).Nodup) :
  ∃ σ' β', Rel N σ' β' s' a w ∧ Later σ β s.H w σ' β' s'.H w := by
 let τ : Mem := fun b => @ite _ (i.has b) (Classical.propDecidable _) (match w.heap[b]? with
  | some (.cells c _ _) => some c
  | _ => none) (σ b)
 have hpos : ∀ b c e fr, i.has b → w.heap[b]? = some (.cells c e fr) → τ b = some c := fun b c e fr hb hh => by
  show @ite _ (i.has b) (Classical.propDecidable _) _ _ = _
  rw [if_pos hb, hh]
 have hneg : ∀ b, ¬ i.has b → τ b = σ b := fun b hb => by
  show @ite _ (i.has b) (Classical.propDecidable _) _ _ = _
  rw [if_neg hb]
 have hle : σ.le τ := fun b c hb => by
  rw [hneg b]
  ·exact hb
  ·intro hib
   rw [(hr.heap.apart k hk i hi b hib).1] at hb
   cases hb
 have hlab : ∀ j ∈ s'.H.map (·.1), j ≠ k ∧ j ∈ s.H.map (·.1) := fun j hj => by
  obtain ⟨⟨j', c'⟩, hm, rfl⟩ := List.mem_map.1 hj
  obtain ⟨h1, c, h2, _⟩ := hch τ hle j' c' hm
  exact ⟨h1, List.mem_map.2 ⟨_, h2, rfl⟩⟩
 refine ⟨τ, β, ⟨hr.size, hr.defers, fun j => hsl τ hle hpos j _ (hr.slots j), ⟨fun b c hb => ?_, fun j c' hj => ?_, hnd, fun j hj ij hij b hb => ?_, fun j hj j' hj' => hr.heap.inj j (hlab j hj).2 j' (hlab j' hj').2⟩⟩, hle, Frm.refl _ _, fun b hb hb' => .inl ?_, fun b ⟨j, hj, hjb⟩ => .inl ⟨j, (hlab j hj).2, hjb⟩, fun _ _ _ => rfl⟩
 ·by_cases ho : i.has b
  ·obtain ⟨c0, e, fr, hh⟩ := hcell b ho
   rw [hpos b c0 e fr ho hh] at hb
   cases hb
   exact ⟨_, _, hh⟩
  ·rw [hneg b ho] at hb
   exact hr.heap.mem b c hb
 ·obtain ⟨_, c, h2, h3⟩ := hch τ hle j c' hj
  exact h3 (hr.heap.chunks j c h2)
 ·have h1 := hlab j hj
  have h2 := hr.heap.apart j h1.2 ij hij b hb
  refine ⟨?_, h2.2⟩
  rw [hneg b fun he => h1.1 (hr.heap.inj j h1.2 k hk ij i hij hi b hb he)]
  exact h2.1
 ·by_cases ho : i.has b
  ·exact ⟨k, hk, i, hi, ho⟩
  ·rw [hneg b ho] at hb'
   exact absurd hb hb'
theorem Le.matFz {N : Nat} {sl sl' : List (Nat × LV)} {H H' : Heap} {k : Nat} {e e2 : TypeId} {sz : Nat} {rows : List (List AV)} (hg : getH H k = some (.ext (.mat e e2 sz rows [])))
  (hsl : ∀ i, getS sl' i = (getS sl i).kill k ∨ (getS sl i = .hd k 0 rows.length ∧ getS sl' i = .p (.sl (rows.map .sl))))
  (hsub : (H'.map (·.1)).Sublist (H.map (·.1))) (hH : ∀ j c', (j, c') ∈ H' → j ≠ k ∧ (j, c') ∈ H ∧ c'.kill k = c') : Le N ⟨sl, H⟩ ⟨sl', H'⟩ := fun σ β a w hr => by
 have hk := getH_label hg
 rcases hr.heap.chunks k _ (getH_mem hg) with ⟨hb0, hr0⟩ | ⟨i, vs, hi, h1, h2, h3, h4, h5, h6, h7, h8⟩
 ·refine ⟨σ, β, ⟨hr.size, hr.defers, fun j => ?_, ⟨hr.heap.mem, fun j c' hj => ?_, hsub.nodup hr.heap.nodup, fun j hj => hr.heap.apart j (hsub.subset hj), fun j hj j' hj' => hr.heap.inj j (hsub.subset hj) j' (hsub.subset hj')⟩⟩, Mem.le_refl σ, Frm.refl _ _, fun _ h0 h1 => absurd h0 h1, fun b ⟨j, hj, r⟩ => .inl ⟨j, hsub.subset hj, r⟩, fun _ _ _ => rfl⟩
  ·show RepL σ β (getS sl' j) _
   have hv := hr.slots j
   rcases hsl j with he | ⟨g1, g2⟩
   ·rw [he]; exact hv.kill k
   ·rw [g2]
    have hv : RepL σ β (getS sl j) _ := hv
    rw [g1] at hv
    rcases hv.hdI with ⟨_, _, _, he⟩ | ⟨i, _, hk, _⟩
    ·rw [he, hr0]; exact .p .nilsl
    ·rw [hb0] at hk; cases hk
  ·exact hr.heap.chunks j c' (hH j c' hj).2.1
 ·have hrow : ∀ (b c a' : Nat), i.subs[a']? = some (some (b, c)) → ∃ ws, w.heap[b]? = some (.cells ws e2 (0, 0)) := fun b c a' hs => by
   have ha : a' < rows.length := by rw [← h6]; exact (List.getElem?_eq_some_iff.1 hs).1
   rcases (h8 a' _ (List.getElem?_eq_getElem ha)).2 (by simp) with ⟨q1, _⟩ | ⟨b', c', ws, q1, _, q3, _⟩
   ·rw [hs] at q1; cases q1
   ·rw [hs] at q1; cases q1; exact ⟨ws, q3⟩
  refine hr.layI hi hk (fun b hb => ?_) (fun τ hle hτ j v hv => ?_) (fun τ hle j c' hj => ?_) (hsub.nodup hr.heap.nodup)
  ·rcases hb with rfl | ⟨c, hb⟩
   ·exact ⟨_, _, _, h2⟩
   ·obtain ⟨a', ha', hs⟩ := List.mem_iff_getElem.1 hb
    obtain ⟨ws, hw⟩ := hrow b c a' (by rw [List.getElem?_eq_getElem ha', hs])
    exact ⟨_, _, _, hw⟩
  ·show RepL τ β (getS sl' j) v
   have hv : RepL σ β (getS sl j) v := hv
   rcases hsl j with he | ⟨g1, g2⟩
   ·rw [he]; exact (hv.kill k).mono hle
   ·rw [g2]
    rw [g1] at hv
    rcases hv.hdI with ⟨hk', _⟩ | ⟨i', oo, hk', hl, ho, rfl⟩
    ·rw [hi] at hk'; cases hk'
    ·rw [hi] at hk'; cases hk'
     have hoo : oo = 0 := by
      rcases ho with ho | ho
      ·simpa using ho
      ·omega
     subst hoo
     have hrl : ∀ (m : Nat) (x : AV), (rows.map AV.sl)[m]? = some x → ∃ row, rows[m]? = some row ∧ x = .sl row := fun m x hx => by
      rw [List.getElem?_map] at hx
      cases hq : rows[m]? with
      | none => rw [hq] at hx; cases hx
      | some row => rw [hq] at hx; cases hx; exact ⟨row, rfl, rfl⟩
     have hcellv : ∀ (m : Nat) (row : List AV), rows[m]? = some row → ∃ u, vs[m]? = some u ∧ Rep τ (.sl row) u := fun m row hm => by
      rcases (h8 m row hm).2 (by simp) with ⟨q1, rfl, q3⟩ | ⟨b, c, ws, q1, q2, q3, q4, q5, q6, q7⟩
      ·exact ⟨_, q3, .nilsl⟩
      ·refine ⟨_, q2, .sl row b 0 c sz ws (fun m j => (ws[m * sz + j]?).getD undef) (hτ b ws _ _ (.inr ⟨c, List.mem_of_getElem? q1⟩) q3) q5 q6 (fun m x hx => (q7 m x hx).1) (fun m x j c' hx hj => ?_) fun m x j c' hx hj => ?_⟩
       ·obtain ⟨u, r4, _⟩ := (q7 m x hx).2 j c' hj
        simp [r4]
       ·obtain ⟨u, r4, r5⟩ := (q7 m x hx).2 j c' hj
        simpa [r4] using r5.mono hle
     have hfin : Rep τ (.sl (rows.map .sl)) (.slice (some ⟨i.blk, 0, none⟩) (rows.map AV.sl).length i.cap) := by
      refine .sl (rows.map .sl) i.blk 0 i.cap 1 vs (fun m j => (vs[m * 1 + j]?).getD undef) (hτ _ _ _ _ i.has_blk h2) (by simpa using h4) h5 (fun m x hx => ?_) (fun m x j c' hx hj => ?_) fun m x j c' hx hj => ?_
      ·obtain ⟨row, _, rfl⟩ := hrl m x hx; rfl
      ·obtain ⟨row, g3, rfl⟩ := hrl m x hx
       obtain ⟨u, g4, g5⟩ := hcellv m row g3
       have hj0 : j = 0 := by
        have := (List.getElem?_eq_some_iff.1 hj).1
        simpa [AV.cells] using this
       subst hj0
       simp [g4]
      ·obtain ⟨row, g3, rfl⟩ := hrl m x hx
       obtain ⟨u, g4, g5⟩ := hcellv m row g3
       have hj0 : j = 0 := by
        have := (List.getElem?_eq_some_iff.1 hj).1
        simpa [AV.cells] using this
       subst hj0
       cases hj
       simpa [g4] using g5
     have : RepL τ β (.p (.sl (rows.map .sl))) (.slice (some ⟨i.blk, 0, none⟩) (rows.map AV.sl).length i.cap) := .p hfin
     simpa using this
  ·obtain ⟨g1, g2, g3⟩ := hH j c' hj
   refine ⟨g1, c', g2, fun hold => ?_⟩
   have := (hold.kill k).mono hle fun _ _ _ _ => rfl
   rwa [g3] at this
open Go.Proofs
theorem Le.matSub {N : Nat} {sl : List (Nat × LV)} {H1 H2 : Heap} {k : Nat} {e e2 : TypeId} {sz : Nat} {rows rows' : List (List AV)} {hole : List Nat} (hl : rows'.length = rows.length) (hr : ∀ (a : Nat) (row' : List AV), rows'[a]? = some row' → ∃ row, rows[a]? = some row ∧ ElS row row') :
  Le N ⟨sl, H1 ++ (k, .ext (.mat e e2 sz rows hole)) :: H2⟩ ⟨sl, H1 ++ (k, .ext (.mat e e2 sz rows' hole)) :: H2⟩ := fun σ β a w hrel => by
 have hk : (H1 ++ (k, Chunk.ext (.mat e e2 sz rows' hole)) :: H2).map (·.1) = (H1 ++ (k, Chunk.ext (.mat e e2 sz rows hole)) :: H2).map (·.1) := by simp
 refine ⟨σ, β, ⟨hrel.size, hrel.defers, hrel.slots, ⟨hrel.heap.mem, fun j c' hj => ?_, by show ((H1 ++ (k, Chunk.ext (.mat e e2 sz rows' hole)) :: H2).map (·.1)).Nodup; rw [hk]; exact hrel.heap.nodup, fun j hj => hrel.heap.apart j (by rw [← hk]; exact hj), fun j hj j' hj' => hrel.heap.inj j (by rw [← hk]; exact hj) j' (by rw [← hk]; exact hj')⟩⟩, Mem.le_refl σ, Frm.refl _ w, fun b h0 h1 => absurd h0 h1, fun b ⟨j, hj, r⟩ => .inl ⟨j, by rw [← hk]; exact hj, r⟩, fun _ _ _ => rfl⟩
 rcases List.mem_append.1 hj with h1 | h1
 ·exact hrel.heap.chunks j c' (List.mem_append.2 (.inl h1))
 rcases List.mem_cons.1 h1 with h2 | h1
 rotate_left 1
 ·exact hrel.heap.chunks j c' (List.mem_append.2 (.inr (List.mem_cons_of_mem _ h1)))
 cases h2
 rcases hrel.heap.chunks k _ (List.mem_append.2 (.inr List.mem_cons_self)) with ⟨g1, g2⟩ | ⟨i, vs, hi, g1, g2, g3, g4, g5, g6, g7, g8⟩
 ·refine .inl ⟨g1, ?_⟩
  rw [g2] at hl
  exact List.eq_nil_of_length_eq_zero hl
 ·refine .inr ⟨i, vs, hi, g1, g2, g3, by rw [hl]; exact g4, g5, by rw [hl]; exact g6, g7, fun a' row' ha => ?_⟩
  obtain ⟨row, h3, h4, h5⟩ := hr a' row' ha
  obtain ⟨h6, h7⟩ := g8 a' row h3
  refine ⟨h6, fun hn => ?_⟩
  rcases h7 hn with ⟨q1, rfl, q3⟩ | ⟨b, c, ws, q1, q2, q3, q4, q5, q6, q7⟩
  ·exact .inl ⟨q1, List.eq_nil_of_length_eq_zero h4, q3⟩
  ·refine .inr ⟨b, c, ws, q1, by rw [h4]; exact q2, q3, q4, by rw [h4]; exact q5, q6, fun m x' hx => ?_⟩
   obtain ⟨x, r1, r2, r3⟩ := h5 m x' hx
   refine ⟨by rw [r2]; exact (q7 m x r1).1, fun p c' hc => ?_⟩
   obtain ⟨c0, r4, r5⟩ := r3 p c' hc
   obtain ⟨u, r6, r7⟩ := (q7 m x r1).2 p c0 r4
   exact ⟨u, r6, r5 _ _ r7⟩
def nxE (rows : List (List Int)) (t : Int × Int) : List (List Int) := rows.set t.1.toNat (rows.getD t.1.toNat [] ++ [t.2])
def nextR (n : Nat) (l : List (Int × Int)) : List (List Int) := l.foldl nxE (List.replicate n [])
def prsA (w : Way) (f : Pr) : List (Int × Int) := (augW w f).map (ixP w.p w.j f w.n)
theorem nxE_len (rows : List (List Int)) (t : Int × Int) : (nxE rows t).length = rows.length := List.length_set
theorem foldN_len : ∀ (l : List (Int × Int)) (rows : List (List Int)), (l.foldl nxE rows).length = rows.length
 | [], _ => rfl
 | t :: r, rows => by rw [List.foldl_cons, foldN_len r, nxE_len]
theorem nextR_len (n : Nat) (l : List (Int × Int)) : (nextR n l).length = n := by
 unfold nextR
 rw [foldN_len, List.length_replicate]
theorem foldN_cnt : ∀ (l : List (Int × Int)) (rows : List (List Int)) (a : Nat), ((l.foldl nxE rows).getD a []).length ≤ (rows.getD a []).length + l.length
 | [], _, _ => Nat.le_refl _
 | t :: r, rows, a => by
   rw [List.foldl_cons]
   have h1 := foldN_cnt r (nxE rows t) a
   have h2 : ((nxE rows t).getD a []).length ≤ (rows.getD a []).length + 1 := by
    unfold nxE
    simp only [List.getD_eq_getElem?_getD, List.getElem?_set]
    by_cases he : t.1.toNat = a
    ·subst he
     by_cases hl : t.1.toNat < rows.length
     ·simp [hl]
     ·simp [hl]
    ·simp [he]
   rw [List.length_cons]
   omega
theorem nextR_cnt (n : Nat) (l : List (Int × Int)) (a : Nat) : ((nextR n l).getD a []).length ≤ l.length := by
 have := foldN_cnt l (List.replicate n []) a
 have e : ((List.replicate n ([] : List Int)).getD a []).length = 0 := by
  rw [List.getD_eq_getElem?_getD, List.getElem?_replicate]
  split <;> rfl
 unfold nextR
 omega
theorem foldN_in {n : Nat} : ∀ (l : List (Int × Int)), (∀ t ∈ l, (0 ≤ t.1 ∧ t.1 < n) ∧ 0 ≤ t.2 ∧ t.2 < n) → ∀ (rows : List (List Int)), (∀ r ∈ rows, ∀ x ∈ r, 0 ≤ x ∧ x < n) → ∀ r ∈ l.foldl nxE rows, ∀ x ∈ r, 0 ≤ x ∧ x < (n : Int)
 | [], _, rows, hr => hr
 | t :: l, hl, rows, hr => by
   rw [List.foldl_cons]
   refine foldN_in l (fun u hu => hl u (List.mem_cons_of_mem _ hu)) _ fun r hm x hx => ?_
   unfold nxE at hm
   rcases List.mem_or_eq_of_mem_set hm with hm | rfl
   ·exact hr r hm x hx
   ·rcases List.mem_append.1 hx with hx | hx
    ·rw [List.getD_eq_getElem?_getD] at hx
     cases hq : rows[t.1.toNat]? with
     | none => rw [hq] at hx; cases hx
     | some r => rw [hq] at hx; exact hr r (List.mem_of_getElem? hq) x hx
    ·rcases List.mem_singleton.1 hx with rfl
     exact (hl t List.mem_cons_self).2
theorem nextR_in (n : Nat) (l : List (Int × Int)) (h : ∀ t ∈ l, (0 ≤ t.1 ∧ t.1 < n) ∧ 0 ≤ t.2 ∧ t.2 < n) : ∀ r ∈ nextR n l, ∀ x ∈ r, 0 ≤ x ∧ x < (n : Int) :=
 foldN_in l h _ fun r hr x hx => by rw [List.eq_of_mem_replicate hr] at hx; cases hx
def filR (n a : Nat) : List (List Bool) := ((List.range n).map (filRow n)).take a ++ List.replicate (n - a) []
def filT (n a b : Nat) : List Bool := (filRow n a).take b ++ List.replicate (n - b) false
theorem filT_len {n a b : Nat} (h : b ≤ n) : (filT n a b).length = n := by
 unfold filT
 have := filRow_len n a
 simp
 omega
theorem filT_set {n a b : Nat} (h : b < n) : ((filT n a b).map bv).set b (bv (decide (a < n - 1) || decide (a = b))) = (filT n a (b + 1)).map bv := by
 rw [← List.map_set]
 congr 1
 unfold filT
 have hl : ((filRow n a).take b).length = b := by have := filRow_len n a; simp; omega
 have hg : (filRow n a)[b]? = some (decide (a < n - 1) || decide (a = b)) := by unfold filRow; simp [h]
 rw [List.set_append_right _ _ (by omega), hl, Nat.sub_self, show n - b = (n - (b + 1)) + 1 by omega, List.replicate_succ, List.set_cons_zero, List.take_add_one, hg, List.append_assoc]
 rfl
theorem filT_end (n a : Nat) : filT n a n = filRow n a := by
 unfold filT
 rw [Nat.sub_self, List.take_of_length_le (by rw [filRow_len]; exact Nat.le_refl _)]
 simp
theorem Sub.bv {b x : Bool} (h : b = x) : Sub (.bool b) (bv x) := fun _ _ hr => by
 subst h
 cases b <;> cases hr <;> constructor
theorem ElS.set {es : List AV} {b : Nat} {c c' : AV} (hc : c.cells = [c]) (hc' : c'.cells = [c']) (h : Sub c c') : ElS (es.set b c) (es.set b c') := by
 refine ⟨by rw [List.length_set, List.length_set], fun m x' hx => ?_⟩
 by_cases hm : b = m
 ·subst hm
  have hl : b < es.length := by have := (List.getElem?_eq_some_iff.1 hx).1; simpa using this
  rw [List.getElem?_set_self hl] at hx
  cases hx
  refine ⟨c, by rw [List.getElem?_set_self hl], by rw [hc, hc']; rfl, fun j d hd => ?_⟩
  rw [hc'] at hd
  match j, hd with
  | 0, hd => cases hd; exact ⟨c, by rw [hc]; rfl, h⟩
  | j + 1, hd => simp at hd
 ·rw [List.getElem?_set_ne hm] at hx
  exact ⟨x', by rw [List.getElem?_set_ne hm]; exact hx, rfl, fun j d hd => ⟨d, hd, Sub.refl _⟩⟩
theorem setS {R : List (List AV)} {a : Nat} {r r' : List AV} (h : ElS r r') : ∀ (a' : Nat) (row' : List AV), (R.set a r')[a']? = some row' → ∃ row, (R.set a r)[a']? = some row ∧ ElS row row' := fun a' row' hx => by
 by_cases hm : a = a'
 ·subst hm
  have hl : a < R.length := by have := (List.getElem?_eq_some_iff.1 hx).1; simpa using this
  rw [List.getElem?_set_self hl] at hx
  cases hx
  exact ⟨r, List.getElem?_set_self hl, h⟩
 ·rw [List.getElem?_set_ne hm] at hx
  exact ⟨row', by rw [List.getElem?_set_ne hm]; exact hx, ElS.refl _⟩
theorem filR_len {n a : Nat} (h : a ≤ n) : (filR n a).length = n := by
 unfold filR
 simp
 omega
theorem filR_set {n a : Nat} (h : a < n) : (filR n a).set a (filRow n a) = filR n (a + 1) := by
 unfold filR
 have hl : (((List.range n).map (filRow n)).take a).length = a := by simp; omega
 have hg : ((List.range n).map (filRow n))[a]? = some (filRow n a) := by simp [h]
 rw [List.set_append_right _ _ (by omega), hl, Nat.sub_self, show n - a = (n - (a + 1)) + 1 by omega, List.replicate_succ, List.set_cons_zero, List.take_add_one, hg, List.append_assoc]
 rfl
inductive SlRel (P : LV → LV → Prop) : List (Nat × LV) → List (Nat × LV) → Prop
 | nil : SlRel P [] []
 | cons {j : Nat} {l l' : LV} {r r' : List (Nat × LV)} (h : P l l') (hr : SlRel P r r') : SlRel P ((j, l) :: r) ((j, l') :: r')
theorem SlRel.get {P : LV → LV → Prop} (h0 : P (.p .any) (.p .any)) {sl sl' : List (Nat × LV)} (h : SlRel P sl sl') (i : Nat) : P (getS sl i) (getS sl' i) := by
 induction h with
 | nil => exact h0
 | @cons j l l' r r' h hr ih =>
   simp only [getS]
   cases j == i with
   | true => exact h
   | false => exact ih
theorem mat_begin1 {N' : Nat} (w : Way) (n : Nat) (nx : List (List Int)) (hn : nx.length = n) (x1 x2 : AV) :
  Le N' ⟨[(0, .p (.ip w.cells)), (3, .hd 0 0 n), (6, .hd 1 0 n), (46, .p x1), (47, .p x2)], [(1, .own 112 1 (List.replicate n .nils)), (0, .ext (.mat 36 3 1 (avI nx) []))]⟩
   ⟨[(0, .p (.ip w.cells)), (3, .p (eMat nx)), (6, .hd 1 0 n), (46, .p x1), (47, .p x2)], [(1, .ext (.mat 112 4 1 (List.replicate n []) []))]⟩ := by
 have hm := Le.toMat (N := N') (sl := [(0, .p (.ip w.cells)), (3, .hd 0 0 n), (6, .hd 1 0 n), (46, .p x1), (47, .p x2)]) (H := [(1, .own 112 1 (List.replicate n .nils)), (0, .ext (.mat 36 3 1 (avI nx) []))])
  (H' := [(1, .ext (.mat 112 4 1 (List.replicate (List.replicate n AV.nils).length []) [])), (0, .ext (.mat 36 3 1 (avI nx) []))])
  1 4 1 (e := 112) (es := List.replicate n .nils) rfl (fun x hx => List.eq_of_mem_replicate hx) rfl rfl rfl rfl (by simp [labN])
 rw [List.length_replicate] at hm
 have hl : (avI nx).length = n := by unfold avI; rw [List.length_map, hn]
 refine hm.trans (Le.matFz (k := 0) (e := 36) (e2 := 3) (sz := 1) (rows := avI nx) rfl (fun i => ?_) (by show [1].Sublist [1, 0]; decide) fun j c' hj => ?_)
 ·refine SlRel.get (P := fun l l' => l' = l.kill 0 ∨ (l = .hd 0 0 (avI nx).length ∧ l' = .p (.sl ((avI nx).map .sl)))) (.inl rfl) ?_ i
  exact .cons (.inl rfl) (.cons (.inr ⟨by rw [hl], rfl⟩) (.cons (.inl rfl) (.cons (.inl rfl) (.cons (.inl rfl) .nil))))
 ·rcases List.mem_singleton.1 hj with h
  cases h
  exact ⟨by decide, List.mem_cons_self, rfl⟩
theorem filR_end (n : Nat) : filR n n = (List.range n).map (filRow n) := by
 unfold filR
 rw [Nat.sub_self, List.take_of_length_le (by simp)]
 simp
theorem mat_begin {N' : Nat} {sl : List (Nat × LV)} (n : Nat) (h0 : (sl.all fun x => x.2.xfree 0) = true) :
  Le N' ⟨sl, [(0, .own 36 1 (List.replicate n .nils))]⟩ ⟨sl, [(0, .ext (.mat 36 3 1 (List.replicate n []) []))]⟩ := by
 have hm := Le.toMat (N := N') (sl := sl) (H := [(0, .own 36 1 (List.replicate n .nils))])
  (H' := [(0, .ext (.mat 36 3 1 (List.replicate (List.replicate n AV.nils).length []) []))])
  0 3 1 (e := 36) (es := List.replicate n .nils) rfl (fun x hx => List.eq_of_mem_replicate hx) rfl h0 rfl rfl (by simp [labN])
 simpa using hm
theorem way_Way_Follow (w : Way) (f : Pr) (n : Nat) (h : WayT w f n) (hp : ∀ t ∈ prsA w f, (0 ≤ t.1 ∧ t.1 < n) ∧ 0 ≤ t.2 ∧ t.2 < n) (hlen : (augW w f).length ≤ 1000000) : SpecP Tryz.prog 126 [.ip w.cells] (fun r => ∃ fm : List (List Bool), FollowP n (nextR n (prsA w f)) fm ∧ r = .sl ((bmI fm).map .sl)) := by
 refine SpecP.body I_way_Way_Follow tabOK Tryz.func126 rfl Tryz.call126 (by show 1 ≤ _; decide) ?_
 conv => whnf
 have hwn := h.hw
 have hn5 := h.hn
 have hn2 := h.hn2
 have hA := way_Way_Aug w f n h
 have hP := way_Way_Pairs w f h.hj h.hc (by omega) (augW w f) hlen
 have hpl : (avP (prsA w f)).length = (prsA w f).length := by unfold avP; rw [List.length_map]
 have hpl2 : (prsA w f).length ≤ 1000000 := by unfold prsA; rw [List.length_map]; exact hlen
 have hPe : (augW w f).map (ixP w.p w.j f w.n) = prsA w f := rfl
 rw [hPe] at hP
 repeat' ((first | (intro (_ : _ ≤ 9223372036854775807)) | (refine And.intro ⟨rfl, rfl, by decide⟩ ?_) | (refine MkK.mk n (by omega) (by show 24 * _ ≤ 140737488355328; omega) (by unfold maxLen; omega) ?_) | (refine CallK.pure hA (.cons (Sub.refl _) .nil) ?_; rintro _ rfl) | (refine CallK.pure hP (.cons (Sub.refl _) (.cons (Sub.refl _) .nil)) ?_; rintro _ rfl)); conv => whnf)
 refine LoopK.inv tabOK (fun j : Nat => ⟨[(0, .p (.ip w.cells)), (3, .hd 0 0 n), (20, .p (.sl (avP (prsA w f)))), (21, .p (.int .i64 (avP (prsA w f)).length)), (22, .p (.int .i64 j))], [(0, .ext (.mat 36 3 1 (avI (nextR n ((prsA w f).take j))) []))]⟩) (fun j => j ≤ (prsA w f).length) (fun j => (prsA w f).length - j) 0
  (by
    refine Le.trans (mat_begin n rfl) ?_
    exact Le.mk [] (by simp) (by simp) (by simp) (.cons (.refl _) (.cons (.refl _) (.cons (.refl _) (.cons (.refl _) (.cons (.refl _) .nil))))) (.cons rfl (.of_eq (by simp [avI, nextR])) .nil)) (Nat.zero_le _) ?_
 intro j h2
 rcases Nat.lt_or_ge j (prsA w f).length with hj | hj
 ·have hme : (avP (prsA w f))[j]? = some (.agg [.int .i64 (prsA w f)[j].1, .int .i64 (prsA w f)[j].2]) := by simp [avP, hj]
  obtain ⟨⟨q1, q2⟩, q3, q4⟩ := hp _ (List.getElem_mem hj)
  have hst : nextR n ((prsA w f).take (j + 1)) = nxE (nextR n ((prsA w f).take j)) (prsA w f)[j] := by
   unfold nextR
   rw [List.take_succ_eq_append_getElem hj, List.foldl_append]
   rfl
  have hrl := nextR_len n ((prsA w f).take j)
  have hcnt := nextR_cnt n ((prsA w f).take j) (prsA w f)[j].1.toNat
  generalize (prsA w f)[j] = t at hme q1 q2 q3 q4 hst hcnt
  generalize nextR n ((prsA w f).take j) = rows at hst hrl hcnt ⊢
  obtain ⟨a, ha⟩ : ∃ a : Nat, t.1 = a := ⟨t.1.toNat, by omega⟩
  have hal : a < rows.length := by omega
  have hrow : (avI rows)[a]? = some (rows[a].map (.int .i64)) := by unfold avI; rw [List.getElem?_map, List.getElem?_eq_getElem hal]; rfl
  have hput : (avI rows).set a (rows[a].map (.int .i64) ++ [.int .i64 t.2]) = avI (nxE rows t) := by
   unfold nxE avI
   rw [ha, Int.toNat_natCast, List.getD_eq_getElem?_getD, List.getElem?_eq_getElem hal, Option.getD_some, List.map_set, List.map_append]
   rfl
  have hcl : rows[a].length ≤ 1000000 := by
   rw [ha, Int.toNat_natCast, List.getD_eq_getElem?_getD, List.getElem?_eq_getElem hal, Option.getD_some, List.length_take] at hcnt
   omega
  rw [ha] at hme
  conv => whnf
  repeat' (first | ((first | (refine And.intro rfl ?_) | (refine And.intro ⟨by decide, by decide⟩ ?_) | (refine Wr.i64 (by omega) (by omega) ?_) | (refine DrawK.of tabOK mixed (.cons 0 false (.cons 1 false (.cons 2 false (.cons 3 false (.cons 4 false (.cons 5 false (.cons 6 false (.cons 8 false (.cons 9 false (.alo 7 (.cons 10 true (.cons 11 true (.cons 12 true (.cons 13 true .nil)))))))))))))) (by kernel_rfl) ?_) | (refine IdxK.at (k := j) rfl hme rfl ?_) | (refine IdxL.mk 0 rfl (by decide) ?_) | (refine IdxL.mk 1 rfl (by decide) ?_) | (refine IdxL.mk a rfl (by omega) ?_) | (refine RowK.mk a _ (by omega) hrow (by simp) ?_) | (refine BsK.own (fun x hx => by rcases List.mem_singleton.1 hx with rfl; rfl) rfl ?_) | (refine OpK.focus tabOK 33 0 a 2 rfl rfl hrow (by simp) rfl rfl ?_) | (refine AppK.int1 rfl (by rw [List.length_map]; omega) ?_) | (refine OpK.stMat tabOK rfl rfl rfl rfl rfl rfl rfl rfl rfl (by decide) a [] (by omega) (by unfold avI; rw [List.length_map]; omega) (by simp) ⟨by simp, by simp, by simp⟩ ?_)); conv => whnf) | (refine Br.dec (fun _ => ?_) (fun _ => ?_) <;> first | (exfalso; omega) | conv => whnf))
  all_goals exact ⟨j + 1, hj, by omega, Le.of_eq (by rw [hst, ← hput]; rfl)⟩
 ·conv => whnf
  repeat' (first | ((first | (intro (_ : _ ≤ 9223372036854775807)) | (refine And.intro ⟨rfl, rfl, by decide⟩ ?_) | (refine MkK.mk n (by omega) (by show 24 * _ ≤ 140737488355328; omega) (by unfold maxLen; omega) ?_)); conv => whnf) | (refine Br.dec (fun _ => ?_) (fun _ => ?_) <;> first | (exfalso; omega) | conv => whnf))
  have hje : (prsA w f).take j = prsA w f := List.take_of_length_le hj
  rw [hje]
  have hNl := nextR_len n (prsA w f)
  have hNi := nextR_in n (prsA w f) hp
  have hNc := nextR_cnt n (prsA w f)
  generalize nextR n (prsA w f) = nx at hNl hNi hNc ⊢
  refine LoopK.inv tabOK (fun a : Nat => ⟨[(0, .p (.ip w.cells)), (3, .p (eMat nx)), (6, .hd 1 0 n), (46, .p (.int .i64 n)), (47, .p (.int .i64 a))], [(1, .ext (.mat 112 4 1 (bmI (filR n a)) []))]⟩) (fun a => a ≤ n) (fun a => n - a) 0
   (by
     refine Le.trans (mat_begin1 w n nx hNl _ _) ?_
     exact Le.mk [] (by simp) (by simp) (by simp) (.cons (.refl _) (.cons (.refl _) (.cons (.refl _) (.cons (.refl _) (.cons (.refl _) .nil))))) (.cons rfl (.of_eq (by simp [bmI, filR])) .nil)) (Nat.zero_le _) ?_
  intro a h3
  rcases Nat.lt_or_ge a n with ha | ha
  ·have hfl := filR_len (n := n) h3
   have hset := filR_set (n := n) ha
   generalize filR n a = rows at hfl hset ⊢
   have hrl : (bmI rows).length = n := by unfold bmI; rw [List.length_map, hfl]
   conv => whnf
   repeat' (first | ((first | (refine And.intro rfl ?_) | (refine And.intro ⟨rfl, rfl, by decide⟩ ?_) | (refine MkK.mk n (by omega) (by show 1 * _ ≤ 140737488355328; omega) (by unfold maxLen; omega) ?_) | (refine IdxL.mk a rfl ha ?_) | (refine OpK.stMat tabOK rfl rfl rfl rfl rfl rfl rfl rfl rfl (by decide) a [] (by omega) (by omega) (by simp) ⟨by simp, by simp, by simp⟩ ?_) | (refine RowK.mk a (List.replicate n .ff) (by omega) (by rw [List.getElem?_set_self (by omega)]; rfl) (by simp) ?_)); conv => whnf) | (refine Br.dec (fun _ => ?_) (fun _ => ?_) <;> first | (exfalso; omega) | conv => whnf))
   refine LoopK.inv tabOK (fun b : Nat => ⟨[(0, .p (.ip w.cells)), (3, .p (eMat nx)), (6, .hd 1 0 n), (7, .p (.int .i64 a)), (46, .p (.int .i64 n)), (47, .p (.int .i64 a)), (62, .p (.int .i64 n)), (63, .p (.int .i64 b))], [(1, .ext (.mat 112 4 1 ((bmI rows).set a ((filT n a b).map bv)) []))]⟩) (fun b => b ≤ n) (fun b => n - b) 0
    (Le.of_eq (by rw [List.length_replicate, show (filT n a 0).map bv = List.replicate n .ff by unfold filT; simp [bv]]; rfl)) (Nat.zero_le _) ?_
   intro b h4
   rcases Nat.lt_or_ge b n with hb | hb
   ·have hfs := filT_set (n := n) (a := a) hb
    have htl := filT_len (n := n) (a := a) h4
    have hrow : ((bmI rows).set a ((filT n a b).map bv))[a]? = some ((filT n a b).map bv) := List.getElem?_set_self (by omega)
    have hrln : ((filT n a b).map bv).length = n := by rw [List.length_map, htl]
    generalize (filT n a b).map bv = row at hfs hrow hrln ⊢
    conv => whnf
    repeat' (first | ((first | (refine DrawK.auto tabOK mixed (by kernel_rfl) ?_) | (refine And.intro rfl ?_) | (refine Wr.eq (m := (n : Int) - 1) (by omega) (by omega) (by omega) ?_) | (refine Wr.i64 (by omega) (by omega) ?_) | (refine IdxL.mk a rfl ha ?_) | (refine RowK.mk a row (by omega) hrow (by simp) ?_) | (refine IdxL.mk b rfl (by omega) ?_) | (refine OpK.stEl tabOK rfl rfl rfl rfl rfl rfl rfl rfl rfl hrow (by simp) (by omega) ?_)); conv => whnf) | (refine Br.dec (fun _ => ?_) (fun _ => ?_) <;> first | (exfalso; omega) | conv => whnf))
    have e1 : ∀ c, ((bmI rows).set a row).set a (row.set (b * 1) c) = (bmI rows).set a (row.set b c) := fun c => by rw [List.set_set, Nat.mul_one]
    ·have hx : (decide (a < n - 1) || decide (a = b)) = true := by rw [decide_eq_true (by omega)]; rfl
     rw [hx] at hfs
     exact ⟨b + 1, by omega, by omega, Le.of_eq (by rw [e1, ← hfs]; rfl)⟩
    ·have hx : (decide (a < n - 1) || decide (a = b)) = ((a : Int) == b) := by
      rw [decide_eq_false (by omega), Bool.false_or]
      by_cases hab : a = b
      ·subst hab; simp
      ·have : ¬ (a : Int) = b := by omega
       rw [decide_eq_false hab, beq_eq_false_iff_ne.2 this]
     have e1 : ∀ c, ((bmI rows).set a row).set a (row.set (b * 1) c) = (bmI rows).set a (row.set b c) := fun c => by rw [List.set_set, Nat.mul_one]
     rw [hx] at hfs
     refine ⟨b + 1, by omega, by omega, ?_⟩
     rw [e1]
     exact ((Le.matSub (H1 := []) (rows' := (bmI rows).set a (row.set b (bv ((a : Int) == b)))) (by rw [List.length_set, List.length_set]) (setS (ElS.set rfl (bv_cells _) (Sub.bv rfl)))).trans (Le.of_eq (by rw [hfs]; rfl)))
   ·have hbe : b = n := by omega
    subst hbe
    rw [filT_end]
    have hbm : (bmI rows).set a ((filRow b a).map bv) = bmI (filR b (a + 1)) := by
     rw [← hset]
     unfold bmI
     rw [List.map_set]
    rw [hbm]
    conv => whnf
    repeat' (first | (refine Wr.i64 (by omega) (by omega) ?_; conv => whnf) | (refine Br.dec (fun _ => ?_) (fun _ => ?_) <;> first | (exfalso; omega) | conv => whnf))
    exact ⟨a + 1, by omega, by omega, Le.of_eq rfl⟩
  ·have hae : a = n := by omega
   rw [hae, filR_end]
   have hS := FolI.start hn2 nx
   have hnx : ∀ a, ∀ x ∈ nx.getD a [], 0 ≤ x ∧ x < (n : Int) := fun a x hx => by
    rw [List.getD_eq_getElem?_getD] at hx
    cases hq : nx[a]? with
    | none => rw [hq] at hx; cases hx
    | some r => rw [hq] at hx; exact hNi r (List.mem_of_getElem? hq) x hx
   generalize (List.range n).map (filRow n) = fm0 at hS ⊢
   clear h3 ha hae a
   conv => whnf
   repeat' (refine Br.dec (fun _ => ?_) (fun _ => ?_) <;> first | (exfalso; omega) | conv => whnf)
   refine LoopK.inv tabOK (fun x : List (List Bool) × Bool => ⟨[(0, .p (.ip w.cells)), (3, .p (eMat nx)), (6, .hd 1 0 n), (9, .p (bv x.2))], [(1, .ext (.mat 112 4 1 (bmI x.1) []))]⟩) (fun x => FolI n nx x.1 ∧ (x.2 = false → ∀ a, a < n - 1 → x.1.getD a [] = rowF n nx x.1 a)) (fun x => 2 * cntB x.1 + x.2.toNat) (fm0, true)
    (Le.of_eq rfl) ⟨hS, fun h => by cases h⟩ ?_
   rintro ⟨fm, turned⟩ ⟨hI, hfix⟩
   simp only at hI hfix ⊢
   cases turned with
   | false =>
     have hbl : n = (bmI fm).length := by unfold bmI; rw [List.length_map, hI.len]
     conv => whnf
     skip
     exact ⟨_, .mat rfl hbl, fm, ⟨hI, hfix rfl⟩, rfl⟩
   | true =>
     conv => whnf
     repeat' (refine Wr.eq (m := (n : Int) - 2) (by omega) (by omega) (by omega) ?_; conv => whnf)
     refine LoopK.inv tabOK (fun y : List (List Bool) × Bool × Int => ⟨[(0, .p (.ip w.cells)), (3, .p (eMat nx)), (6, .hd 1 0 n), (9, .p (bv y.2.1)), (10, .p (.int .i64 y.2.2))], [(1, .ext (.mat 112 4 1 (bmI y.1) []))]⟩)
      (fun y => FolI n nx y.1 ∧ (-1 ≤ y.2.2 ∧ y.2.2 ≤ (n : Int) - 2) ∧ (y.2.1 = false → y.1 = fm ∧ ∀ a' : Nat, y.2.2 < a' → a' < n - 1 → fm.getD a' [] = rowF n nx fm a') ∧ (y.2.1 = true → cntB y.1 < cntB fm)) (fun y => (y.2.2 + 1).toNat) (fm, false, (n : Int) - 2)
      (Le.of_eq rfl) ⟨hI, ⟨by simp only; omega, by simp only; omega⟩, fun _ => ⟨rfl, fun a' h1 h2 => by simp only at h1; omega⟩, fun h => by cases h⟩ ?_
     rintro ⟨gm, t, a⟩ ⟨hG, ⟨ha1, ha2⟩, hf, hl⟩
     simp only at hG ha1 ha2 hf hl ⊢
     rcases Int.lt_or_le a 0 with ha0 | ha0
     ·have hae : a = -1 := by omega
      subst hae
      have fin : ∃ x : List (List Bool) × Bool, x = (gm, t) ∧ 2 * cntB x.1 + x.2.toNat < 2 * cntB fm + 1 := ⟨_, rfl, by
       cases t with
       | true => have := hl rfl; simp only [Bool.toNat_true]; omega
       | false => rw [(hf rfl).1]; simp⟩
      obtain ⟨x, rfl, hm⟩ := fin
      conv => whnf
      repeat' (refine Br.dec (fun _ => ?_) (fun _ => ?_) <;> first | (exfalso; omega) | conv => whnf)
      refine ⟨(gm, t), ⟨hG, fun ht a ha => ?_⟩, hm, Le.mk [] (by simp) (by simp) (by simp) (.cons (.refl _) (.cons (.refl _) (.cons (.refl _) (.cons (.refl _) .nil)))) (.cons rfl (.refl _) .nil)⟩
      simp only at ht ⊢
      obtain ⟨q1, q2⟩ := hf ht
      rw [q1]
      exact q2 a (by omega) ha
     ·obtain ⟨i, rfl⟩ : ∃ i : Nat, a = i := ⟨a.toNat, by omega⟩
      have hin : i < n - 1 := by omega
      have hinx : i < nx.length := by omega
      have higm : i < gm.length := by rw [hG.len]; omega
      have hNr : ((avI nx).map AV.sl)[i]? = some (.sl (nx[i].map (.int .i64))) := by unfold avI; rw [List.map_map, List.getElem?_map, List.getElem?_eq_getElem hinx]; rfl
      have hng : nx.getD i [] = nx[i] := by rw [List.getD_eq_getElem?_getD, List.getElem?_eq_getElem hinx]; rfl
      have hgg : gm.getD i [] = gm[i] := by rw [List.getD_eq_getElem?_getD, List.getElem?_eq_getElem higm]; rfl
      have hcl : nx[i].length ≤ 1000000 := by have := hNc i; rw [hng] at this; omega
      have hSh := way_shared gm nx[i] n hG.len hn5 hG.rows hcl (fun x hx => hnx i x (by rw [hng]; exact hx))
      have hse : ((sharedR gm nx[i] n).map bv)[i]? = some (bv (sharedB gm nx[i] i)) := by unfold sharedR; rw [List.map_map, List.getElem?_map, List.getElem?_range (by omega)]; rfl
      have hst : ((sharedR gm nx[i] n).map bv).set i (bv true) = (rowF n nx gm i).map bv := by
       unfold rowF
       rw [hng, List.map_set]
      have hgr : (bmI gm)[i]? = some (gm[i].map bv) := by unfold bmI; rw [List.getElem?_map, List.getElem?_eq_getElem higm]; rfl
      have hgl : (gm[i].map bv).length = n := by rw [List.length_map]; exact hG.rows _ (List.getElem_mem higm)
      have hrl : ((rowF n nx gm i).map bv).length = n := by rw [List.length_map, rowF_len]
      have hbl : (bmI gm).length = n := by unfold bmI; rw [List.length_map, hG.len]
      have hEq := slices_Equal_bool_bool_ (rowF n nx gm i) gm[i]
      by_cases hq : rowF n nx gm i = gm[i]
      ·rw [decide_eq_true hq] at hEq
       have fin : ∃ y : List (List Bool) × Bool × Int, y = (gm, t, (i : Int) - 1) ∧ (FolI n nx y.1 ∧ (-1 ≤ y.2.2 ∧ y.2.2 ≤ (n : Int) - 2) ∧ (y.2.1 = false → y.1 = fm ∧ ∀ a' : Nat, y.2.2 < a' → a' < n - 1 → fm.getD a' [] = rowF n nx fm a') ∧ (y.2.1 = true → cntB y.1 < cntB fm)) := ⟨_, rfl, hG, ⟨by simp only; omega, by simp only; omega⟩, fun ht => by
        obtain ⟨q1, q2⟩ := hf ht
        refine ⟨q1, fun a' h1 h2 => ?_⟩
        simp only at h1
        by_cases he : a' = i
        ·subst he
         subst q1
         rw [hgg, hq]
        ·exact q2 a' (by omega) h2, hl⟩
       obtain ⟨y, rfl, hfin⟩ := fin
       conv => whnf
       repeat' (first | ((first | (refine And.intro rfl ?_) | (refine IdxK.at (k := i) rfl hNr rfl ?_) | (refine IdxL.mk i rfl (by omega) ?_) | (refine StOwn.mk i 0 _ (bv true) (by show (0+i)*1 = i*1+0; omega) hse (Nat.le_refl _) (by rw [bv_cells, bv_cells]; rfl) ?_) | (refine RowK.mk i _ (by omega) hgr (by simp) ?_)); conv => whnf) | (refine Br.dec (fun _ => ?_) (fun _ => ?_) <;> first | (exfalso; omega) | conv => whnf) | (refine CallK.heap [(1000, 1)] 5 (ArgsH.cons (LSub.refl _) (ArgsH.cons (LSub.refl _) ArgsH.nil)) (by refine BlksH.cons (j := 1) rfl rfl ?_ ?_; exact CSub.refl _; exact BlksH.nil) hSh rfl rfl ?_; rintro l' H' ⟨rfl, rfl⟩; conv => whnf))
       rw [hst]
       repeat' (first | ((first | (refine And.intro rfl ?_) | (refine Wr.eq (m := (i : Int) - 1) (by omega) (by omega) (by omega) ?_) | (refine IdxL.mk i rfl (by omega) ?_) | (refine OpK.stMat tabOK rfl rfl rfl rfl rfl rfl rfl rfl rfl (by decide) i [] (by omega) (by omega) hrl.symm ⟨by simp, by simp, by simp⟩ ?_)); conv => whnf) | (refine Br.n (fun _ => ?_) (fun _ => ?_) <;> conv => whnf) | (refine CallK.borrow hEq (.cons (.hd rfl hrl.symm) (.cons (.row rfl hgr (by simp)) .nil)) (by rintro _ rfl; rfl) ?_; rintro _ rfl; conv => whnf))
       all_goals first
        | exact ⟨_, hfin, by simp only; omega, Le.mk [] (by simp) (by simp) (by simp) (.cons (.refl _) (.cons (.refl _) (.cons (.refl _) (.cons (.refl _) (.cons (.refl _) .nil))))) (.cons rfl (.refl _) .nil)⟩
        | (exfalso; simp_all; done)
      ·rw [decide_eq_false hq] at hEq
       have hsb : (bmI gm).set i ((rowF n nx gm i).map bv) = bmI (gm.set i (rowF n nx gm i)) := by unfold bmI; rw [List.map_set]
       have hne : rowF n nx gm i ≠ gm.getD i [] := by rw [hgg]; exact hq
       have fin : ∃ y : List (List Bool) × Bool × Int, y = (gm.set i (rowF n nx gm i), true, (i : Int) - 1) ∧ (FolI n nx y.1 ∧ (-1 ≤ y.2.2 ∧ y.2.2 ≤ (n : Int) - 2) ∧ (y.2.1 = false → y.1 = fm ∧ ∀ a' : Nat, y.2.2 < a' → a' < n - 1 → fm.getD a' [] = rowF n nx fm a') ∧ (y.2.1 = true → cntB y.1 < cntB fm)) := ⟨_, rfl, hG.step hnx hin, ⟨by simp only; omega, by simp only; omega⟩, fun ht => by (simp only at ht; cases ht), fun _ => by
        have h1 := hG.less hin hne
        cases t with
        | true => exact Nat.lt_trans h1 (hl rfl)
        | false => rw [(hf rfl).1] at h1 ⊢; exact h1⟩
       obtain ⟨y, rfl, hfin⟩ := fin
       conv => whnf
       repeat' (first | ((first | (refine And.intro rfl ?_) | (refine IdxK.at (k := i) rfl hNr rfl ?_) | (refine IdxL.mk i rfl (by omega) ?_) | (refine StOwn.mk i 0 _ (bv true) (by show (0+i)*1 = i*1+0; omega) hse (Nat.le_refl _) (by rw [bv_cells, bv_cells]; rfl) ?_) | (refine RowK.mk i _ (by omega) hgr (by simp) ?_)); conv => whnf) | (refine Br.dec (fun _ => ?_) (fun _ => ?_) <;> first | (exfalso; omega) | conv => whnf) | (refine CallK.heap [(1000, 1)] 5 (ArgsH.cons (LSub.refl _) (ArgsH.cons (LSub.refl _) ArgsH.nil)) (by refine BlksH.cons (j := 1) rfl rfl ?_ ?_; exact CSub.refl _; exact BlksH.nil) hSh rfl rfl ?_; rintro l' H' ⟨rfl, rfl⟩; conv => whnf))
       rw [hst]
       repeat' (first | ((first | (refine And.intro rfl ?_) | (refine Wr.eq (m := (i : Int) - 1) (by omega) (by omega) (by omega) ?_) | (refine IdxL.mk i rfl (by omega) ?_) | (refine OpK.stMat tabOK rfl rfl rfl rfl rfl rfl rfl rfl rfl (by decide) i [] (by omega) (by omega) hrl.symm ⟨by simp, by simp, by simp⟩ ?_)); conv => whnf) | (refine Br.n (fun _ => ?_) (fun _ => ?_) <;> conv => whnf) | (refine CallK.borrow hEq (.cons (.hd rfl hrl.symm) (.cons (.row rfl hgr (by simp)) .nil)) (by rintro _ rfl; rfl) ?_; rintro _ rfl; conv => whnf))
       all_goals first
        | exact ⟨_, hfin, by simp only; omega, Le.mk [] (by simp) (by simp) (by simp) (.cons (.refl _) (.cons (.refl _) (.cons (.refl _) (.cons (.refl _) (.cons (.refl _) .nil))))) (.cons rfl (.of_eq (by rw [hsb])) .nil)⟩
        | (exfalso; simp_all; done)
open Go.Proofs
def decB (fm : List (List Bool)) (t : Int × Int) (b : Nat) : Bool := bitF fm t.2.toNat b && (decide (t.1 = b) || !bitF fm t.1.toNat b)
def mkM (n : Nat) (fm : List (List Bool)) (l : List (Int × Int)) (a b : Nat) : Bool := (decide (1 ≤ b) && decide (b < n - 1)) && l.any fun t => decide (t.1 = a) && decB fm t b
structure DimB (n : Nat) (M : List (List Bool)) : Prop where
 len : M.length = n
 rows : ∀ r ∈ M, r.length = n
theorem DimB.row {n : Nat} {M : List (List Bool)} (h : DimB n M) {a : Nat} (ha : a < n) : (bmI M)[a]? = some ((M.getD a []).map bv) ∧ ((M.getD a []).map bv).length = n := by
 have hal : a < M.length := by rw [h.len]; exact ha
 have e : M.getD a [] = M[a] := by rw [List.getD_eq_getElem?_getD, List.getElem?_eq_getElem hal]; rfl
 rw [e]
 refine ⟨by unfold bmI; rw [List.getElem?_map, List.getElem?_eq_getElem hal]; rfl, ?_⟩
 rw [List.length_map]
 exact h.rows _ (List.getElem_mem hal)
theorem DimB.bit {n : Nat} {M : List (List Bool)} (h : DimB n M) {a b : Nat} (ha : a < n) (hb : b < n) : ((M.getD a []).map bv)[b]? = some (bv (bitF M a b)) := by
 obtain ⟨_, h2⟩ := h.row ha
 have hbl : b < (M.getD a []).length := by rw [List.length_map] at h2; omega
 rw [List.getElem?_map, List.getElem?_eq_getElem hbl]
 unfold bitF
 rw [List.getD_eq_getElem?_getD (l := M.getD a []) (i := b), List.getElem?_eq_getElem hbl]
 rfl
theorem DimB.set {n : Nat} {M : List (List Bool)} (h : DimB n M) {a b : Nat} (ha : a < n) (hb : b < n) : DimB n (M.set a ((M.getD a []).set b true)) ∧ (bmI M).set a (((M.getD a []).map bv).set b .tt) = bmI (M.set a ((M.getD a []).set b true)) ∧ ∀ x y, x < n → y < n → bitF (M.set a ((M.getD a []).set b true)) x y = if x = a ∧ y = b then true else bitF M x y := by
 have hal : a < M.length := by rw [h.len]; exact ha
 obtain ⟨_, h2⟩ := h.row ha
 rw [List.length_map] at h2
 refine ⟨⟨by rw [List.length_set]; exact h.len, fun r hr => ?_⟩, ?_, fun x y hx hy => ?_⟩
 ·rcases List.mem_or_eq_of_mem_set hr with hr | rfl
  ·exact h.rows r hr
  ·rw [List.length_set]; exact h2
 ·unfold bmI
  rw [List.map_set, List.map_set]
  rfl
 ·rw [bit_set hal]
  by_cases hxa : x = a
  ·subst hxa
   rw [if_pos rfl, List.getD_eq_getElem?_getD]
   by_cases hyb : y = b
   ·subst hyb
    rw [if_pos ⟨rfl, rfl⟩, List.getElem?_set_self (by omega)]
    rfl
   ·rw [if_neg (fun h => hyb h.2), List.getElem?_set_ne (Ne.symm hyb), ← List.getD_eq_getElem?_getD]
    rfl
  ·rw [if_neg hxa, if_neg (fun h => hxa h.1)]
def outM (plc : Int → Int) (M : List (List Bool)) (n a : Nat) : List (Int × Int) := (List.range a).flatMap fun (x : Nat) => ((List.range n).filter fun y => bitF M x y).map fun (y : Nat) => (plc x, plc y)
def outR (plc : Int → Int) (M : List (List Bool)) (a b : Nat) : List (Int × Int) := ((List.range b).filter fun y => bitF M a y).map fun (y : Nat) => (plc a, plc y)
theorem outM_succ (plc : Int → Int) (M : List (List Bool)) (n a : Nat) : outM plc M n (a + 1) = outM plc M n a ++ outR plc M a n := by
 unfold outM outR
 rw [List.range_succ, List.flatMap_append]
 simp
theorem outR_succ (plc : Int → Int) (M : List (List Bool)) (a b : Nat) : outR plc M a (b + 1) = outR plc M a b ++ (if bitF M a b then [(plc a, plc b)] else []) := by
 unfold outR
 rw [List.range_succ, List.filter_append, List.map_append]
 congr 1
 cases h : bitF M a b <;> simp [h]
theorem outR_len (plc : Int → Int) (M : List (List Bool)) (a b : Nat) : (outR plc M a b).length ≤ b := by
 unfold outR
 rw [List.length_map]
 exact Nat.le_trans (List.length_filter_le _ _) (by simp)
theorem outM_len (plc : Int → Int) (M : List (List Bool)) (n a : Nat) : (outM plc M n a).length ≤ a * n := by
 induction a with
 | zero => unfold outM; simp
 | succ a ih =>
   have := outR_len plc M a n
   rw [outM_succ, List.length_append, Nat.add_mul, Nat.one_mul]
   omega
def zR (n a : Nat) : List (List Bool) := List.replicate a (List.replicate n false) ++ List.replicate (n - a) []
theorem zR_len {n a : Nat} (h : a ≤ n) : (zR n a).length = n := by unfold zR; simp; omega
theorem zR_set {n a : Nat} (h : a < n) : (bmI (zR n a)).set a (List.replicate n .ff) = bmI (zR n (a + 1)) := by
 have e : (zR n a).set a (List.replicate n false) = zR n (a + 1) := by
  unfold zR
  rw [List.set_append_right _ _ (by simp), List.length_replicate, Nat.sub_self, show n - a = (n - (a + 1)) + 1 by omega, List.replicate_succ, List.set_cons_zero, List.replicate_succ', List.append_assoc]
  rfl
 rw [← e]
 unfold bmI
 rw [List.map_set]
 congr 1
 simp [bv]
theorem zR_end (n : Nat) : DimB n (zR n n) ∧ ∀ a b, bitF (zR n n) a b = false := by
 have e : zR n n = List.replicate n (List.replicate n false) := by unfold zR; simp
 rw [e]
 refine ⟨⟨by simp, fun r hr => by rw [List.eq_of_mem_replicate hr]; simp⟩, fun a b => ?_⟩
 unfold bitF
 simp only [List.getD_eq_getElem?_getD, List.getElem?_replicate]
 split
 ·simp only [Option.getD_some, List.getElem?_replicate]
  split <;> rfl
 ·rfl
theorem mat_begin2 {N' : Nat} {sl : List (Nat × LV)} (n : Nat) (h0 : (sl.all fun x => x.2.xfree 0) = true) :
  Le N' ⟨sl, [(0, .own 112 1 (List.replicate n .nils))]⟩ ⟨sl, [(0, .ext (.mat 112 4 1 (List.replicate n []) []))]⟩ := by
 have hm := Le.toMat (N := N') (sl := sl) (H := [(0, .own 112 1 (List.replicate n .nils))])
  (H' := [(0, .ext (.mat 112 4 1 (List.replicate (List.replicate n AV.nils).length []) []))])
  0 4 1 (e := 112) (es := List.replicate n .nils) rfl (fun x hx => List.eq_of_mem_replicate hx) rfl h0 rfl rfl (by simp [labN])
 simpa using hm
theorem way_Way_Decides (w : Way) (f : Pr) (n : Nat) (h : WayT w f n) (hp : ∀ t ∈ prsA w f, (0 ≤ t.1 ∧ t.1 < n) ∧ 0 ≤ t.2 ∧ t.2 < n) (hlen : (augW w f).length ≤ 1000000) : SpecP Tryz.prog 109 [.ip w.cells] (fun r => ∃ fm M : List (List Bool), FollowP n (nextR n (prsA w f)) fm ∧ DimB n M ∧ (∀ a b, a < n → b < n → bitF M a b = mkM n fm (prsA w f) a b) ∧ r = .sl (avP (outM (placeI w.p w.j w.n) M n n))) := by
 refine SpecP.body I_way_Way_Decides tabOK Tryz.func109 rfl Tryz.call109 (by show 1 ≤ _; decide) ?_
 conv => whnf
 have hwn := h.hw
 have hn5 := h.hn
 have hn2 := h.hn2
 have hF := way_Way_Follow w f n h hp hlen
 have hA := way_Way_Aug w f n h
 have hP := way_Way_Pairs w f h.hj h.hc (by omega) (augW w f) hlen
 have hpl : (avP (prsA w f)).length = (prsA w f).length := by unfold avP; rw [List.length_map]
 have hpl2 : (prsA w f).length ≤ 1000000 := by unfold prsA; rw [List.length_map]; exact hlen
 have hPe : (augW w f).map (ixP w.p w.j f w.n) = prsA w f := rfl
 rw [hPe] at hP
 repeat' ((first | (intro (_ : _ ≤ 9223372036854775807)) | (refine And.intro ⟨rfl, rfl, by decide⟩ ?_) | (refine CallK.pure hF (.cons (Sub.refl _) .nil) ?_; rintro _ ⟨fm, hFP, rfl⟩) | (refine MkK.mk n (by omega) (by show 24 * _ ≤ 140737488355328; omega) (by unfold maxLen; omega) ?_)); conv => whnf)
 have hFD : DimB n fm := ⟨hFP.inv.len, hFP.inv.rows⟩
 refine LoopK.inv tabOK (fun a : Nat => ⟨[(0, .p (.ip w.cells)), (3, .p (.sl ((bmI fm).map .sl))), (4, .hd 0 0 n), (21, .p (.int .i64 n)), (22, .p (.int .i64 a))], [(0, .ext (.mat 112 4 1 (bmI (zR n a)) []))]⟩) (fun a => a ≤ n) (fun a => n - a) 0
  (by
    refine Le.trans (mat_begin2 n rfl) ?_
    exact Le.mk [] (by simp) (by simp) (by simp) (.cons (.refl _) (.cons (.refl _) (.cons (.refl _) (.cons (.refl _) (.cons (.refl _) .nil))))) (.cons rfl (.of_eq (by simp [bmI, zR])) .nil)) (Nat.zero_le _) ?_
 intro a h3
 rcases Nat.lt_or_ge a n with ha | ha
 ·have hzl := zR_len (n := n) h3
  have hzs := zR_set (n := n) ha
  have hbl : (bmI (zR n a)).length = n := by unfold bmI; rw [List.length_map, hzl]
  generalize bmI (zR n a) = rows at hzs hbl ⊢
  conv => whnf
  repeat' (first | ((first | (refine And.intro rfl ?_) | (refine And.intro ⟨rfl, rfl, by decide⟩ ?_) | (refine Wr.i64 (by omega) (by omega) ?_) | (refine MkK.mk n (by omega) (by show 1 * _ ≤ 140737488355328; omega) (by unfold maxLen; omega) ?_) | (refine IdxL.mk a rfl ha ?_) | (refine OpK.stMat tabOK rfl rfl rfl rfl rfl rfl rfl rfl rfl (by decide) a [] (by omega) (by omega) (by simp) ⟨by simp, by simp, by simp⟩ ?_)); conv => whnf) | (refine Br.dec (fun _ => ?_) (fun _ => ?_) <;> first | (exfalso; omega) | conv => whnf))
  exact ⟨a + 1, by omega, by omega, Le.of_eq (by rw [← hzs]; rfl)⟩
 have hae : a = n := by omega
 rw [hae]
 clear h3 ha hae a
 obtain ⟨hz1, hz2⟩ := zR_end n
 generalize zR n n = M0 at hz1 hz2 ⊢
 conv => whnf
 repeat' (first | ((first | (intro (_ : _ ≤ 9223372036854775807)) | (refine CallK.pure hA (.cons (Sub.refl _) .nil) ?_; rintro _ rfl) | (refine CallK.pure hP (.cons (Sub.refl _) (.cons (Sub.refl _) .nil)) ?_; rintro _ rfl)); conv => whnf) | (refine Br.dec (fun _ => ?_) (fun _ => ?_) <;> first | (exfalso; omega) | conv => whnf))
 refine LoopK.inv tabOK (fun x : Nat × List (List Bool) => ⟨[(0, .p (.ip w.cells)), (3, .p (.sl ((bmI fm).map .sl))), (4, .hd 0 0 n), (37, .p (.sl (avP (prsA w f)))), (38, .p (.int .i64 (avP (prsA w f)).length)), (39, .p (.int .i64 x.1))], [(0, .ext (.mat 112 4 1 (bmI x.2) []))]⟩)
  (fun x => x.1 ≤ (prsA w f).length ∧ DimB n x.2 ∧ ∀ a b, a < n → b < n → bitF x.2 a b = mkM n fm ((prsA w f).take x.1) a b) (fun x => (prsA w f).length - x.1) (0, M0) (Le.of_eq rfl) ⟨Nat.zero_le _, hz1, fun a b _ _ => by simp only [hz2]; unfold mkM; simp⟩ ?_
 rintro ⟨j, M⟩ ⟨h2, hD, hB⟩
 simp only at h2 hD hB ⊢
 rcases Nat.lt_or_ge j (prsA w f).length with hj | hj
 ·have hme : (avP (prsA w f))[j]? = some (.agg [.int .i64 (prsA w f)[j].1, .int .i64 (prsA w f)[j].2]) := by simp [avP, hj]
  obtain ⟨⟨q1, q2⟩, q3, q4⟩ := hp _ (List.getElem_mem hj)
  have hmk : ∀ a b, mkM n fm ((prsA w f).take (j + 1)) a b = (mkM n fm ((prsA w f).take j) a b || ((decide (1 ≤ b) && decide (b < n - 1)) && (decide ((prsA w f)[j].1 = a) && decB fm (prsA w f)[j] b))) := fun a b => by
   unfold mkM
   rw [List.take_succ_eq_append_getElem hj, List.any_append]
   simp only [List.any_cons, List.any_nil, Bool.or_false]
   cases (decide (1 ≤ b) && decide (b < n - 1)) <;> simp
  generalize (prsA w f)[j] = t at hme q1 q2 q3 q4 hmk
  obtain ⟨a, ha⟩ : ∃ a : Nat, t.1 = a := ⟨t.1.toNat, by omega⟩
  obtain ⟨c, hc⟩ : ∃ c : Nat, t.2 = c := ⟨t.2.toNat, by omega⟩
  have han : a < n := by omega
  have hcn : c < n := by omega
  rw [ha, hc] at hme
  have hdec : ∀ b, decB fm t b = (bitF fm c b && (decide (a = b) || !bitF fm a b)) := fun b => by
   unfold decB
   rw [ha, hc, Int.toNat_natCast, Int.toNat_natCast]
   congr 2
   by_cases e : a = b
   ·subst e; simp
   ·rw [decide_eq_false e, decide_eq_false (by omega)]
  conv => whnf
  repeat' (first | ((first | (refine And.intro rfl ?_) | (refine IdxK.at (k := j) rfl hme rfl ?_) | (refine IdxL.mk 0 rfl (by decide) ?_)); conv => whnf) | (refine Br.dec (fun _ => ?_) (fun _ => ?_) <;> first | (exfalso; omega) | conv => whnf))
  refine LoopK.inv tabOK (fun y : Nat × List (List Bool) => ⟨[(0, .p (.ip w.cells)), (3, .p (.sl ((bmI fm).map .sl))), (4, .hd 0 0 n), (7, .p (.ip [.int .i64 a, .int .i64 c])), (8, .p (.int .i64 a)), (9, .p (.int .i64 y.1)), (37, .p (.sl (avP (prsA w f)))), (38, .p (.int .i64 (avP (prsA w f)).length)), (39, .p (.int .i64 j))], [(0, .ext (.mat 112 4 1 (bmI y.2) []))]⟩)
   (fun y => (1 ≤ y.1 ∧ y.1 ≤ n - 1) ∧ DimB n y.2 ∧ ∀ a' b', a' < n → b' < n → bitF y.2 a' b' = (mkM n fm ((prsA w f).take j) a' b' || ((decide (1 ≤ b') && decide (b' < y.1)) && (decide (t.1 = a') && decB fm t b')))) (fun y => n - y.1) (1, M) (Le.of_eq rfl)
   ⟨⟨Nat.le_refl _, by simp only; omega⟩, hD, fun a' b' h1 h2 => by
     simp only
     rw [hB a' b' h1 h2]
     cases hq : (decide (1 ≤ b') && decide (b' < 1)) with
     | true => simp at hq; omega
     | false => simp⟩ ?_
  rintro ⟨b, L⟩ ⟨⟨h4, h5⟩, hL, hLB⟩
  simp only at h4 h5 hL hLB ⊢
  rcases Nat.lt_or_ge b (n - 1) with hb | hb
  ·have hbn : b < n := by omega
   obtain ⟨r1, r2⟩ := hFD.row hcn
   obtain ⟨s1, s2⟩ := hFD.row han
   obtain ⟨u1, u2⟩ := hL.row han
   have e1 := hFD.bit hcn hbn
   have e2 := hFD.bit han hbn
   obtain ⟨d1, d2, d3⟩ := hL.set han hbn
   have hr1 : ((bmI fm).map AV.sl)[c]? = some (.sl ((fm.getD c []).map bv)) := by rw [List.getElem?_map, r1]; rfl
   have hr2 : ((bmI fm).map AV.sl)[a]? = some (.sl ((fm.getD a []).map bv)) := by rw [List.getElem?_map, s1]; rfl
   have no : decB fm t b = false → ∀ a' b', a' < n → b' < n → bitF L a' b' = (mkM n fm ((prsA w f).take j) a' b' || ((decide (1 ≤ b') && decide (b' < b + 1)) && (decide (t.1 = a') && decB fm t b'))) := fun hq a' b' g1 g2 => by
    rw [hLB a' b' g1 g2]
    by_cases e : b' = b
    ·subst e; simp [hq]
    ·have : decide (b' < b + 1) = decide (b' < b) := by by_cases hlt : b' < b <;> simp [hlt] <;> omega
     rw [this]
   have yes : decB fm t b = true → ∀ a' b', a' < n → b' < n → bitF (L.set a ((L.getD a []).set b true)) a' b' = (mkM n fm ((prsA w f).take j) a' b' || ((decide (1 ≤ b') && decide (b' < b + 1)) && (decide (t.1 = a') && decB fm t b'))) := fun hq a' b' g1 g2 => by
    rw [d3 a' b' g1 g2]
    by_cases e : a' = a ∧ b' = b
    ·rw [if_pos e, e.1, e.2, hq, decide_eq_true h4, decide_eq_true (by omega : b < b + 1), decide_eq_true ha]
     simp
    ·rw [if_neg e, hLB a' b' g1 g2]
     by_cases ea : a' = a
     ·have eb : ¬ b' = b := fun hh => e ⟨ea, hh⟩
      have : decide (b' < b + 1) = decide (b' < b) := by by_cases hlt : b' < b <;> simp [hlt] <;> omega
      rw [this]
     ·have : decide (t.1 = (a' : Int)) = false := decide_eq_false (by omega)
      rw [this]
      simp
   have hdb := hdec b
   generalize bitF fm c b = v1 at e1 hdb
   generalize bitF fm a b = v2 at e2 hdb
   cases v1 <;> cases v2 <;>
   conv => whnf
   repeat' (first | ((first | (refine And.intro rfl ?_) | (refine Wr.eq (m := (n : Int) - 1) (by omega) (by omega) (by omega) ?_) | (refine Wr.i64 (by omega) (by omega) ?_) | (refine IdxL.mk 1 rfl (by decide) ?_) | (refine IdxK.at (k := c) rfl hr1 rfl ?_) | (refine IdxK.at (k := a) rfl hr2 rfl ?_) | (refine IdxK.at (k := b) rfl e1 rfl ?_) | (refine IdxK.at (k := b) rfl e2 rfl ?_) | (refine IdxL.mk a rfl han ?_) | (refine RowK.mk a _ (by omega) u1 (by simp) ?_) | (refine IdxL.mk b rfl (by omega) ?_) | (refine OpK.stEl tabOK rfl rfl rfl rfl rfl rfl rfl rfl rfl u1 (by simp) (by omega) ?_)); conv => whnf) | (refine Br.dec (fun _ => ?_) (fun _ => ?_) <;> first | (exfalso; omega) | conv => whnf))
   all_goals first
    | exact ⟨(b + 1, L), ⟨⟨by simp only; omega, by simp only; omega⟩, hL, no (by first | (rw [hdb]; rfl) | (rw [hdb]; have hab : ¬ a = b := (by omega); rw [decide_eq_false hab]; rfl))⟩, by simp only; omega, Le.of_eq rfl⟩
    | exact ⟨(b + 1, L.set a ((L.getD a []).set b true)), ⟨⟨by simp only; omega, by simp only; omega⟩, d1, yes (by first | (rw [hdb]; have hab : a = b := (by omega); rw [decide_eq_true hab]; rfl) | (rw [hdb]; have hab : ¬ a = b := (by omega); rw [decide_eq_false hab]; rfl))⟩, by simp only; omega, Le.of_eq (by rw [Nat.mul_one]; simp only; rw [← d2]; rfl)⟩
    | trace_state
  ·have hbe : b = n - 1 := by omega
   subst hbe
   have hfin : ∀ a b, a < n → b < n → bitF L a b = mkM n fm ((prsA w f).take (j + 1)) a b := fun a' b' g1 g2 => by rw [hLB a' b' g1 g2, hmk]
   conv => whnf
   repeat' (first | ((first | (refine Wr.eq (m := (n : Int) - 1) (by omega) (by omega) (by omega) ?_) | (refine Wr.i64 (by omega) (by omega) ?_)); conv => whnf) | (refine Br.dec (fun _ => ?_) (fun _ => ?_) <;> first | (exfalso; omega) | conv => whnf))
   all_goals first
    | exact ⟨(j + 1, L), ⟨by simp only; omega, hL, hfin⟩, by simp only; omega, Le.mk [] (by simp) (by simp) (by simp) (.cons (.refl _) (.cons (.refl _) (.cons (.refl _) (.cons (.refl _) (.cons (.refl _) (.cons (.refl _) .nil)))))) (.cons rfl (.refl _) .nil)⟩
    | (exfalso; omega)
    | trace_state
 ·have hje : (prsA w f).take j = prsA w f := List.take_of_length_le hj
  rw [hje] at hB
  have hbl : (bmI M).length = n := by unfold bmI; rw [List.length_map, hD.len]
  generalize hplc : placeI w.p w.j w.n = plc
  conv => whnf
  repeat' (refine Br.dec (fun _ => ?_) (fun _ => ?_) <;> first | (exfalso; omega) | conv => whnf)
  refine LoopK.inv tabOK (fun a : Nat => ⟨[(0, .p (.ip w.cells)), (4, .hd 0 0 n), (10, .hd 1 0 (outM plc M n a).length), (85, .p (.int .i64 n)), (86, .p (.int .i64 a))], [(0, .ext (.mat 112 4 1 (bmI M) [])), (1, .own 47 2 (avP (outM plc M n a)))]⟩) (fun a => a ≤ n) (fun a => n - a) 0
   (Le.mk [(1, .own 47 2 [])] (by simp [Chunk.new0]; rfl) (by simp) (by simp) (.cons (.refl _) (.cons (.refl _) (.cons (.nil List.mem_cons_self) (.cons (.refl _) (.cons (.refl _) .nil))))) (.cons rfl (.refl _) (.new List.mem_cons_self .nil))) (Nat.zero_le _) ?_
  intro a h3
  rcases Nat.lt_or_ge a n with ha | ha
  ·obtain ⟨u1, u2⟩ := hD.row ha
   have hol := outM_len plc M n a
   have hol2 : a * n ≤ 5000 * 5000 := Nat.mul_le_mul (by omega) hn5
   have hsu := outM_succ plc M n a
   generalize outM plc M n a = acc at hol hsu ⊢
   conv => whnf
   repeat' (first | ((first | (refine And.intro rfl ?_) | (refine IdxL.mk a rfl ha ?_) | (refine RowK.mk a _ (by omega) u1 (by simp) ?_)); conv => whnf) | (refine Br.dec (fun _ => ?_) (fun _ => ?_) <;> first | (exfalso; omega) | conv => whnf))
   refine LoopK.inv tabOK (fun b : Nat => ⟨[(0, .p (.ip w.cells)), (4, .hd 0 0 n), (10, .hd 1 0 (acc ++ outR plc M a b).length), (11, .p (.int .i64 a)), (85, .p (.int .i64 n)), (86, .p (.int .i64 a)), (93, .p (.int .i64 n)), (94, .p (.int .i64 b))], [(0, .ext (.mat 112 4 1 (bmI M) [])), (1, .own 47 2 (avP (acc ++ outR plc M a b)))]⟩) (fun b => b ≤ n) (fun b => n - b) 0
    (Le.of_eq (by rw [u2, show acc ++ outR plc M a 0 = acc by unfold outR; simp]; rfl)) (Nat.zero_le _) ?_
   intro b h4
   rcases Nat.lt_or_ge b n with hb | hb
   ·have e1 := hD.bit ha hb
    have hrs := outR_succ plc M a b
    have hrl := outR_len plc M a b
    generalize outR plc M a b = acc2 at hrs hrl ⊢
    have hal : (avP (acc ++ acc2)).length = (acc ++ acc2).length := by unfold avP; rw [List.length_map]
    have hal2 : (acc ++ acc2).length ≤ 25005000 := by rw [List.length_append]; omega
    have hP1 := way_Way_Place w f h.hj h.hc (by omega) a (by omega)
    have hP2 := way_Way_Place w f h.hj h.hc (by omega) b (by omega)
    rw [hplc] at hP1 hP2
    cases hv : bitF M a b with
    | true =>
      rw [hv] at e1
      rw [hv, if_pos rfl] at hrs
      conv => whnf
      repeat' (first | ((first | (refine And.intro rfl ?_) | (refine And.intro ⟨by decide, by decide⟩ ?_) | (refine BsK.pure (fun x hx => by rcases List.mem_singleton.1 hx with rfl; rfl) rfl ?_) | (refine Wr.i64 (by omega) (by omega) ?_) | (refine IdxL.mk a rfl ha ?_) | (refine RowK.mk a _ (by omega) u1 (by simp) ?_) | (refine IdxL.mk b rfl (by omega) ?_) | (refine RLd.mk _ b 0 _ u1 (by simp) (by omega) e1 ?_) | (refine CallK.pure hP1 (.cons (Sub.refl _) (.cons (Sub.refl _) .nil)) ?_; rintro _ rfl) | (refine CallK.pure hP2 (.cons (Sub.refl _) (.cons (Sub.refl _) .nil)) ?_; rintro _ rfl) | (refine AppK.mk hal.symm rfl (by show ((acc ++ acc2).length+1) * 16 ≤ 140737488355328; omega) (by show (acc ++ acc2).length+1 ≤ 9223372036854775807; omega) (fun x hx => by rcases List.mem_singleton.1 hx with rfl; exact ⟨rfl, rfl⟩) ?_)); conv => whnf) | (refine Br.dec (fun _ => ?_) (fun _ => ?_) <;> first | (exfalso; omega) | conv => whnf))
      all_goals first
       | exact ⟨b + 1, by omega, by omega, Le.of_eq (by rw [hrs, ← List.append_assoc]; simp only [avP, List.length_append, List.map_append]; rfl)⟩
       | (exfalso; simp_all; done)
       | trace_state
    | false =>
      rw [hv] at e1
      rw [hv, if_neg (by decide), List.append_nil] at hrs
      conv => whnf
      repeat' (first | ((first | (refine And.intro rfl ?_) | (refine Wr.i64 (by omega) (by omega) ?_) | (refine IdxL.mk a rfl ha ?_) | (refine RowK.mk a _ (by omega) u1 (by simp) ?_) | (refine IdxL.mk b rfl (by omega) ?_) | (refine RLd.mk _ b 0 _ u1 (by simp) (by omega) e1 ?_)); conv => whnf) | (refine Br.dec (fun _ => ?_) (fun _ => ?_) <;> first | (exfalso; omega) | conv => whnf))
      all_goals first
       | exact ⟨b + 1, by omega, by omega, Le.of_eq (by rw [hrs]; rfl)⟩
       | (exfalso; simp_all; done)
       | trace_state
   ·have hbe : b = n := by omega
    subst hbe
    rw [← hsu]
    conv => whnf
    repeat' (first | (refine Wr.i64 (by omega) (by omega) ?_; conv => whnf) | (refine Br.dec (fun _ => ?_) (fun _ => ?_) <;> first | (exfalso; omega) | conv => whnf))
    exact ⟨a + 1, by omega, by omega, Le.of_eq rfl⟩
  ·have hae : a = n := by omega
   subst hae
   conv => whnf
   repeat' (refine Br.dec (fun _ => ?_) (fun _ => ?_) <;> first | (exfalso; omega) | conv => whnf)
   exact ⟨_, .hd rfl (by unfold avP; rw [List.length_map]), fm, M, hFP, hD, hB, rfl⟩
open Go.Proofs
structure NoGo (sh : Sheet) (f : Pr) (lo hi : Nat) (T : Int → Prop) : Prop where
 cl : ∀ (k : Nat) (it : Item), lo ≤ k → k < hi → sh.l[k]? = some it → T it.s.id → it.s.kind ≠ 10 ∧ ∀ y ∈ goesI sh f it, T y
 id : ∀ (k : Nat) (it : Item), lo ≤ k → k < hi → sh.l[k]? = some it → it.s.id = (k : Int) + 1
 ld : ∀ (k : Nat) (it : Item), lo ≤ k → k < hi → sh.l[k]? = some it → it.s.kind = 7 ∨ it.s.kind = 8 → it.loop ≠ 0
 lp : ∀ (k : Nat) (it : Item), lo ≤ k → k < hi → sh.l[k]? = some it → it.loop = 0 ∨ ∃ u, sh.l[(it.loop - 1).toNat]? = some u
def escC (sh : Sheet) (T : Int → Prop) (nx lp : Int) : Prop := T nx ∨ T (-1) ∨ (lp ≠ 0 ∧ (T lp ∨ ∃ u, sh.l[(lp - 1).toNat]? = some u ∧ T u.next))
def atP (sh : Sheet) (n : Nat) (l : List Item) : Prop := ∀ (i : Nat) (it : Item), l[i]? = some it → sh.l[n + i]? = some it
theorem atP.left {sh : Sheet} {n : Nat} {a b : List Item} (h : atP sh n (a ++ b)) : atP sh n a := fun i it hi => h i it (by
 rw [List.getElem?_append_left (List.getElem?_eq_some_iff.1 hi).1]
 exact hi)
theorem atP.right {sh : Sheet} {n : Nat} {a b : List Item} (h : atP sh n (a ++ b)) : atP sh (n + a.length) b := fun i it hi => by
 rw [Nat.add_assoc]
 exact h (a.length + i) it (by rw [List.getElem?_append_right (by omega), Nat.add_sub_cancel_left]; exact hi)
theorem itL_hd (proc up nx lp : Int) (n : Nat) (v : S) (r : List S) : ∃ it ∈ itL proc up nx lp n (v :: r), it.s = v := by
 rw [itL, itS_eq]
 exact ⟨_, List.mem_append.2 (.inl List.mem_cons_self), rfl⟩
mutual
theorem escS {sh : Sheet} {f : Pr} {lo hi : Nat} {T : Int → Prop} (hT : NoGo sh f lo hi T) (proc : Int) : ∀ (t : S) (up nx lp : Int) (n : Nat), atP sh n (itS proc up nx lp n t) → lo ≤ n → n + cntS t ≤ hi → (∃ it ∈ itS proc up nx lp n t, T it.s.id) → escC sh T nx lp
 | .mk id kind labels name pr x has args thn els, up, nx, lp, n, hp, h1, h2, h3 => by
   rw [itS] at hp h3
   rw [cntS] at h2
   have hself : sh.l[n]? = some ⟨.mk id kind labels name pr x has args thn els, proc, up, nx, lp⟩ := hp 0 _ rfl
   have hcl := hT.cl n _ h1 (by omega) hself
   have hid := hT.id n _ h1 (by omega) hself
   have hld := hT.ld n _ h1 (by omega) hself
   have hlp := hT.lp n _ h1 (by omega) hself
   have hp1 : atP sh (n + 1) (itL proc (n + 1) (if kind = 6 then n + 1 else nx) (if kind = 6 then n + 1 else lp) (n + 1) thn ++ itL proc (n + 1) (if kind = 6 then n + 1 else nx) (if kind = 6 then n + 1 else lp) (n + 1 + cntL thn) els) := fun i it hi => by
    have := hp (i + 1) it (by simpa using hi)
    rwa [show n + (i + 1) = n + 1 + i by omega] at this
   have hw : kind = 6 → T ((n : Int) + 1) → T nx := fun hk h => by
    have h5 : T (S.mk id kind labels name pr x has args thn els).id := by
     rw [show (S.mk id kind labels name pr x has args thn els).id = (n : Int) + 1 from hid]
     exact h
    refine (hcl h5).2 nx ?_
    unfold goesI
    rw [if_neg (by show ¬ kind = 5; omega), if_pos (by exact hk)]
    simp
   have hin : escC sh T (if kind = 6 then ((n : Int) + 1) else nx) (if kind = 6 then ((n : Int) + 1) else lp) → escC sh T nx lp := fun h => by
    by_cases hk : kind = 6
    ·rw [if_pos hk, if_pos hk] at h
     rcases h with h | h | ⟨_, h | ⟨u, hu, h⟩⟩
     ·exact .inl (hw hk h)
     ·exact .inr (.inl h)
     ·exact .inl (hw hk h)
     ·rw [show ((n : Int) + 1 - 1).toNat = n by omega, hself] at hu
      cases hu
      exact .inl h
    ·rw [if_neg hk, if_neg hk] at h
     exact h
   have hthn : (∃ it ∈ itL proc (n + 1) (if kind = 6 then n + 1 else nx) (if kind = 6 then n + 1 else lp) (n + 1) thn, T it.s.id) → escC sh T nx lp := fun h =>
    hin (escL hT proc thn _ _ _ (n + 1) hp1.left (by omega) (by omega) h)
   obtain ⟨it, hit, hti⟩ := h3
   rcases List.mem_cons.1 hit with rfl | hit
   ·obtain ⟨hk10, hgo⟩ := hcl hti
    have hk10 : kind ≠ 10 := hk10
    by_cases hk5 : kind = 5
    ·cases thn with
     | nil =>
       refine .inl (hgo nx ?_)
       unfold goesI
       rw [if_pos (by exact hk5)]
       simp [headI, S.thn]
     | cons v r =>
       have : T v.id := by
        refine hgo v.id ?_
        unfold goesI
        rw [if_pos (by exact hk5)]
        simp [headI, S.thn]
       obtain ⟨iv, h5, h6⟩ := itL_hd proc (n + 1) (if kind = 6 then n + 1 else nx) (if kind = 6 then n + 1 else lp) (n + 1) v r
       exact hthn ⟨iv, h5, by rw [h6]; exact this⟩
    by_cases hk6 : kind = 6
    ·refine .inl (hw hk6 ?_)
     rw [← show (S.mk id kind labels name pr x has args thn els).id = (n : Int) + 1 from hid]
     exact hti
    by_cases hk7 : kind = 7
    ·have hl0 := hld (.inl hk7)
     rcases hlp with h5 | ⟨u, hu⟩
     ·exact absurd h5 hl0
     ·refine .inr (.inr ⟨hl0, .inr ⟨u, hu, hgo _ ?_⟩⟩)
      unfold goesI
      rw [if_neg (by exact hk5), if_neg (by exact hk6), if_pos (by exact hk7)]
      simp only at hu
      rw [hu]
      simp
    by_cases hk8 : kind = 8
    ·refine .inr (.inr ⟨hld (.inr hk8), .inl (hgo _ ?_)⟩)
     unfold goesI
     rw [if_neg (by exact hk5), if_neg (by exact hk6), if_neg (by exact hk7), if_pos (by exact hk8)]
     simp
    by_cases hk9 : kind = 9
    ·refine .inr (.inl (hgo _ ?_))
     unfold goesI
     rw [if_neg (by exact hk5), if_neg (by exact hk6), if_neg (by exact hk7), if_neg (by exact hk8), if_pos (by exact hk9)]
     simp
    ·refine .inl (hgo _ ?_)
     unfold goesI
     rw [if_neg (by exact hk5), if_neg (by exact hk6), if_neg (by exact hk7), if_neg (by exact hk8), if_neg (by exact hk9), if_neg (by exact hk10)]
     simp
   ·rcases List.mem_append.1 hit with hit | hit
    ·exact hthn ⟨it, hit, hti⟩
    ·have hp2 := hp1.right
     rw [itL_len] at hp2
     exact hin (escL hT proc els _ _ _ (n + 1 + cntL thn) hp2 (by omega) (by omega) ⟨it, hit, hti⟩)
theorem escL {sh : Sheet} {f : Pr} {lo hi : Nat} {T : Int → Prop} (hT : NoGo sh f lo hi T) (proc : Int) : ∀ (l : List S) (up nx lp : Int) (n : Nat), atP sh n (itL proc up nx lp n l) → lo ≤ n → n + cntL l ≤ hi → (∃ it ∈ itL proc up nx lp n l, T it.s.id) → escC sh T nx lp
 | [], up, nx, lp, n, hp, h1, h2, h3 => by
   rw [itL] at h3
   obtain ⟨it, hit, _⟩ := h3
   cases hit
 | t :: r, up, nx, lp, n, hp, h1, h2, h3 => by
   rw [itL] at hp h3
   rw [cntL] at h2
   have hp2 := hp.right
   rw [itS_len] at hp2
   have hr : (∃ it ∈ itL proc up nx lp (n + cntS t) r, T it.s.id) → escC sh T nx lp := fun h => escL hT proc r up nx lp (n + cntS t) hp2 (by omega) (by omega) h
   obtain ⟨it, hit, hti⟩ := h3
   rcases List.mem_append.1 hit with hit | hit
   ·have h5 := escS hT proc t up _ lp n hp.left h1 (by omega) ⟨it, hit, hti⟩
    cases r with
    | nil => exact h5
    | cons v r =>
      rcases h5 with h5 | h5
      ·refine hr ?_
       obtain ⟨iv, h6, h7⟩ : ∃ iv, (itL proc up nx lp (n + cntS t) (v :: r))[0]? = some iv ∧ iv.s = v := by
        rw [itL, itS_eq]
        exact ⟨_, rfl, rfl⟩
       have h8 := hp2 0 iv h6
       have h9 := hT.id (n + cntS t) iv (by omega) (by
        rw [cntL] at h2
        have : 1 ≤ cntS v := by cases v; rw [cntS]; omega
        omega) h8
       refine ⟨iv, List.mem_of_getElem? h6, ?_⟩
       rw [h9]
       simp only [List.isEmpty_cons] at h5
       have e : ((n + cntS t : Nat) : Int) + 1 = (n : Int) + 1 + cntS t := by omega
       rw [e]
       exact h5
      ·exact .inr h5
   ·exact hr ⟨it, hit, hti⟩
end
open Go.Proofs
theorem sheet_id {p : Pg} (h : chkB p = true) {j : Nat} {f : Pr} (hj : p.procs[j]? = some f) {k : Nat} {it : Item} (h1 : offN p.procs j ≤ k) (h2 : k < offN p.procs j + cntL f.body) (hk : (sheetOf p).l[k]? = some it) : it.s.id = (k : Int) + 1 := by
 obtain ⟨t, _, h4, h5⟩ := stAt_own h hj (a := (k : Int) + 1) (by omega) (by omega)
 unfold stAt at h4
 rw [show ((k : Int) + 1 - 1).toNat = k by omega, hk] at h4
 cases h4
 exact h5
theorem raw_go {p : Pg} {j : Nat} {f : Pr} {it : Item} (hi : it ∈ itsOf p j f) {y : Int} (hy : y ∈ goesI (sheetOf p) f it) : (⟨it.s.id, y, 1⟩ : Step) ∈ stepsRaw p j f := by
 unfold stepsRaw
 exact List.mem_cons_of_mem _ (List.mem_flatMap.2 ⟨it, hi, List.mem_map.2 ⟨y, hy, rfl⟩⟩)
theorem proc_exit {p : Pg} (h : chkB p = true) {j : Nat} {f : Pr} (hj : p.procs[j]? = some f) {T : Int → Prop} (hcl : ∀ a b, T a → stR (newWay p j f).real a b → T b) (hgo : ∀ t ∈ flL f.body, T t.id → t.kind ≠ 10) {t : S} (ht : t ∈ flL f.body) (hT : T t.id) : T (-1) := by
 obtain ⟨hm, hs, _, hjm, _⟩ := chk_parts h
 have hld := jump_leads_all hs hjm hj
 obtain ⟨_, _, _, hlen, hsp⟩ := sheet_spec p
 obtain ⟨_, _, hle, hd⟩ := hsp j f hj
 have hits : ∀ (k : Nat) (it : Item), offN p.procs j ≤ k → k < offN p.procs j + cntL f.body → (sheetOf p).l[k]? = some it → it ∈ itsOf p j f := fun k it h1 h2 hk => by
  obtain ⟨it', h3, h4⟩ := sheet_its hj h1 h2
  rw [hk] at h3
  cases h3
  exact h4
 have hn : NoGo (sheetOf p) f (offN p.procs j) (offN p.procs j + cntL f.body) T := by
  refine ⟨fun k it h1 h2 hk hT => ?_, fun k it h1 h2 hk => sheet_id h hj h1 h2 hk, fun k it h1 h2 hk hkd => ?_, fun k it h1 h2 hk => ?_⟩
  ·have hi := hits k it h1 h2 hk
   exact ⟨hgo _ (its_s hi) hT, fun y hy => hcl _ _ hT ⟨⟨it.s.id, y, 1⟩, ((real_spec h hj).2 _).2 (raw_go hi hy), rfl, rfl⟩⟩
  ·have hl := hld it (hits k it h1 h2 hk)
   unfold leadsB at hl
   rw [if_pos hkd] at hl
   intro h0
   rw [h0] at hl
   cases hl
  ·rcases (its_rng (hits k it h1 h2 hk)).2 with h0 | ⟨h3, h4⟩
   ·exact .inl h0
   ·have : (it.loop - 1).toNat < (sheetOf p).l.length := by omega
    exact .inr ⟨_, List.getElem?_eq_getElem this⟩
 obtain ⟨it, hit, hits2⟩ := it_of (p := p) (j := j) ht
 have hat : atP (sheetOf p) (offN p.procs j) (itL j 0 (-1) 0 (offN p.procs j) f.body) := fun i it hi => by
  rw [← hd, List.getElem?_drop, List.getElem?_take] at hi
  split at hi
  ·exact hi
  ·cases hi
 have := escL hn j f.body 0 (-1) 0 (offN p.procs j) hat (Nat.le_refl _) (Nat.le_refl _) ⟨it, hit, by rw [hits2]; exact hT⟩
 rcases this with h1 | h1 | ⟨h1, _⟩
 ·exact h1
 ·exact h1
 ·exact absurd rfl h1
theorem openF_iff {n : Nat} {part : List Int} (hp : ∀ k, k < n → 0 ≤ part.getD k 0 ∧ part.getD k 0 < n) {i : Nat} (hi : i < n) : ∀ (l : List (Int × Int)) {o : List Bool}, o.length = n → (∀ t ∈ l, 0 ≤ t.1 ∧ t.1 < n) →
  ((l.foldl (openS part) o).getD i false = true ↔ o.getD i false = true ∨ ∃ t ∈ l, part.getD t.1.toNat 0 ≠ part.getD t.2.toNat 0 ∧ part.getD t.1.toNat 0 = i)
 | [], o, _, _ => by simp
 | t :: r, o, ho, hr => by
   rw [List.foldl_cons, openF_iff hp hi r (by rw [openS_len]; exact ho) fun u hu => hr u (List.mem_cons_of_mem _ hu)]
   have h1 := hr t List.mem_cons_self
   have h2 := hp t.1.toNat (by omega)
   have key : (openS part o t).getD i false = true ↔ o.getD i false = true ∨ (part.getD t.1.toNat 0 ≠ part.getD t.2.toNat 0 ∧ part.getD t.1.toNat 0 = i) := by
    unfold openS
    split
    ·rename_i he
     constructor
     ·exact .inl
     ·rintro (h3 | ⟨h3, _⟩)
      ·exact h3
      ·exact absurd he h3
    ·rename_i he
     rw [getD_set (by omega)]
     split
     ·rename_i h3
      constructor
      ·intro _
       exact .inr ⟨he, by omega⟩
      ·intro _
       rfl
     ·rename_i h3
      constructor
      ·exact .inl
      ·rintro (h4 | ⟨_, h4⟩)
       ·exact h4
       ·exact absurd (by omega) h3
   rw [key, or_assoc]
   constructor
   ·rintro (h3 | ⟨h3, h4⟩ | ⟨u, hu, h3⟩)
    ·exact .inl h3
    ·exact .inr ⟨t, List.mem_cons_self, h3, h4⟩
    ·exact .inr ⟨u, List.mem_cons_of_mem _ hu, h3⟩
   ·rintro (h3 | ⟨u, hu, h3⟩)
    ·exact .inl h3
    ·rcases List.mem_cons.1 hu with rfl | hu
     ·exact .inr (.inl h3)
     ·exact .inr (.inr ⟨u, hu, h3⟩)
theorem open_iff {n : Nat} {part : List Int} (hn : 0 < n) (hp : ∀ k, k < n → 0 ≤ part.getD k 0 ∧ part.getD k 0 < n) {i : Nat} (hi : i < n) {l : List (Int × Int)} (hr : ∀ t ∈ l, 0 ≤ t.1 ∧ t.1 < n) :
  (openB n part l).getD i false = true ↔ part.getD 0 0 = i ∨ part.getD (n - 1) 0 = i ∨ ∃ t ∈ l, part.getD t.1.toNat 0 ≠ part.getD t.2.toNat 0 ∧ part.getD t.1.toNat 0 = i := by
 have h0 := hp 0 hn
 have h1 := hp (n - 1) (by omega)
 unfold openB
 rw [openF_iff hp hi l (by simp [open0]) hr]
 have key : (open0 n part).getD i false = true ↔ part.getD 0 0 = i ∨ part.getD (n - 1) 0 = i := by
  unfold open0
  rw [getD_set (by rw [List.length_set, List.length_replicate]; omega), getD_set (by rw [List.length_replicate]; omega)]
  split
  ·exact ⟨fun _ => .inr (by omega), fun _ => rfl⟩
  ·split
   ·exact ⟨fun _ => .inl (by omega), fun _ => rfl⟩
   ·have : (List.replicate n false).getD i false = false := by
     rw [List.getD_eq_getElem?_getD, List.getElem?_replicate]; split <;> rfl
    rw [this]
    constructor
    ·intro h; cases h
    ·rintro (h | h) <;> omega
 rw [key, or_assoc]
end Go.Ab
