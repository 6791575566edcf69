/- A row of the call's own that a struct holds: laid by with it. -/
import Derived.Test.YtngohbblmlokoaaGreatAugF9
import Derived.Test.YtngohbblmlokoaaGreatAugF10
set_option linter.unusedSimpArgs false
set_option linter.unusedVariables false
namespace Go.Ab
open Go.Proofs
/-- Slots: what is killed; one of them an aggregate, all of it pure. -/
def aggSK (k t : Nat) (cs : List AV) : List (Nat × LV) → (List (Nat × LV) → Prop) → Prop
  | [], K => K []
  | (j, l) :: r, K => bif Nat.beq j t then aggSK k t cs r fun r => K ((j, .p (.agg cs)) :: r) else forceLV (l.kill k) fun l => aggSK k t cs r fun r => K ((j, l) :: r)
theorem aggSK_spec {k t : Nat} {cs : List AV} : ∀ {sl : List (Nat × LV)} {K : List (Nat × LV) → Prop}, aggSK k t cs sl K → ∃ sl', K sl' ∧ ∀ i, getS sl' i = (getS sl i).kill k ∨ (i = t ∧ getS sl' i = .p (.agg cs))
  | [], _, h => ⟨[], h, fun _ => .inl rfl⟩
  | (j, l) :: r, K, h => by
    unfold aggSK at h
    cases hb : Nat.beq j t with
    | true =>
      rw [hb, cond_true] at h
      have hj : j = t := Nat.eq_of_beq_eq_true hb
      obtain ⟨sl', hK, hs⟩ := aggSK_spec h
      refine ⟨_, hK, fun i => ?_⟩
      simp only [getS]
      cases hi : j == i with
      | true => exact .inr ⟨by rw [← hj]; exact (by simpa using hi : j = i).symm, rfl⟩
      | false => exact hs i
    | false =>
      rw [hb, cond_false, forceLV_eq] at h
      obtain ⟨sl', hK, hs⟩ := aggSK_spec h
      refine ⟨_, hK, fun i => ?_⟩
      simp only [getS]
      cases hi : j == i with
      | true => exact .inl rfl
      | false => exact hs i
/-- A row laid by within an aggregate. -/
theorem Le.rowAgg {N : Nat} {s : St} {k : Nat} {e : TypeId} {sz : Nat} {es : List AV} {t : Nat} {ls : List LV} {cs : List AV} (hg : getH s.H k = some (.own e sz es)) (ht : getS s.sl t = .agg ls) (hln : ls.length = cs.length)
    (hcs : ∀ (j : Nat) (l : LV) (c : AV), ls[j]? = some l → cs[j]? = some c → (∃ a, l = .p a ∧ Sub a c) ∨ (∃ n, l = .hd k 0 n ∧ n = es.length ∧ c = .sl es)) {K : St → Prop} (h : aggSK k t cs s.sl fun sl => rowHK k s.H fun H => K ⟨sl, H⟩) : ∃ s', K s' ∧ Le N s s' := by
  obtain ⟨sl, h, hsl⟩ := aggSK_spec h
  obtain ⟨H, h, hsub, hH⟩ := rowHK_spec h
  have agg : ∀ {σ τ : Mem} {β : Lab} {v : Value}, σ.le τ → RepL σ β (.agg ls) v → (∀ v, RepL σ β (.hd k 0 es.length) v → Rep τ (.sl es) v) → Rep τ (.agg cs) v := fun {σ τ β v} hle hv hrow => by
    cases hv with
    | agg _ vs u hn hc hrr =>
      refine Rep.agg cs vs u (by rw [hn, hln]) (fun j c hj => ?_) fun j c hj => ?_
      · have hlt : j < ls.length := by rw [hln]; exact (List.getElem?_eq_some_iff.1 hj).1
        exact hc j _ (List.getElem?_eq_getElem hlt)
      · have hlt : j < ls.length := by rw [hln]; exact (List.getElem?_eq_some_iff.1 hj).1
        have h1 := hrr j _ (List.getElem?_eq_getElem hlt)
        rcases hcs j _ c (List.getElem?_eq_getElem hlt) hj with ⟨a, h2, h3⟩ | ⟨n, h2, rfl, rfl⟩
        · rw [h2] at h1
          cases h1 with
          | p hp => exact h3 _ _ (hp.mono hle)
        · rw [h2] at h1
          exact hrow _ h1
  refine ⟨_, h, fun σ β a w hr => ?_⟩
  rcases own_holds.1 (hr.heap.chunks k _ (getH_mem hg)) with ⟨hb0, rfl⟩ | ⟨i, vs, hi, hisz, hh, hn, hle', hmax, hE⟩
  · refine ⟨σ, β, ⟨hr.size, hr.defers, fun j => ?_, ⟨hr.heap.mem, fun j c' hj => ?_, hsub.nodup hr.heap.nodup, fun j hj => hr.heap.apart j (hsub.subset hj), fun j hj j' hj' => hr.heap.inj j (hsub.subset hj) j' (hsub.subset hj')⟩⟩, Mem.le_refl σ, Frm.refl _ _, fun _ h0 h1 => absurd h0 h1, fun b ⟨j, hj, r⟩ => .inl ⟨j, hsub.subset hj, r⟩, fun _ _ _ => rfl⟩
    · show RepL σ β (getS sl j) _
      have hv := hr.slots j
      rcases hsl j with he | ⟨rfl, h2⟩
      · rw [he]; exact hv.kill k
      · rw [h2]
        rw [ht] at hv
        refine .p (agg (Mem.le_refl σ) hv fun v hv => ?_)
        rcases hv.hdI with ⟨_, _, _, he⟩ | ⟨i, _, hk, _⟩
        · rw [he]; exact .nilsl
        · rw [hb0] at hk; cases hk
    · obtain ⟨_, c, h2, rfl⟩ := hH j c' hj
      exact (hr.heap.chunks j c h2).kill k
  · refine hr.lay hi (getH_label hg) hh (fun τ hle hτ j v hv => ?_) (fun τ hle hτ j c' hj => ?_) (hsub.nodup hr.heap.nodup)
    · show RepL τ β (getS sl j) v
      rcases hsl j with he | ⟨rfl, h2⟩
      · rw [he]; exact (hv.kill k).mono hle
      · rw [h2]
        rw [ht] at hv
        refine .p (agg hle hv fun v hv => ?_)
        rcases hv.hdI with ⟨hk, _⟩ | ⟨i', oo, hk, hl, ho, rfl⟩
        · rw [hi] at hk; cases hk
        · rw [hi] at hk; cases hk
          have hoo : oo = 0 := by
            rcases ho with ho | ho
            · simpa using ho
            · omega
          subst hoo
          obtain ⟨u, hu⟩ : ∃ u : Nat → Nat → Value, ∀ (m : Nat) (x : AV) (j : Nat) (c : AV), es[m]? = some x → x.cells[j]? = some c → vs[m * sz + j]? = some (u m j) ∧ Rep σ c (u m j) := by
            refine ⟨fun m j => (vs[m * sz + j]?).getD undef, fun m x j c hx hj => ?_⟩
            obtain ⟨v, h1, h2⟩ := hE.rep m x j c hx hj
            rw [List.getElem?_take] at h1
            split at h1
            · have h1' : vs[m * sz + j]? = some v := by simpa using h1
              exact ⟨by simp [h1'], by simpa [h1'] using h2⟩
            · cases h1
          exact .sl es i.blk 0 _ sz vs u hτ (by omega) (by omega) hE.size (fun m x j c hx hj => by simpa using (hu m x j c hx hj).1) fun m x j c hx hj => (hu m x j c hx hj).2.mono hle
    · obtain ⟨h1, c, h2, rfl⟩ := hH j c' hj
      exact ⟨h1, c, h2, fun hold => (hold.kill k).mono hle fun _ _ _ _ => rfl⟩
theorem OpK.layAgg {P : Program} {T : Tab} {N : Nat} {o : Oper} {K : St → Prop} {s : St} (hT : TabOK P T) {k : Nat} {e : TypeId} {sz : Nat} {es : List AV} (t : Nat) {ls : List LV} (cs : List AV) (hg : getH s.H k = some (.own e sz es)) (ht : getS s.sl t = .agg ls) (hln : ls.length = cs.length)
    (hcs : ∀ (j : Nat) (l : LV) (c : AV), ls[j]? = some l → cs[j]? = some c → (∃ a, l = .p a ∧ Sub a c) ∨ (∃ n, l = .hd k 0 n ∧ n = es.length ∧ c = .sl es)) (h : aggSK k t cs s.sl fun sl => rowHK k s.H fun H => opW P T N ⟨sl, H⟩ o K) : OpK P N s o K := ⟨fun σ β a w hr Q => by
  obtain ⟨s1, h1, hle⟩ := Le.rowAgg (N := N) hg ht hln hcs (K := fun s' => opW P T N s' o K) h
  obtain ⟨σ1, β1, hr1, hl1⟩ := hle σ β a w hr
  exact Oper.wp_mono (fun a' w' ⟨σ', β', s2, hK, hr', hl⟩ => ⟨σ', β', s2, hK, hr', hl1.trans hl⟩) (opW_sound hT h1 hr1 Q)⟩
end Go.Ab
namespace Go.Ab
open Go.Proofs
/-- Two names that may be changed for each other. -/
structure Ren (a b : Str) : Prop where
  na : isName a = true
  nb : isName b = true
  ma : a ≠ mainS
  mb : b ≠ mainS
theorem name_ne {s : Str} (h : isName s = true) : s ≠ [] := fun he => by
  subst he
  unfold isName at h
  rw [dif_neg (by simp)] at h
  cases h
theorem Ren.nil {a b : Str} (h : Ren a b) : otherS a b [] = [] := by
  unfold otherS
  rw [if_neg (by simpa using fun e => name_ne h.na e), if_neg (by simpa using fun e => name_ne h.nb e)]
theorem Ren.name {a b : Str} (h : Ren a b) (s : Str) : isName (otherS a b s) = isName s := by
  unfold otherS
  by_cases h1 : s = a
  · subst h1
    simp [h.na, h.nb]
  · rw [if_neg (by simpa using h1)]
    by_cases h2 : s = b
    · subst h2
      simp [h.na, h.nb]
    · rw [if_neg (by simpa using h2)]
end Go.Ab
namespace Go.Ab
open Go.Proofs
end Go.Ab
