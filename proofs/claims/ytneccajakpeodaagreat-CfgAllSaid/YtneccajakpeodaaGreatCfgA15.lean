/- What can be come to: the reckoned answer has what ways lead to, and no more. -/
import Derived.Laws.StructEq
import Derived.ChangeKeysEq
import Derived.Test.YtneccajakpeodaaGreatCfgA8
import Derived.Test.YtneccajakpeodaaGreatCfgA10
import Derived.Test.YtneccajakpeodaaGreatCfgA13
import Derived.Test.YtneccajakpeodaaGreatCfgA14
set_option linter.unusedSimpArgs false
set_option linter.unusedVariables false
set_option maxRecDepth 100000
set_option maxHeartbeats 16000000
namespace Go.Ab
open Go.Proofs
inductive Rch {α:Type} (R:α→α→Prop) (a:α):α→Prop
 | refl:Rch R a a
 | tail {b c:α} (h:Rch R a b) (hr:R b c):Rch R a c
theorem Rch.closed {α:Type} {R:α→α→Prop} {S:α→Prop} (hS : ∀ x y,S x→R x y→S y) {a b:α} (ha:S a) (h:Rch R a b):S b:=by
 induction h with
 | refl=>exact ha
 | tail _ hr ih=>exact hS _ _ ih hr
structure WkM (n:Nat) (st:List Bool×List Int):Prop where
 inv:wkInv n st
 mem : ∀ x,x∈st.2↔(0≤x∧x<n)∧st.1.getD x.toNat false=true
theorem WkM.start (n:Nat):WkM n (List.replicate n false,[]):=⟨PC n,fun x=>by
 simp only [List.not_mem_nil,false_iff,not_and]
 intro _
 rw [List.getD_eq_getElem?_getD,List.getElem?_replicate]
 split<;>simp⟩
theorem WkM.see {n:Nat} {st:List Bool×List Int} (h:WkM n st) {b:Int} (hb:0≤b∧b<n):WkM n (BC st b)∧(∀ x,x∈(BC st b).2↔x∈st.2∨x=b)∧st.2 <+: (BC st b).2:=by
 have hi:=MW h.inv hb
 cases hs:st.1.getD b.toNat false with
 | true =>
   have e:BC st b=st:=by unfold BC;rw [hs];rfl
   rw [e]
   refine ⟨h,fun x=>⟨.inl,fun hx => ?_⟩,List.prefix_refl _⟩
   rcases hx with hx|rfl
   ·exact hx
   ·exact (h.mem _).2 ⟨hb,hs⟩
 | false =>
   have e:BC st b=(st.1.set b.toNat true,st.2++[b]):=by unfold BC;rw [hs];rfl
   rw [e] at hi ⊢
   have hlen:=h.inv.1
   refine ⟨⟨hi,fun x => ?_⟩,fun x=>by simp,List.prefix_append _ _⟩
   rw [List.mem_append,List.mem_singleton,h.mem]
   simp only [List.getD_eq_getElem?_getD,List.getElem?_set]
   by_cases hx:x=b
   ·subst hx
    rw [if_pos rfl,if_pos (by omega)]
    simp [hb]
   ·constructor
    ·rintro (⟨h1,h2⟩|h2)
     ·refine ⟨h1,?_⟩
      rw [if_neg (by omega)]
      exact h2
     ·exact absurd h2 hx
    ·rintro ⟨h1,h2⟩
     rw [if_neg (by omega)] at h2
     exact .inl ⟨h1,h2⟩
theorem WkM.fold {n:Nat} : ∀ (l:List Int) {st:List Bool×List Int},WkM n st→(∀ b∈l,0≤b∧b<n)→WkM n (l.foldl BC st)∧(∀ x,x∈(l.foldl BC st).2↔x∈st.2∨x∈l)∧st.2 <+: (l.foldl BC st).2
 | [],st,h,_=>⟨h,fun x=>by simp,List.prefix_refl _⟩
 | b::r,st,h,hl=>by
   obtain ⟨h1,h2,h3⟩:=h.see (hl b List.mem_cons_self)
   obtain ⟨h4,h5,h6⟩:=WkM.fold r h1 fun c hc=>hl c (List.mem_cons_of_mem _ hc)
   refine ⟨h4,fun x => ?_,h3.trans h6⟩
   rw [List.foldl_cons,h5,h2,List.mem_cons,or_assoc]
def z3t (rows:List (List Int)) (x y:Int):Prop:=y∈rows.getD x.toNat []
theorem z9t {n:Nat} {rows:List (List Int)} (hr:WN n rows) {x y:Int} (h:z3t rows x y):0≤y∧y<n:=by
 unfold z3t at h
 rw [List.getD_eq_getElem?_getD] at h
 cases hq:rows[x.toNat]? with
 | none=>rw [hq] at h;simp at h
 | some r=>rw [hq] at h;exact hr.2 r (List.mem_of_getElem? hq) y h
theorem q1u {α:Type} {l m:List α} (h:l <+: m) {i:Nat} {a:α} (ha:l[i]? = some a):m[i]? = some a:=by
 obtain ⟨t,rfl⟩:=h
 rw [List.getElem?_append_left (List.getElem?_eq_some_iff.1 ha).1]
 exact ha
theorem x3q {n:Nat} {rows:List (List Int)} (hr:WN n rows) : ∀ (k i:Nat) {st:List Bool×List Int},WkM n st→i≤st.2.length→n+1≤k+i→(∀ (m:Nat) (a:Int),m<i→st.2[m]? = some a → ∀ b,z3t rows a b→b∈st.2) →
  WkM n (YR rows k i st)∧(∀ x∈st.2,x∈(YR rows k i st).2)∧(∀ x∈(YR rows k i st).2,∀ b,z3t rows x b→b∈(YR rows k i st).2)∧(∀ S:Int→Prop,(∀ x∈st.2,S x)→(∀ x b,S x→z3t rows x b→S b) → ∀ x∈(YR rows k i st).2,S x)
 | 0,i,st,h,hi,hk,_=>by
   have:=MO h.inv
   omega
 | k+1,i,st,h,hi,hk,hc=>by
   rw [YR]
   split
   ·rename_i a ha
    have hlt:=(List.getElem?_eq_some_iff.1 ha).1
    have hrow : ∀ b∈rows.getD a.toNat [],0≤b∧b<n:=fun b hb=>z9t hr hb
    obtain ⟨h1,h2,h3⟩:=h.fold (rows.getD a.toNat []) hrow
    obtain ⟨h4,h5,h6,h7⟩:=x3q hr k (i+1) h1 (Nat.le_trans hlt h3.length_le) (by omega) fun m c hm hmc b hb=>by
     rw [h2]
     rcases Nat.lt_or_ge m i with hmi|hmi
     ·have hml:m<st.2.length:=by omega
      have hmc':st.2[m]? = some c:=by
       have:=q1u h3 (List.getElem?_eq_getElem hml)
       rw [List.getElem?_eq_getElem hml,← this,hmc]
      exact .inl (hc m c hmi hmc' b hb)
     ·obtain rfl:m=i:=by omega
      have:=q1u h3 ha
      rw [this] at hmc
      cases hmc
      exact .inr hb
    refine ⟨h4,fun x hx=>h5 x ((h2 x).2 (.inl hx)),h6,fun S hS hcl=>h7 S (fun x hx => ?_) hcl⟩
    rcases (h2 x).1 hx with hx|hx
    ·exact hS x hx
    ·exact hcl a x (hS a (List.mem_of_getElem? ha)) hx
   ·rename_i ha
    have hlen:st.2.length≤i:=List.getElem?_eq_none_iff.1 ha
    refine ⟨h,fun x hx=>hx,fun x hx b hb => ?_,fun S hS _=>hS⟩
    obtain ⟨m,hm⟩:=List.mem_iff_getElem?.1 hx
    exact hc m x (by have:=(List.getElem?_eq_some_iff.1 hm).1;omega) hm b hb
theorem q0r {n:Nat} : ∀ (l:List Int) {st:List Bool×List Int},WkM n st→WkM n (l.foldl (fun st a=>bif WY n a then BC st a else st) st) ∧ ∀ x,x∈(l.foldl (fun st a=>bif WY n a then BC st a else st) st).2↔x∈st.2∨(x∈l∧WY n x=true)
 | [],st,h=>⟨h,fun x=>by simp⟩
 | a::r,st,h=>by
   rw [List.foldl_cons]
   cases hb:WY n a with
   | true =>
     obtain ⟨h1,h2,_⟩:=h.see (ZN hb)
     obtain ⟨h3,h4⟩:=q0r r h1
     rw [cond_true]
     refine ⟨h3,fun x => ?_⟩
     rw [h4,h2,List.mem_cons]
     constructor
     ·rintro ((h5|rfl)|⟨h5,h6⟩)
      ·exact .inl h5
      ·exact .inr ⟨.inl rfl,hb⟩
      ·exact .inr ⟨.inr h5,h6⟩
     ·rintro (h5|⟨rfl|h5,h6⟩)
      ·exact .inl (.inl h5)
      ·exact .inl (.inr rfl)
      ·exact .inr ⟨h5,h6⟩
   | false =>
     obtain ⟨h3,h4⟩:=q0r r h
     rw [cond_false]
     refine ⟨h3,fun x => ?_⟩
     rw [h4,List.mem_cons]
     constructor
     ·rintro (h5|⟨h5,h6⟩)
      ·exact .inl h5
      ·exact .inr ⟨.inr h5,h6⟩
     ·rintro (h5|⟨rfl|h5,h6⟩)
      ·exact .inl h5
      ·rw [hb] at h6;cases h6
      ·exact .inr ⟨h5,h6⟩
theorem x6v : ∀ (l:List Bool) (i:Nat) (y:Int),y∈q0z i l ↔ ∃ k:Nat,l[k]? = some true∧y=((i+k:Nat):Int)
 | [],i,y=>by simp [q0z]
 | b::r,i,y=>by
   have ih:=x6v r (i+1) y
   have key:(∃ k:Nat,(b::r)[k]? = some true∧y=((i+k:Nat):Int))↔(b=true∧y=(i:Int)) ∨ ∃ k:Nat,r[k]? = some true∧y=((i+1+k:Nat):Int):=by
    constructor
    ·rintro ⟨k,h1,h2⟩
     cases k with
     | zero=>simp at h1;exact .inl ⟨h1,by simpa using h2⟩
     | succ k=>exact .inr ⟨k,by simpa using h1,by rw [h2];omega⟩
    ·rintro (⟨h1,h2⟩|⟨k,h1,h2⟩)
     ·exact ⟨0,by simp [h1],by simpa using h2⟩
     ·exact ⟨k+1,by simpa using h1,by rw [h2];omega⟩
   rw [key,← ih,q0z]
   cases b<;>simp
theorem z1j {n:Nat} {rows:List (List Int)} (hr:WN n rows) (l:List Int) (y:Int):y∈q0z 0 (YQ rows l) ↔ ∃ a∈l,WY n a=true∧Rch (z3t rows) a y:=by
 obtain ⟨h1,h2⟩:=q0r (n:=n) l (WkM.start n)
 obtain ⟨h3,h4,h5,h6⟩:=x3q hr (rows.length+1) 0 (st:=FG rows.length l) (by rw [hr.1];exact h1) (Nat.zero_le _) (by rw [hr.1];omega) (fun m a hm=>by omega)
 have hst : ∀ x,x∈(FG rows.length l).2↔x∈l∧WY n x=true:=fun x=>by
  rw [hr.1]
  unfold FG
  rw [h2]
  simp
 have hmem : ∀ y,y∈q0z 0 (YQ rows l)↔y∈(YR rows (rows.length+1) 0 (FG rows.length l)).2:=fun y=>by
  rw [x6v,h3.mem]
  show (∃ k:Nat,(YR rows (rows.length+1) 0 (FG rows.length l)).1[k]? = some true∧_)↔_
  constructor
  ·rintro ⟨k,h7,h8⟩
   have hlt:=(List.getElem?_eq_some_iff.1 h7).1
   rw [h3.inv.1] at hlt
   refine ⟨by omega,?_⟩
   rw [h8,List.getD_eq_getElem?_getD]
   simp [h7]
  ·rintro ⟨h7,h8⟩
   have hlt:y.toNat<(YR rows (rows.length+1) 0 (FG rows.length l)).1.length:=by rw [h3.inv.1];omega
   refine ⟨y.toNat,?_,by omega⟩
   rw [List.getD_eq_getElem?_getD,List.getElem?_eq_getElem hlt] at h8
   rw [List.getElem?_eq_getElem hlt]
   simpa using h8
 rw [hmem]
 constructor
 ·intro hy
  refine h6 (fun y => ∃ a∈l,WY n a=true∧Rch (z3t rows) a y) (fun x hx => ?_) (fun x b ⟨a,h7,h8,h9⟩ hb=>⟨a,h7,h8,.tail h9 hb⟩) y hy
  obtain ⟨h7,h8⟩:=(hst x).1 hx
  exact ⟨x,h7,h8,.refl⟩
 ·rintro ⟨a,h7,h8,h9⟩
  exact h9.closed (S:=fun y=>y∈(YR rows (rows.length+1) 0 (FG rows.length l)).2) (fun x b hx hb=>h5 x hx b hb) (h4 a ((hst a).2 ⟨h7,h8⟩))
open Go.Proofs
theorem z4i {l:List Int} {k:Nat} {b x:Int}:x∈q1b l k b↔x∈l∨x=b:=by
 unfold q1b
 rw [List.mem_append,List.mem_cons]
 have:x∈l↔x∈l.take k∨x∈l.drop k:=by rw [← List.mem_append,List.take_append_drop]
 rw [this]
 constructor
 ·rintro (h|h|h)
  ·exact .inl (.inl h)
  ·exact .inr h
  ·exact .inl (.inr h)
 ·rintro ((h|h)|h)
  ·exact .inl h
  ·exact .inr (.inr h)
  ·exact .inr (.inl h)
theorem z5o {n:Nat} {g:List (List Int)×List (List Int)} (hl:g.1.length=n) (e:Int×Int) {x y:Int} (hx:0≤x∧x<n):y∈(x4g n g e).1.getD x.toNat []↔y∈g.1.getD x.toNat []∨((x,y)=e∧WY n y=true):=by
 rw [q7i]
 cases hc:(WY n e.1&&WY n e.2 && !(g.1.getD e.1.toNat []).contains e.2) with
 | true =>
   simp only [Bool.and_eq_true,Bool.not_eq_true'] at hc
   obtain ⟨⟨h1,h2⟩,_⟩:=hc
   have h3:=ZN h1
   rw [cond_true]
   unfold x2l
   rw [List.getD_eq_getElem?_getD,List.getElem?_set]
   by_cases he:e.1.toNat=x.toNat
   ·rw [if_pos he,if_pos (by omega)]
    simp only [Option.getD_some]
    rw [z4i,← he]
    have:x=e.1:=by omega
    constructor
    ·rintro (h|h)
     ·exact .inl h
     ·exact .inr ⟨by rw [this,h],by rw [h];exact h2⟩
    ·rintro (h|⟨h,_⟩)
     ·exact .inl h
     ·exact .inr (by rw [← h])
   ·rw [if_neg he,← List.getD_eq_getElem?_getD]
    constructor
    ·exact .inl
    ·rintro (h|⟨h,_⟩)
     ·exact h
     ·exact absurd (by rw [← h]) he
 | false =>
   rw [cond_false]
   constructor
   ·exact .inl
   ·rintro (h|⟨rfl,h⟩)
    ·exact h
    ·have h1:WY n x=true:=by unfold WY;simp [hx]
     simp only [h1,h,Bool.true_and,Bool.not_eq_false'] at hc
     simpa using hc
theorem z4s {n:Nat} {g:List (List Int)×List (List Int)} (hl:g.1.length=n) (e:Int×Int):(x4g n g e).1.length=n:=by
 rw [q7i]
 cases (WY n e.1&&WY n e.2 && !(g.1.getD e.1.toNat []).contains e.2) with
 | true=>rw [cond_true];unfold x2l;rw [List.length_set];exact hl
 | false=>exact hl
theorem x1d {n:Nat} {x y:Int} (hx:0≤x∧x<n) : ∀ (l:List (Int×Int)) {g:List (List Int)×List (List Int)},g.1.length=n→(y∈(l.foldl (x4g n) g).1.getD x.toNat []↔y∈g.1.getD x.toNat []∨((x,y)∈l∧WY n y=true))
 | [],g,_=>by simp
 | e::r,g,h=>by
   rw [List.foldl_cons,x1d hx r (z4s h e),z5o h e hx,List.mem_cons]
   constructor
   ·rintro ((h1|⟨h1,h2⟩)|⟨h1,h2⟩)
    ·exact .inl h1
    ·exact .inr ⟨.inl h1,h2⟩
    ·exact .inr ⟨.inr h1,h2⟩
   ·rintro (h1|⟨h1|h1,h2⟩)
    ·exact .inl (.inl h1)
    ·exact .inl (.inr ⟨h1,h2⟩)
    ·exact .inr ⟨h1,h2⟩
theorem q7s {n:Nat} {l:List (Int×Int)} {x y:Int} (hx:0≤x∧x<n):z3t (XJ n l).1 x y↔(x,y)∈l∧WY n y=true:=by
 unfold z3t XJ
 rw [x1d hx l (by simp)]
 have:(List.replicate n ([]:List Int)).getD x.toNat []=[]:=by
  rw [List.getD_eq_getElem?_getD,List.getElem?_replicate]
  split<;>rfl
 rw [this]
 simp
theorem x3i {n:Nat} {l:List (Int×Int)} (h0:0<n) (y:Int):y∈q0z 0 (YQ (XJ n l).1 [0])↔Rch (fun a b=>(a,b)∈l∧WY n b=true) 0 y:=by
 rw [z1j (q3k n l).1]
 have hs:WY n 0=true:=by unfold WY;simp;omega
 constructor
 ·rintro ⟨a,ha,_,h⟩
  obtain rfl:a=0:=by simpa using ha
  exact (h.closed (S:=fun x:Int=>(0≤x∧x<n)∧Rch (fun a b=>(a,b)∈l∧WY n b=true) 0 x) (fun x y ⟨h1,h2⟩ h3=>by
   have h4:=(q7s h1).1 h3
   exact ⟨ZN h4.2,.tail h2 h4⟩) ⟨⟨by omega,by omega⟩,.refl⟩).2
 ·intro h
  refine ⟨0,by simp,hs,?_⟩
  exact (h.closed (S:=fun x:Int=>(0≤x∧x<n)∧Rch (z3t (XJ n l).1) 0 x) (fun x y ⟨h1,h2⟩ h3=>⟨ZN h3.2,.tail h2 ((q7s h1).2 h3)⟩) ⟨⟨by omega,by omega⟩,.refl⟩).2
def stR (F:List Step) (a b:Int):Prop := ∃ s∈F,s.src=a∧s.dst=b
def plP (p:Pg) (j:Nat) (f:Pr) (x:Int):Prop:=x=0∨x = -1∨((QT p.procs j:Int)+1≤x∧x≤(QT p.procs j+QY f.body:Nat))
def ixI (p:Pg) (j:Nat) (f:Pr) (x:Int):Int:=GS (loI p j) (hiI p j f) (QY f.body+2:Nat) x
theorem z6p {p:Pg} {j:Nat} {f:Pr} {x:Int} (h:plP p j f x):0≤ixI p j f x∧ixI p j f x<(QY f.body+2:Nat):=by
 unfold ixI GS loI hiI
 unfold plP at h
 (repeat' split)<;>omega
theorem z6b {p:Pg} {j:Nat} {f:Pr} {x y:Int} (hx:plP p j f x) (hy:plP p j f y) (h:ixI p j f x=ixI p j f y):x=y:=by
 unfold ixI GS loI hiI at h
 unfold plP at hx hy
 (repeat' split at h)<;>omega
theorem q6t {p:Pg} {j:Nat} {f:Pr} {F:List Step} (hF : ∀ s∈F,plP p j f s.src∧plP p j f s.dst) {y:Int} (hy:plP p j f y) :
  ixI p j f y∈q0z 0 (YQ (XJ (QY f.body+2) (F.map (ixP p j f (QY f.body+2:Nat)))).1 [0])↔Rch (stR F) 0 y:=by
 rw [x3i (by omega)]
 have e0:ixI p j f 0=0:=by unfold ixI GS;rw [if_pos rfl]
 have p0:plP p j f 0 := .inl rfl
 constructor
 ·intro h
  obtain ⟨z,h1,h2,h3⟩:=h.closed (S:=fun i => ∃ z,plP p j f z∧ixI p j f z=i∧Rch (stR F) 0 z) (by
   rintro a b ⟨z,h1,h2,h3⟩ ⟨h4,_⟩
   obtain ⟨s,hs,he⟩:=List.mem_map.1 h4
   obtain ⟨h5,h6⟩:=hF s hs
   have e1:ixI p j f s.src=a:=congrArg Prod.fst he
   have e2:ixI p j f s.dst=b:=congrArg Prod.snd he
   have e3:s.src=z:=z6b h5 h1 (by rw [e1,h2])
   exact ⟨s.dst,h6,e2,.tail h3 ⟨s,hs,e3,rfl⟩⟩) ⟨0,p0,e0,.refl⟩
  rw [← z6b h1 hy h2]
  exact h3
 ·intro h
  have:=h.closed (S:=fun z=>plP p j f z∧Rch (fun a b=>(a,b)∈F.map (ixP p j f (QY f.body+2:Nat))∧WY (QY f.body+2) b=true) 0 (ixI p j f z)) (by
   rintro a b ⟨h1,h2⟩ ⟨s,hs,rfl,rfl⟩
   obtain ⟨h5,h6⟩:=hF s hs
   refine ⟨h6,.tail h2 ⟨List.mem_map.2 ⟨s,hs,rfl⟩,?_⟩⟩
   have:=z6p h6
   unfold WY
   simp only [Bool.and_eq_true,decide_eq_true_eq]
   exact this) ⟨p0,by rw [e0];exact .refl⟩
  exact this.2
theorem NX {p:Pg} (h:VV p=true) {j:Nat} {f:Pr} (hj:p.procs[j]? = some f) : ∀ s∈(QF p j f).real,plP p j f s.src∧plP p j f s.dst:=fun s hs=>by
 obtain ⟨_,h2⟩:=q4q h hj
 obtain ⟨_,h3,_⟩:=NK h hj
 obtain ⟨h4,h5⟩:=h3 s ((h2 s).1 hs)
 unfold okI at h5
 unfold plP
 omega
def w1i (p:Pg) (k:Nat) (f:Pr) (E:List Str):Prop:=Rch (stR ((QF p k f).real.filter (q2k p E))) 0 (-1)
theorem z0p {p:Pg} (h:VV p=true) {k:Nat} {f:Pr} (hj:p.procs[k]? = some f) (E:List Str):HN (QF p k f) f E=true↔w1i p k f E:=by
 unfold w1i
 rw [← q6t (p:=p) (j:=k) (f:=f) (fun s hs=>NX h hj s (List.mem_filter.1 hs).1) (y := -1) (.inr (.inl rfl))]
 unfold HN
 rw [List.any_eq_true]
 have e1:ixI p k f (-1)=((QY f.body+2:Nat):Int)-1:=by unfold ixI GS;rw [if_neg (by omega),if_pos rfl]
 rw [e1]
 constructor
 ·rintro ⟨x,h1,h2⟩
  have h2:((QY f.body+2:Nat):Int)-1=x:=of_decide_eq_true h2
  rw [h2]
  exact h1
 ·intro h1
  exact ⟨_,h1,decide_eq_true rfl⟩
def w2m (E:List Str) (s:Str):Bool:=E.any fun x=>s==x
theorem z5g {E:List Str} {s:Str}:w2m E s=true↔s∈E:=by
 unfold w2m
 rw [List.any_eq_true]
 constructor
 ·rintro ⟨x,h1,h2⟩
  have:s=x:=by simpa using h2
  rw [this]
  exact h1
 ·intro h
  exact ⟨s,h,by simp⟩
theorem x7m {l:List Str} (h:XZ l=false):l.Nodup:=by
 unfold XZ at h
 rw [List.any_eq_false] at h
 unfold List.Nodup
 rw [List.pairwise_iff_getElem]
 intro i j hi hj hij he
 have h1:=h j (List.mem_range.2 hj)
 apply h1
 rw [List.any_eq_true]
 refine ⟨l[i],?_,?_⟩
 ·exact List.mem_iff_getElem.2 ⟨i,by simp;omega,by simp⟩
 ·rw [List.getElem?_eq_getElem hj]
  simp [he]
theorem x4i {p:Pg} (h:VV p=true):(procsN p).Nodup:=by
 obtain ⟨hm,hs,_⟩:=QE h
 unfold QR at hs
 rw [hm,cond_true] at hs
 cases hb:ZX p with
 | true=>rw [hb] at hs;cases hs
 | false =>
   unfold ZX at hb
   simp only [Bool.or_eq_false_iff] at hb
   exact x7m hb.2.1
open Go.Proofs
open Go.Proofs
open Go.Proofs
open Go.Proofs
open Go.Proofs
open Go.Proofs
open Go.Proofs
open Go.Proofs
open Go.Proofs
open Go.Proofs
open Go.Proofs
structure MayF (p:Pg):Prop where
 gl:p.globals.length≤16
 pl:p.procs.length≤16
 gn:namesB p.globals=true
 pr : ∀ f∈p.procs,f.params.length≤8∧f.vars.length≤16∧isName f.name=true∧namesB f.vars=true∧namesB f.fin=true∧(f.params.all fun a=>isName a.name)=true
 len:(allR p).length≤200
 its : ∀ (k:Nat) (x:RI),(allR p)[k]? = some x→x.s.id=(k:Int)+1∧x.deep≤12∧oneOk x.s=true
theorem FC {p:Pg} (h:WM p=true):MayF p:=by
 obtain ⟨h1,h2,h3,h4⟩:=q0g h
 refine ⟨h1,h2,h3,fun f hf=>HH.1 (h4 f hf).1,?_,fun k x hk => ?_⟩
 ·rw [LO h,MF]
  exact (XS h).2.2
 ·rw [LO h] at hk
  exact ⟨z5z h hk,z0h h x (List.mem_of_getElem? hk)⟩
def Pr0:Pr:=⟨[],[],[],[],[]⟩
def VF (p:Pg) (n:Str):Pr×Bool:=match p.procs.find? (fun f=>f.name==n) with
 | some f=>(f,true)
 | none=>(Pr0,false)
theorem x3r:Sub (.agg [.str [],.nils,.nils,.nils,.nils]) (.agg Pr0.cells):=Sub.agg (SubL.cons (Sub.refl _) (SubL.cons Sub.nils (SubL.cons Sub.nils (SubL.cons Sub.nils (SubL.cons Sub.nils SubL.nil)))))
open Go.Proofs
def BS:List Str→Nat
 | []=>0
 | s::r=>1+s.length+BS r
mutual
def gX:X→Nat
 | .mk _ _ name kids=>1+name.length+gXs kids
def gXs:List X→Nat
 | []=>0
 | x::r=>gX x+gXs r
end
def q6u:List Arg→Nat
 | []=>0
 | a::r=>gX a.x+(1+a.name.length)+q6u r
mutual
def gS:S→Nat
 | .mk _ _ labels name proc x _ args thn els=>gX x+BS labels+(1+name.length)+(1+proc.length)+q6u args+gL thn+gL els
def gL:List S→Nat
 | []=>0
 | s::r=>gS s+gL r
end
def z3s:List Param→Nat
 | []=>0
 | a::r=>1+a.name.length+z3s r
def gPr (f:Pr):Nat:=1+f.name.length+BS f.vars+BS f.fin+z3s f.params+gL f.body
def x5b:List Pr→Nat
 | []=>0
 | f::r=>gPr f+x5b r
def gPg (p:Pg):Nat:=BS p.globals+x5b p.procs
theorem w1p (s:S):gS s=gX s.x+BS s.labels+(1+s.name.length)+(1+s.proc.length)+q6u s.args+gL s.thn+gL s.els:=by
 cases s
 rw [gS]
 rfl
theorem x0a : ∀ l:List Str,z3l l≤BS l
 | []=>Nat.le_refl _
 | s::r=>by have:=x0a r;simp only [z3l,BS];omega
mutual
theorem w1e : ∀ x:X,wX x≤gX x
 | .mk _ _ name kids=>by have:=w0q kids;rw [wX,gX];omega
theorem w0q : ∀ l:List X,wXs l≤gXs l
 | []=>by rw [wXs];omega
 | x::r=>by have:=w1e x;have:=w0q r;rw [wXs,gXs];omega
end
theorem z2k : ∀ l:List Arg,x0b l≤q6u l
 | []=>Nat.le_refl _
 | a::r=>by have:=z2k r;have:=w1e a.x;simp only [x0b,q6u];omega
mutual
theorem w3v : ∀ s:S,wS s≤gS s
 | .mk _ _ labels name proc x _ args thn els=>by
   have:=w1e x;have:=x0a labels;have:=z2k args;have:=w0w thn;have:=w0w els
   rw [wS,gS];omega
theorem w0w : ∀ l:List S,wL l≤gL l
 | []=>by rw [wL];omega
 | s::r=>by have:=w3v s;have:=w0w r;rw [wL,gL];omega
end
theorem z6t : ∀ l:List Param,z8o l≤z3s l
 | []=>Nat.le_refl _
 | a::r=>by have:=z6t r;simp only [z8o,z3s];omega
theorem z6f : ∀ l:List Pr,z6o l≤x5b l
 | []=>Nat.le_refl _
 | f::r=>by
   have:=z6f r;have:=x0a f.vars;have:=x0a f.fin;have:=z6t f.params;have:=w0w f.body
   simp only [z6o,x5b,wPr,gPr];omega
theorem w0r (p:Pg):wPg p≤gPg p:=by
 have:=x0a p.globals;have:=z6f p.procs
 unfold wPg gPg;omega
def XX (x:Int):Int:=if x>20000 then 20001 else x
theorem XA {a b:Int} (hb:0≤b):XX (XX a+b)=XX (a+b):=by
 unfold XX
 split<;>split<;>(try split)<;>omega
theorem XP {a:Int} (h:0≤a):0≤XX a∧XX a≤20001:=by
 unfold XX
 split<;>omega
theorem x0y {a:Int} (h:a≤20001):XX a=a:=by
 unfold XX
 split<;>omega
theorem UU {a b:Int} (h:a>20000) (h1:a≤20001) (hb:0≤b):a=XX (a+b):=by
 unfold XX
 split<;>omega
theorem QM (s:Str) (n:Int) (hn:0≤n∧n≤20001):SpecP Tryz.prog 77 [.str s,.int .i64 n] (fun r=>r = .int .i64 (XX (n+(1+s.length:Nat)))):=by
 refine SpecP.body KU QQ Tryz.func77 rfl Tryz.call77 (by show 2≤_;decide) ?_
 conv=>whnf
 repeat' (first|((first|intro (_:_≤9223372036854775807)|refine Wr.i64 (by omega) (by omega) ?_);conv=>whnf)|(refine Br.dec (fun _=>?_) (fun _=>?_)<;>first|(exfalso;omega)|conv=>whnf))
 all_goals exact RetK.int (by unfold XX;(repeat' split)<;>omega)
theorem XK (l:List Str) (n:Int) (hn:0≤n∧n≤20001):SpecP Tryz.prog 76 [QH l,.int .i64 n] (fun r=>r = .int .i64 (XX (n+BS l))):=by
 refine SpecP.body JN QQ Tryz.func76 rfl Tryz.call76 (by show 2≤_;decide) ?_
 conv=>whnf
 skip
 have hl:(l.map AV.str).length=l.length:=List.length_map _
 refine LoopK.inv QQ (fun x:Nat×Int=>⟨[(0,.p (QH l)),(1,.p (.int .i64 x.2)),(5,.p (.int .i64 x.1))],[]⟩) (fun x=>x.1≤l.length∧(0≤x.2∧x.2≤20001)∧XX (x.2+BS (l.drop x.1))=XX (n+BS l)) (fun x=>l.length-x.1) (0,n) (Le.of_eq rfl) ⟨Nat.zero_le _,hn,rfl⟩ ?_
 rintro ⟨j,m⟩ ⟨h2,h3,h4⟩
 simp only at h2 h3 h4 ⊢
 rcases Nat.lt_or_ge j l.length with hj|hj
 ·rw [List.drop_eq_getElem_cons hj,BS] at h4
  conv=>whnf
  repeat' (first|((first|intro (_:_≤9223372036854775807)|(refine CallK.pure (QM _ _ h3) (by repeat' (first|exact ArgP.nil|refine ArgP.cons ?_ ?_|exact Sub.refl _|exact Sub.tt rfl|exact Sub.ff rfl|exact Sub.int (by omega))) ?_;rintro _ rfl)|refine IdxK.map (by omega) (fun _=>rfl) ?_|refine Wr.i64 (by omega) (by omega) ?_);conv=>whnf)|(refine Br.dec (fun _=>?_) (fun _=>?_)<;>first|(exfalso;omega)|conv=>whnf))
  ·have h5:XX (XX (m+(1+l[j].length:Nat))+BS (l.drop (j+1)))=XX (n+BS l):=by
    rw [XA (by omega),← h4]
    congr 1
    omega
   exact ⟨(j+1,XX (m+(1+l[j].length:Nat))),⟨by simp only;omega,XP (by omega),h5⟩,by simp only;omega,Le.of_eq rfl⟩
  ·exact RetK.int (by rw [← h4];exact UU (by omega) h3.2 (by omega))
 ·rw [List.drop_eq_nil_of_le hj,BS] at h4
  conv=>whnf
  repeat' (first|(intro (_:_≤9223372036854775807);conv=>whnf)|(refine Br.dec (fun _=>?_) (fun _=>?_)<;>first|(exfalso;omega)|conv=>whnf))
  exact RetK.int (by rw [← h4,x0y (by omega)];simp)
theorem VM : ∀ (k:Nat) (x:X) (_:gX x<k) (n:Int) (_:0≤n∧n≤20001),SpecP Tryz.prog 135 [.agg x.cells,.int .i64 n] (fun r=>r = .int .i64 (XX (n+gX x))):=by
 intro k
 induction k with
 | zero=>intro x h;omega
 | succ k ih =>
   intro x hx n hn
   have hxe:gX x=1+x.name.length+gXs x.kids:=by cases x;rw [gX];rfl
   have hkl:=X.avs_len x.kids
   refine SpecP.body KG QQ Tryz.func135 rfl Tryz.call135 (by show 2≤_;decide) ?_
   conv=>whnf
   repeat' (refine CallK.pure (QM _ _ hn) (by repeat' (first|exact ArgP.nil|refine ArgP.cons ?_ ?_|exact Sub.refl _|exact Sub.tt rfl|exact Sub.ff rfl|exact Sub.int (by omega))) ?_;rintro _ rfl;conv=>whnf)
   refine LoopK.inv QQ (fun y:Nat×Int=>⟨[(1,.p (.int .i64 y.2)),(2,.p (.ip x.cells)),(5,.p (.int .i64 y.1))],[]⟩) (fun y=>y.1≤x.kids.length∧(0≤y.2∧y.2≤20001)∧XX (y.2+gXs (x.kids.drop y.1))=XX (n+gX x)) (fun y=>x.kids.length-y.1) (0,XX (n+(1+x.name.length:Nat))) (Le.of_eq rfl) ⟨Nat.zero_le _,XP (by omega),by
    show XX (XX (n+(1+x.name.length:Nat))+gXs x.kids)=_
    rw [XA (by omega),hxe]
    congr 1
    omega⟩ ?_
   rintro ⟨j,m⟩ ⟨h2,h3,h4⟩
   simp only at h2 h3 h4 ⊢
   rcases Nat.lt_or_ge j x.kids.length with hj|hj
   ·rw [List.drop_eq_getElem_cons hj,gXs] at h4
    have hkw:gX x.kids[j]<k:=by
     have : ∀ (l:List X) (y:X),y∈l→gX y≤gXs l:=fun l=>by
      induction l with
      | nil=>intro y h;cases h
      | cons a r ih =>
        intro y h
        rw [gXs]
        rcases List.mem_cons.1 h with rfl|h
        ·omega
        ·have:=ih y h;omega
     have:=this x.kids _ (List.getElem_mem hj)
     omega
    conv=>whnf
    repeat' (first|((first|intro (_:_≤9223372036854775807)|refine IdxK.xs (by omega) ?_|refine Wr.i64 (by omega) (by omega) ?_|(refine CallK.pure (ih (x.kids[j]'hj) hkw m h3) (.cons (Sub.refl _) (.cons (Sub.refl _) .nil)) ?_;rintro _ rfl));conv=>whnf)|(refine Br.dec (fun _=>?_) (fun _=>?_)<;>first|(exfalso;omega)|conv=>whnf))
    ·have h5:XX (XX (m+gX x.kids[j])+gXs (x.kids.drop (j+1)))=XX (n+gX x):=by
      rw [XA (by omega),← h4]
      congr 1
      omega
     exact ⟨(j+1,XX (m+gX x.kids[j])),⟨by simp only;omega,XP (by omega),h5⟩,by simp only;omega,Le.of_eq rfl⟩
    ·exact RetK.int (by rw [← h4];exact UU (by omega) h3.2 (by omega))
   ·rw [List.drop_eq_nil_of_le hj,gXs] at h4
    conv=>whnf
    repeat' (first|(intro (_:_≤9223372036854775807);conv=>whnf)|(refine Br.dec (fun _=>?_) (fun _=>?_)<;>first|(exfalso;omega)|conv=>whnf))
    exact RetK.int (by rw [← h4,x0y (by omega)];simp)
theorem z6c : ∀ (l:List S) (y:S),y∈l→gS y≤gL l
 | [],y,h=>by cases h
 | a::r,y,h=>by
   rw [gL]
   rcases List.mem_cons.1 h with rfl|h
   ·omega
   ·have:=z6c r y h;omega
theorem VK : ∀ (k:Nat) (l:List S) (_:gL l<k) (n:Int) (_:0≤n∧n≤20001),SpecP Tryz.prog 78 [eSs l,.int .i64 n] (fun r=>r = .int .i64 (XX (n+gL l))):=by
 intro k
 induction k with
 | zero=>intro l h;omega
 | succ k ih =>
   intro l hl n hn
   have hkl:=S.avs_len l
   refine SpecP.body JF QQ Tryz.func78 rfl Tryz.call78 (by show 2≤_;decide) ?_
   conv=>whnf
   skip
   refine LoopK.inv QQ (fun y:Nat×Int=>⟨[(0,.p (eSs l)),(1,.p (.int .i64 y.2)),(5,.p (.int .i64 y.1))],[]⟩) (fun y=>y.1≤l.length∧(0≤y.2∧y.2≤20001)∧XX (y.2+gL (l.drop y.1))=XX (n+gL l)) (fun y=>l.length-y.1) (0,n) (Le.of_eq rfl) ⟨Nat.zero_le _,hn,rfl⟩ ?_
   rintro ⟨j,m⟩ ⟨h2,h3,h4⟩
   simp only at h2 h3 h4 ⊢
   rcases Nat.lt_or_ge j l.length with hj|hj
   rotate_left 1
   ·rw [List.drop_eq_nil_of_le hj,gL] at h4
    conv=>whnf
    repeat' (first|(intro (_:_≤9223372036854775807);conv=>whnf)|(refine Br.dec (fun _=>?_) (fun _=>?_)<;>first|(exfalso;omega)|conv=>whnf))
    exact RetK.int (by rw [← h4,x0y (by omega)];simp)
   rw [List.drop_eq_getElem_cons hj,gL] at h4
   have hsw:=z6c l _ (List.getElem_mem hj)
   have hse:=w1p l[j]
   have q1:=XP (a:=m+gX l[j].x) (by omega)
   have q2:=XP (a:=XX (m+gX l[j].x)+BS l[j].labels) (by omega)
   have q3:=XP (a:=XX (XX (m+gX l[j].x)+BS l[j].labels)+(1+l[j].name.length:Nat)) (by omega)
   conv=>whnf
   repeat' (first|((first|intro (_:_≤9223372036854775807)|refine DrawK.auto QQ mixed (by kernel_rfl) ?_|refine And.intro rfl ?_|refine IdxK.ss (by omega) ?_|(refine CallK.pure (VM (gX l[j].x+1) l[j].x (by omega) m h3) (.cons (Sub.refl _) (.cons (Sub.refl _) .nil)) ?_;rintro _ rfl)|(refine CallK.pure (XK l[j].labels _ q1) (.cons (Sub.refl _) (.cons (Sub.refl _) .nil)) ?_;rintro _ rfl)|(refine CallK.pure (QM l[j].name _ q2) (.cons (Sub.refl _) (.cons (Sub.refl _) .nil)) ?_;rintro _ rfl)|(refine CallK.pure (QM l[j].proc _ q3) (.cons (Sub.refl _) (.cons (Sub.refl _) .nil)) ?_;rintro _ rfl));conv=>whnf)|(refine Br.dec (fun _=>?_) (fun _=>?_)<;>first|(exfalso;omega)|conv=>whnf))
   rotate_left 1
   ·exact RetK.int (by rw [← h4];exact UU (by omega) h3.2 (by omega))
   have q4:=XP (a:=XX (XX (XX (m+gX l[j].x)+BS l[j].labels)+(1+l[j].name.length:Nat))+(1+l[j].proc.length:Nat)) (by omega)
   have h5:XX (XX (XX (XX (XX (m+gX l[j].x)+BS l[j].labels)+(1+l[j].name.length:Nat))+(1+l[j].proc.length:Nat))+(q6u l[j].args+(gL l[j].thn+gL l[j].els+gL (l.drop (j+1))):Nat))=XX (n+gL l):=by
    rw [XA (by omega),Int.add_assoc,XA (by omega),Int.add_assoc,XA (by omega),Int.add_assoc,XA (by omega),← h4,hse]
    congr 1
    omega
   generalize XX (XX (XX (XX (m+gX l[j].x)+BS l[j].labels)+(1+l[j].name.length:Nat))+(1+l[j].proc.length:Nat))=m0 at q4 h5 ⊢
   have hal:(l[j].args.map fun a=>AV.agg a.cells).length=l[j].args.length:=List.length_map _
   refine LoopK.inv QQ (fun y:Nat×Int=>⟨[(0,.p (eSs l)),(1,.p (.int .i64 y.2)),(5,.p (.int .i64 j)),(6,.p (.ip l[j].cells)),(7,.p (.int .i64 y.1))],[]⟩) (fun y=>y.1≤l[j].args.length∧(0≤y.2∧y.2≤20001)∧XX (y.2+(q6u (l[j].args.drop y.1)+(gL l[j].thn+gL l[j].els+gL (l.drop (j+1))):Nat))=XX (n+gL l)) (fun y=>l[j].args.length-y.1) (0,m0) (Le.of_eq rfl) ⟨Nat.zero_le _,q4,h5⟩ ?_
   rintro ⟨a,m2⟩ ⟨h6,h7,h8⟩
   simp only at h6 h7 h8 ⊢
   have fin:XX (m2+(gL l[j].thn+gL l[j].els+gL (l.drop (j+1)):Nat))=XX (n+gL l)→(0≤XX (XX (m2+gL l[j].thn)+gL l[j].els)∧XX (XX (m2+gL l[j].thn)+gL l[j].els)≤20001)∧XX (XX (XX (m2+gL l[j].thn)+gL l[j].els)+gL (l.drop (j+1)))=XX (n+gL l):=fun h=>by
    have:=XP (a:=m2+gL l[j].thn) (by omega)
    refine ⟨XP (by omega),?_⟩
    rw [XA (by omega),Int.add_assoc,XA (by omega),← h]
    congr 1
    omega
   have r1:=XP (a:=m2+gL l[j].thn) (by omega)
   have full:m2>20000→XX (m2+(gL l[j].thn+gL l[j].els+gL (l.drop (j+1)):Nat))=XX (n+gL l):=fun h=>by
    rw [← h8,← UU h h7.2 (by omega),← UU h h7.2 (by omega)]
   rcases Nat.lt_or_ge a l[j].args.length with ha|ha
   rotate_left 1
   ·have h9:XX (m2+(gL l[j].thn+gL l[j].els+gL (l.drop (j+1)):Nat))=XX (n+gL l):=by
     rw [List.drop_eq_nil_of_le ha,q6u,Nat.zero_add] at h8
     exact h8
    obtain ⟨f1,f2⟩:=fin h9
    conv=>whnf
    repeat' (first|((first|intro (_:_≤9223372036854775807)|refine DrawK.auto QQ mixed (by kernel_rfl) ?_|refine Wr.i64 (by omega) (by omega) ?_|(refine CallK.pure (ih l[j].thn (by omega) m2 h7) (.cons (Sub.refl _) (.cons (Sub.refl _) .nil)) ?_;rintro _ rfl)|(refine CallK.pure (ih l[j].els (by omega) _ r1) (.cons (Sub.refl _) (.cons (Sub.refl _) .nil)) ?_;rintro _ rfl));conv=>whnf)|(refine Br.dec (fun _=>?_) (fun _=>?_)<;>first|(exfalso;omega)|conv=>whnf))
    all_goals exact ⟨(j+1,XX (XX (m2+gL l[j].thn)+gL l[j].els)),⟨by simp only;omega,f1,f2⟩,by simp only;omega,Le.of_eq rfl⟩
   rw [List.drop_eq_getElem_cons ha,q6u] at h8
   have q5:=XP (a:=m2+gX l[j].args[a].x) (by omega)
   conv=>whnf
   repeat' (first|((first|intro (_:_≤9223372036854775807)|refine DrawK.auto QQ mixed (by kernel_rfl) ?_|refine IdxK.map (by omega) (fun _=>rfl) ?_|refine Wr.i64 (by omega) (by omega) ?_|(refine CallK.pure (VM (gX l[j].args[a].x+1) l[j].args[a].x (by omega) m2 h7) (.cons (Sub.refl _) (.cons (Sub.refl _) .nil)) ?_;rintro _ rfl)|(refine CallK.pure (QM l[j].args[a].name _ q5) (.cons (Sub.refl _) (.cons (Sub.refl _) .nil)) ?_;rintro _ rfl)|(refine CallK.pure (ih l[j].thn (by omega) m2 h7) (.cons (Sub.refl _) (.cons (Sub.refl _) .nil)) ?_;rintro _ rfl)|(refine CallK.pure (ih l[j].els (by omega) _ r1) (.cons (Sub.refl _) (.cons (Sub.refl _) .nil)) ?_;rintro _ rfl));conv=>whnf)|(refine Br.dec (fun _=>?_) (fun _=>?_)<;>first|(exfalso;omega)|conv=>whnf))
   ·have h10:XX (XX (XX (m2+gX l[j].args[a].x)+(1+l[j].args[a].name.length:Nat))+(q6u (l[j].args.drop (a+1))+(gL l[j].thn+gL l[j].els+gL (l.drop (j+1))):Nat))=XX (n+gL l):=by
     rw [XA (by omega),Int.add_assoc,XA (by omega),← h8]
     congr 1
     omega
    exact ⟨(a+1,XX (XX (m2+gX l[j].args[a].x)+(1+l[j].args[a].name.length:Nat))),⟨by simp only;omega,XP (by omega),h10⟩,by simp only;omega,Le.of_eq rfl⟩
   ·obtain ⟨f1,f2⟩:=fin (full (by omega))
    exact ⟨(j+1,XX (XX (m2+gL l[j].thn)+gL l[j].els)),⟨by simp only;omega,f1,f2⟩,by simp only;omega,Le.of_eq rfl⟩
open Go.Proofs
def z6l (p:Pg):Bool:=decide (gPg p≤20000)
theorem z9w {p:Pg} (h:z6l p=true):Fit p:=by
 have:=w0r p
 have h1:gPg p≤20000:=by simpa [z6l] using h
 unfold Fit
 omega
theorem VI (p:Pg):SpecP Tryz.prog 16 [.agg p.cells] (fun r=>r = .bool (z6l p)):=by
 refine SpecP.body BA QQ Tryz.func16 rfl Tryz.call16 (by show 1≤_;decide) ?_
 conv=>whnf
 have hl:(p.procs.map fun f=>AV.agg f.cells).length=p.procs.length:=List.length_map _
 have q0:=XP (a:=0+BS p.globals) (by omega)
 repeat' (refine CallK.pure (XK p.globals 0 (by omega)) (.cons (Sub.refl _) (.cons (Sub.refl _) .nil)) ?_;rintro _ rfl;conv=>whnf)
 refine LoopK.inv QQ (fun y:Nat×Int=>⟨[(1,.p (.ip p.cells)),(3,.p (.int .i64 y.2)),(4,.p (.int .i64 y.1))],[]⟩) (fun y=>y.1≤p.procs.length∧(0≤y.2∧y.2≤20001)∧XX (y.2+x5b (p.procs.drop y.1))=XX (gPg p:Nat)) (fun y=>p.procs.length-y.1) (0,XX (0+BS p.globals)) (Le.of_eq rfl) ⟨Nat.zero_le _,q0,by
  show XX (XX (0+BS p.globals)+x5b p.procs)=_
  rw [XA (by omega)]
  congr 1
  unfold gPg
  omega⟩ ?_
 rintro ⟨j,m⟩ ⟨h2,h3,h4⟩
 simp only at h2 h3 h4 ⊢
 have last : ∀ {x:Int},0≤x∧x≤20001→XX x=XX (gPg p:Nat)→(decide (x≤20000))=z6l p:=fun {x} hx h=>by
  unfold z6l
  unfold XX at h
  by_cases h1:gPg p≤20000
  ·rw [decide_eq_true h1,decide_eq_true_eq]
   split at h<;>split at h<;>omega
  ·rw [decide_eq_false h1,decide_eq_false_iff_not]
   split at h<;>split at h<;>omega
 rcases Nat.lt_or_ge j p.procs.length with hj|hj
 rotate_left 1
 ·rw [List.drop_eq_nil_of_le hj,x5b] at h4
  conv=>whnf
  repeat' (first|(intro (_:_≤9223372036854775807);conv=>whnf)|(refine Br.dec (fun _=>?_) (fun _=>?_)<;>first|(exfalso;omega)|conv=>whnf))
  all_goals exact RetK.bool (last h3 (by rw [← h4];simp))
 rw [List.drop_eq_getElem_cons hj,x5b] at h4
 have hpe:gPr p.procs[j]=1+p.procs[j].name.length+BS p.procs[j].vars+BS p.procs[j].fin+z3s p.procs[j].params+gL p.procs[j].body:=rfl
 have q1:=XP (a:=m+(1+p.procs[j].name.length:Nat)) (by omega)
 have q2:=XP (a:=XX (m+(1+p.procs[j].name.length:Nat))+BS p.procs[j].vars) (by omega)
 have q3:=XP (a:=XX (XX (m+(1+p.procs[j].name.length:Nat))+BS p.procs[j].vars)+BS p.procs[j].fin) (by omega)
 conv=>whnf
 repeat' (first|((first|intro (_:_≤9223372036854775807)|refine DrawK.auto QQ mixed (by kernel_rfl) ?_|refine And.intro rfl ?_|refine IdxK.map (by omega) (fun _=>rfl) ?_|(refine CallK.pure (QM p.procs[j].name _ h3) (.cons (Sub.refl _) (.cons (Sub.refl _) .nil)) ?_;rintro _ rfl)|(refine CallK.pure (XK p.procs[j].vars _ q1) (.cons (Sub.refl _) (.cons (Sub.refl _) .nil)) ?_;rintro _ rfl)|(refine CallK.pure (XK p.procs[j].fin _ q2) (.cons (Sub.refl _) (.cons (Sub.refl _) .nil)) ?_;rintro _ rfl));conv=>whnf)|(refine Br.dec (fun _=>?_) (fun _=>?_)<;>first|(exfalso;omega)|conv=>whnf))
 rotate_left 1
 ·exact RetK.bool (last h3 (by rw [← h4,← UU (by omega) h3.2 (by omega),x0y h3.2]))
 have h5:XX (XX (XX (XX (m+(1+p.procs[j].name.length:Nat))+BS p.procs[j].vars)+BS p.procs[j].fin)+(z3s p.procs[j].params+(gL p.procs[j].body+x5b (p.procs.drop (j+1))):Nat))=XX (gPg p:Nat):=by
  rw [XA (by omega),Int.add_assoc,XA (by omega),Int.add_assoc,XA (by omega),← h4,hpe]
  congr 1
  omega
 generalize XX (XX (XX (m+(1+p.procs[j].name.length:Nat))+BS p.procs[j].vars)+BS p.procs[j].fin)=m0 at q3 h5 ⊢
 have hal:(p.procs[j].params.map fun a=>AV.agg a.cells).length=p.procs[j].params.length:=List.length_map _
 refine LoopK.inv QQ (fun y:Nat×Int=>⟨[(1,.p (.ip p.cells)),(3,.p (.int .i64 y.2)),(4,.p (.int .i64 j)),(5,.p (.ip p.procs[j].cells)),(6,.p (.int .i64 y.1))],[]⟩) (fun y=>y.1≤p.procs[j].params.length∧(0≤y.2∧y.2≤20001)∧XX (y.2+(z3s (p.procs[j].params.drop y.1)+(gL p.procs[j].body+x5b (p.procs.drop (j+1))):Nat))=XX (gPg p:Nat)) (fun y=>p.procs[j].params.length-y.1) (0,m0) (Le.of_eq rfl) ⟨Nat.zero_le _,q3,h5⟩ ?_
 rintro ⟨a,m2⟩ ⟨h6,h7,h8⟩
 simp only at h6 h7 h8 ⊢
 have fin:XX (m2+(gL p.procs[j].body+x5b (p.procs.drop (j+1)):Nat))=XX (gPg p:Nat)→(0≤XX (m2+gL p.procs[j].body)∧XX (m2+gL p.procs[j].body)≤20001)∧XX (XX (m2+gL p.procs[j].body)+x5b (p.procs.drop (j+1)))=XX (gPg p:Nat):=fun h=>by
  refine ⟨XP (by omega),?_⟩
  rw [XA (by omega),← h]
  congr 1
  omega
 have full:m2>20000→XX (m2+(gL p.procs[j].body+x5b (p.procs.drop (j+1)):Nat))=XX (gPg p:Nat):=fun h=>by
  rw [← h8,← UU h h7.2 (by omega),← UU h h7.2 (by omega)]
 rcases Nat.lt_or_ge a p.procs[j].params.length with ha|ha
 rotate_left 1
 ·have h9:XX (m2+(gL p.procs[j].body+x5b (p.procs.drop (j+1)):Nat))=XX (gPg p:Nat):=by
   rw [List.drop_eq_nil_of_le ha,z3s,Nat.zero_add] at h8
   exact h8
  obtain ⟨f1,f2⟩:=fin h9
  conv=>whnf
  repeat' (first|((first|intro (_:_≤9223372036854775807)|refine Wr.i64 (by omega) (by omega) ?_|(refine CallK.pure (VK (gL p.procs[j].body+1) p.procs[j].body (by omega) m2 h7) (.cons (Sub.refl _) (.cons (Sub.refl _) .nil)) ?_;rintro _ rfl));conv=>whnf)|(refine Br.dec (fun _=>?_) (fun _=>?_)<;>first|(exfalso;omega)|conv=>whnf))
  all_goals exact ⟨(j+1,XX (m2+gL p.procs[j].body)),⟨by simp only;omega,f1,f2⟩,by simp only;omega,Le.of_eq rfl⟩
 rw [List.drop_eq_getElem_cons ha,z3s] at h8
 conv=>whnf
 repeat' (first|((first|intro (_:_≤9223372036854775807)|refine IdxK.map (by omega) (fun _=>rfl) ?_|refine Wr.i64 (by omega) (by omega) ?_|(refine CallK.pure (QM p.procs[j].params[a].name _ h7) (.cons (Sub.refl _) (.cons (Sub.refl _) .nil)) ?_;rintro _ rfl)|(refine CallK.pure (VK (gL p.procs[j].body+1) p.procs[j].body (by omega) m2 h7) (.cons (Sub.refl _) (.cons (Sub.refl _) .nil)) ?_;rintro _ rfl));conv=>whnf)|(refine Br.dec (fun _=>?_) (fun _=>?_)<;>first|(exfalso;omega)|conv=>whnf))
 ·have h10:XX (XX (m2+(1+p.procs[j].params[a].name.length:Nat))+(z3s (p.procs[j].params.drop (a+1))+(gL p.procs[j].body+x5b (p.procs.drop (j+1))):Nat))=XX (gPg p:Nat):=by
   rw [XA (by omega),← h8]
   congr 1
   omega
  exact ⟨(a+1,XX (m2+(1+p.procs[j].params[a].name.length:Nat))),⟨by simp only;omega,XP (by omega),h10⟩,by simp only;omega,Le.of_eq rfl⟩
 ·obtain ⟨f1,f2⟩:=fin (full (by omega))
  exact ⟨(j+1,XX (m2+gL p.procs[j].body)),⟨by simp only;omega,f1,f2⟩,by simp only;omega,Le.of_eq rfl⟩
open Go.Proofs
inductive SubE:List AV→List AV→Prop
 | nil:SubE [] []
 | cons {a b:AV} {xs ys:List AV} (h:SubL a.cells b.cells) (hs:SubE xs ys):SubE (a::xs) (b::ys)
theorem SubE.get {xs ys:List AV} (h:SubE xs ys):xs.length=ys.length ∧ ∀ (i:Nat) (b:AV),ys[i]? = some b → ∃ a,xs[i]? = some a∧SubL a.cells b.cells:=by
 induction h with
 | nil=>exact ⟨rfl,by simp⟩
 | cons h hs ih =>
   refine ⟨by simp [ih.1],fun i b hb => ?_⟩
   cases i with
   | zero=>simp at hb;subst hb;exact ⟨_,rfl,h⟩
   | succ i=>exact ih.2 i b (by simpa using hb)
theorem Sub.sl {xs ys:List AV} (h:SubE xs ys):Sub (.sl xs) (.sl ys):=fun σ v hr=>by
 obtain ⟨hl,hg⟩:=h.get
 cases hr with
 | nilsl =>
   obtain rfl:ys=[]:=by simpa using hl.symm
   exact .nilsl
 | slz b =>
   obtain rfl:ys=[]:=by simpa using hl.symm
   exact .slz b
 | sl _ b off cap sz cells u hb hcap hmax hsz hc hrr =>
   rw [hl]
   refine .sl ys b off cap sz cells u hb (by omega) hmax (fun i e hi => ?_) (fun i e j c hi hj => ?_) (fun i e j c hi hj => ?_)
   ·obtain ⟨a,h1,h2⟩:=hg i e hi
    rw [← hsz i a h1,h2.1]
   ·obtain ⟨a,h1,h2⟩:=hg i e hi
    obtain ⟨d,h3,_⟩:=h2.get hj
    exact hc i a j d h1 h3
   ·obtain ⟨a,h1,h2⟩:=hg i e hi
    obtain ⟨d,h3,h4⟩:=h2.get hj
    exact h4 _ _ (hrr i a j d h1 h3)
theorem q2j (n:Int):SpecP Tryz.prog 131 [.int .i64 n] (fun r=>r = .agg (X.mk 1 n [] []).cells):=by
 refine SpecP.body NO QQ Tryz.func131 rfl Tryz.call131 (by show 1≤_;decide) ?_
 conv=>whnf
 repeat' (refine And.intro rfl ?_;conv=>whnf)
 exact ⟨_,.p (Sub.agg (by repeat' (first|exact SubL.nil|refine SubL.cons ?_ ?_|exact Sub.refl _|exact Sub.nils|exact Sub.ff rfl))),rfl⟩
theorem q0w (s:Str):SpecP Tryz.prog 132 [.str s] (fun r=>r = .agg (X.mk 2 0 s []).cells):=by
 refine SpecP.body PL QQ Tryz.func132 rfl Tryz.call132 (by show 1≤_;decide) ?_
 conv=>whnf
 repeat' (refine And.intro rfl ?_;conv=>whnf)
 exact ⟨_,.p (Sub.agg (by repeat' (first|exact SubL.nil|refine SubL.cons ?_ ?_|exact Sub.refl _|exact Sub.nils|exact Sub.ff rfl))),rfl⟩
theorem GL (op:Int) (a b:X):SpecP Tryz.prog 133 [.int .i64 op,.agg a.cells,.agg b.cells] (fun r=>r = .agg (X.mk op 0 [] [a,b]).cells):=by
 refine SpecP.body LK QQ Tryz.func133 rfl Tryz.call133 (by show 3≤_;decide) ?_
 conv=>whnf
 repeat' ((first|refine And.intro rfl ?_|(refine And.intro ⟨by decide,by decide⟩ ?_)|refine BsK.pureL rfl rfl ?_);conv=>whnf)
 have e:X.avs [a,b]=[.agg a.cells,.agg b.cells]:=by simp only [X.avs,X.av_eq]
 exact ⟨_,.p (Sub.agg (SubL.cons (Sub.refl _) (SubL.cons (Sub.refl _) (SubL.cons (Sub.refl _) (SubL.cons (Sub.of_eq (by show _=AV.sl (X.avs [a,b]);rw [e];rfl)) SubL.nil))))),rfl⟩
def bs (l:List Nat):Str:=l.map fun n=>UInt8.ofNat n
def someP:Pg:=⟨[[103]],[
 ⟨[109,97,105,110],[],[[118]],[
   .mk 1 1 [] [118] [] (.mk 1 2 [] []) false [] [] [],
   .mk 2 4 [] [103] [112] (.mk 0 0 [] []) false [⟨false,[],.mk 1 3 [] []⟩,⟨true,[118],.mk 0 0 [] []⟩] [] [],
   .mk 3 3 [] [] [] (.mk 2 0 [118] []) false [] [] [],
   .mk 4 3 [] [] [] (.mk 2 0 [103] []) false [] [] []],[]⟩,
 ⟨[112],[⟨[120],false⟩,⟨[121],true⟩],[],[
   .mk 5 1 [] [121] [] (.mk 8 0 [] [.mk 2 0 [121] [],.mk 2 0 [120] []]) false [] [] [],
   .mk 6 5 [] [] [] (.mk 12 0 [] [.mk 2 0 [121] [],.mk 1 9 [] []]) false [] [.mk 7 10 [] [101] [] (.mk 0 0 [] []) false [] [] []] [],
   .mk 8 9 [] [] [] (.mk 2 0 [121] []) true [] [] []],[[101]]⟩]⟩
theorem q0y:SpecP Tryz.prog 74 [] (fun r=>r = .agg someP.cells):=by
 refine SpecP.body PD QQ Tryz.func74 rfl Tryz.call74 (by show 0≤_;decide) ?_
 conv=>whnf
 repeat' ((first|(refine CallK.pure (q2j _) (by repeat' (first|exact ArgP.nil|refine ArgP.cons ?_ ?_|exact Sub.refl _|exact Sub.tt rfl|exact Sub.ff rfl)) ?_;rintro _ rfl)|(refine CallK.pure (q0w _) (by repeat' (first|exact ArgP.nil|refine ArgP.cons ?_ ?_|exact Sub.refl _|exact Sub.tt rfl|exact Sub.ff rfl)) ?_;rintro _ rfl)|refine And.intro rfl ?_|(refine And.intro ⟨by decide,by decide⟩ ?_)|refine BsK.pure (fun x hx=>by rcases List.mem_singleton.1 hx with rfl;rfl) rfl ?_|refine BsK.pureL rfl rfl ?_|(refine CallK.pure (GL 8 (.mk 2 0 [121] []) (.mk 2 0 [120] [])) (.cons (Sub.refl _) (.cons (Sub.refl _) (.cons (Sub.refl _) .nil))) ?_;rintro _ rfl)|(refine CallK.pure (GL 12 (.mk 2 0 [121] []) (.mk 1 9 [] [])) (.cons (Sub.refl _) (.cons (Sub.refl _) (.cons (Sub.refl _) .nil))) ?_;rintro _ rfl));conv=>whnf)
 exact ⟨_,.p (Sub.agg (by repeat' (first|exact SubL.nil|exact SubE.nil|exact Sub.nils|exact Sub.ff rfl|exact Sub.tt rfl|refine SubL.cons ?_ ?_|refine SubE.cons ?_ ?_|exact Sub.refl _|refine Sub.agg ?_|refine Sub.sl ?_))),rfl⟩
open Go.Proofs
theorem LX:Fit someP:=by unfold Fit;decide
theorem x5n:VV someP=true:=by kernel_rfl
theorem x8y:x6c someP [112]=(5,true):=by kernel_rfl
theorem x3t:x0q someP 7=(8,true):=by kernel_rfl
def f0:Pr:=someP.procs[0]'(by decide)
def f1:Pr:=someP.procs[1]'(by decide)
theorem z9c:ZD (QK someP 0 f0)=[⟨0,1,1⟩,⟨1,2,1⟩,⟨2,3,1⟩,⟨3,4,1⟩,⟨4,-1,1⟩]:=by
 have h1:QK someP 0 f0=[⟨0,1,1⟩,⟨1,2,1⟩,⟨2,3,1⟩,⟨3,4,1⟩,⟨4,-1,1⟩]:=by kernel_rfl
 unfold ZD VL
 rw [h1,List.mergeSort_of_pairwise (by decide)]
 rfl
theorem z8m:ZD (QK someP 1 f1)=[⟨0,5,1⟩,⟨5,6,1⟩,⟨6,7,1⟩,⟨6,8,1⟩,⟨7,-1,1⟩,⟨8,-1,1⟩]:=by
 have h1:QK someP 1 f1=[⟨0,5,1⟩,⟨5,6,1⟩,⟨6,7,1⟩,⟨6,8,1⟩,⟨7,-1,1⟩,⟨8,-1,1⟩]:=by kernel_rfl
 unfold ZD VL
 rw [h1,List.mergeSort_of_pairwise (by decide)]
 rfl
theorem x6i:HS someP [112]=some (QF someP 1 f1):=by
 unfold HS
 rw [x5n]
 rfl
theorem z7e:(ofR someP [112]).length=6:=by
 unfold ofR
 rw [x6i]
 show (ZD (QK someP 1 f1)).length=6
 rw [z8m]
 rfl
theorem z0g:(BO someP [112]).length=4:=by
 unfold BO
 rw [x6i]
 show (x0d (QF someP 1 f1)).length=4
 unfold QF
 simp only [z8m]
 kernel_rfl
theorem e00:HN (QF someP 0 f0) f0 []=false:=by
 unfold QF
 simp only [z9c]
 kernel_rfl
theorem e10:HN (QF someP 1 f1) f1 []=true:=by
 unfold QF
 simp only [z8m]
 kernel_rfl
theorem e01:HN (QF someP 0 f0) f0 [[112]]=true:=by
 unfold QF
 simp only [z9c]
 kernel_rfl
theorem z0t:(PG someP).length=2:=by
 have r1:q1l someP []=([[112]],true):=by
  show x3o someP (x3o someP ([],false) 0) 1=_
  have h1:x3o someP ([],false) 0=([],false):=by
   show (bif true&&HN (QF someP 0 f0) f0 [] then _ else _)=_
   rw [e00]
   rfl
  rw [h1]
  show (bif true&&HN (QF someP 1 f1) f1 [] then _ else _)=_
  rw [e10]
  rfl
 have r2:q1l someP [[112]]=([[112],[109,97,105,110]],true):=by
  show x3o someP (x3o someP ([[112]],false) 0) 1=_
  have h1:x3o someP ([[112]],false) 0=([[112],[109,97,105,110]],true):=by
   show (bif true&&HN (QF someP 0 f0) f0 [[112]] then _ else _)=_
   rw [e01]
   rfl
  rw [h1]
  rfl
 have r3:q1l someP [[112],[109,97,105,110]]=([[112],[109,97,105,110]],false):=by
  show x3o someP (x3o someP ([[112],[109,97,105,110]],false) 0) 1=_
  rfl
 have h:FP someP (someP.procs.length+1) []=[[112],[109,97,105,110]]:=by
  show FP someP 3 []=_
  rw [FP,r1,cond_true,FP,r2,cond_true,FP,r3]
  rfl
 unfold PG
 rw [x5n,cond_true,h,VU]
 rfl
theorem ZS:SpecP Tryz.prog 15 [] (fun r=>r = .tt):=by
 have hB:=q6c someP LX 7
 rw [x3t] at hB
 have hF:=z3d someP LX [112]
 rw [x8y] at hF
 have hO:=z7e
 have hL:=z0g
 have hE:=z0t
 refine SpecP.body GZ QQ Tryz.func15 rfl Tryz.call15 (by show 0≤_;decide) ?_
 conv=>whnf
 repeat' (first|((first|intro (_:_≤9223372036854775807)|refine And.intro rfl ?_|(refine CallK.pure q0y .nil ?_;rintro _ rfl)|(refine CallK.pure hB (.cons (Sub.refl _) (.cons (Sub.refl _) .nil)) ?_;rintro _ rfl)|(refine CallK.pure hF (.cons (Sub.refl _) (.cons (Sub.refl _) .nil)) ?_;rintro _ rfl)|(refine CallK.pure (z6n someP LX [112]) (.cons (Sub.refl _) (.cons (Sub.refl _) .nil)) ?_;rintro _ rfl)|(refine CallK.pure (x5e someP LX [112]) (.cons (Sub.refl _) (.cons (Sub.refl _) .nil)) ?_;rintro _ rfl)|(refine CallK.pure (x7u someP LX) (.cons (Sub.refl _) .nil) ?_;rintro _ rfl));conv=>whnf)|(refine Br.dec (fun _=>?_) (fun _=>?_)<;>first|(exfalso;omega)|conv=>whnf)|(refine Br.b (fun _=>?_) (fun _=>?_)<;>conv=>whnf))
 all_goals first
  | exact ⟨_,.p (Sub.tt' (by rw [List.length_map,hE];rfl)),rfl⟩
  | (exfalso;simp only [List.length_map] at *;omega)
  | (exfalso;simp_all;done)
open Go.Proofs
theorem x7x {σ:Mem} {a:Step} {v:Value} (h:Rep σ (.agg a.cells) v):v = .agg #[.int .i64 a.src,.int .i64 a.dst,.int .i64 a.kind]:=by
 cases h with
 | agg cs vs u hn hc hr =>
   have hs:vs.size=3:=hn
   have g : ∀ (j:Nat) (n:Int),a.cells[j]? = some (.int .i64 n)→vs[j]? = some (.int .i64 n):=fun j n hj=>by
    have h1:=hc j _ hj
    have h2:=hr j _ hj
    cases hu:u j<;>rw [hu] at h2<;>cases h2
    rw [h1,hu]
   congr 1
   apply Array.ext_getElem?
   intro i
   match i with
   | 0=>exact g 0 _ rfl
   | 1=>exact g 1 _ rfl
   | 2=>exact g 2 _ rfl
   | i+3=>rw [Array.getElem?_eq_none (by omega),Array.getElem?_eq_none (by simp)]
open Go.Proofs
theorem x9f {p:Pg} {n:Str} (h:HS p n=none) (hc:VV p=true):VF p n=(Pr0,false):=by
 unfold HS at h
 rw [hc,cond_true] at h
 unfold VF
 cases hq:p.procs.find? (fun f=>f.name==n) with
 | none=>rfl
 | some f=>rw [hq] at h;cases h
open Go.Proofs
theorem z3b {p:Pg} (h:VV p=true) {j:Nat} {f:Pr} (hj:p.procs[j]? = some f):(QF p j f).real.length≤100000:=by
 obtain ⟨h1,h2⟩:=q4q h hj
 have h3:=YG (z4o h1) fun s hs=>(h2 s).1 hs
 have h4:=FH p j f
 have h5:=DJ _ _ (List.mem_of_getElem? hj)
 have:=(HO h).2.2
 omega
open Go.Proofs
theorem z0q : ∀ (k:Nat) (l:List S) (_:QY l<k) (_:QY l≤1000000),SpecP Tryz.prog 80 [eSs l] (fun r=>r = .int .i64 (QY l)):=by
 intro k
 induction k with
 | zero=>intro l h;omega
 | succ k ih =>
   intro l hk hl
   have hll:=S.avs_len l
   have hlc:l.length≤QY l:=by
    clear hk hl hll
    induction l with
    | nil=>simp
    | cons t r ihr=>rw [QY,ZA,List.length_cons];omega
   refine SpecP.body x1u QQ Tryz.func80 rfl Tryz.call80 (by show 1≤_;decide) ?_
   conv=>whnf
   repeat' (intro (_:_≤9223372036854775807);conv=>whnf)
   refine LoopK.inv QQ (fun y:Nat×Nat=>⟨[(0,.p (eSs l)),(3,.p (.int .i64 y.2)),(8,.p (.int .i64 (S.avs l).length)),(9,.p (.int .i64 y.1))],[]⟩) (fun y=>y.1≤l.length∧y.2+QY (l.drop y.1)=QY l+(l.length-y.1)) (fun y=>l.length-y.1) (0,l.length) (Le.of_eq (by simp only [S.avs_len];rfl)) ⟨Nat.zero_le _,by simp;omega⟩ ?_
   rintro ⟨j,n⟩ ⟨h2,h3⟩
   simp only at h2 h3 ⊢
   rcases Nat.lt_or_ge j l.length with hj|hj
   ·have hst:=LH hj
    have hcs:=ZA l[j]
    have h4:QY (l.drop j)≤QY l:=by
     have : ∀ (l:List S) (j:Nat),QY (l.drop j)≤QY l:=fun l=>by
      induction l with
      | nil=>intro j;simp
      | cons t r ihr =>
        intro j
        cases j with
        | zero=>simp
        | succ j=>rw [List.drop_succ_cons,QY];have:=ihr j;omega
     exact this l j
    conv=>whnf
    repeat' (first|((first|refine DrawK.auto QQ mixed (by kernel_rfl) ?_|refine IdxK.ss (by omega) ?_|refine Wr.i64 (by omega) (by omega) ?_|(refine CallK.pure (ih l[j].thn (by omega) (by omega)) (.cons (Sub.refl _) .nil) ?_;rintro _ rfl)|(refine CallK.pure (ih l[j].els (by omega) (by omega)) (.cons (Sub.refl _) .nil) ?_;rintro _ rfl));conv=>whnf)|(refine Br.dec (fun _=>?_) (fun _=>?_)<;>first|(exfalso;omega)|conv=>whnf))
    all_goals exact ⟨(j+1,n+(QY l[j].thn+QY l[j].els)),⟨by simp only;omega,by simp only;omega⟩,by simp only;omega,Le.of_eq rfl⟩
   ·conv=>whnf
    rw [List.drop_eq_nil_of_le hj,QY] at h3
    repeat' (refine Br.dec (fun _=>?_) (fun _=>?_)<;>first|(exfalso;omega)|conv=>whnf)
    exact RetK.int (by omega)
theorem x7r (p:Pg) (hc:WA p.procs≤1000):SpecP Tryz.prog 18 [.agg p.cells] (fun r=>r = .int .i64 (WA p.procs)):=by
 refine SpecP.body x0e QQ Tryz.func18 rfl Tryz.call18 (by show 1≤_;decide) ?_
 conv=>whnf
 have hl2:(p.procs.map fun f=>AV.agg f.cells).length=p.procs.length:=List.length_map _
 repeat' (intro (_:_≤9223372036854775807);conv=>whnf)
 refine LoopK.inv QQ (fun y:Nat×Nat=>⟨[(3,.p (.int .i64 y.2)),(7,.p (.sl (p.procs.map fun f => .agg f.cells))),(8,.p (.int .i64 (p.procs.map fun f=>AV.agg f.cells).length)),(9,.p (.int .i64 y.1))],[]⟩) (fun y=>y.1≤p.procs.length∧y.2+WA (p.procs.drop y.1)=WA p.procs) (fun y=>p.procs.length-y.1) (0,0) (Le.of_eq rfl) ⟨Nat.zero_le _,by simp⟩ ?_
 rintro ⟨j,n⟩ ⟨h2,h3⟩
 simp only at h2 h3 ⊢
 rcases Nat.lt_or_ge j p.procs.length with hj|hj
 ·have hst:=q3b hj
  have hcm:=DJ _ _ (List.getElem_mem hj)
  conv=>whnf
  repeat' (first|((first|refine And.intro rfl ?_|refine IdxK.map (by omega) (fun _=>rfl) ?_|refine Wr.i64 (by omega) (by omega) ?_|(refine CallK.pure (z0q (QY p.procs[j].body+1) p.procs[j].body (by omega) (by omega)) (.cons (Sub.refl _) .nil) ?_;rintro _ rfl));conv=>whnf)|(refine Br.dec (fun _=>?_) (fun _=>?_)<;>first|(exfalso;omega)|conv=>whnf))
  exact ⟨(j+1,n+QY p.procs[j].body),⟨by simp only;omega,by simp only;omega⟩,by simp only;omega,Le.of_eq rfl⟩
 ·conv=>whnf
  rw [List.drop_eq_nil_of_le hj,WA] at h3
  repeat' (refine Br.dec (fun _=>?_) (fun _=>?_)<;>first|(exfalso;omega)|conv=>whnf)
  exact RetK.int (by omega)
open Go.Proofs
def frR (steps:List Step) (at_:Int) (but:List Int) (a b:Int):Prop:=(a=at_∨x3j but a=false) ∧ ∃ s∈steps,s.src=a∧s.dst=b
structure FrI (steps:List Step) (at_:Int) (but:List Int) (n:Nat) (l:List Int):Prop where
 le:n≤l.length
 hd:l[0]? = some at_
 nd:l.Nodup
 sub : ∀ x∈l,x∈at_::steps.map Step.dst
 snd : ∀ x∈l,Rch (frR steps at_ but) at_ x
 cl : ∀ (m:Nat) (a:Int),m<n→l[m]? = some a → ∀ b,frR steps at_ but a b→b∈l
theorem FrI.len {steps:List Step} {at_:Int} {but:List Int} {n:Nat} {l:List Int} (h:FrI steps at_ but n l):l.length≤steps.length+1:=by
 have:=YG h.nd h.sub
 simpa using this
theorem FrI.start (steps:List Step) (at_:Int) (but:List Int):FrI steps at_ but 0 [at_]:=⟨Nat.zero_le _,rfl,by simp,by simp,fun x hx=>by rw [List.mem_singleton.1 hx];exact .refl,fun m a hm=>by omega⟩
theorem FrI.add {steps:List Step} {at_:Int} {but:List Int} {n:Nat} {l:List Int} (h:FrI steps at_ but n l) {a b:Int} (ha:a∈l) (hb:frR steps at_ but a b) (hn:x3j l b=false):FrI steps at_ but n (l++[b]):=by
 have hnm:b∉l:=fun hm=>by rw [DK.2 hm] at hn;cases hn
 have h0:0<l.length:=(List.getElem?_eq_some_iff.1 h.hd).1
 refine ⟨by rw [List.length_append];have:=h.le;omega,by rw [List.getElem?_append_left h0];exact h.hd,?_,fun x hx => ?_,fun x hx => ?_,fun m c hm hc d hd => ?_⟩
 ·rw [List.nodup_append]
  refine ⟨h.nd,by simp,fun x hx y hy => ?_⟩
  rw [List.mem_singleton.1 hy]
  exact fun e=>hnm (e▸hx)
 ·rcases List.mem_append.1 hx with hx|hx
  ·exact h.sub x hx
  ·rw [List.mem_singleton.1 hx]
   obtain ⟨_,s,hs,_,h2⟩:=hb
   exact List.mem_cons_of_mem _ (List.mem_map.2 ⟨s,hs,h2⟩)
 ·rcases List.mem_append.1 hx with hx|hx
  ·exact h.snd x hx
  ·rw [List.mem_singleton.1 hx]
   exact .tail (h.snd a ha) hb
 ·rcases Nat.lt_or_ge m l.length with hml|hml
  ·rw [List.getElem?_append_left hml] at hc
   exact List.mem_append.2 (.inl (h.cl m c hm hc d hd))
  ·have:=h.le
   omega
theorem FrI.fin {steps:List Step} {at_:Int} {but:List Int} {l:List Int} (h:FrI steps at_ but l.length l) (x:Int):x∈l↔Rch (frR steps at_ but) at_ x:=by
 refine ⟨h.snd x,fun hr=>hr.closed (S:=fun x=>x∈l) (fun a b ha hb => ?_) (List.mem_of_getElem? h.hd)⟩
 obtain ⟨m,hm⟩:=List.mem_iff_getElem?.1 ha
 exact h.cl m a (List.getElem?_eq_some_iff.1 hm).1 hm b hb
theorem FrI.next {steps:List Step} {at_:Int} {but:List Int} {n:Nat} {l:List Int} (h:FrI steps at_ but n l) (hn:n<l.length) (hc : ∀ b,frR steps at_ but l[n] b→b∈l):FrI steps at_ but (n+1) l:=by
 refine ⟨hn,h.hd,h.nd,h.sub,h.snd,fun m a hm ha b hb => ?_⟩
 rcases Nat.lt_or_ge m n with hmn|hmn
 ·exact h.cl m a hmn ha b hb
 ·obtain rfl:m=n:=by omega
  rw [List.getElem?_eq_getElem hn] at ha
  cases ha
  exact hc b hb
def w0n (steps:List Step) (at_:Int) (but:List Int) (r:AV):Prop := ∃ es,r=ZQ es∧(∀ x,x∈es↔Rch (frR steps at_ but) at_ x)∧es.Nodup
theorem JZ (steps:List Step) (at_:Int) (but:List Int) (hlen:steps.length≤1000000):SpecP Tryz.prog 71 [QO steps,.int .i64 at_,ZQ but] (fun r=>w0n steps at_ but r):=by
 refine SpecP.body BD QQ Tryz.func71 rfl Tryz.call71 (by show 3≤_;decide) ?_
 conv=>whnf
 have hsl:(steps.map fun s=>AV.agg s.cells).length=steps.length:=List.length_map _
 repeat' ((first|refine And.intro rfl ?_|(refine And.intro ⟨by decide,by decide⟩ ?_)|refine BsK.own (fun x hx=>by rcases List.mem_singleton.1 hx with rfl;rfl) rfl ?_);conv=>whnf)
 refine LoopK.inv QQ (fun x:Nat×List Int=>⟨[(0,.p (QO steps)),(2,.p (ZQ but)),(7,.hd 0 0 x.2.length),(8,.p (.int .i64 x.1))],[(0,.own 3 1 (x.2.map (.int .i64)))]⟩) (fun x=>x.1≤x.2.length∧FrI steps at_ but x.1 x.2) (fun x=>steps.length+2-x.1) (0,[at_]) (Le.of_eq rfl) ⟨Nat.zero_le _,FrI.start _ _ _⟩ ?_
 rintro ⟨n,l⟩ ⟨h1,h2⟩
 simp only at h1 h2 ⊢
 have hll:=h2.len
 rcases Nat.lt_or_ge n l.length with hn|hn
 rotate_left 1
 ·conv=>whnf
  repeat' (first|(intro (_:_≤9223372036854775807);conv=>whnf)|(refine Br.dec (fun _=>?_) (fun _=>?_)<;>first|(exfalso;omega)|conv=>whnf))
  have hnl:n=l.length:=by have:=h2.le;omega
  subst hnl
  exact ⟨_,.hd rfl (by simp),l,rfl,h2.fin,h2.nd⟩
 conv=>whnf
 repeat' (first|((first|intro (_:_≤9223372036854775807)|refine And.intro rfl ?_|refine Wr.i64 (by omega) (by omega) ?_|refine IdxL.mk n (by omega) (by omega) ?_|refine LdOwn.mk n 0 (.int .i64 l[n]) (by omega) (by simp [hn]) ?_|(refine CallK.pure (XO but l[n]) (.cons (Sub.refl _) (.cons (Sub.refl _) .nil)) ?_;rintro _ rfl));conv=>whnf)|(refine Br.dec (fun _=>?_) (fun _=>?_)<;>first|(exfalso;omega)|conv=>whnf)|(refine Br.b (fun _=>?_) (fun _=>?_)<;>conv=>whnf))
 ·have hb:x3j but l[n]=true:=by assumption
  have hn0:0<n:=by omega
  refine ⟨(n+1,l),⟨hn,h2.next hn fun b ⟨h3,_⟩ => ?_⟩,by simp only;omega,Le.of_eq rfl⟩
  rcases h3 with h3|h3
  ·have h4:l[0]? = l[n]? := by rw [h2.hd,List.getElem?_eq_getElem hn,h3]
   have:=(List.getElem?_inj (by omega) h2.nd).1 h4
   omega
  ·rw [hb] at h3;cases h3
 all_goals
  have hcan:l[n]=at_∨x3j but l[n]=false:=by
   first
    | exact .inr (by assumption)
    | (left
       have h5:n=0:=by omega
       have h6:=h2.hd
       subst h5
       rw [List.getElem?_eq_getElem hn] at h6
       exact Option.some.inj h6)
  refine LoopK.inv QQ (fun x:Nat×List Int=>⟨[(0,.p (QO steps)),(2,.p (ZQ but)),(7,.hd 0 0 x.2.length),(8,.p (.int .i64 n)),(29,.p (QO steps)),(30,.p (.int .i64 (steps.map fun s=>AV.agg s.cells).length)),(31,.p (.int .i64 x.1))],[(0,.own 3 1 (x.2.map (.int .i64)))]⟩) (fun x=>x.1≤steps.length∧l <+: x.2∧FrI steps at_ but n x.2 ∧ ∀ s∈steps.take x.1,s.src=l[n]→s.dst∈x.2) (fun x=>steps.length-x.1) (0,l) (Le.of_eq rfl) ⟨Nat.zero_le _,List.prefix_refl _,h2,by simp⟩ ?_
  rintro ⟨y,o⟩ ⟨h3,h4,h5,h6⟩
  simp only at h3 h4 h5 h6 ⊢
  have hno:n<o.length:=Nat.lt_of_lt_of_le hn h4.length_le
  have hon:o[n]=l[n]:=by
   have:=q1u h4 (List.getElem?_eq_getElem hn)
   rw [List.getElem?_eq_getElem hno] at this
   exact Option.some.inj this
  have hol:=h5.len
  have hom:(o.map (AV.int .i64)).length=o.length:=List.length_map _
  rcases Nat.lt_or_ge y steps.length with hy|hy
  ·have htk:=List.take_succ_eq_append_getElem hy
   conv=>whnf
   repeat' (first|((first|refine DrawK.auto QQ mixed (by kernel_rfl) ?_|refine And.intro rfl ?_|(refine And.intro ⟨by decide,by decide⟩ ?_)|refine BsK.pure (fun x hx=>by rcases List.mem_singleton.1 hx with rfl;rfl) rfl ?_|refine IdxK.map (by omega) (fun _=>rfl) ?_|refine Wr.i64 (by omega) (by omega) ?_|refine IdxL.mk n (by omega) (by omega) ?_|refine LdOwn.mk n 0 (.int .i64 o[n]) (by omega) (by simp [hno]) ?_|(refine CallK.borrow (XO o steps[y].dst) (.cons (.hd rfl hom.symm) (.cons (.p (Sub.refl _)) .nil)) (by rintro _ rfl;rfl) ?_;rintro _ rfl)|refine AppK.int1 (by simp) (by simp;omega) ?_);conv=>whnf)|(refine Br.dec (fun _=>?_) (fun _=>?_)<;>first|(exfalso;omega)|conv=>whnf)|(refine Br.n (fun _=>?_) (fun _=>?_)<;>conv=>whnf))
   all_goals first
    | exact ⟨(y+1,o++[steps[y].dst]),⟨hy,h4.trans (List.prefix_append _ _),h5.add (List.getElem_mem hno) ⟨by rw [hon];exact hcan,steps[y],List.getElem_mem hy,by assumption,rfl⟩ (by assumption),fun s hs he=>by
       rw [htk] at hs
       rcases List.mem_append.1 hs with hs|hs
       ·exact List.mem_append.2 (.inl (h6 s hs he))
       ·rw [List.mem_singleton.1 hs]
        exact List.mem_append.2 (.inr (List.mem_singleton.2 rfl))⟩,by simp only;omega,Le.of_eq (by simp only [List.length_append,List.map_append];rfl)⟩
    | exact ⟨(y+1,o),⟨hy,h4,h5,fun s hs he=>by
       rw [htk] at hs
       rcases List.mem_append.1 hs with hs|hs
       ·exact h6 s hs he
       ·rw [List.mem_singleton.1 hs] at he ⊢
        first
         | exact DK.1 (by assumption)
         | (exfalso
            have hne : ¬steps[y].src=o[n]:=by assumption
            exact hne (he.trans hon.symm))⟩,by simp only;omega,Le.of_eq rfl⟩
  ·rw [List.take_of_length_le hy] at h6
   conv=>whnf
   repeat' (first|(refine Wr.i64 (by omega) (by omega) ?_;conv=>whnf)|(refine Br.dec (fun _=>?_) (fun _=>?_)<;>first|(exfalso;omega)|conv=>whnf))
   exact ⟨(n+1,o),⟨hno,h5.next hno fun b ⟨_,s,hs,h7,h8⟩=>h8▸h6 s hs (by rw [h7,hon])⟩,by simp only;omega,Le.of_eq rfl⟩
open Go.Proofs
theorem ValO.boolEql {P:Program} {T:Tab} {hr:Bool} {s:St} {o:Oper} {K:LV→Prop} (hT:TabOK P T) {t u:TypeId} {x y:Operand} (hop:o.op = .binOp .eql t x y u) {i:TyI} (ht:T.get t=some i) (hd:i.desc = .bool)
  {a b:Bool} (hx:z7b (QA s.sl x)=some a) (hy:z7b (QA s.sl y)=some b) (hK:K (.p (.bool (a==b)))):ValO P hr s o K:=by
 refine ⟨fun σ β ac w hs _=>⟨_,.bool (a==b),hK,.p (.bool _),fun w' _ _ => ?_⟩⟩
 have h1:=q2l (QU hs x) hx
 have h2:=q2l (QU hs y) hy
 have hu:=hT.of ht
 rw [hd] at hu
 have hg:(eqGuard .eql t x y (.bool a) (.bool b)).run P w' = .ok () w':=by unfold eqGuard;rfl
 have he:(Op.equal t (.bool a) (.bool b)).run P w' = .ok (a==b) w':=by
  have e:Op.equal t (.bool a) (.bool b)=Op.equalIn (9999+1) t (.bool a) (.bool b):=rfl
  rw [e,Op.equalIn,Sem.run_bind,run_underlying hu,Result.andThen_ok]
  rfl
 simp only [execOp,hop,h1,h2,Sem.run_bind,hg,Result.andThen_ok,binOp]
 simp [he]
def q7e (E:List Str) (x:RI):Bool:=decide (x.s.kind=4) && !(inS E x.s.proc)
def VN (E:List Str) (F:List RI):List Int:=(F.filter (q7e E)).map fun x=>x.s.id
theorem q4o {l:List Str} {x:Str}:inS l x=true↔x∈l:=by
 unfold inS
 rw [List.any_eq_true]
 constructor
 ·rintro ⟨y,h1,h2⟩
  have:y=x:=by simpa using h2
  rw [← this]
  exact h1
 ·intro h
  exact ⟨x,h,by simp⟩
theorem x6p {p:Pg} (h:VV p=true) {j:Nat} {f:Pr} (hj:p.procs[j]? = some f) {a:Int} (h1:(QT p.procs j:Int)+1≤a) (h2:a≤(QT p.procs j+QY f.body:Nat)) : ∃ t∈flL f.body,z8i p a=some t∧t.id=a:=by
 obtain ⟨it,h3,h4⟩:=FN hj (k:=(a-1).toNat) (by omega) (by omega)
 refine ⟨it.s,q9i h4,by unfold z8i;rw [h3];rfl,?_⟩
 obtain ⟨_,_,_,hlen,hsp⟩:=QG p
 obtain ⟨_,_,hle,hd⟩:=hsp j f hj
 have hids:=z0z (QE h).1 hj
 have h5:(QS p j f)[(a-1).toNat-QT p.procs j]? = some it:=by
  unfold QS
  rw [← hd,List.getElem?_drop,List.getElem?_take,if_pos (by omega),show QT p.procs j+((a-1).toNat-QT p.procs j)=(a-1).toNat by omega]
  exact h3
 have h6:((QS p j f).map fun it=>it.s.id)[(a-1).toNat-QT p.procs j]? = some it.s.id:=by rw [List.getElem?_map,h5];rfl
 rw [hids] at h6
 unfold KH at h6
 rw [List.getElem?_map,List.getElem?_range' (by omega)] at h6
 simp at h6
 omega
theorem x6m {p:Pg} (h:VV p=true) {j:Nat} {f:Pr} (hj:p.procs[j]? = some f) (E:List Str) {s:Step} (hs:s∈(QF p j f).real):q2k p E s=true↔s.src=0∨x3j (VN E (ZV f)) s.src=false:=by
 have hm:=(QE h).1
 have e3:ZV f=flatU f:=ZU hm (List.mem_of_getElem? hj)
 have e4:(flatU f).map RI.s=flL f.body:=HG 1 0 false f.body
 obtain ⟨_,h3,_⟩:=NK h hj
 obtain ⟨h4,_⟩:=h3 s (((q4q h hj).2 s).1 hs)
 rcases h4 with h4|⟨h4,h5⟩
 ·unfold q2k
  simp [h4]
 ·obtain ⟨t,h6,h7,h8⟩:=x6p h hj h4 h5
  have key:x3j (VN E (ZV f)) s.src=(decide (t.kind=4) && !(inS E t.proc)):=by
   rw [Bool.eq_iff_iff,DK,e3]
   unfold VN
   rw [List.mem_map]
   constructor
   ·rintro ⟨x,hx,hid⟩
    obtain ⟨hx1,hx2⟩:=List.mem_filter.1 hx
    have hxs:x.s∈flL f.body:=by rw [← e4];exact List.mem_map.2 ⟨x,hx1,rfl⟩
    have:x.s=t:=HE (f:=S.id) (by rw [x0g hm hj];exact q0x _ _) _ hxs _ h6 (by rw [hid,h8])
    rw [← this]
    exact hx2
   ·intro ht
    rw [← e4] at h6
    obtain ⟨x,hx1,rfl⟩:=List.mem_map.1 h6
    exact ⟨x,List.mem_filter.2 ⟨hx1,ht⟩,h8⟩
  rw [key]
  unfold q2k
  rw [h7]
  have hany:(E.any fun x=>t.proc==x)=inS E t.proc:=by rw [Bool.eq_iff_iff,q4o];exact z5g
  have h0:s.src≠0:=by omega
  simp only [hany,h0,decide_false,Bool.false_or,false_or,Bool.not_eq_true']
open Go.Proofs
open Go.Proofs
theorem x6l {p:Pg} (h:VV p=true) {j:Nat} {f:Pr} (hj:p.procs[j]? = some f) {k:Nat} {it:Item} (h1:QT p.procs j≤k) (h2:k<QT p.procs j+QY f.body) (hk:(QX p).l[k]? = some it):it.s.id=(k:Int)+1:=by
 obtain ⟨t,_,h4,h5⟩:=x6p h hj (a:=(k:Int)+1) (by omega) (by omega)
 unfold z8i at h4
 rw [show ((k:Int)+1-1).toNat=k by omega,hk] at h4
 cases h4
 exact h5
open Go.Proofs
section
variable {p:Pg} {j:Nat} {f:Pr}
def wR (p:Pg) (j:Nat) (f:Pr):Int→Int→Prop:=stR (QF p j f).real
end
open Go.Proofs
open Go.Proofs
instance (a b:Step):Decidable (MY a b):=inferInstanceAs (Decidable (_∨_))
instance:DecidableEq Step:=fun a b=>decidable_of_iff (a.src=b.src∧a.dst=b.dst∧a.kind=b.kind) ⟨fun h=>Step.eq_of h.1 h.2.1 h.2.2,fun h=>by rw [h];exact ⟨rfl,rfl,rfl⟩⟩
theorem z7i {a b:Step} (ha:q5k a) (hb:q5k b) (h:HQ b a=false):(a.src=b.src∧a.dst=b.dst∧a.kind≤b.kind)∨MY a b:=by
 rw [Bool.eq_false_iff,ne_eq,KL] at h
 unfold MY
 by_cases h1:XM a.src=XM b.src
 ·by_cases h2:XM a.dst=XM b.dst
  ·exact .inl ⟨JE ha.1 hb.1 h1,JE ha.2 hb.2 h2,by omega⟩
  ·exact .inr (by omega)
 ·exact .inr (by omega)
theorem q1g : ∀ (l:List Step) (a:Step),q5k a→(∀ s∈l,q5k s)→(a::l).Pairwise (fun a b=>HQ b a=false) →
  (∀ s∈QC a l,MY a s)∧(QC a l).Pairwise MY∧(∀ s∈QC a l,s∈l) ∧ ∀ s∈l,(s.src=a.src∧s.dst=a.dst∧a.kind≤s.kind) ∨ ∃ s'∈QC a l,s'.src=s.src∧s'.dst=s.dst∧s'.kind≤s.kind
 | [],a,_,_,_=>by simp [QC]
 | b::r,a,ha,hl,h=>by
   have hb:=hl b List.mem_cons_self
   have hr : ∀ s∈r,q5k s:=fun s hs=>hl s (List.mem_cons_of_mem _ hs)
   rw [List.pairwise_cons] at h
   obtain ⟨h1,h2⟩:=h
   obtain ⟨i1,i2,i3,i4⟩:=q1g r b hb hr h2
   have hab:=z7i ha hb (h1 b List.mem_cons_self)
   rw [QC]
   cases hs:XI b a with
   | true =>
     unfold XI at hs
     simp only [Bool.and_eq_true,decide_eq_true_eq] at hs
     have hk:a.kind≤b.kind:=by
      rcases hab with h3|h3
      ·exact h3.2.2
      ·unfold MY at h3
       rw [hs.1,hs.2] at h3
       omega
     rw [cond_true]
     refine ⟨fun s hs' => ?_,i2,fun s hs'=>List.mem_cons_of_mem _ (i3 s hs'),fun s hs' => ?_⟩
     ·have:=i1 s hs'
      unfold MY at this ⊢
      rwa [← hs.1,← hs.2]
     ·rcases List.mem_cons.1 hs' with rfl|hs'
      ·exact .inl ⟨hs.1,hs.2,hk⟩
      ·rcases i4 s hs' with ⟨h3,h4,h5⟩|h3
       ·exact .inl ⟨by rw [h3,hs.1],by rw [h4,hs.2],by omega⟩
       ·exact .inr h3
   | false =>
     have hlt:MY a b:=by
      rcases hab with h3|h3
      ·unfold XI at hs
       simp [h3.1,h3.2.1] at hs
      ·exact h3
     rw [cond_false]
     refine ⟨fun s hs' => ?_,List.pairwise_cons.2 ⟨i1,i2⟩,fun s hs' => ?_,fun s hs' => ?_⟩
     ·rcases List.mem_cons.1 hs' with rfl|hs'
      ·exact hlt
      ·exact q0s hlt (i1 s hs')
     ·rcases List.mem_cons.1 hs' with rfl|hs'
      ·exact List.mem_cons_self
      ·exact List.mem_cons_of_mem _ (i3 s hs')
     ·rcases List.mem_cons.1 hs' with rfl|hs'
      ·exact .inr ⟨s,List.mem_cons_self,rfl,rfl,Int.le_refl _⟩
      ·rcases i4 s hs' with ⟨h3,h4,h5⟩|⟨s',h3,h4⟩
       ·exact .inr ⟨b,List.mem_cons_self,h3.symm,h4.symm,h5⟩
       ·exact .inr ⟨s',List.mem_cons_of_mem _ h3,h4⟩
theorem z2z {l:List Step} (hok : ∀ s∈l,q5k s):(ZD l).Pairwise MY∧(∀ s∈ZD l,s∈l) ∧ ∀ s∈l,∃ s'∈ZD l,s'.src=s.src∧s'.dst=s.dst∧s'.kind≤s.kind:=by
 have hp : ∀ s,s∈VL l↔s∈l:=fun s=>(NJ l).mem_iff
 have hs:=ME l
 unfold ZD
 cases hq:VL l with
 | nil =>
   rw [hq] at hp
   refine ⟨by simp [PZ],by simp [PZ],fun s hs => ?_⟩
   have:=(hp s).2 hs
   cases this
 | cons a r =>
   rw [hq] at hp hs
   have hok' : ∀ s∈a::r,q5k s:=fun s h=>hok s ((hp s).1 h)
   obtain ⟨h1,h2,h3,h4⟩:=q1g r a (hok' a List.mem_cons_self) (fun s h=>hok' s (List.mem_cons_of_mem _ h)) hs
   rw [PZ]
   refine ⟨List.pairwise_cons.2 ⟨h1,h2⟩,fun s hs' => ?_,fun s hs' => ?_⟩
   ·rcases List.mem_cons.1 hs' with rfl|hs'
    ·exact (hp s).1 List.mem_cons_self
    ·exact (hp s).1 (List.mem_cons_of_mem _ (h3 s hs'))
   ·rcases List.mem_cons.1 ((hp s).2 hs') with rfl|hs'
    ·exact ⟨s,List.mem_cons_self,rfl,rfl,Int.le_refl _⟩
    ·rcases h4 s hs' with ⟨h5,h6,h7⟩|⟨s',h5,h6⟩
     ·exact ⟨a,List.mem_cons_self,h5.symm,h6.symm,h7⟩
     ·exact ⟨s',List.mem_cons_of_mem _ h5,h6⟩
theorem z2m {l:List Step} (h:l.Pairwise MY) {a b:Step} (ha:a∈l) (hb:b∈l) (h1:a.src=b.src) (h2:a.dst=b.dst):a=b:=by
 have hn : ∀ {x y:Step},x.src=y.src→x.dst=y.dst → ¬MY x y:=fun {x y} e1 e2 hlt=>by
  unfold MY at hlt
  rw [e1,e2] at hlt
  omega
 induction h with
 | nil=>cases ha
 | @cons c r hc hr ih =>
   rcases List.mem_cons.1 ha with e1|ha'
   ·rcases List.mem_cons.1 hb with e2|hb'
    ·rw [e1,e2]
    ·exact absurd (hc b hb') (by rw [← e1];exact hn h1 h2)
   ·rcases List.mem_cons.1 hb with e2|hb'
    ·exact absurd (hc a ha') (by rw [← e2];exact hn h1.symm h2.symm)
    ·exact ih ha' hb'
theorem z4y {l m:List Step} (hok : ∀ s∈l,q5k s) (h1:m.Pairwise MY) (h2 : ∀ s∈m,s∈l) (h3 : ∀ s∈l,∃ s'∈m,s'.src=s.src∧s'.dst=s.dst∧s'.kind≤s.kind):ZD l=m:=by
 obtain ⟨g1,g2,g3⟩:=z2z hok
 refine q6r g1 h1 fun s=>⟨fun hs => ?_,fun hs => ?_⟩
 ·obtain ⟨a,ha,h4,h5,h6⟩:=h3 s (g2 s hs)
  obtain ⟨b,hb,h7,h8,h9⟩:=g3 a (h2 a ha)
  have:=z2m g1 hb hs (h7.trans h4) (h8.trans h5)
  subst this
  have:a=b:=Step.eq_of h4 h5 (by omega)
  rw [← this]
  exact ha
 ·obtain ⟨a,ha,h4,h5,h6⟩:=g3 s (h2 s hs)
  obtain ⟨b,hb,h7,h8,h9⟩:=h3 a (g2 a ha)
  have:=z2m h1 hb hs (h7.trans h4) (h8.trans h5)
  subst this
  have:a=b:=Step.eq_of h4 h5 (by omega)
  rw [← this]
  exact ha
open Go.Proofs
open Go.Proofs
open Go.Proofs
theorem z0j {p:Pg} (h:VV p=true) {j:Nat} {f:Pr} (hj:p.procs[j]? = some f) {x:RI} (hx:x∈ZV f):x.s∈flL f.body:=by
 rw [ZU (QE h).1 (List.mem_of_getElem? hj)] at hx
 rw [← show (flatU f).map RI.s=flL f.body from HG 1 0 false f.body]
 exact List.mem_map.2 ⟨x,hx,rfl⟩
open Go.Proofs
def RI0:RI:=⟨.mk 0 0 [] [] [] (.mk 0 0 [] []) false [] [] [],0,0,false⟩
def x3n (id:Int) (f:Pr):Option (RI×Str):=((ZV f).find? fun x=>decide (x.s.id=id)).map fun x=>(x,f.name)
def q9e (p:Pg) (id:Int):Option (RI×Str):=p.procs.findSome? (x3n id)
def HJ (p:Pg) (id:Int):RI×Str×Bool:=match q9e p id with
 | some (x,n)=>(x,n,true)
 | none=>(RI0,[],false)
theorem z2c:Sub (.agg [.int .i64 0,.int .i64 0,.nils,.str [],.str [],.int .i64 0,.int .i64 0,.str [],.nils,.ff,.nils,.nils,.nils,.int .i64 0,.int .i64 0,.ff]) (.agg RI0.cells) :=
 Sub.agg (by repeat' (first|exact SubL.nil|refine SubL.cons ?_ ?_|exact Sub.nils|exact Sub.ff rfl|exact Sub.refl _))
theorem q4x {l:List RI} {q:RI→Bool} {k:Nat} (hk:k<l.length):(l.drop k).find? q=if q l[k] then some l[k] else (l.drop (k+1)).find? q:=by
 rw [QJ hk,List.find?_cons]
 cases q l[k]<;>rfl
theorem q0a (p:Pg) (id:Int):SpecP Tryz.prog 84 [.agg p.cells,.int .i64 id] (fun r=>r = .tup [.agg (HJ p id).1.cells,.str (HJ p id).2.1,.bool (HJ p id).2.2]):=by
 refine SpecP.body PI QQ Tryz.func84 rfl Tryz.call84 (by show 2≤_;decide) ?_
 conv=>whnf
 have hpl:(p.procs.map fun f=>AV.agg f.cells).length=p.procs.length:=List.length_map _
 repeat' (intro (_:_≤9223372036854775807);conv=>whnf)
 refine LoopK.inv QQ (fun j:Nat=>⟨[(1,.p (.int .i64 id)),(4,.ptr 1 0),(12,.p (.sl (p.procs.map fun f => .agg f.cells))),(13,.p (.int .i64 (p.procs.map fun f=>AV.agg f.cells).length)),(14,.p (.int .i64 j))],[(1,.obj 103 [.p (.int .i64 0),.p (.int .i64 0),.p .nils,.p (.str []),.p (.str []),.p (.int .i64 0),.p (.int .i64 0),.p (.str []),.p .nils,.p .ff,.p .nils,.p .nils,.p .nils,.p (.int .i64 0),.p (.int .i64 0),.p .ff])]⟩) (fun j=>j≤p.procs.length∧(p.procs.drop j).findSome? (x3n id)=q9e p id) (fun j=>p.procs.length-j) 0 (Le.of_eq rfl) ⟨Nat.zero_le _,rfl⟩ ?_
 rintro j ⟨h2,h3⟩
 rcases Nat.lt_or_ge j p.procs.length with hj|hj
 rotate_left 1
 ·rw [List.drop_eq_nil_of_le hj,List.findSome?_nil] at h3
  have hO:HJ p id=(RI0,[],false):=by unfold HJ;rw [← h3]
  rw [hO]
  conv=>whnf
  repeat' (first|(refine And.intro rfl ?_;conv=>whnf)|(refine Br.dec (fun _=>?_) (fun _=>?_)<;>first|(exfalso;omega)|conv=>whnf))
  exact ⟨_,.p (Sub.tup (SubL.cons z2c (SubL.cons (Sub.refl _) (SubL.cons (Sub.ff rfl) SubL.nil)))),rfl⟩
 rw [QJ hj,List.findSome?_cons] at h3
 conv=>whnf
 repeat' (first|((first|intro (_:_≤9223372036854775807)|refine And.intro rfl ?_|refine IdxK.map (by omega) (fun _=>rfl) ?_|(refine CallK.pure (QN _) (.cons (Sub.refl _) .nil) ?_;rintro _ rfl));conv=>whnf)|(refine Br.dec (fun _=>?_) (fun _=>?_)<;>first|(exfalso;omega)|conv=>whnf))
 have hrl:((ZV p.procs[j]).map fun i=>AV.agg i.cells).length=(ZV p.procs[j]).length:=List.length_map _
 have hff:x3n id p.procs[j]=((ZV p.procs[j]).find? fun x=>decide (x.s.id=id)).map fun x=>(x,p.procs[j].name):=rfl
 rw [hff] at h3
 have hfl:=YW p.procs[j]
 generalize ZV p.procs[j]=F at hrl hfl h3 ⊢
 refine LoopK.inv QQ (fun k:Nat=>⟨[(1,.p (.int .i64 id)),(4,.ptr 1 0),(8,.p (.ip p.procs[j].cells)),(12,.p (.sl (p.procs.map fun f => .agg f.cells))),(13,.p (.int .i64 (p.procs.map fun f=>AV.agg f.cells).length)),(14,.p (.int .i64 j)),(19,.p (KT F)),(20,.p (.int .i64 (F.map fun i=>AV.agg i.cells).length)),(21,.p (.int .i64 k))],[(1,.obj 103 [.p (.int .i64 0),.p (.int .i64 0),.p .nils,.p (.str []),.p (.str []),.p (.int .i64 0),.p (.int .i64 0),.p (.str []),.p .nils,.p .ff,.p .nils,.p .nils,.p .nils,.p (.int .i64 0),.p (.int .i64 0),.p .ff])]⟩) (fun k=>k≤F.length∧(F.drop k).find? (fun x=>decide (x.s.id=id))=F.find? fun x=>decide (x.s.id=id)) (fun k=>F.length-k) 0 (Le.of_eq rfl) ⟨Nat.zero_le _,rfl⟩ ?_
 rintro k ⟨h4,h5⟩
 rcases Nat.lt_or_ge k F.length with hk|hk
 rotate_left 1
 ·rw [List.drop_eq_nil_of_le hk,List.find?_nil] at h5
  rw [← h5] at h3
  conv=>whnf
  repeat' (first|(refine Wr.i64 (by omega) (by omega) ?_;conv=>whnf)|(refine Br.dec (fun _=>?_) (fun _=>?_)<;>first|(exfalso;omega)|conv=>whnf))
  exact ⟨j+1,⟨hj,h3⟩,by omega,Le.of_eq rfl⟩
 rw [q4x hk] at h5
 conv=>whnf
 repeat' (first|((first|refine DrawK.auto QQ mixed (by kernel_rfl) ?_|refine And.intro rfl ?_|refine IdxK.map (by omega) (fun _=>rfl) ?_|refine Wr.i64 (by omega) (by omega) ?_);conv=>whnf)|(refine Br.dec (fun _=>?_) (fun _=>?_)<;>first|(exfalso;omega)|conv=>whnf))
 ·have hid:F[k].s.id=id:=by assumption
  rw [if_pos (decide_eq_true hid)] at h5
  rw [← h5] at h3
  have hO:HJ p id=(F[k],p.procs[j].name,true):=by unfold HJ;rw [← h3];rfl
  rw [hO]
  exact ⟨_,.p (Sub.tup (SubL.cons (Sub.refl _) (SubL.cons (Sub.refl _) (SubL.cons (Sub.tt rfl) SubL.nil)))),rfl⟩
 ·have hid : ¬F[k].s.id=id:=by assumption
  rw [if_neg (by simpa using hid)] at h5
  exact ⟨k+1,⟨hk,h5⟩,by omega,Le.of_eq rfl⟩
open Go.Proofs
open Go.Proofs
open Go.Proofs
open Go.Proofs
open Go.Proofs
open Go.Proofs
open Go.Proofs
open Go.Proofs
open Go.Proofs
theorem x4m {l:List Str} {s:Str} (h:s∈l):s∈Go.Lib.compact l:=by
 have key : ∀ (j:Nat) (hj:j<l.length),l[j]∈Go.Lib.compact l:=fun j=>by
  induction j with
  | zero =>
    intro hj
    refine List.mem_map.2 ⟨0,List.mem_filter.2 ⟨by simpa using hj,by simp [Go.Lib.keeps]⟩,?_⟩
    simp [hj]
  | succ j ih =>
    intro hj
    cases hk:Go.Lib.keeps l.toArray (j+1) with
    | true =>
      refine List.mem_map.2 ⟨j+1,List.mem_filter.2 ⟨by simpa using hj,hk⟩,?_⟩
      simp [hj]
    | false =>
      have hj':j<l.length:=by omega
      have:l[j+1]=l[j]:=by
       unfold Go.Lib.keeps at hk
       simp [hj,hj'] at hk
       exact hk
      rw [this]
      exact ih hj'
 obtain ⟨j,hj,rfl⟩:=List.mem_iff_getElem.1 h
 exact key j hj
theorem q3n {l:List Str} {s:Str}:s∈Go.Lib.compact l↔s∈l:=⟨PJ,x4m⟩
open Go.Proofs
section
variable {p:Pg} {k:Nat} {f:Pr}
end
open Go.Proofs
theorem q7d : ∀ (l:List Pr) {n:Nat} {m:Int},XD n l=some m → ∀ (j:Nat) (f:Pr),l[j]? = some f → ∃ m',ZW 1 ((n+QT l j:Nat):Int) f.body=some m'
 | [],_,_,_,j,f,hj=>by simp at hj
 | g::r,n,m,h,j,f,hj=>by
   rw [XD] at h
   cases hm:JL g<;>rw [hm] at h
   ·cases h
   simp only [cond_true] at h
   split at h
   ·rename_i m1 h1
    cases j with
    | zero =>
      cases hj
      exact ⟨m1,h1⟩
    | succ j =>
      have h2:=ZG _ _ g.body h1
      have h':XD ((n+QY g.body:Nat):Int) r=some m:=by rw [← h,h2];rfl
      obtain ⟨m',h3⟩:=q7d r h' j f (by simpa using hj)
      exact ⟨m',by rw [← h3,QT];congr 1;omega⟩
   ·cases h
theorem q0o {p:Pg} (h:WM p=true) {j:Nat} {f:Pr} (hj:p.procs[j]? = some f) : ∃ m,ZW 1 ((QT p.procs j:Nat):Int) f.body=some m:=by
 unfold WM at h
 simp only [Bool.and_eq_true] at h
 obtain ⟨m,hm⟩:=Option.isSome_iff_exists.1 h.2
 obtain ⟨m',h'⟩:=q7d p.procs (n:=0) hm j f hj
 exact ⟨m',by rw [← h'];congr 1;omega⟩
theorem q7o : ∀ (l:List Int) (b:List Bool) (i:Nat),i<b.length→((GE l b).getD i false=true↔b.getD i false=true ∨ ∃ a∈l,a.toNat=i)
 | [],b,i,hi=>by simp [GE]
 | a::r,b,i,hi=>by
   have ih:=q7o r (b.set a.toNat true) i (by rw [List.length_set];exact hi)
   have e:GE (a::r) b=GE r (b.set a.toNat true):=rfl
   rw [e,ih]
   simp only [List.mem_cons,exists_eq_or_imp]
   by_cases ha:a.toNat=i
   ·simp [ha,hi,List.getD_eq_getElem?_getD,List.getElem?_set]
   ·simp [ha,List.getD_eq_getElem?_getD,List.getElem?_set]
theorem x7f {p:Pg} (h:VV p=true) {j:Nat} {f:Pr} (hj:p.procs[j]? = some f) {y:Int} (hy:plP p j f y):(QF p j f).live.getD (ixI p j f y).toNat false=true↔Rch (wR p j f) 0 y:=by
 have hrng:=z6p hy
 have hl:(QF p j f).live=GE (q0z 0 (YQ (XJ (QY f.body+2) ((QF p j f).real.map (ixP p j f (QY f.body+2:Nat)))).1 [0])) (List.replicate (QY f.body+2) false):=rfl
 rw [hl,q7o _ _ _ (by rw [List.length_replicate];omega)]
 have h0:(List.replicate (QY f.body+2) false).getD (ixI p j f y).toNat false=false:=by
  rw [List.getD_eq_getElem?_getD,List.getElem?_replicate]
  split<;>rfl
 rw [h0]
 have hs:=q6t (F:=(QF p j f).real) (NX h hj) hy
 unfold wR
 rw [← hs]
 constructor
 ·rintro (h1|⟨a,h1,h2⟩)
  ·cases h1
  ·have ha:=q9x _ _ _ h1
   rwa [show ixI p j f y=a by omega]
 ·exact fun h1 => .inr ⟨_,h1,rfl⟩
section
variable {p:Pg} {k:Nat} {f:Pr}
end
open Go.Proofs
open Go.Proofs
end Go.Ab
