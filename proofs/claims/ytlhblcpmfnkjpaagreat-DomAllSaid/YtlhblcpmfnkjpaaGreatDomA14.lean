/- What can be come to: the reckoned answer has what ways lead to, and no more. -/
import Derived.Test.YtlhblcpmfnkjpaaGreatDomA13
set_option linter.unusedSimpArgs false
set_option linter.unusedVariables false
set_option maxRecDepth 100000
set_option maxHeartbeats 16000000
open List (foldl_cons getD_eq_getElem?_getD length_map map_cons mem_cons mem_cons_of_mem mem_cons_self nodup_append sum_cons)
open Nat (zero_le)
namespace Go.Ab
open Go.Proofs
inductive Rch {α:Type} (R:α->α->Prop) (a:α):α->Prop
 | refl:Rch R a a
 | tail {b c:α} (h:Rch R a b) (hr:R b c):Rch R a c
theorem Rch.trans {α:Type} {R:α->α->Prop} {a b c:α} (h:Rch R a b) (h':Rch R b c):Rch R a c:=by
 induction h' with
 | refl=>exact h
 | tail _ hr ih=>exact .tail ih hr
theorem Rch.head {α:Type} {R:α->α->Prop} {a b c:α} (hr:R a b) (h:Rch R b c):Rch R a c:=Rch.trans (.tail .refl hr) h
theorem Rch.mono {α:Type} {R R':α->α->Prop} (h : ∀ x y,R x y->R' x y) {a b:α} (hr:Rch R a b):Rch R' a b:=by
 induction hr with
 | refl=>exact .refl
 | tail _ hr ih=>exact .tail ih (h _ _ hr)
theorem Rch.closed {α:Type} {R:α->α->Prop} {S:α->Prop} (hS : ∀ x y,S x->R x y->S y) {a b:α} (ha:S a) (h:Rch R a b):S b:=by
 induction h with
 | refl=>exact ha
 | tail _ hr ih=>exact hS _ _ ih hr
structure WkM (n:Nat) (st:List Bool×List Int):Prop where
 inv:wkInv n st
 mem : ∀ x,x∈st.2↔(0<=x∧x<n)∧st.1.getD x.toNat false=true
theorem WkM.start (n:Nat):WkM n (List.replicate n false,[]):=⟨ME n,fun x=>by
 simp only [List.not_mem_nil,false_iff,not_and];intro _;rw [getD_eq_getElem?_getD,List.getElem?_replicate];split<;>simp⟩
theorem WkM.see {n:Nat} {st:List Bool×List Int} (h:WkM n st) {b:Int} (hb:0<=b∧b<n):WkM n (KE st b)∧(∀ x,x∈(KE st b).2↔x∈st.2∨x=b)∧st.2 <+: (KE st b).2:=by
 have hi:=q1i h.inv hb;cases hs:st.1.getD b.toNat false with
 | true =>
   have e:KE st b=st:=by unfold KE;rw [hs];rfl
   rw [e];refine ⟨h,fun x=>⟨.inl,fun hx => ?_⟩,List.prefix_refl _⟩;rcases hx with hx|rfl
   ·exact hx
   ·exact (h.mem _).2 ⟨hb,hs⟩
 | false =>
   have e:KE st b=(st.1.set b.toNat true,st.2++[b]):=by unfold KE;rw [hs];rfl
   rw [e] at hi ⊢;have hlen:=h.inv.1;refine ⟨⟨hi,fun x => ?_⟩,fun x=>by simp,List.prefix_append _ _⟩;rw [List.mem_append,List.mem_singleton,h.mem];simp only [getD_eq_getElem?_getD,List.getElem?_set];by_cases hx:x=b
   ·subst hx;rw [if_pos rfl,if_pos (by omega)];simp [hb]
   ·constructor
    ·rintro (⟨h1,h2⟩|h2)
     ·refine ⟨h1,?_⟩;rw [if_neg (by omega)];exact h2
     ·exact absurd h2 hx
    ·rintro ⟨h1,h2⟩;rw [if_neg (by omega)] at h2;exact .inl ⟨h1,h2⟩
theorem WkM.fold {n:Nat} : ∀ (l:List Int) {st:List Bool×List Int},WkM n st->(∀ b∈l,0<=b∧b<n)->WkM n (l.foldl KE st)∧(∀ x,x∈(l.foldl KE st).2↔x∈st.2∨x∈l)∧st.2 <+: (l.foldl KE st).2
 | [],st,h,_=>⟨h,fun x=>by simp,List.prefix_refl _⟩
 | b::r,st,h,hl=>by
   obtain ⟨h1,h2,h3⟩:=h.see (hl b mem_cons_self);obtain ⟨h4,h5,h6⟩:=WkM.fold r h1 fun c hc=>hl c (mem_cons_of_mem _ hc);refine ⟨h4,fun x => ?_,h3.trans h6⟩;rw [foldl_cons,h5,h2,mem_cons,or_assoc]
def x6n (rows:List (List Int)) (x y:Int):Prop:=y∈rows.getD x.toNat []
theorem BG {n:Nat} {rows:List (List Int)} (hr:XB n rows) {x y:Int} (h:x6n rows x y):0<=y∧y<n:=by
 unfold x6n at h;rw [getD_eq_getElem?_getD] at h;cases hq:rows[x.toNat]? with
 | none=>rw [hq] at h;simp at h
 | some r=>rw [hq] at h;exact hr.2 r (List.mem_of_getElem? hq) y h
theorem q3o {α:Type} {l m:List α} (h:l <+: m) {i:Nat} {a:α} (ha:l[i]? = some a):m[i]? = some a:=by
 obtain ⟨t,rfl⟩:=h;rw [List.getElem?_append_left (List.getElem?_eq_some_iff.1 ha).1];exact ha
theorem q9m {n:Nat} {rows:List (List Int)} (hr:XB n rows) : ∀ (k i:Nat) {st:List Bool×List Int},WkM n st->i<=st.2.length->n+1<=k+i->(∀ (m:Nat) (a:Int),m<i->st.2[m]? = some a -> ∀ b,x6n rows a b->b∈st.2) ->
  WkM n (ZJ rows k i st)∧(∀ x∈st.2,x∈(ZJ rows k i st).2)∧(∀ x∈(ZJ rows k i st).2,∀ b,x6n rows x b->b∈(ZJ rows k i st).2)∧(∀ S:Int->Prop,(∀ x∈st.2,S x)->(∀ x b,S x->x6n rows x b->S b) -> ∀ x∈(ZJ rows k i st).2,S x)
 | 0,i,st,h,hi,hk,_=>by
   have:=BE h.inv;omega
 | k+1,i,st,h,hi,hk,hc=>by
   rw [ZJ];split
   ·rename_i a ha;have hlt:=(List.getElem?_eq_some_iff.1 ha).1;have hrow : ∀ b∈rows.getD a.toNat [],0<=b∧b<n:=fun b hb=>BG hr hb;obtain ⟨h1,h2,h3⟩:=h.fold (rows.getD a.toNat []) hrow;obtain ⟨h4,h5,h6,h7⟩:=q9m hr k (i+1) h1 (Nat.le_trans hlt h3.length_le) (by omega) fun m c hm hmc b hb=>by
     rw [h2];rcases Nat.lt_or_ge m i with hmi|hmi
     ·have hml:m<st.2.length:=by omega
      have hmc':st.2[m]? = some c:=by
       have:=q3o h3 (List.getElem?_eq_getElem hml);rw [List.getElem?_eq_getElem hml,<- this,hmc]
      exact .inl (hc m c hmi hmc' b hb)
     ·obtain rfl:m=i:=by omega
      have:=q3o h3 ha;rw [this] at hmc;cases hmc;exact .inr hb
    refine ⟨h4,fun x hx=>h5 x ((h2 x).2 (.inl hx)),h6,fun S hS hcl=>h7 S (fun x hx => ?_) hcl⟩;rcases (h2 x).1 hx with hx|hx
    ·exact hS x hx
    ·exact hcl a x (hS a (List.mem_of_getElem? ha)) hx
   ·rename_i ha;have hlen:st.2.length<=i:=List.getElem?_eq_none_iff.1 ha;refine ⟨h,fun x hx=>hx,fun x hx b hb => ?_,fun S hS _=>hS⟩;obtain ⟨m,hm⟩:=List.mem_iff_getElem?.1 hx;exact hc m x (by have:=(List.getElem?_eq_some_iff.1 hm).1;omega) hm b hb
theorem q4a {n:Nat} : ∀ (l:List Int) {st:List Bool×List Int},WkM n st->WkM n (l.foldl (fun st a=>bif WS n a then KE st a else st) st) ∧ ∀ x,x∈(l.foldl (fun st a=>bif WS n a then KE st a else st) st).2↔x∈st.2∨(x∈l∧WS n x=true)
 | [],st,h=>⟨h,fun x=>by simp⟩
 | a::r,st,h=>by
   rw [foldl_cons];cases hb:WS n a with
   | true =>
     obtain ⟨h1,h2,_⟩:=h.see (ZM hb);obtain ⟨h3,h4⟩:=q4a r h1;rw [cond_true];refine ⟨h3,fun x => ?_⟩;rw [h4,h2,mem_cons];constructor
     ·rintro ((h5|rfl)|⟨h5,h6⟩)
      ·exact .inl h5
      ·exact .inr ⟨.inl rfl,hb⟩
      ·exact .inr ⟨.inr h5,h6⟩
     ·rintro (h5|⟨rfl|h5,h6⟩)
      ·exact .inl (.inl h5)
      ·exact .inl (.inr rfl)
      ·exact .inr ⟨h5,h6⟩
   | false =>
     obtain ⟨h3,h4⟩:=q4a r h;rw [cond_false];refine ⟨h3,fun x => ?_⟩;rw [h4,mem_cons];constructor
     ·rintro (h5|⟨h5,h6⟩)
      ·exact .inl h5
      ·exact .inr ⟨.inr h5,h6⟩
     ·rintro (h5|⟨rfl|h5,h6⟩)
      ·exact .inl h5
      ·rw [hb] at h6;cases h6
      ·exact .inr ⟨h5,h6⟩
theorem z5x : ∀ (l:List Bool) (i:Nat) (y:Int),y∈MP i l ↔ ∃ k:Nat,l[k]? = some true∧y=((i+k:Nat):Int)
 | [],i,y=>by simp [MP]
 | b::r,i,y=>by
   have ih:=z5x r (i+1) y;have key:(∃ k:Nat,(b::r)[k]? = some true∧y=((i+k:Nat):Int))↔(b=true∧y=(i:Int)) ∨ ∃ k:Nat,r[k]? = some true∧y=((i+1+k:Nat):Int):=by
    constructor
    ·rintro ⟨k,h1,h2⟩;cases k with
     | zero=>simp at h1;exact .inl ⟨h1,by simpa using h2⟩
     | succ k=>exact .inr ⟨k,by simpa using h1,by rw [h2];omega⟩
    ·rintro (⟨h1,h2⟩|⟨k,h1,h2⟩)
     ·exact ⟨0,by simp [h1],by simpa using h2⟩
     ·exact ⟨k+1,by simpa using h1,by rw [h2];omega⟩
   rw [key,<- ih,MP];cases b<;>simp
theorem w2q {n:Nat} {rows:List (List Int)} (hr:XB n rows) (l:List Int) (y:Int):y∈MP 0 (VT rows l) ↔ ∃ a∈l,WS n a=true∧Rch (x6n rows) a y:=by
 obtain ⟨h1,h2⟩:=q4a (n:=n) l (WkM.start n);obtain ⟨h3,h4,h5,h6⟩:=q9m hr (rows.length+1) 0 (st:=BI rows.length l) (by rw [hr.1];exact h1) (zero_le _) (by rw [hr.1];omega) (fun m a hm=>by omega);have hst : ∀ x,x∈(BI rows.length l).2↔x∈l∧WS n x=true:=fun x=>by
  rw [hr.1];unfold BI;rw [h2];simp
 have hmem : ∀ y,y∈MP 0 (VT rows l)↔y∈(ZJ rows (rows.length+1) 0 (BI rows.length l)).2:=fun y=>by
  rw [z5x,h3.mem];show (∃ k:Nat,(ZJ rows (rows.length+1) 0 (BI rows.length l)).1[k]? = some true∧_)↔_;constructor
  ·rintro ⟨k,h7,h8⟩;have hlt:=(List.getElem?_eq_some_iff.1 h7).1;rw [h3.inv.1] at hlt;refine ⟨by omega,?_⟩;rw [h8,getD_eq_getElem?_getD];simp [h7]
  ·rintro ⟨h7,h8⟩;have hlt:y.toNat<(ZJ rows (rows.length+1) 0 (BI rows.length l)).1.length:=by rw [h3.inv.1];omega
   refine ⟨y.toNat,?_,by omega⟩;rw [getD_eq_getElem?_getD,List.getElem?_eq_getElem hlt] at h8;rw [List.getElem?_eq_getElem hlt];simpa using h8
 rw [hmem];constructor
 ·intro hy;refine h6 (fun y => ∃ a∈l,WS n a=true∧Rch (x6n rows) a y) (fun x hx => ?_) (fun x b ⟨a,h7,h8,h9⟩ hb=>⟨a,h7,h8,.tail h9 hb⟩) y hy;obtain ⟨h7,h8⟩:=(hst x).1 hx;exact ⟨x,h7,h8,.refl⟩
 ·rintro ⟨a,h7,h8,h9⟩;exact h9.closed (S:=fun y=>y∈(ZJ rows (rows.length+1) 0 (BI rows.length l)).2) (fun x b hx hb=>h5 x hx b hb) (h4 a ((hst a).2 ⟨h7,h8⟩))
theorem z4l {l:List Int} {k:Nat} {b x:Int}:x∈q5r l k b↔x∈l∨x=b:=by
 unfold q5r;rw [List.mem_append,mem_cons];have:x∈l↔x∈l.take k∨x∈l.drop k:=by rw [<- List.mem_append,List.take_append_drop]
 rw [this];constructor
 ·rintro (h|h|h)
  ·exact .inl (.inl h)
  ·exact .inr h
  ·exact .inl (.inr h)
 ·rintro ((h|h)|h)
  ·exact .inl h
  ·exact .inr (.inr h)
  ·exact .inr (.inl h)
theorem w5j {n:Nat} {g:List (List Int)×List (List Int)} (hl:g.1.length=n) (e:Int×Int) {x y:Int} (hx:0<=x∧x<n):y∈(x6m n g e).1.getD x.toNat []↔y∈g.1.getD x.toNat []∨((x,y)=e∧WS n y=true):=by
 rw [q8d];cases hc:(WS n e.1&&WS n e.2 && !(g.1.getD e.1.toNat []).contains e.2) with
 | true =>
   simp only [Bool.and_eq_true,Bool.not_eq_true'] at hc;obtain ⟨⟨h1,h2⟩,_⟩:=hc;have h3:=ZM h1;rw [cond_true];unfold x1r;rw [getD_eq_getElem?_getD,List.getElem?_set];by_cases he:e.1.toNat=x.toNat
   ·rw [if_pos he,if_pos (by omega)];simp only [Option.getD_some];rw [z4l,<- he];have:x=e.1:=by omega
    constructor
    ·rintro (h|h)
     ·exact .inl h
     ·exact .inr ⟨by rw [this,h],by rw [h];exact h2⟩
    ·rintro (h|⟨h,_⟩)
     ·exact .inl h
     ·exact .inr (by rw [<- h])
   ·rw [if_neg he,<- getD_eq_getElem?_getD];constructor
    ·exact .inl
    ·rintro (h|⟨h,_⟩)
     ·exact h
     ·exact absurd (by rw [<- h]) he
 | false =>
   rw [cond_false];constructor
   ·exact .inl
   ·rintro (h|⟨rfl,h⟩)
    ·exact h
    ·have h1:WS n x=true:=by unfold WS;simp [hx]
     simp only [h1,h,Bool.true_and,Bool.not_eq_false'] at hc;simpa using hc
theorem z3t {n:Nat} {g:List (List Int)×List (List Int)} (hl:g.1.length=n) (e:Int×Int):(x6m n g e).1.length=n:=by
 rw [q8d];cases (WS n e.1&&WS n e.2 && !(g.1.getD e.1.toNat []).contains e.2) with
 | true=>rw [cond_true];unfold x1r;rw [List.length_set];exact hl
 | false=>exact hl
theorem x8g {n:Nat} {x y:Int} (hx:0<=x∧x<n) : ∀ (l:List (Int×Int)) {g:List (List Int)×List (List Int)},g.1.length=n->(y∈(l.foldl (x6m n) g).1.getD x.toNat []↔y∈g.1.getD x.toNat []∨((x,y)∈l∧WS n y=true))
 | [],g,_=>by simp
 | e::r,g,h=>by
   rw [foldl_cons,x8g hx r (z3t h e),w5j h e hx,mem_cons];constructor
   ·rintro ((h1|⟨h1,h2⟩)|⟨h1,h2⟩)
    ·exact .inl h1
    ·exact .inr ⟨.inl h1,h2⟩
    ·exact .inr ⟨.inr h1,h2⟩
   ·rintro (h1|⟨h1|h1,h2⟩)
    ·exact .inl (.inl h1)
    ·exact .inl (.inr ⟨h1,h2⟩)
    ·exact .inr ⟨h1,h2⟩
theorem x1f {n:Nat} {l:List (Int×Int)} {x y:Int} (hx:0<=x∧x<n):x6n (XU n l).1 x y↔(x,y)∈l∧WS n y=true:=by
 unfold x6n XU;rw [x8g hx l (by simp)];have:(List.replicate n ([]:List Int)).getD x.toNat []=[]:=by
  rw [getD_eq_getElem?_getD,List.getElem?_replicate];split<;>rfl
 rw [this];simp
def stR (F:List Step) (a b:Int):Prop := ∃ s∈F,s.src=a∧s.dst=b
def plP (p:Pg) (j:Nat) (f:Pr) (x:Int):Prop:=x=0∨x = -1∨((QR p.procs j:Int)+1<=x∧x<=(QR p.procs j+QV f.body:Nat))
def ixI (p:Pg) (j:Nat) (f:Pr) (x:Int):Int:=KX (loI p j) (hiI p j f) (QV f.body+2:Nat) x
theorem WY {p:Pg} {j:Nat} {f:Pr} {x:Int} (h:plP p j f x):0<=ixI p j f x∧ixI p j f x<(QV f.body+2:Nat):=by
 unfold ixI KX loI hiI;unfold plP at h
 (repeat' split)<;>omega
theorem q2j {p:Pg} {j:Nat} {f:Pr} {x y:Int} (hx:plP p j f x) (hy:plP p j f y) (h:ixI p j f x=ixI p j f y):x=y:=by
 unfold ixI KX loI hiI at h;unfold plP at hx hy
 (repeat' split at h)<;>omega
theorem KH {p:Pg} (h:XG p=true) {j:Nat} {f:Pr} (hj:p.procs[j]? = some f) : ∀ s∈(QQ p j f).real,plP p j f s.src∧plP p j f s.dst:=fun s hs=>by
 obtain ⟨_,h2⟩:=VI h hj;obtain ⟨_,h3,_⟩:=PT h hj;obtain ⟨h4,h5⟩:=h3 s ((h2 s).1 hs);unfold okI at h5;unfold plP;omega
theorem w5u {l:List Str} (h:XH l=false):l.Nodup:=by
 unfold XH at h;rw [List.any_eq_false] at h;unfold List.Nodup;rw [List.pairwise_iff_getElem];intro i j hi hj hij he;have h1:=h j (List.mem_range.2 hj);apply h1;rw [List.any_eq_true];refine ⟨l[i],?_,?_⟩
 ·exact List.mem_iff_getElem.2 ⟨i,by simp;omega,by simp⟩
 ·rw [List.getElem?_eq_getElem hj];simp [he]
theorem w3w {E:Int->Int->Prop} {B:List Int} {u x:Int} (h:Rch E u x) (hu:u∈B) (hx:x∉B) : ∃ z y,z∈B∧E z y∧y∉B∧Rch E u y∧Rch E y x:=by
 induction h with
 | refl=>exact absurd hu hx
 | @tail b c h hr ih =>
   by_cases hb:b∈B
   ·exact ⟨b,c,hb,hr,hx,.tail h hr,.refl⟩
   ·obtain ⟨z,y,h1,h2,h3,h4,h5⟩:=ih hb;exact ⟨z,y,h1,h2,h3,h4,.tail h5 hr⟩
def chainE (E:Int->Int->Prop):List Int->Prop
 | []=>True
 | [_]=>True
 | a::b::r=>E a b∧chainE E (b::r)
theorem LY {E:Int->Int->Prop} : ∀ (l:List Int) {a y:Int},chainE E (l++[a])->y∈l++[a]->Rch E y a
 | [],a,y,_,hy=>by
   simp at hy;rw [hy];exact .refl
 | [b],a,y,h,hy=>by
   simp at hy;rcases hy with rfl|rfl
   ·exact .tail .refl h.1
   ·exact .refl
 | b::c::r,a,y,h,hy=>by
   have h1:chainE E ((c::r)++[a]):=h.2;rcases List.mem_cons.1 hy with rfl|hy
   ·exact .head h.1 (LY (c::r) h1 (by simp))
   ·exact LY (c::r) h1 hy
theorem q9k {E:Int->Int->Prop} : ∀ (l:List Int) {a b:Int},chainE E (l++[a])->E a b->chainE E (l++[a]++[b])
 | [],a,b,_,hb=>⟨hb,trivial⟩
 | [c],a,b,h,hb=>⟨h.1,hb,trivial⟩
 | c::d::r,a,b,h,hb=>⟨h.1,q9k (d::r) h.2 hb⟩
theorem x2k {E:Int->Int->Prop} : ∀ (l:List Int) {a:Int},chainE E (l++[a])->chainE E l
 | [],_,_=>trivial
 | [_],_,_=>trivial
 | c::d::r,_,h=>⟨h.1,x2k (d::r) h.2⟩
structure DfsI (n:Nat) (E:Int->Int->Prop) (out stack:List Int):Prop where
 nd:(out++stack).Nodup
 rng : ∀ x∈out++stack,0<=x∧x<n
 path:chainE E stack
 cl : ∀ u∈out,∀ v,E u v->v∈out∨v∈stack
 J : ∀ u∈out,∀ x,Rch E u x->x∉out -> ∃ s∈stack,Rch E u s∧Rch E s u∧Rch E s x
 K : ∀ (i:Nat) (r:Int),out[i]? = some r -> ∀ u,Rch E u r->Rch E r u ∨ ∃ u',Rch E u u'∧Rch E u' u∧(u'∉out ∨ ∃ j,i<j∧out[j]? = some u')
theorem DfsI.start (n:Nat) (E:Int->Int->Prop):DfsI n E [] []:=⟨by simp,by simp,trivial,by simp,by simp,by simp⟩
theorem DfsI.push {n:Nat} {E:Int->Int->Prop} {out stack:List Int} (h:DfsI n E out stack) {b:Int} (hb:0<=b∧b<n) (hn:b∉out++stack) (hp:chainE E (stack++[b])):DfsI n E out (stack++[b]):=by
 refine ⟨?_,fun x hx => ?_,hp,fun u hu v hv => ?_,fun u hu x hx hxo => ?_,h.K⟩
 ·rw [<- List.append_assoc,nodup_append];refine ⟨h.nd,by simp,fun x hx y hy => ?_⟩;rw [List.mem_singleton.1 hy];exact fun e=>hn (e▸hx)
 ·rw [<- List.append_assoc] at hx;rcases List.mem_append.1 hx with hx|hx
  ·exact h.rng x hx
  ·rw [List.mem_singleton.1 hx];exact hb
 ·rcases h.cl u hu v hv with h1|h1
  ·exact .inl h1
  ·exact .inr (List.mem_append.2 (.inl h1))
 ·obtain ⟨s,h1,h2⟩:=h.J u hu x hx hxo;exact ⟨s,List.mem_append.2 (.inl h1),h2⟩
theorem DfsI.pop {n:Nat} {E:Int->Int->Prop} {out st:List Int} {a:Int} (h:DfsI n E out (st++[a])) (ha : ∀ v,E a v->v∈out∨v∈st++[a]):DfsI n E (out++[a]) st:=by
 have hnd:=h.nd;rw [nodup_append] at hnd;obtain ⟨hn1,hn2,hn3⟩:=hnd;rw [nodup_append] at hn2;obtain ⟨hn4,_,hn5⟩:=hn2;have hao:a∉out:=fun hm=>hn3 a hm a (by simp) rfl;have hast:a∉st:=fun hm=>hn5 a hm a (by simp) rfl;have hcl : ∀ u∈out++[a],∀ v,E u v->v∈out++[a]∨v∈st:=fun u hu v hv=>by
  have:v∈out∨v∈st++[a]:=by
   rcases List.mem_append.1 hu with hu|hu
   ·exact h.cl u hu v hv
   ·rw [List.mem_singleton.1 hu] at hv;exact ha v hv
  rcases this with h1|h1
  ·exact .inl (List.mem_append.2 (.inl h1))
  ·rcases List.mem_append.1 h1 with h1|h1
   ·exact .inr h1
   ·exact .inl (List.mem_append.2 (.inr h1))
 have hfst : ∀ u∈out++[a],∀ x,Rch E u x->x∉out++[a] -> ∃ y∈st,Rch E u y∧Rch E y x:=fun u hu x hx hxo=>by
  obtain ⟨z,y,h1,h2,h3,h4,h5⟩:=w3w hx hu hxo;rcases hcl z h1 y h2 with h6|h6
  ·exact absurd h6 h3
  ·exact ⟨y,h6,h4,h5⟩
 have hya : ∀ y∈st,Rch E y a:=fun y hy=>LY st h.path (List.mem_append.2 (.inl hy));refine ⟨?_,fun x hx => ?_,x2k st h.path,hcl,fun u hu x hx hxo => ?_,fun i r hi u hu => ?_⟩
 ·rw [List.append_assoc,nodup_append];refine ⟨hn1,?_,fun x hx y hy=>hn3 x hx y (by simp at hy ⊢;exact hy.symm)⟩;rw [nodup_append];refine ⟨by simp,hn4,fun x hx y hy e => ?_⟩;rw [List.mem_singleton.1 hx] at e;exact hast (e▸hy)
 ·refine h.rng x ?_;simp only [List.mem_append,List.mem_singleton] at hx ⊢;rcases hx with (h1|h1)|h1
  ·exact .inl h1
  ·exact .inr (.inr h1)
  ·exact .inr (.inl h1)
 ·obtain ⟨y,h1,h2,h3⟩:=hfst u hu x hx hxo;rcases List.mem_append.1 hu with hu|hu
  ·have hyo:y∉out:=fun hm=>hn3 y hm y (List.mem_append.2 (.inl h1)) rfl;obtain ⟨s,h4,h5,h6,h7⟩:=h.J u hu y h2 hyo;rcases List.mem_append.1 h4 with h4|h4
   ·exact ⟨s,h4,h5,h6,h7.trans h3⟩
   ·rw [List.mem_singleton.1 h4] at h5 h6;exact ⟨y,h1,h2,(hya y h1).trans h6,h3⟩
  ·rw [List.mem_singleton.1 hu] at h2 ⊢;exact ⟨y,h1,h2,hya y h1,h3⟩
 ·rcases Nat.lt_or_ge i out.length with hil|hil
  ·rw [List.getElem?_append_left hil] at hi;rcases h.K i r hi u hu with h1|⟨u',h1,h2,h3⟩
   ·exact .inl h1
   ·refine .inr ⟨u',h1,h2,?_⟩;rcases h3 with h3|⟨j,h3,h4⟩
    ·by_cases hua:u'=a
     ·exact .inr ⟨out.length,hil,by rw [hua];simp⟩
     ·exact .inl fun hm=>by
       rcases List.mem_append.1 hm with hm|hm
       ·exact h3 hm
       ·exact hua (List.mem_singleton.1 hm)
    ·exact .inr ⟨j,h3,by rw [List.getElem?_append_left (List.getElem?_eq_some_iff.1 h4).1];exact h4⟩
  ·have hr:r=a:=by
    have h1:=(List.getElem?_eq_some_iff.1 hi).1;simp at h1;rw [List.getElem?_append_right hil,show i-out.length=0 by omega] at hi;simpa using hi.symm
   subst hr;by_cases hau:Rch E r u
   ·exact .inl hau
   ·right;by_cases huo:u∈out
    ·obtain ⟨s,h4,h5,h6,h7⟩:=h.J u huo r hu hao;rcases List.mem_append.1 h4 with h4|h4
     ·refine ⟨s,h5,h6,.inl fun hm => ?_⟩;rcases List.mem_append.1 hm with hm|hm
      ·exact hn3 s hm s (List.mem_append.2 (.inl h4)) rfl
      ·rw [List.mem_singleton.1 hm] at h4;exact hast h4
     ·rw [List.mem_singleton.1 h4] at h6;exact absurd h6 hau
    ·refine ⟨u,.refl,.refl,.inl fun hm => ?_⟩;rcases List.mem_append.1 hm with hm|hm
     ·exact huo hm
     ·rw [List.mem_singleton.1 hm] at hau;exact hau .refl
structure EndsP (n:Nat) (E:Int->Int->Prop) (es:List Int):Prop where
 nd:es.Nodup
 mem : ∀ x:Int,x∈es↔0<=x∧x<n
 K : ∀ (i:Nat) (r:Int),es[i]? = some r -> ∀ u:Int,0<=u∧u<n->Rch E u r->Rch E r u ∨ ∃ u',Rch E u u'∧Rch E u' u ∧ ∃ j,i<j∧es[j]? = some u'
theorem DfsI.fin {n:Nat} {E:Int->Int->Prop} (hE : ∀ x y,E x y->0<=y∧y<n) {out:List Int} (h:DfsI n E out []) (hall : ∀ x:Int,0<=x∧x<n->x∈out):EndsP n E out:=by
 refine ⟨by simpa using h.nd,fun x=>⟨fun hx=>h.rng x (by simpa using hx),hall x⟩,fun i r hi u hur hu => ?_⟩;rcases h.K i r hi u hu with h1|⟨u',h1,h2,h3⟩
 ·exact .inl h1
 ·refine .inr ⟨u',h1,h2,?_⟩;rcases h3 with h3|h3
  ·exfalso;apply h3;apply hall;cases h1 with
   | refl=>exact hur
   | tail _ hr=>exact hE _ _ hr
  ·exact h3
def sccP (E:Int->Int->Prop) (x y:Int):Prop:=Rch E x y∧Rch E y x
theorem sccP.refl {E:Int->Int->Prop} (x:Int):sccP E x x:=⟨.refl,.refl⟩
theorem sccP.symm {E:Int->Int->Prop} {x y:Int} (h:sccP E x y):sccP E y x:=⟨h.2,h.1⟩
theorem sccP.trans {E:Int->Int->Prop} {x y z:Int} (h:sccP E x y) (h':sccP E y z):sccP E x z:=⟨h.1.trans h'.1,h'.2.trans h.2⟩
def SeenP (E:Int->Int->Prop) (es:List Int) (i:Nat) (x:Int):Prop := ∃ (j:Nat) (y:Int),i<=j∧es[j]? = some y∧sccP E x y
theorem w1k {n:Nat} {E:Int->Int->Prop} (hE : ∀ x y,E x y->(0<=x∧x<n)∧0<=y∧y<n) {es:List Int} (h:EndsP n E es) {i:Nat} {r:Int} (hi:es[i]? = some r) (hr : ¬SeenP E es (i+1) r) (x:Int) :
  Rch (fun a b=>E b a ∧ ¬SeenP E es (i+1) b) r x↔sccP E r x:=by
 have hrr:=(h.mem r).1 (List.mem_of_getElem? hi);constructor
 ·intro hx;have key:(0<=x∧x<n) ∧ ¬SeenP E es (i+1) x∧Rch E x r:=hx.closed (S:=fun x:Int=>(0<=x∧x<n) ∧ ¬SeenP E es (i+1) x∧Rch E x r) (fun a b ⟨h1,h2,h3⟩ ⟨h4,h5⟩=>⟨(hE _ _ h4).1,h5,.head h4 h3⟩) ⟨hrr,hr,.refl⟩;refine ⟨?_,key.2.2⟩;rcases h.K i r hi x key.1 key.2.2 with h1|⟨u',h1,h2,j,h3,h4⟩
  ·exact h1
  ·exact absurd ⟨j,u',h3,h4,h1,h2⟩ key.2.1
 ·rintro ⟨h1,h2⟩;have hns : ∀ y,sccP E r y -> ¬SeenP E es (i+1) y:=fun y hy ⟨j,z,h3,h4,h5⟩=>hr ⟨j,z,h3,h4,hy.trans h5⟩;have key : ∀ {a b:Int},Rch E a b->Rch E r a->Rch E b r->Rch (fun a b=>E b a ∧ ¬SeenP E es (i+1) b) b a:=fun {a b} hab=>by
   induction hab with
   | refl=>intro _ _;exact .refl
   | @tail b c hab hbc ih =>
     intro h3 h4;have h5:Rch E b r := .head hbc h4;exact .head ⟨hbc,hns b ⟨h3.trans hab,h5⟩⟩ (ih h3 h5)
  exact key h2 h1 .refl
theorem w3j {E:Int->Int->Prop} {es:List Int} {i:Nat} {r:Int} (hi:es[i]? = some r) (hr:SeenP E es (i+1) r) (x:Int):SeenP E es i x↔SeenP E es (i+1) x:=by
 constructor
 ·rintro ⟨j,y,h1,h2,h3⟩;rcases Nat.eq_or_lt_of_le h1 with h4|h4
  ·subst h4;rw [hi] at h2;cases h2;obtain ⟨k,z,h5,h6,h7⟩:=hr;exact ⟨k,z,h5,h6,h3.trans h7⟩
  ·exact ⟨j,y,h4,h2,h3⟩
 ·rintro ⟨j,y,h1,h2,h3⟩;exact ⟨j,y,by omega,h2,h3⟩
theorem x7h {E:Int->Int->Prop} {es:List Int} {i:Nat} {r:Int} (hi:es[i]? = some r) (x:Int):SeenP E es i x↔SeenP E es (i+1) x∨sccP E r x:=by
 constructor
 ·rintro ⟨j,y,h1,h2,h3⟩;rcases Nat.eq_or_lt_of_le h1 with h4|h4
  ·subst h4;rw [hi] at h2;cases h2;exact .inr h3.symm
  ·exact .inl ⟨j,y,h4,h2,h3⟩
 ·rintro (⟨j,y,h1,h2,h3⟩|h)
  ·exact ⟨j,y,by omega,h2,h3⟩
  ·exact ⟨i,r,Nat.le_refl _,hi,h.symm⟩
theorem w4j {n:Nat} {E:Int->Int->Prop} {es:List Int} (h:EndsP n E es) {x:Int} (hx:0<=x∧x<n):SeenP E es 0 x:=by
 obtain ⟨j,hj⟩:=List.mem_iff_getElem?.1 ((h.mem x).2 hx);exact ⟨j,x,zero_le _,hj,.refl x⟩
def rowE (rows:List (List Int)) (x y:Int):Prop:=0<=x∧x6n rows x y
structure EndI (n:Nat) (rows:List (List Int)) (out stack:List Int) (seen:List Bool) (at_:List Int):Prop where
 dfs:DfsI n (rowE rows) out stack
 sl:seen.length=n
 al:at_.length=n
 seen : ∀ x:Int,0<=x∧x<n->(seen.getD x.toNat false=true↔x∈out++stack)
 arng : ∀ x:Int,0<=x∧x<n->0<=at_.getD x.toNat 0∧at_.getD x.toNat 0<=(rows.getD x.toNat []).length
 cur : ∀ x:Int,0<=x∧x<n -> ∀ (i:Nat) (y:Int),(i:Int)<at_.getD x.toNat 0->(rows.getD x.toNat [])[i]? = some y->y∈out++stack
theorem EndI.start (n:Nat) (rows:List (List Int)):EndI n rows [] [] (List.replicate n false) (List.replicate n 0):=by
 have h0 : ∀ x:Int,(List.replicate n (0:Int)).getD x.toNat 0=0:=fun x=>by
  rw [getD_eq_getElem?_getD,List.getElem?_replicate];split<;>rfl
 refine ⟨DfsI.start n _,by simp,by simp,fun x hx => ?_,fun x hx=>by rw [h0];omega,fun x hx i y hi=>by rw [h0] at hi;omega⟩;rw [getD_eq_getElem?_getD,List.getElem?_replicate];split<;>simp
theorem WW {α:Type} {l:List α} {i j:Nat} {a d:α} (hi:i<l.length):(l.set i a).getD j d=if i=j then a else l.getD j d:=by
 simp only [getD_eq_getElem?_getD,List.getElem?_set];split
 ·rename_i h;first
   | rfl
   | (rw [if_pos hi];rfl)
 ·rfl
theorem EndI.push {n:Nat} {rows:List (List Int)} {out stack:List Int} {seen:List Bool} {at_:List Int} (h:EndI n rows out stack seen at_) {b:Int} (hb:0<=b∧b<n) (hn:seen.getD b.toNat false=false) (hp:chainE (rowE rows) (stack++[b])):EndI n rows out (stack++[b]) (seen.set b.toNat true) at_:=by
 have hno:b∉out++stack:=fun hm=>by rw [(h.seen b hb).2 hm] at hn;cases hn
 refine ⟨h.dfs.push hb hno hp,by simpa using h.sl,h.al,fun x hx => ?_,h.arng,fun x hx i y hi hy => ?_⟩
 ·rw [WW (by rw [h.sl];omega),<- List.append_assoc,List.mem_append,List.mem_singleton];split
  ·have:x=b:=by omega
   simp [this]
  ·have:x≠b:=by omega
   rw [h.seen x hx];simp [this]
 ·rw [<- List.append_assoc];exact List.mem_append.2 (.inl (h.cur x hx i y hi hy))
theorem EndI.pop {n:Nat} {rows:List (List Int)} {out st:List Int} {a:Int} {seen:List Bool} {at_:List Int} (h:EndI n rows out (st++[a]) seen at_) (ha:at_.getD a.toNat 0=(rows.getD a.toNat []).length):EndI n rows (out++[a]) st seen at_:=by
 have hr:=h.dfs.rng a (by simp);have hsw : ∀ x:Int,x∈out++[a]++st↔x∈out++(st++[a]):=fun x=>by
  simp only [List.mem_append,List.mem_singleton];constructor
  ·rintro ((h1|h1)|h1)
   ·exact .inl h1
   ·exact .inr (.inr h1)
   ·exact .inr (.inl h1)
  ·rintro (h1|h1|h1)
   ·exact .inl (.inl h1)
   ·exact .inr h1
   ·exact .inl (.inr h1)
 refine ⟨h.dfs.pop fun v hv => ?_,h.sl,h.al,fun x hx=>by rw [h.seen x hx,hsw],h.arng,fun x hx i y hi hy=>(hsw y).2 (h.cur x hx i y hi hy)⟩;obtain ⟨i,hi⟩:=List.mem_iff_getElem?.1 hv.2;have:=h.cur a hr i v (by rw [ha];have:=(List.getElem?_eq_some_iff.1 hi).1;omega) hi;exact List.mem_append.1 this
theorem EndI.step {n:Nat} {rows:List (List Int)} {out stack:List Int} {seen:List Bool} {at_:List Int} (h:EndI n rows out stack seen at_) {a b:Int} (ha:0<=a∧a<n) {k:Nat} (hk:at_.getD a.toNat 0=k) (hb:(rows.getD a.toNat [])[k]? = some b) (hs:b∈out++stack):EndI n rows out stack seen (at_.set a.toNat ((k:Int)+1)):=by
 have hlt:a.toNat<at_.length:=by rw [h.al];omega
 refine ⟨h.dfs,h.sl,by simpa using h.al,h.seen,fun x hx => ?_,fun x hx i y hi hy => ?_⟩
 ·rw [WW hlt];split
  ·rename_i he;have:=(List.getElem?_eq_some_iff.1 hb).1;rw [<- he];omega
  ·exact h.arng x hx
 ·rw [WW hlt] at hi;split at hi
  ·rename_i he;rw [<- he] at hy;rcases Nat.lt_or_ge i k with hik|hik
   ·exact h.cur a ha i y (by omega) hy
   ·have:i=k:=by omega
    subst this;rw [hb] at hy;cases hy;exact hs
  ·exact h.cur x hx i y hi hy
def w7n (m:Int) (l:List Int):Int:=l.foldl (fun m x=>if x<m then x else m) m
def x6r:List Int->Int
 | []=>0
 | a::r=>w7n a r
theorem z0y : ∀ (l:List Int) (m:Int),w7n m l∈m::l ∧ ∀ x∈m::l,w7n m l<=x
 | [],m=>⟨by simp [w7n],by simp [w7n]⟩
 | a::r,m=>by
   obtain ⟨h1,h2⟩:=z0y r (if a<m then a else m);have e:w7n m (a::r)=w7n (if a<m then a else m) r:=rfl;have h3:=h2 _ mem_cons_self;rw [e];generalize w7n (if a<m then a else m) r=z at h1 h2 h3 ⊢;refine ⟨?_,fun x hx => ?_⟩
   ·rcases List.mem_cons.1 h1 with h|h
    ·rw [h];split<;>simp
    ·exact mem_cons_of_mem _ (mem_cons_of_mem _ h)
   ·rcases List.mem_cons.1 hx with rfl|hx
    ·split at h3<;>omega
    ·rcases List.mem_cons.1 hx with rfl|hx
     ·split at h3<;>omega
     ·exact h2 x (mem_cons_of_mem _ hx)
theorem x7f {l:List Int} (h:0<l.length):x6r l∈l ∧ ∀ x∈l,x6r l<=x:=by
 cases l with
 | nil=>simp at h
 | cons a r=>exact z0y r a
theorem OpK.min2 {P:Program} {N:Nat} {s:St} {o:Oper} {K:St->Prop} {x y:Operand} {ts:Array TypeId} (hop:o.op = .call { callee := .builtin .min,args := #[x,y],argTypes:=ts }) {m n:Int} (hx:QI s.sl x = .p (.int .i64 m)) (hy:QI s.sl y = .p (.int .i64 n))
  (h:setD N s.sl o.dst (.p (.int .i64 (if n<m then n else m))) fun sl=>K ⟨sl,s.H⟩):OpK P N s o K:=by
 refine ⟨fun σ β a w hr Q => ?_⟩;have h1:=QU hr.slots x;have h2:=QU hr.slots y;rw [hx] at h1;rw [hy] at h2;have e1:=h1.int;have e2:=h2.int;have hrun:(execOp a.eval o).run P w = .ok (.value (.int .i64 (if n<m then n else m))) w:=by
  simp [execOp,hop,resolve,invoke,builtin,e1,e2,Builtin.min_,Builtin.min2]
 obtain ⟨sl,hK,hr2⟩:=hr.setD (.p (.int .i64 (if n<m then n else m))) h;exact UQ hrun ⟨σ,β,_,hK,hr2,Later.refl _ _ _ _⟩
theorem LA (l:List Int) (hl:0<l.length):SpecP Tryz.prog 293 [QD l] (fun r=>r = .int .i64 (x6r l)):=by
 refine sB PC Tryz.func293 rfl Tryz.call293 ?_;conv=>whnf
 have hlm:(l.map (AV.int .i64)).length=l.length:=length_map _;repeat' (first|(refine iM fun _=>?_;conv=>whnf)|(apply bD<;>intro _<;>first|omega|conv=>whnf))
 refine IdxK.at (k:=0) (e := .int .i64 l[0]) rfl (by simp [hl]) rfl ?_;conv=>whnf
 skip
 refine LoopK.inv QX (fun x:Nat×Int=>⟨[(0,.p (QD l)),(3,.p (.int .i64 x.2)),(4,.p (.int .i64 x.1))],[]⟩) (fun x=>1<=x.1∧x.1<=l.length∧x6r (x.2::l.drop x.1)=x6r l) (fun x=>l.length-x.1) (1,l[0]) (Le.of_eq rfl) ⟨Nat.le_refl _,hl,by
  cases l with
  | nil=>simp at hl
  | cons a r=>rfl⟩ ?_
 rintro ⟨j,m⟩ ⟨h1,h2,h3⟩;simp only at h1 h2 h3 ⊢;rcases Nat.lt_or_ge j l.length with hj|hj
 ·rw [QH hj] at h3;conv=>whnf
  repeat' (first|((first|(refine iM fun _=>?_)|(refine iA fun _=>?_)|refine wI ?_|refine OpK.min2 rfl rfl rfl ?_);conv=>whnf)|(apply bD<;>intro _<;>first|omega|conv=>whnf))
  exact ⟨(j+1,if l[j]<m then l[j] else m),⟨by simp only;omega,hj,h3⟩,by simp only;omega,Le.of_eq rfl⟩
 ·rw [List.drop_eq_nil_of_le hj] at h3;conv=>whnf
  repeat' (first|(refine iM fun _=>?_;conv=>whnf)|(apply bD<;>intro _<;>first|omega|conv=>whnf))
  exact RetK.int h3
inductive CutH:Heap->Heap->Prop
 | nil:CutH [] []
 | same {c:Nat×Chunk} {H H':Heap} (h:CutH H H'):CutH (c::H) (c::H')
 | cut {k:Nat} {e:TypeId} {sz:Nat} {es es':List AV} {H H':Heap} (hp:es' <+: es) (h:CutH H H'):CutH ((k,.own e sz es)::H) ((k,.own e sz es')::H')
theorem CutH.get {H H':Heap} (h:CutH H H'):H'.map (·.1)=H.map (·.1) ∧ ∀ j c',(j,c')∈H'->(j,c')∈H ∨ ∃ e sz es es',(j,Chunk.own e sz es)∈H∧c' = .own e sz es'∧es' <+: es:=by
 induction h with
 | nil=>exact ⟨rfl,by simp⟩
 | same h ih =>
   refine ⟨by simp [ih.1],fun j c' hj => ?_⟩;rcases List.mem_cons.1 hj with rfl|hj
   ·exact .inl mem_cons_self
   ·rcases ih.2 j c' hj with h1|⟨e,sz,es,es',h1,h2⟩
    ·exact .inl (mem_cons_of_mem _ h1)
    ·exact .inr ⟨e,sz,es,es',mem_cons_of_mem _ h1,h2⟩
 | @cut k e sz es es' H H' hp h ih =>
   refine ⟨by simp [ih.1],fun j c' hj => ?_⟩;rcases List.mem_cons.1 hj with hj|hj
   ·cases hj;exact .inr ⟨e,sz,es,es',mem_cons_self,rfl,hp⟩
   ·rcases ih.2 j c' hj with h1|⟨e,sz,es,es',h1,h2⟩
    ·exact .inl (mem_cons_of_mem _ h1)
    ·exact .inr ⟨e,sz,es,es',mem_cons_of_mem _ h1,h2⟩
theorem Le.cut {N:Nat} {sl:List (Nat×LV)} {H H':Heap} (h:CutH H H'):Le N ⟨sl,H⟩ ⟨sl,H'⟩:=fun σ β a w hr=>by
 obtain ⟨hk,hc⟩:=h.get;refine ⟨σ,β,⟨hr.size,hr.defers,hr.slots,⟨hr.heap.mem,fun j c' hj => ?_,by show (H'.map (·.1)).Nodup;rw [hk];exact hr.heap.nodup,fun j hj=>hr.heap.apart j (by rw [<- hk];exact hj),fun j hj j' hj'=>hr.heap.inj j (by rw [<- hk];exact hj) j' (by rw [<- hk];exact hj')⟩⟩,Mem.le_refl σ,Frm.refl _ w,fun b h0 h1=>absurd h0 h1,fun b ⟨j,hj,r⟩ => .inl ⟨j,by rw [<- hk];exact hj,r⟩,fun _ _ _=>rfl⟩;rcases hc j c' hj with h1|⟨e,sz,es,es',h1,rfl,h2⟩
 ·exact hr.heap.chunks j c' h1
 ·rcases hr.heap.chunks j _ h1 with ⟨h3,h4⟩|⟨i,vs,h3,h4,h5,h6,h7,h8,h9⟩
  ·refine .inl ⟨h3,?_⟩;rw [h4] at h2;exact List.prefix_nil.1 h2
  ·exact .inr ⟨i,vs,h3,h4,h5,h6,Nat.le_trans h2.length_le h7,h8,fun m x hx=>h9 m x (by
    obtain ⟨t,rfl⟩:=h2;rw [List.getElem?_append_left (List.getElem?_eq_some_iff.1 hx).1];exact hx)⟩
theorem z9m {α:Type} {f g:α->Nat} : ∀ {l:List α},(∀ x∈l,f x<=g x)->(∃ x∈l,f x<g x)->(l.map f).sum<(l.map g).sum
 | [],_,h=>by obtain ⟨x,hx,_⟩:=h;cases hx
 | a::r,h1,h2=>by
   have hle : ∀ {l:List α},(∀ x∈l,f x<=g x)->(l.map f).sum<=(l.map g).sum:=fun {l} h=>by
    induction l with
    | nil=>simp
    | cons b r ih =>
      simp only [map_cons,sum_cons];have:=ih fun x hx=>h x (mem_cons_of_mem _ hx);have:=h b mem_cons_self;omega
   simp only [map_cons,sum_cons];have h3:=h1 a mem_cons_self;have h4:=hle fun x hx=>h1 x (mem_cons_of_mem _ hx);obtain ⟨x,hx,h5⟩:=h2;rcases List.mem_cons.1 hx with rfl|hx
   ·omega
   ·have:=z9m (fun y hy=>h1 y (mem_cons_of_mem _ hy)) ⟨x,hx,h5⟩;omega
def muE (rows:List (List Int)) (at_:List Int) (n:Nat):Nat:=((List.range n).map fun i=>(rows.getD i []).length-(at_.getD i 0).toNat).sum
theorem w4y {n:Nat} {rows:List (List Int)} {at_:List Int} {a:Nat} (ha:a<n) (hl:at_.length=n) {k:Nat} (hk:at_.getD a 0=k) (hlt:k<(rows.getD a []).length):muE rows (at_.set a ((k:Int)+1)) n<muE rows at_ n:=by
 unfold muE;refine z9m (fun i _ => ?_) ⟨a,List.mem_range.2 ha,?_⟩
 ·rw [WW (by omega)];split
  ·rename_i h;rw [<- h,hk];omega
  ·exact Nat.le_refl _
 ·rw [WW (by omega),if_pos rfl,hk];omega
theorem x4p {n:Nat} {l:List Int} (h:l.Nodup) (hr : ∀ x∈l,0<=x∧x<n):l.length<=n:=by
 have:=ZE (m:=(List.range n).map fun (k:Nat)=>(k:Int)) h fun x hx=>List.mem_map.2 ⟨x.toNat,List.mem_range.2 (by have:=hr x hx;omega),by have:=hr x hx;omega⟩;simpa using this
theorem v0o {l:List Bool} {i:Nat} (h:i<l.length):(l.map bv)[i]? = some (bv (l.getD i false)):=by
 rw [List.getElem?_map,List.getElem?_eq_getElem h,getD_eq_getElem?_getD,List.getElem?_eq_getElem h];rfl
theorem x6o {l:List Int} {i:Nat} (h:i<l.length):(l.map (AV.int .i64))[i]? = some (.int .i64 (l.getD i 0)):=by
 rw [List.getElem?_map,List.getElem?_eq_getElem h,getD_eq_getElem?_getD,List.getElem?_eq_getElem h];rfl
def v1x (n:Nat) (rows:List (List Int)) (r:AV):Prop := ∃ es,r=QD es∧EndsP n (rowE rows) es
theorem q6g (n:Nat) (hn:n<=5000) (g:List (List Int)×List (List Int)) (hg:XB n g.1):SpecP Tryz.prog 292 [HS g] (fun r=>v1x n g.1 r):=by
 refine sB q2r Tryz.func292 rfl Tryz.call292 ?_;conv=>whnf
 have hl:((avI g.1).map AV.sl).length=n:=by simp [avI,hg.1]
 repeat' ((first|(refine iM fun _=>?_)|refine aR ?_|refine MkK.mk n (by rw [hl]) (by show 1*n<=140737488355328;omega) (by unfold maxLen;omega) ?_|refine MkK.mk n (by rw [hl]) (by show 8*n<=140737488355328;omega) (by unfold maxLen;omega) ?_);conv=>whnf)
 refine LoopK.inv QX (fun x:Nat×List Int×List Bool×List Int=>⟨[(0,.p (HS g)),(3,.hd 2 0 x.2.1.length),(4,.hd 3 0 0),(5,.hd 0 0 n),(6,.hd 1 0 n),(26,.p (.int .i64 n)),(27,.p (.int .i64 x.1))],[(0,.own 4 1 (x.2.2.1.map bv)),(1,.own 3 1 (x.2.2.2.map (.int .i64))),(2,.own 3 1 (x.2.1.map (.int .i64))),(3,.own 3 1 [])]⟩)
  (fun x=>x.1<=n∧EndI n g.1 x.2.1 [] x.2.2.1 x.2.2.2 ∧ ∀ y:Int,0<=y∧y<x.1->y∈x.2.1) (fun x=>n-x.1) (0,[],List.replicate n false,List.replicate n 0)
  (Le.mk [(2,.own 3 1 []),(3,.own 3 1 [])] (by simp [Chunk.new0];exact ⟨rfl,rfl⟩) (by simp) (by simp) (.cons (.refl _) (.cons (.nil mem_cons_self) (.cons (.nil (mem_cons_of_mem _ mem_cons_self)) (.cons (.refl _) (.cons (.refl _) (.cons (.of_eq (by rw [hl];rfl)) (.cons (.refl _) .nil)))))))
    (.cons rfl (.of_eq (by rw [List.map_replicate];rfl)) (.cons rfl (.of_eq (by rw [List.map_replicate];rfl)) (.new mem_cons_self (.new (mem_cons_of_mem _ mem_cons_self) .nil)))))
  ⟨zero_le _,EndI.start n g.1,fun y hy=>by omega⟩ ?_
 rintro ⟨r,out,seen,at_⟩ ⟨h1,h2,h3⟩;simp only at h1 h2 h3 ⊢;have hsl:=h2.sl;have hal:=h2.al;rcases Nat.lt_or_ge r n with hr|hr;rotate_left 1
 ·conv=>whnf
  repeat' (apply bD<;>intro _<;>first|omega|conv=>whnf)
  have hall : ∀ x:Int,0<=x∧x<n->x∈out:=fun x hx=>h3 x (by omega);exact ⟨_,.hd rfl (by simp),out,rfl,h2.dfs.fin (fun x y hxy=>BG hg hxy.2) hall⟩
 have e1:=v0o (l:=seen) (i:=r) (by omega);have hstart : ∃ st s2,EndI n g.1 out st s2 at_∧(r:Int)∈out++st∧((seen.getD r false=true∧st=[]∧s2=seen)∨(seen.getD r false=false∧st=[(r:Int)]∧s2=seen.set r true)):=by
  cases hq:seen.getD r false with
  | true=>exact ⟨[],seen,h2,(h2.seen r (by omega)).1 (by simpa using hq),.inl ⟨rfl,rfl,rfl⟩⟩
  | false=>exact ⟨[(r:Int)],seen.set r true,h2.push (stack:=[]) (b:=r) (by omega) (by simpa using hq) trivial,by simp,.inr ⟨rfl,rfl,rfl⟩⟩
 obtain ⟨st0,seen0,h4,h5,h6⟩:=hstart;rcases h6 with ⟨hq,hst,hs0⟩|⟨hq,hst,hs0⟩;all_goals
  rw [hq] at e1;conv=>whnf
  repeat' (first|((first|refine And.intro rfl ?_|refine aD ?_|refine bP ?_|refine IdxL.mk r rfl (by omega) ?_|refine LdOwn.mk r 0 .tt (by omega) e1 ?_|refine LdOwn.mk r 0 .ff (by omega) e1 ?_|refine StOwn.mk r 0 .ff .tt (by omega) e1 (Nat.le_refl 1) rfl ?_|refine XO rfl (by simp) ?_);conv=>whnf)|(apply bD<;>intro _<;>first|omega|conv=>whnf))
  refine LoopK.inv QX (fun x:List Int×List Int×List Bool×List Int=>⟨[(0,.p (HS g)),(3,.hd 2 0 x.1.length),(4,.hd 3 0 x.2.1.length),(5,.hd 0 0 n),(6,.hd 1 0 n),(26,.p (.int .i64 n)),(27,.p (.int .i64 r))],[(0,.own 4 1 (x.2.2.1.map bv)),(1,.own 3 1 (x.2.2.2.map (.int .i64))),(2,.own 3 1 (x.1.map (.int .i64))),(3,.own 3 1 (x.2.1.map (.int .i64)))]⟩)
   (fun x=>EndI n g.1 x.1 x.2.1 x.2.2.1 x.2.2.2∧(r:Int)∈x.1++x.2.1 ∧ ∀ y:Int,0<=y∧y<r->y∈x.1) (fun x=>muE g.1 x.2.2.2 n+(n-x.1.length)) (out,st0,seen0,at_)
   (Le.mk [] (by simp) (by simp) (by simp) (.cons (.refl _) (.cons (.refl _) (.cons (.of_eq (by first|(rw [hst];done)|(rw [hst];rfl))) (.cons (.refl _) (.cons (.refl _) (.cons (.refl _) (.cons (.refl _) .nil)))))))
     (.cons rfl (.of_eq (by rw [hs0];first|done|rfl|(rw [List.map_set];rfl))) (.cons rfl (.refl _) (.cons rfl (.refl _) (.cons rfl (.of_eq (by rw [hst];rfl)) .nil)))))
   ⟨h4,h5,h3⟩ ?_
  clear h4 h5 hst hs0 e1 hq hsl hal h2 h3;rintro ⟨o,stk,s,t⟩ ⟨h2,h3,h4⟩;simp only at h2 h3 h4 ⊢;have hsl:=h2.sl;have hal:=h2.al;have hol:o.length<=n:=x4p (by have:=h2.dfs.nd;rw [nodup_append] at this;exact this.1) fun x hx=>h2.dfs.rng x (List.mem_append.2 (.inl hx));rcases List.eq_nil_or_concat stk with rfl|⟨st,a,rfl⟩
  ·have hz:(([]:List Int).length)=0:=rfl;conv=>whnf
   repeat' (first|((first|(refine iM fun _=>?_)|refine wI ?_);conv=>whnf)|(apply bD<;>intro _<;>first|omega|conv=>whnf))
   exact ⟨(r+1,o,s,t),⟨hr,h2,fun y hy=>by
    rcases Int.lt_or_le y r with hyr|hyr
    ·exact h4 y ⟨hy.1,hyr⟩
    ·have:y=r:=by simp only at hy;omega
     rw [this];simpa using h3⟩,by simp only;omega,Le.of_eq rfl⟩
  ·rw [List.concat_eq_append] at h2 h3 ⊢;have ha:=h2.dfs.rng a (by simp);have hstl:(st++[a]).length=st.length+1:=by simp
   obtain ⟨hk0,hk1⟩:=h2.arng a ha;have e2:=x6o (l:=t) (i:=a.toNat) (by omega);have e3:((st++[a]).map (AV.int .i64))[st.length]? = some (.int .i64 a):=by simp
   have hrow:((avI g.1).map AV.sl)[a.toNat]? = some (.sl ((g.1.getD a.toNat []).map (.int .i64))):=by
    have:a.toNat<g.1.length:=by rw [hg.1];omega
    rw [getD_eq_getElem?_getD,List.getElem?_eq_getElem this];simp [avI,this]
   obtain ⟨k,hk⟩ : ∃ k:Nat,t.getD a.toNat 0=k:=⟨(t.getD a.toNat 0).toNat,by omega⟩;rw [hk] at e2 hk1;have hrl:((g.1.getD a.toNat []).map (AV.int .i64)).length=(g.1.getD a.toNat []).length:=length_map _;have hnd:=h2.dfs.nd;rcases Nat.lt_or_ge k (g.1.getD a.toNat []).length with hkl|hkl
   ·obtain ⟨b,hb⟩ : ∃ b,(g.1.getD a.toNat [])[k]? = some b:=⟨_,List.getElem?_eq_getElem hkl⟩;have hbe:(g.1.getD a.toNat [])[k]=b:=by rw [List.getElem?_eq_getElem hkl] at hb;exact Option.some.inj hb
    have hE:rowE g.1 a b:=⟨ha.1,List.mem_iff_getElem?.2 ⟨k,hb⟩⟩;have hbr:=BG hg hE.2;have hmu:=w4y (by omega) hal hk hkl;have e4:=v0o (l:=s) (i:=b.toNat) (by omega);have hstk:(st++[a]).length<=n:=x4p (List.nodup_append.1 hnd).2.1 fun x hx=>h2.dfs.rng x (List.mem_append.2 (.inr hx));have hms:(t.set a.toNat ((k:Int)+1)).map (AV.int .i64)=(t.map (AV.int .i64)).set a.toNat (.int .i64 ((k:Int)+1)):=List.map_set;have hkm:=h2.arng a ha;cases hq:s.getD b.toNat false with
    | true =>
      rw [hq] at e4;conv=>whnf
      repeat' (first|((first|(refine iM fun _=>?_)|refine dA ?_|refine And.intro rfl ?_|(refine iA fun _=>?_)|refine wI ?_|refine IdxL.mk st.length (by omega) (by omega) ?_|refine LdOwn.mk st.length 0 (.int .i64 a) (by omega) e3 ?_|refine IdxL.mk a.toNat (by omega) (by omega) ?_|refine LdOwn.mk a.toNat 0 (.int .i64 k) (by omega) e2 ?_|(refine IdxK.at (k:=a.toNat) (by omega) hrow rfl ?_)|refine IdxL.mk b.toNat (by omega) (by omega) ?_|refine LdOwn.mk b.toNat 0 .tt (by omega) e4 ?_|refine StOwn.mk a.toNat 0 (.int .i64 k) (.int .i64 (k+1)) (by omega) e2 (Nat.le_refl 1) rfl ?_);conv=>whnf)|(apply bD<;>intro _<;>first|omega|conv=>whnf))
      exact ⟨(o,st++[a],s,t.set a.toNat ((k:Int)+1)),⟨h2.step ha hk hb ((h2.seen b hbr).1 hq),h3,h4⟩,by simp only;omega,Le.mk [] (by simp) (by simp) (by simp) (.cons (.refl _) (.cons (.refl _) (.cons (.refl _) (.cons (.refl _) (.cons (.refl _) (.cons (.refl _) (.cons (.refl _) .nil))))))) (.cons rfl (.refl _) (.cons rfl (.of_eq (by rw [hms])) (.cons rfl (.refl _) (.cons rfl (.refl _) .nil))))⟩
    | false =>
      rw [hq] at e4;conv=>whnf
      repeat' (first|((first|(refine iM fun _=>?_)|refine dA ?_|refine And.intro rfl ?_|refine aD ?_|refine bP ?_|(refine iA fun _=>?_)|refine wI ?_|refine IdxL.mk st.length (by omega) (by omega) ?_|refine LdOwn.mk st.length 0 (.int .i64 a) (by omega) e3 ?_|refine IdxL.mk a.toNat (by omega) (by omega) ?_|refine LdOwn.mk a.toNat 0 (.int .i64 k) (by omega) e2 ?_|(refine IdxK.at (k:=a.toNat) (by omega) hrow rfl ?_)|refine IdxL.mk b.toNat (by omega) (by omega) ?_|refine LdOwn.mk b.toNat 0 .ff (by omega) e4 ?_|refine StOwn.mk a.toNat 0 (.int .i64 k) (.int .i64 (k+1)) (by omega) e2 (Nat.le_refl 1) rfl ?_|refine StOwn.mk b.toNat 0 .ff .tt (by omega) e4 (Nat.le_refl 1) rfl ?_|refine XO (by simp) (by simp;omega) ?_);conv=>whnf)|(apply bD<;>intro _<;>first|omega|conv=>whnf))
      have h8:=h2.push hbr hq (q9k st h2.dfs.path hE);exact ⟨(o,st++[a]++[b],s.set b.toNat true,t.set a.toNat ((k:Int)+1)),⟨h8.step ha hk hb (by simp),by rw [<- List.append_assoc];exact List.mem_append.2 (.inl h3),h4⟩,by simp only;omega,Le.mk [] (by simp) (by simp) (by simp) (.cons (.refl _) (.cons (.refl _) (.cons (.of_eq (by simp;rfl)) (.cons (.refl _) (.cons (.refl _) (.cons (.refl _) (.cons (.refl _) .nil))))))) (.cons rfl (.of_eq (by rw [List.map_set];rfl)) (.cons rfl (.of_eq (by rw [hms])) (.cons rfl (.refl _) (.cons rfl (.of_eq (by rw [hbe];simp;rfl)) .nil))))⟩
   ·have hkl2:k=(g.1.getD a.toNat []).length:=by omega
    have hp:=h2.pop (by rw [hk,hkl2]);have hol2:o.length+1<=n:=by
     have h7:=hp.dfs;have:=x4p (List.nodup_append.1 h7.nd).1 fun x hx=>h7.rng x (List.mem_append.2 (.inl hx));simpa using this
    conv=>whnf
    repeat' (first|((first|(refine iM fun _=>?_)|refine dA ?_|refine And.intro rfl ?_|refine aD ?_|refine bP ?_|refine wI ?_|refine IdxL.mk st.length (by omega) (by omega) ?_|refine LdOwn.mk st.length 0 (.int .i64 a) (by omega) e3 ?_|refine IdxL.mk a.toNat (by omega) (by omega) ?_|refine LdOwn.mk a.toNat 0 (.int .i64 k) (by omega) e2 ?_|(refine IdxK.at (k:=a.toNat) (by omega) hrow rfl ?_)|refine XO (by simp) (by simp;omega) ?_|refine SlK.mk 0 st.length rfl (by show ((st++[a]).length:Int)-1=_;omega) (by omega) (by omega) ?_);conv=>whnf)|(apply bD<;>intro _<;>first|omega|conv=>whnf))
    have h9:muE g.1 t n+(n-(o++[a]).length)<muE g.1 t n+(n-o.length):=by simp;omega
    exact ⟨(o++[a],st,s,t),⟨hp,by simpa [or_assoc,or_comm,or_left_comm] using h3,fun y hy=>List.mem_append.2 (.inl (h4 y hy))⟩,h9,(Le.cut (.same (.same (.same (.cut (es':=st.map (.int .i64)) ⟨[.int .i64 a],by simp⟩ .nil))))).trans (Le.mk [] (by simp) (by simp) (by simp) (.cons (.refl _) (.cons (.of_eq (by simp;rfl)) (.cons (.of_eq (by simp;rfl)) (.cons (.refl _) (.cons (.refl _) (.cons (.refl _) (.cons (.refl _) .nil))))))) (.cons rfl (.refl _) (.cons rfl (.refl _) (.cons rfl (.of_eq (by simp;rfl)) (.cons rfl (.refl _) .nil)))))⟩
def w7u (pre:List Bool) (rows:List (List Int)):List (List Int):=rows.map fun r=>r.filter fun b => !pre.getD b.toNat false
theorem z0w {pre:List Bool} {rows:List (List Int)} {x y:Int}:x6n (w7u pre rows) x y↔x6n rows x y∧pre.getD y.toNat false=false:=by
 unfold x6n w7u;simp only [getD_eq_getElem?_getD,List.getElem?_map];cases rows[x.toNat]? with
 | none=>simp
 | some r=>simp
theorem w9m {n:Nat} {pre:List Bool} {rows:List (List Int)} (h:XB n rows):XB n (w7u pre rows):=by
 refine ⟨by simp [w7u,h.1],fun r hr b hb => ?_⟩;obtain ⟨r',hr',rfl⟩:=List.mem_map.1 hr;exact h.2 r' hr' b (List.mem_filter.1 hb).1
structure SimW (pre:List Bool) (st st':List Bool×List Int):Prop where
 todo:st.2=st'.2
 len:st.1.length=st'.1.length
 mrk : ∀ k,st.1.getD k false=(pre.getD k false||st'.1.getD k false)
theorem SimW.see {pre:List Bool} {st st':List Bool×List Int} (h:SimW pre st st') {b:Int} (hb:b.toNat<st.1.length) (hp:pre.getD b.toNat false=false):SimW pre (KE st b) (KE st' b):=by
 have hm:=h.mrk b.toNat;rw [hp,Bool.false_or] at hm;unfold KE;rw [hm];cases st'.1.getD b.toNat false with
 | true=>exact h
 | false =>
   refine ⟨by simp only [cond_false];rw [h.todo],by simpa using h.len,fun k => ?_⟩;simp only [cond_false];rw [WW hb,WW (by rw [<- h.len];exact hb)];split
   ·simp
   ·exact h.mrk k
theorem SimW.skip {pre:List Bool} {st st':List Bool×List Int} (h:SimW pre st st') {b:Int} (hp:pre.getD b.toNat false=true):KE st b=st:=by
 unfold KE;rw [h.mrk,hp];rfl
theorem w5o (st:List Bool×List Int) (b:Int):(KE st b).1.length=st.1.length:=by
 unfold KE;cases st.1.getD b.toNat false<;>simp
theorem SimW.fold {n:Nat} {pre:List Bool} : ∀ (l:List Int) {st st':List Bool×List Int},SimW pre st st'->st.1.length=n->(∀ b∈l,0<=b∧b<n)->SimW pre (l.foldl KE st) ((l.filter fun b => !pre.getD b.toNat false).foldl KE st')∧(l.foldl KE st).1.length=n
 | [],_,_,h,hn,_=>⟨h,hn⟩
 | b::r,st,st',h,hn,hl=>by
   have hb:=hl b mem_cons_self;have hr : ∀ c∈r,0<=c∧c<n:=fun c hc=>hl c (mem_cons_of_mem _ hc);rw [foldl_cons];cases hp:pre.getD b.toNat false with
   | true =>
     rw [h.skip hp,List.filter_cons_of_neg (by rw [hp];simp)];exact SimW.fold r h hn hr
   | false =>
     rw [List.filter_cons_of_pos (by rw [hp];simp),foldl_cons];exact SimW.fold r (h.see (by omega) hp) (by rw [w5o];exact hn) hr
theorem z0j {n:Nat} {pre:List Bool} {rows:List (List Int)} (hr:XB n rows) : ∀ (k i:Nat) {st st':List Bool×List Int},SimW pre st st'->st.1.length=n->SimW pre (ZJ rows k i st) (ZJ (w7u pre rows) k i st')
 | 0,_,_,_,h,_=>h
 | k+1,i,st,st',h,hn=>by
   rw [ZJ,ZJ,<- h.todo];cases ha:st.2[i]? with
   | none=>exact h
   | some a =>
     simp only;have hrow : ∀ b∈rows.getD a.toNat [],0<=b∧b<n:=fun b hb=>BG hr hb;have he:(w7u pre rows).getD a.toNat []=(rows.getD a.toNat []).filter fun b => !pre.getD b.toNat false:=by
      unfold w7u;simp only [getD_eq_getElem?_getD,List.getElem?_map];cases rows[a.toNat]? with
      | none=>simp
      | some r=>simp
     rw [he];obtain ⟨h1,h2⟩:=SimW.fold (n:=n) _ h hn hrow;exact z0j hr k (i+1) h1 h2
theorem w0p {n:Nat} {pre:List Bool} {rows:List (List Int)} (hr:XB n rows) (hp:pre.length=n) {r:Int} (hrr:0<=r∧r<n) (hu:pre.getD r.toNat false=false) :
  (∀ x,x∈(ZJ rows (n+1) 0 (pre.set r.toNat true,[r])).2↔Rch (fun a b=>x6n rows a b∧pre.getD b.toNat false=false) r x) ∧
  (∀ x:Int,0<=x∧x<n->((ZJ rows (n+1) 0 (pre.set r.toNat true,[r])).1.getD x.toNat false=true↔pre.getD x.toNat false=true∨x∈(ZJ rows (n+1) 0 (pre.set r.toNat true,[r])).2)):=by
 have e0:KE (List.replicate n false,[]) r=((List.replicate n false).set r.toNat true,[r]):=by
  unfold KE;have:(List.replicate n false).getD r.toNat false=false:=by
   rw [getD_eq_getElem?_getD,List.getElem?_replicate];split<;>rfl
  simp only [this,cond_false,List.nil_append]
 obtain ⟨h1,h2,_⟩:=(WkM.start n).see hrr;rw [e0] at h1 h2;have hsim:SimW pre (pre.set r.toNat true,[r]) ((List.replicate n false).set r.toNat true,[r]):=⟨rfl,by simp [hp],fun k=>by
  rw [WW (by omega),WW (by simp;omega)];split
  ·simp
  ·have:(List.replicate n false).getD k false=false:=by
    rw [getD_eq_getElem?_getD,List.getElem?_replicate];split<;>rfl
   rw [this,Bool.or_false]⟩
 have hw:=z0j hr (n+1) 0 hsim (by simpa using hp);obtain ⟨h3,h4,h5,h6⟩:=q9m (w9m (pre:=pre) hr) (n+1) 0 h1 (zero_le _) (by omega) (fun m a hm=>by omega);refine ⟨fun x => ?_,fun x hx => ?_⟩
 ·rw [hw.todo];constructor
  ·intro hx;exact h6 (fun x=>Rch (fun a b=>x6n rows a b∧pre.getD b.toNat false=false) r x) (fun x hx=>by rw [List.mem_singleton.1 hx];exact .refl) (fun x b h7 h8 => .tail h7 (z0w.1 h8)) x hx
  ·intro hx;exact hx.closed (S:=fun x=>x∈(ZJ (w7u pre rows) (n+1) 0 ((List.replicate n false).set r.toNat true,[r])).2) (fun x y h7 h8=>h5 x h7 y (z0w.2 h8)) (h4 r (by simp))
 ·rw [hw.mrk,hw.todo,h3.mem,Bool.or_eq_true];exact ⟨fun h=>h.imp id fun h=>⟨hx,h⟩,fun h=>h.imp id fun h=>h.2⟩
theorem x5b {n:Nat} {a:Int} (h:0<=a∧a<n):WS n a=true:=by
 unfold WS;simpa using h
structure MinP (E:Int->Int->Prop) (x v:Int):Prop where
 scc:sccP E x v
 le : ∀ y,sccP E x y->v<=y
theorem MinP.uniq {E:Int->Int->Prop} {x v w:Int} (h:MinP E x v) (h':MinP E x w):v=w:=Int.le_antisymm (h.le w h'.scc) (h'.le v h.scc)
def q3p (n:Nat) (rows:List (List Int)):List Int:=(List.range n).map fun (a:Nat)=>x6r ((MP 0 (VT rows [(a:Int)])).filter fun b=>(MP 0 (VT rows [b])).contains (a:Int))
theorem w6p {n:Nat} {rows:List (List Int)} (hr:XB n rows) {x y:Int} (hx:0<=x):Rch (rowE rows) x y↔Rch (x6n rows) x y:=by
 refine ⟨fun h=>h.mono fun _ _ h=>h.2,fun h => ?_⟩;exact (h.closed (S:=fun y:Int=>0<=y∧Rch (rowE rows) x y) (fun a b ⟨h1,h2⟩ h3=>⟨(BG hr h3).1,.tail h2 ⟨h1,h3⟩⟩) ⟨hx,.refl⟩).2
theorem z3d {n:Nat} {rows:List (List Int)} (hr:XB n rows) {x y:Int} (hx:0<=x∧x<n) (h:Rch (rowE rows) x y):0<=y∧y<n :=
 h.closed (S:=fun y:Int=>0<=y∧y<n) (fun _ _ _ h=>BG hr h.2) hx
theorem z1y {n:Nat} {rows:List (List Int)} (hr:XB n rows) {x:Int} (hx:0<=x∧x<n) (y:Int):y∈MP 0 (VT rows [x])↔Rch (rowE rows) x y:=by
 rw [w2q hr,w6p hr hx.1];constructor
 ·rintro ⟨a,ha,_,h⟩;rw [List.mem_singleton.1 ha] at h;exact h
 ·intro h;exact ⟨x,by simp,x5b hx,h⟩
theorem PQ (n:Nat) (rows:List (List Int)):(q3p n rows).length=n:=by simp [q3p]
theorem q3a {n:Nat} {rows:List (List Int)} (hr:XB n rows) {x:Int} (hx:0<=x∧x<n):MinP (rowE rows) x ((q3p n rows).getD x.toNat 0):=by
 have e:(q3p n rows).getD x.toNat 0=x6r ((MP 0 (VT rows [x])).filter fun b=>(MP 0 (VT rows [b])).contains x):=by
  unfold q3p;rw [getD_eq_getElem?_getD,List.getElem?_map,List.getElem?_range (by omega)];have:((x.toNat:Nat):Int)=x:=by omega
  simp [this]
 have hm : ∀ y,y∈(MP 0 (VT rows [x])).filter (fun b=>(MP 0 (VT rows [b])).contains x)↔sccP (rowE rows) x y:=fun y=>by
  rw [List.mem_filter,z1y hr hx,List.contains_iff_mem];constructor
  ·rintro ⟨h1,h2⟩;exact ⟨h1,(z1y hr (z3d hr hx h1) x).1 h2⟩
  ·rintro ⟨h1,h2⟩;exact ⟨h1,(z1y hr (z3d hr hx h1) x).2 h2⟩
 rw [e];obtain ⟨h1,h2⟩:=x7f (l:=(MP 0 (VT rows [x])).filter fun b=>(MP 0 (VT rows [b])).contains x) (List.length_pos_of_mem ((hm x).2 (sccP.refl x)));exact ⟨(hm _).1 h1,fun y hy=>h2 y ((hm y).2 hy)⟩
structure PartI (n:Nat) (E:Int->Int->Prop) (es:List Int) (m:Nat) (part:List Int) (seen:List Bool):Prop where
 sl:seen.length=n
 pl:part.length=n
 seen : ∀ x:Int,0<=x∧x<n->(seen.getD x.toNat false=true↔SeenP E es m x)
 min : ∀ x:Int,0<=x∧x<n->SeenP E es m x->MinP E x (part.getD x.toNat 0)
theorem PartI.start {n:Nat} {E:Int->Int->Prop} {es:List Int}:PartI n E es es.length (List.replicate n 0) (List.replicate n false):=by
 have hno : ∀ x,¬SeenP E es es.length x:=fun x ⟨j,y,h1,h2,_⟩=>by
  have:=(List.getElem?_eq_some_iff.1 h2).1;omega
 refine ⟨by simp,by simp,fun x _ => ?_,fun x _ hx=>absurd hx (hno x)⟩;rw [getD_eq_getElem?_getD,List.getElem?_replicate];have:=hno x;split<;>simp [this]
def UK (l:List Int) (v:Int) (part:List Int):List Int:=l.foldl (fun p a=>p.set a.toNat v) part
theorem LX (v:Int) : ∀ (l part:List Int),(UK l v part).length=part.length
 | [],_=>rfl
 | a::r,part=>by
   show (UK r v (part.set a.toNat v)).length=_;rw [LX v r];simp
theorem x0x {n:Nat} (v:Int) {x:Int} (hx:0<=x∧x<n) : ∀ (l:List Int) {part:List Int},part.length=n->(∀ a∈l,0<=a∧a<n)->(x∈l->(UK l v part).getD x.toNat 0=v)∧(x∉l->(UK l v part).getD x.toNat 0=part.getD x.toNat 0)
 | [],_,_,_=>⟨by simp,fun _=>rfl⟩
 | a::r,part,hl,ha=>by
   have ha0:=ha a mem_cons_self;have e:UK (a::r) v part=UK r v (part.set a.toNat v):=rfl;obtain ⟨h1,h2⟩:=x0x v hx r (part:=part.set a.toNat v) (by simpa using hl) fun b hb=>ha b (mem_cons_of_mem _ hb);have hg:(part.set a.toNat v).getD x.toNat 0=if a.toNat=x.toNat then v else part.getD x.toNat 0:=WW (by omega);rw [e];by_cases hxr:x∈r
   ·exact ⟨fun _=>h1 hxr,fun h=>absurd (mem_cons_of_mem _ hxr) h⟩
   ·rw [h2 hxr,hg];constructor
    ·intro h;rcases List.mem_cons.1 h with rfl|h
     ·rw [if_pos rfl]
     ·exact absurd h hxr
    ·intro h;have:x≠a:=fun h'=>h (by rw [h'];exact mem_cons_self);rw [if_neg (by omega)]
theorem PartI.part {n:Nat} {g:List (List Int)×List (List Int)} (hg:XB n g.1) (hg2:XB n g.2) (hm : ∀ x y,rowE g.2 x y↔rowE g.1 y x) {es:List Int} (he:EndsP n (rowE g.1) es) {m:Nat} {part:List Int} {seen:List Bool} (h:PartI n (rowE g.1) es (m+1) part seen) {r:Int} (hr:es[m]? = some r) (hu:seen.getD r.toNat false=false) :
  (∀ x∈(ZJ g.2 (n+1) 0 (seen.set r.toNat true,[r])).2,0<=x∧x<n)∧0<(ZJ g.2 (n+1) 0 (seen.set r.toNat true,[r])).2.length∧wkInv n (seen.set r.toNat true,[r]) ∧
  PartI n (rowE g.1) es m (UK (ZJ g.2 (n+1) 0 (seen.set r.toNat true,[r])).2 (x6r (ZJ g.2 (n+1) 0 (seen.set r.toNat true,[r])).2) part) (ZJ g.2 (n+1) 0 (seen.set r.toNat true,[r])).1:=by
 have hrr:=(he.mem r).1 (List.mem_of_getElem? hr);have hsl:=h.sl;have hns : ¬SeenP (rowE g.1) es (m+1) r:=fun hs=>by rw [(h.seen r hrr).2 hs] at hu;cases hu
 obtain ⟨h1,h2⟩:=w0p hg2 h.sl hrr hu;have hin : ∀ x y,rowE g.1 x y->(0<=x∧x<n)∧0<=y∧y<n:=fun x y hxy=>⟨BG hg2 ((hm y x).2 hxy).2,BG hg hxy.2⟩;have hback:=w1k hin he hr hns;have hrel : ∀ x,Rch (fun a b=>x6n g.2 a b∧seen.getD b.toNat false=false) r x↔Rch (fun a b=>rowE g.1 b a ∧ ¬SeenP (rowE g.1) es (m+1) b) r x:=fun x=>by
  constructor
  ·intro hx;exact (hx.closed (S:=fun x:Int=>(0<=x∧x<n)∧Rch (fun a b=>rowE g.1 b a ∧ ¬SeenP (rowE g.1) es (m+1) b) r x) (fun a b ⟨h3,h4⟩ ⟨h5,h6⟩=>by
    have hb:=BG hg2 h5;refine ⟨hb,.tail h4 ⟨(hm a b).1 ⟨h3.1,h5⟩,fun hs => ?_⟩⟩;rw [(h.seen b hb).2 hs] at h6;cases h6) ⟨hrr,.refl⟩).2
  ·intro hx;refine hx.mono fun a b ⟨h3,h4⟩=>⟨((hm a b).2 h3).2,?_⟩;have hb:=(hin b a h3).1;cases hq:seen.getD b.toNat false with
   | true=>exact absurd ((h.seen b hb).1 hq) h4
   | false=>rfl
 have hmem : ∀ x,x∈(ZJ g.2 (n+1) 0 (seen.set r.toNat true,[r])).2↔sccP (rowE g.1) r x:=fun x=>by rw [h1,hrel,hback]
 have hrng : ∀ x∈(ZJ g.2 (n+1) 0 (seen.set r.toNat true,[r])).2,0<=x∧x<n:=fun x hx=>z3d hg hrr ((hmem x).1 hx).1;have hpos:0<(ZJ g.2 (n+1) 0 (seen.set r.toNat true,[r])).2.length:=List.length_pos_of_mem ((hmem r).2 (sccP.refl r));have hwk:wkInv n (seen.set r.toNat true,[r]):=by
  refine ⟨by simpa using h.sl,?_,fun x hx=>by rw [List.mem_singleton.1 hx];exact hrr⟩;have hlt:r.toNat<(seen.set r.toNat true).length:=by simp;omega
  show 1<=_;exact List.count_pos_iff.2 (List.mem_iff_getElem.2 ⟨r.toNat,hlt,by simp⟩)
 have hwl:(ZJ g.2 (n+1) 0 (seen.set r.toNat true,[r])).1.length=n:=(BO hg2 _ _ hwk).1;generalize ZJ g.2 (n+1) 0 (seen.set r.toNat true,[r])=w at hmem hrng hpos hwl h2 ⊢;obtain ⟨h7,h8⟩:=x7f hpos;refine ⟨hrng,hpos,hwk,hwl,by rw [LX];exact h.pl,fun x hx => ?_,fun x hx hs => ?_⟩
 ·rw [h2 x hx,hmem,h.seen x hx,x7h hr]
 ·obtain ⟨h3,h4⟩:=x0x (x6r w.2) hx w.2 h.pl hrng;by_cases hxw:x∈w.2
  ·rw [h3 hxw];have hsx:=(hmem x).1 hxw;exact ⟨hsx.symm.trans ((hmem _).1 h7),fun y hy=>h8 y ((hmem y).2 (hsx.trans hy))⟩
  ·rw [h4 hxw];refine h.min x hx ?_;rcases (x7h hr x).1 hs with h5|h5
   ·exact h5
   ·exact absurd ((hmem x).2 h5) hxw
theorem PartI.fin {n:Nat} {rows:List (List Int)} (hr:XB n rows) {es:List Int} (he:EndsP n (rowE rows) es) {part:List Int} {seen:List Bool} (h:PartI n (rowE rows) es 0 part seen):part=q3p n rows:=by
 refine List.ext_getElem? fun i => ?_;rcases Nat.lt_or_ge i n with hi|hi
 ·have hx:0<=(i:Int)∧(i:Int)<n:=by omega
  have h1:=h.min i hx (w4j he hx);have h2:=q3a hr hx;have h3:=h1.uniq h2;have hp1:i<part.length:=by rw [h.pl];exact hi
  have hp2:i<(q3p n rows).length:=by rw [PQ];exact hi
  simpa [getD_eq_getElem?_getD,hp1,hp2] using h3
 ·rw [List.getElem?_eq_none (by rw [h.pl];exact hi),List.getElem?_eq_none (by rw [PQ];exact hi)]
theorem q4k (n:Nat) (hn:n<=5000) (g:List (List Int)×List (List Int)) (hg:XB n g.1) (hg2:XB n g.2) (hgm : ∀ x y,rowE g.2 x y↔rowE g.1 y x):SpecP Tryz.prog 201 [HS g] (fun r=>r=QD (q3p n g.1)):=by
 refine sB LM Tryz.func201 rfl Tryz.call201 ?_;conv=>whnf
 have hl:((avI g.1).map AV.sl).length=n:=by simp [avI,hg.1]
 repeat' ((first|(refine iM fun _=>?_)|refine aR ?_|refine wI ?_|refine MkK.mk n (by rw [hl]) (by show 1*n<=140737488355328;omega) (by unfold maxLen;omega) ?_|refine MkK.mk n (by rw [hl]) (by show 8*n<=140737488355328;omega) (by unfold maxLen;omega) ?_|(refine CallK.pure (q6g n hn g hg) (.cons (Sub.refl _) .nil) ?_;rintro _ ⟨es,rfl,he⟩));conv=>whnf)
 have hesl:es.length<=n:=by
  have h1:=he.nd;exact x4p h1 fun x hx=>(he.mem x).1 hx
 have hml:(es.map (AV.int .i64)).length=es.length:=length_map _;refine LoopK.inv QX (fun x:Nat×List Int×List Bool=>⟨[(0,.p (HS g)),(3,.hd 0 0 n),(4,.hd 1 0 n),(5,.p (QD es)),(6,.p (.int .i64 ((x.1:Int)-1)))],[(0,.own 3 1 (x.2.1.map (.int .i64))),(1,.own 4 1 (x.2.2.map bv))]⟩)
  (fun x=>x.1<=es.length∧PartI n (rowE g.1) es x.1 x.2.1 x.2.2) (fun x=>x.1) (es.length,List.replicate n 0,List.replicate n false)
  (Le.mk [] (by simp) (by simp) (by simp) (.cons (.refl _) (.cons (.of_eq rfl) (.cons (.of_eq rfl) (.cons (.refl _) (.cons (.of_eq (by rw [hml];rfl)) .nil)))))
    (.cons rfl (.of_eq (by rw [List.map_replicate];rfl)) (.cons rfl (.of_eq (by rw [List.map_replicate];rfl)) .nil)))
  ⟨Nat.le_refl _,PartI.start⟩ ?_
 rintro ⟨m,part,seen⟩ ⟨h1,h2⟩;simp only at h1 h2 ⊢;have hsl:=h2.sl;have hpl:=h2.pl;cases m with
 | zero =>
   conv=>whnf
   repeat' (apply bD<;>intro _<;>first|omega|conv=>whnf)
   exact ⟨_,.hd rfl (by simp [hpl]),by rw [h2.fin hg he];rfl⟩
 | succ m =>
   obtain ⟨r,hr⟩ : ∃ r,es[m]? = some r:=⟨_,List.getElem?_eq_getElem (by omega)⟩;have hrr:=(he.mem r).1 (List.mem_of_getElem? hr);have hre:es[m]=r:=by rw [List.getElem?_eq_getElem (by omega)] at hr;exact Option.some.inj hr
   have hra:(es.map (AV.int .i64))[m]? = some (.int .i64 r):=by rw [List.getElem?_map,hr];rfl
   have e1:=v0o (l:=seen) (i:=r.toNat) (by omega);cases hq:seen.getD r.toNat false with
   | true =>
     rw [hq] at e1;have hsk:=w3j hr ((h2.seen r hrr).1 hq);conv=>whnf
     repeat' (first|((first|refine And.intro rfl ?_|refine wI ?_|(refine IdxK.at (k:=m) (by omega) hra rfl ?_)|refine IdxL.mk r.toNat (by omega) (by omega) ?_|refine LdOwn.mk r.toNat 0 .tt (by omega) e1 ?_);conv=>whnf)|(apply bD<;>intro _<;>first|omega|conv=>whnf))
     exact ⟨(m,part,seen),⟨by simp only;omega,h2.sl,h2.pl,fun x hx=>by rw [h2.seen x hx,hsk],fun x hx hs=>h2.min x hx ((hsk x).1 hs)⟩,Nat.lt_succ_self m,Le.of_eq (by rw [show ((m+1:Nat):Int)-1-1=(m:Int)-1 by omega])⟩
   | false =>
     rw [hq] at e1;obtain ⟨h3,h4,h5,h6⟩:=h2.part hg hg2 hgm he hr hq;conv=>whnf
     repeat' (first|((first|refine dA ?_|refine And.intro rfl ?_|refine aD ?_|(refine IdxK.at (k:=m) (by omega) hra rfl ?_)|refine IdxL.mk r.toNat (by omega) (by omega) ?_|refine LdOwn.mk r.toNat 0 .ff (by omega) e1 ?_|refine StOwn.mk r.toNat 0 .ff .tt (by omega) e1 (Nat.le_refl 1) rfl ?_|refine BsK.own (fun x hx=>by rcases List.mem_singleton.1 hx with rfl;rfl) rfl ?_);conv=>whnf)|(apply bD<;>intro _<;>first|omega|conv=>whnf))
     have hwl:(ZJ g.2 (n+1) 0 (seen.set r.toNat true,[r])).1.length=n:=h6.sl;rw [show (seen.map bv).set r.toNat AV.tt=(seen.set r.toNat true).map bv by rw [List.map_set];rfl];refine CallK.heap [(1000,1),(2000,2)] 0 (ArgsH.cons (LSub.refl _) (ArgsH.cons (LSub.refl _) (ArgsH.cons (LSub.refl _) ArgsH.nil))) (by refine BlksH.cons (j:=1) rfl rfl ?_ ?_;exact CSub.refl _;refine BlksH.cons (j:=2) rfl rfl ?_ ?_;exact CSub.refl _;exact BlksH.nil) (x3q n hn g.2 hg2 (seen.set r.toNat true,[r]) h5) rfl rfl ?_;rintro l' H' ⟨rfl,rfl⟩;conv=>whnf
     have hwn:(ZJ g.2 (n+1) 0 (seen.set r.toNat true,[r])).2.length<=n:=BE (BO hg2 _ _ h5);generalize ZJ g.2 (n+1) 0 (seen.set r.toNat true,[r])=w at h3 h4 h6 hwl hwn ⊢;repeat' ((first|(refine iM fun _=>?_)|(refine QG (LA w.2 h4) (.cons (.hd rfl (by simp)) .nil) (by rintro _ rfl;rfl) ?_;rintro _ rfl));conv=>whnf)
     refine LoopK.inv QX (fun x:Nat=>⟨[(0,.p (HS g)),(3,.hd 0 0 n),(4,.hd 1 0 n),(5,.p (QD es)),(6,.p (.int .i64 (((m+1:Nat):Int)-1))),(8,.p (.int .i64 (x6r w.2))),(60,.hd 2 0 w.2.length),(61,.p (.int .i64 w.2.length)),(62,.p (.int .i64 x))],[(1,.own 4 1 (w.1.map bv)),(2,.own 3 1 (w.2.map (.int .i64))),(0,.own 3 1 ((UK (w.2.take x) (x6r w.2) part).map (.int .i64)))]⟩)
      (fun x=>x<=w.2.length) (fun x=>w.2.length-x) 0 (Le.of_eq rfl) (zero_le _) ?_
     intro q hqw;rcases Nat.lt_or_ge q w.2.length with hq2|hq2
     ·have hwr:=h3 _ (List.getElem_mem hq2);have e4:=x6o (l:=UK (w.2.take q) (x6r w.2) part) (i:=w.2[q].toNat) (by rw [LX];omega);have e5:UK (w.2.take (q+1)) (x6r w.2) part=(UK (w.2.take q) (x6r w.2) part).set w.2[q].toNat (x6r w.2):=by
       unfold UK;rw [List.take_succ_eq_append_getElem hq2,List.foldl_append];rfl
      generalize UK (w.2.take q) (x6r w.2) part=pt at e4 e5 ⊢;conv=>whnf
      repeat' (first|((first|refine And.intro rfl ?_|refine wI ?_|refine IdxL.mk q (by omega) (by omega) ?_|refine LdOwn.mk q 0 (.int .i64 w.2[q]) (by omega) (by simp [hq2]) ?_|refine IdxL.mk w.2[q].toNat (by omega) (by omega) ?_|refine StOwn.mk w.2[q].toNat 0 (.int .i64 (pt.getD w.2[q].toNat 0)) (.int .i64 (x6r w.2)) (by omega) e4 (Nat.le_refl 1) rfl ?_);conv=>whnf)|(apply bD<;>intro _<;>first|omega|conv=>whnf))
      exact ⟨q+1,hq2,by omega,Le.of_eq (by rw [e5,List.map_set];rfl)⟩
     ·rw [List.take_of_length_le hq2];conv=>whnf
      repeat' (first|(refine wI ?_;conv=>whnf)|(apply bD<;>intro _<;>first|omega|conv=>whnf))
      exact ⟨(m,UK w.2 (x6r w.2) part,w.1),⟨by simp only;omega,h6⟩,Nat.lt_succ_self m,Le.mk [] (by simp) (by simp) (by simp) (.cons (.refl _) (.cons (.refl _) (.cons (.refl _) (.cons (.refl _) (.cons (.of_eq (by rw [show (m:Int)=((m+1:Nat):Int)-1 by omega];rfl)) .nil))))) (.cons rfl (.refl _) (.cons rfl (.refl _) .nil))⟩
theorem OpK.frz {P:Program} {T:Tab} {N:Nat} {o:Oper} {K:St->Prop} {s:St} (hT:TabOK P T) (gs:List (List Nat)) (h:v2s gs s fun s'=>opW P T N s' o K):OpK P N s o K:=⟨fun σ β a w hr Q=>by
 obtain ⟨s1,h1,hle⟩:=x0v (N:=N) h;obtain ⟨σ1,β1,hr1,hl1⟩:=hle σ β a w hr;exact Oper.wp_mono (fun a' w' ⟨σ',β',s2,hK,hr',hl⟩=>⟨σ',β',s2,hK,hr',hl1.trans hl⟩) (q8c hT h1 hr1 Q)⟩
theorem z4o {N:List (List Int)} {a:Nat} (ha:a<N.length) {b y:Int} {k:Nat}:y∈(x1r N a b).getD k []↔y∈N.getD k []∨(a=k∧y=b):=by
 unfold x1r;rw [WW ha];split
 ·rename_i h;rw [z4l,h];simp
 ·rename_i h;simp [h]
theorem w3x {n:Nat} {g:List (List Int)×List (List Int)} (hl:g.2.length=n) (e:Int×Int):(x6m n g e).2.length=n:=by
 rw [x2v];cases (WS n e.1&&WS n e.2 && !(g.1.getD e.1.toNat []).contains e.2) with
 | true=>rw [cond_true];unfold x1r;rw [List.length_set];exact hl
 | false=>exact hl
structure MirG (n:Nat) (g:List (List Int)×List (List Int)):Prop where
 l1:g.1.length=n
 l2:g.2.length=n
 m : ∀ x y:Int,0<=x∧x<n->0<=y∧y<n->(y∈g.1.getD x.toNat []↔x∈g.2.getD y.toNat [])
theorem MirG.add {n:Nat} {g:List (List Int)×List (List Int)} (h:MirG n g) (e:Int×Int):MirG n (x6m n g e):=by
 refine ⟨z3t h.l1 e,w3x h.l2 e,fun x y hx hy => ?_⟩;rw [q8d,x2v];cases hc:(WS n e.1&&WS n e.2 && !(g.1.getD e.1.toNat []).contains e.2) with
 | true =>
   simp only [Bool.and_eq_true] at hc;have h1:=ZM hc.1.1;have h2:=ZM hc.1.2;rw [cond_true,cond_true,z4o (by rw [h.l1];omega),z4o (by rw [h.l2];omega),h.m x y hx hy];constructor
   ·rintro (h3|⟨h3,h4⟩)
    ·exact .inl h3
    ·exact .inr ⟨by omega,by omega⟩
   ·rintro (h3|⟨h3,h4⟩)
    ·exact .inl h3
    ·exact .inr ⟨by omega,by omega⟩
 | false=>exact h.m x y hx hy
theorem MirG.fold {n:Nat} : ∀ (l:List (Int×Int)) {g:List (List Int)×List (List Int)},MirG n g->MirG n (l.foldl (x6m n) g)
 | [],_,h=>h
 | e::r,_,h=>MirG.fold r (h.add e)
theorem x9n (n:Nat) (l:List (Int×Int)):MirG n (XU n l):=by
 refine MirG.fold l ⟨by simp,by simp,fun x y _ _ => ?_⟩;have : ∀ k,(List.replicate n ([]:List Int)).getD k []=[]:=fun k=>by
  rw [getD_eq_getElem?_getD,List.getElem?_replicate];split<;>rfl
 simp only [this];simp
theorem z2k {n:Nat} {rows:List (List Int)} (hl:rows.length=n) {x y:Int} (h:rowE rows x y):0<=x∧x<n:=by
 refine ⟨h.1,?_⟩;have h2:=h.2;unfold x6n at h2;rcases Nat.lt_or_ge x.toNat rows.length with h3|h3
 ·omega
 ·rw [getD_eq_getElem?_getD,List.getElem?_eq_none h3] at h2;simp at h2
theorem z7g (n:Nat) (l:List (Int×Int)) (x y:Int):rowE (XU n l).2 x y↔rowE (XU n l).1 y x:=by
 obtain ⟨h1,h2⟩:=BP n l;have hm:=x9n n l;constructor
 ·intro h;have hx:=z2k hm.l2 h;have hy:=BG h2 h.2;exact ⟨hy.1,(hm.m y x hy hx).2 h.2⟩
 ·intro h;have hx:=z2k hm.l1 h;have hy:=BG h1 h.2;exact ⟨hy.1,(hm.m y x hx hy).1 h.2⟩
theorem z7r {n:Nat} {l:List (Int×Int)} {x y:Int}:rowE (XU n l).1 x y↔(x,y)∈l∧WS n x=true∧WS n y=true:=by
 constructor
 ·intro h;have hx:=z2k (x9n n l).l1 h;have:=(x1f hx).1 h.2;exact ⟨this.1,x5b hx,this.2⟩
 ·rintro ⟨h1,h2,h3⟩;have hx:=ZM h2;exact ⟨hx.1,(x1f hx).2 ⟨h1,h3⟩⟩
def q3g (part:List Int) (o:List Bool) (t:Int×Int):List Bool:=if part.getD t.1.toNat 0=part.getD t.2.toNat 0 then o else o.set (part.getD t.1.toNat 0).toNat true
def x1w (n:Nat) (part:List Int):List Bool:=((List.replicate n false).set (part.getD 0 0).toNat true).set (part.getD (n-1) 0).toNat true
def q6u (n:Nat) (part:List Int) (prs:List (Int×Int)):List Bool:=prs.foldl (q3g part) (x1w n part)
def FQ (plc:Int->Int) (part:List Int) (i q:Nat):List Int:=((List.range q).filter fun j=>part.getD j 0==(i:Int)).map fun (j:Nat)=>plc j
def q2y (part:List Int) (op:List Bool) (i:Nat):Bool:=part.getD i 0==(i:Int) && !op.getD i false
def LR (plc:Int->Int) (part:List Int) (op:List Bool) (q:Nat):List (List Int):=((List.range q).filter (q2y part op)).map fun i=>FQ plc part i part.length
def prsW (w:Way) (f:Pr):List (Int×Int):=w.real.map (ixP w.p w.j f w.n)
def WP (w:Way) (f:Pr):List Int:=q3p w.n.toNat (XU w.n.toNat (prsW w f)).1
def trapsW (w:Way) (f:Pr):List (List Int):=LR (QN w.p w.j w.n) (WP w f) (q6u w.n.toNat (WP w f) (prsW w f)) (WP w f).length
theorem z0v (part:List Int) (o:List Bool) (t:Int×Int):(q3g part o t).length=o.length:=by
 unfold q3g;split<;>simp
theorem z3y {n:Nat} {rows:List (List Int)} (hr:XB n rows) {k:Nat} (hk:k<n):0<=(q3p n rows).getD k 0∧(q3p n rows).getD k 0<n:=by
 have hx:0<=(k:Int)∧(k:Int)<n:=by omega
 have:=q3a hr hx;exact z3d hr hx this.scc.1
theorem z7z (plc:Int->Int) (part:List Int) (i q:Nat):FQ plc part i (q+1)=if part.getD q 0=(i:Int) then FQ plc part i q++[plc q] else FQ plc part i q:=by
 unfold FQ;rw [List.range_succ,List.filter_append,List.map_append];by_cases h:part.getD q 0=(i:Int)
 ·rw [if_pos h,List.filter_cons_of_pos (by rw [h];simp)];rfl
 ·rw [if_neg h,List.filter_cons_of_neg (by simpa using h)];simp
theorem z7o (plc:Int->Int) (part:List Int) (op:List Bool) (q:Nat):LR plc part op (q+1)=if q2y part op q=true then LR plc part op q++[FQ plc part q part.length] else LR plc part op q:=by
 unfold LR;rw [List.range_succ,List.filter_append,List.map_append];by_cases h:q2y part op q=true
 ·rw [if_pos h,List.filter_cons_of_pos h];rfl
 ·rw [if_neg h,List.filter_cons_of_neg h];simp
theorem x9p (plc:Int->Int) (part:List Int) (i q:Nat):(FQ plc part i q).length<=q:=by
 unfold FQ;rw [length_map];exact Nat.le_trans (List.length_filter_le _ _) (by simp)
theorem x9x (plc:Int->Int) (part:List Int) (op:List Bool) (q:Nat):(LR plc part op q).length<=q:=by
 unfold LR;rw [length_map];exact Nat.le_trans (List.length_filter_le _ _) (by simp)
theorem x7q (part:List Int) : ∀ (l:List (Int×Int)) (o:List Bool),(l.foldl (q3g part) o).length=o.length
 | [],_=>rfl
 | t::r,o=>by rw [foldl_cons,x7q part r,z0v]
theorem z9e (n:Nat) (part:List Int) (l:List (Int×Int)):(l.foldl (q3g part) (x1w n part)).length=n:=by
 rw [x7q];simp [x1w]
end Go.Ab
