/- aug: what a procedure's traps are, by its places. -/
import Derived.Test.YtlhblcpmfnkjpaaGreatDomA9
import Derived.Test.YtlhblcpmfnkjpaaGreatDomA12
import Derived.Test.YtlhblcpmfnkjpaaGreatDomA13
import Derived.Test.YtlhblcpmfnkjpaaGreatDomA15
set_option linter.unusedSimpArgs false
set_option linter.unusedVariables false
set_option maxRecDepth 100000
set_option maxHeartbeats 16000000
open Array (length_toList)
open List (getD_eq_getElem?_getD length_map length_take map_cons mem_cons_of_mem mem_cons_self sum_cons take_of_length_le)
open Nat (zero_le)
namespace Go.Ab
open Go.Proofs
section
variable {p:Pg} {j:Nat} {f:Pr}
theorem JU {i:Int} (h:0<=i∧i<(QV f.body+2:Nat)):plP p j f (QN p j (QV f.body+2:Nat) i)∧ixI p j f (QN p j (QV f.body+2:Nat) i)=i:=by
 unfold QN ixI KX plP loI hiI;constructor
 ·(repeat' split)<;>omega
 ·(repeat' split)<;>omega
theorem z5y {x:Int} (h:plP p j f x):QN p j (QV f.body+2:Nat) (ixI p j f x)=x:=by
 have h1:=JU (p:=p) (j:=j) (f:=f) (WY h);exact q2j h1.1 h h1.2
theorem x4g:prsW (QQ p j f) f=(QQ p j f).real.map (ixP p j f (QV f.body+2:Nat)):=rfl
theorem w8v (h:XG p=true) (hj:p.procs[j]? = some f) : ∀ t∈prsW (QQ p j f) f,(0<=t.1∧t.1<(QV f.body+2:Nat))∧0<=t.2∧t.2<(QV f.body+2:Nat):=fun t ht=>by
 rw [x4g] at ht;obtain ⟨s,hs,rfl⟩:=List.mem_map.1 ht;obtain ⟨h1,h2⟩:=KH h hj s hs;exact ⟨WY h1,WY h2⟩
def wE (p:Pg) (j:Nat) (f:Pr):Int->Int->Prop:=rowE (XU (QV f.body+2) (prsW (QQ p j f) f)).1
def wR (p:Pg) (j:Nat) (f:Pr):Int->Int->Prop:=stR (QQ p j f).real
theorem v1h (h:XG p=true) (hj:p.procs[j]? = some f) {i k:Int}:wE p j f i k ↔ ∃ a b,wR p j f a b∧ixI p j f a=i∧ixI p j f b=k:=by
 unfold wE wR;rw [z7r];constructor
 ·rintro ⟨h1,_,_⟩;rw [x4g] at h1;obtain ⟨s,hs,he⟩:=List.mem_map.1 h1;exact ⟨s.src,s.dst,⟨s,hs,rfl,rfl⟩,congrArg Prod.fst he,congrArg Prod.snd he⟩
 ·rintro ⟨a,b,⟨s,hs,rfl,rfl⟩,rfl,rfl⟩;obtain ⟨h1,h2⟩:=KH h hj s hs;exact ⟨List.mem_map.2 ⟨s,hs,rfl⟩,x5b (WY h1),x5b (WY h2)⟩
theorem w8e (h:XG p=true) (hj:p.procs[j]? = some f) {a b:Int} (hr:wR p j f a b):plP p j f a∧plP p j f b:=by
 obtain ⟨s,hs,rfl,rfl⟩:=hr;exact KH h hj s hs
theorem w2h (h:XG p=true) (hj:p.procs[j]? = some f) {a b:Int} (ha:plP p j f a) (hr:Rch (wR p j f) a b):plP p j f b :=
 hr.closed (S:=plP p j f) (fun _ _ _ h1=>(w8e h hj h1).2) ha
theorem w7i (h:XG p=true) (hj:p.procs[j]? = some f) {a b:Int} (ha:plP p j f a) (hb:plP p j f b):Rch (wE p j f) (ixI p j f a) (ixI p j f b)↔Rch (wR p j f) a b:=by
 constructor
 ·intro hr;obtain ⟨c,h1,h2,h3⟩:=hr.closed (S:=fun k => ∃ c,plP p j f c∧ixI p j f c=k∧Rch (wR p j f) a c) (by
   rintro i k ⟨c,h1,h2,h3⟩ h4;obtain ⟨x,y,h5,h6,h7⟩:=(v1h h hj).1 h4;have h8:=w8e h hj h5;have:x=c:=q2j h8.1 h1 (by rw [h6,h2]);subst this;exact ⟨y,h8.2,h7,.tail h3 h5⟩) ⟨a,ha,rfl,.refl⟩
  rw [<- q2j h1 hb h2];exact h3
 ·intro hr;exact (hr.closed (S:=fun c=>plP p j f c∧Rch (wE p j f) (ixI p j f a) (ixI p j f c)) (fun x y ⟨h1,h2⟩ h3=>⟨(w8e h hj h3).2,.tail h2 ((v1h h hj).2 ⟨x,y,h3,rfl,rfl⟩)⟩) ⟨ha,.refl⟩).2
theorem w7e (h:XG p=true) (hj:p.procs[j]? = some f) {a b:Int} (ha:plP p j f a) (hb:plP p j f b):sccP (wE p j f) (ixI p j f a) (ixI p j f b)↔sccP (wR p j f) a b:=by
 unfold sccP;rw [w7i h hj ha hb,w7i h hj hb ha]
def GJ (p:Pg) (j:Nat) (f:Pr) (i:Int):Int:=(WP (QQ p j f) f).getD i.toNat 0
theorem q8n:WP (QQ p j f) f=q3p (QV f.body+2) (XU (QV f.body+2) (prsW (QQ p j f) f)).1:=rfl
theorem q1a {i:Int} (hi:0<=i∧i<(QV f.body+2:Nat)):MinP (wE p j f) i (GJ p j f i):=by
 unfold GJ;rw [q8n];exact q3a (BP _ _).1 hi
theorem z5s {k:Nat} (hk:k<QV f.body+2):0<=(WP (QQ p j f) f).getD k 0∧(WP (QQ p j f) f).getD k 0<(QV f.body+2:Nat):=by
 rw [q8n];exact z3y (BP _ _).1 hk
theorem q7h:(WP (QQ p j f) f).length=QV f.body+2:=by rw [q8n,PQ]
theorem MinP.same {E:Int->Int->Prop} {x y v:Int} (h:MinP E x v) (hs:sccP E x y):MinP E y v:=⟨hs.symm.trans h.scc,fun z hz=>h.le z (hs.trans hz)⟩
theorem w4r {i k:Int} (hi:0<=i∧i<(QV f.body+2:Nat)) (hk:0<=k∧k<(QV f.body+2:Nat)):GJ p j f i=GJ p j f k↔sccP (wE p j f) i k:=by
 have h1:=q1a (p:=p) (j:=j) hi;have h2:=q1a (p:=p) (j:=j) hk;constructor
 ·intro he;rw [<- he] at h2;exact h1.scc.trans h2.scc.symm
 ·intro hs;exact (h1.same hs).uniq h2
theorem GB (h:XG p=true) (hj:p.procs[j]? = some f) {a b:Int} (ha:plP p j f a) (hb:plP p j f b):GJ p j f (ixI p j f a)=GJ p j f (ixI p j f b)↔sccP (wR p j f) a b:=by
 rw [w4r (WY ha) (WY hb),w7e h hj ha hb]
structure TrapP (p:Pg) (j:Nat) (f:Pr) (l:List Int) (r:Int):Prop where
 pl:plP p j f r
 mem : ∀ b,b∈l↔plP p j f b∧sccP (wR p j f) r b
 cl : ∀ b c,sccP (wR p j f) r b->wR p j f b c->sccP (wR p j f) r c
 n0 : ¬sccP (wR p j f) r 0
 nx : ¬sccP (wR p j f) r (-1)
theorem q8b {plc:Int->Int} {part:List Int} {i q:Nat} {b:Int}:b∈FQ plc part i q ↔ ∃ k:Nat,k<q∧part.getD k 0=i∧plc k=b:=by
 unfold FQ;constructor
 ·intro h;obtain ⟨k,hk,rfl⟩:=List.mem_map.1 h;obtain ⟨h1,h2⟩:=List.mem_filter.1 hk;exact ⟨k,List.mem_range.1 h1,beq_iff_eq.1 h2,rfl⟩
 ·rintro ⟨k,h1,h2,rfl⟩;exact List.mem_map.2 ⟨k,List.mem_filter.2 ⟨List.mem_range.2 h1,beq_iff_eq.2 h2⟩,rfl⟩
theorem ix0:ixI p j f 0=0:=by unfold ixI KX;rw [if_pos rfl]
theorem ix1:ixI p j f (-1)=((QV f.body+2:Nat):Int)-1:=by unfold ixI KX;rw [if_neg (by omega),if_pos rfl]
theorem pl0:plP p j f 0 := .inl rfl
theorem pl1:plP p j f (-1) := .inr (.inl rfl)
theorem q1n (k:Nat):(WP (QQ p j f) f).getD k 0=GJ p j f k:=by
 unfold GJ;rw [Int.toNat_natCast]
theorem w2y (h:XG p=true) (hj:p.procs[j]? = some f) {i:Nat} (hi:i<QV f.body+2):(q6u (QV f.body+2) (WP (QQ p j f) f) (prsW (QQ p j f) f)).getD i false=true ↔
  GJ p j f (ixI p j f 0)=i∨GJ p j f (ixI p j f (-1))=i ∨ ∃ a b,wR p j f a b ∧ ¬sccP (wR p j f) a b∧GJ p j f (ixI p j f a)=i:=by
 rw [w5n (by omega) (fun k hk=>z5s hk) hi fun t ht=>(w8v h hj t ht).1,ix0,ix1];have e1:(WP (QQ p j f) f).getD (QV f.body+2-1) 0=GJ p j f (((QV f.body+2:Nat):Int)-1):=by
  unfold GJ;congr 1;omega
 have e0:(WP (QQ p j f) f).getD 0 0=GJ p j f 0:=rfl;rw [e0,e1];refine or_congr Iff.rfl (or_congr Iff.rfl ?_);constructor
 ·rintro ⟨t,ht,h1,h2⟩;rw [x4g] at ht;obtain ⟨s,hs,rfl⟩:=List.mem_map.1 ht;obtain ⟨h3,h4⟩:=KH h hj s hs;exact ⟨s.src,s.dst,⟨s,hs,rfl,rfl⟩,fun hsc=>h1 ((GB h hj h3 h4).2 hsc),h2⟩
 ·rintro ⟨a,b,⟨s,hs,rfl,rfl⟩,h1,h2⟩;obtain ⟨h3,h4⟩:=KH h hj s hs;exact ⟨ixP p j f (QV f.body+2:Nat) s,by rw [x4g];exact List.mem_map.2 ⟨s,hs,rfl⟩,fun he=>h1 ((GB h hj h3 h4).1 he),h2⟩
theorem q2a {l:List Int}:l∈trapsW (QQ p j f) f ↔ ∃ i:Nat,i<QV f.body+2∧GJ p j f i=i∧(q6u (QV f.body+2) (WP (QQ p j f) f) (prsW (QQ p j f) f)).getD i false=false∧l=FQ (QN p j (QV f.body+2:Nat)) (WP (QQ p j f) f) i (QV f.body+2):=by
 unfold trapsW LR;rw [q7h];constructor
 ·intro hl;obtain ⟨i,hi,rfl⟩:=List.mem_map.1 hl;obtain ⟨h1,h2⟩:=List.mem_filter.1 hi;unfold q2y at h2;rw [Bool.and_eq_true,beq_iff_eq,Bool.not_eq_true',q1n] at h2;exact ⟨i,List.mem_range.1 h1,h2.1,h2.2,rfl⟩
 ·rintro ⟨i,h1,h2,h3,rfl⟩;refine List.mem_map.2 ⟨i,List.mem_filter.2 ⟨List.mem_range.2 h1,?_⟩,rfl⟩;unfold q2y;rw [Bool.and_eq_true,beq_iff_eq,Bool.not_eq_true',q1n];exact ⟨h2,h3⟩
theorem z3p (h:XG p=true) (hj:p.procs[j]? = some f) {i:Nat} (hi:i<QV f.body+2) (hp:GJ p j f i=i) (b:Int) :
  b∈FQ (QN p j (QV f.body+2:Nat)) (WP (QQ p j f) f) i (QV f.body+2)↔plP p j f b∧sccP (wR p j f) (QN p j (QV f.body+2:Nat) i) b:=by
 obtain ⟨h1,h2⟩:=JU (p:=p) (j:=j) (f:=f) (i:=i) (by omega);rw [q8b];constructor
 ·rintro ⟨k,h3,h4,rfl⟩;obtain ⟨h5,h6⟩:=JU (p:=p) (j:=j) (f:=f) (i:=k) (by omega);refine ⟨h5,(GB h hj h1 h5).1 ?_⟩;rw [h2,h6,hp,<- q1n,h4]
 ·rintro ⟨h3,h4⟩;have h5:=WY h3;refine ⟨(ixI p j f b).toNat,by omega,?_,?_⟩
  ·rw [q1n,show (((ixI p j f b).toNat:Nat):Int)=ixI p j f b by omega,<- (GB h hj h1 h3).2 h4,h2,hp]
  ·rw [show (((ixI p j f b).toNat:Nat):Int)=ixI p j f b by omega,z5y h3]
theorem x7b (h:XG p=true) (hj:p.procs[j]? = some f) {l:List Int} (hl:l∈trapsW (QQ p j f) f) : ∃ r,TrapP p j f l r:=by
 obtain ⟨i,hi,hp,ho,rfl⟩:=q2a.1 hl;obtain ⟨h1,h2⟩:=JU (p:=p) (j:=j) (f:=f) (i:=i) (by omega);have ho2 : ¬_:=fun hx=>by
  have:=(w2y h hj hi).2 hx;rw [ho] at this;cases this
 have hpr:GJ p j f (ixI p j f (QN p j (QV f.body+2:Nat) i))=i:=by rw [h2,hp]
 refine ⟨_,h1,z3p h hj hi hp,fun b c hb hbc => ?_,fun hs=>ho2 (.inl ?_),fun hs=>ho2 (.inr (.inl ?_))⟩
 ·have h3:=w8e h hj hbc;by_cases hsc:sccP (wR p j f) b c
  ·exact hb.trans hsc
  ·refine absurd (.inr (.inr ⟨b,c,hbc,hsc,?_⟩)) ho2;rw [<- (GB h hj h1 h3.1).2 hb,hpr]
 ·rw [<- (GB h hj h1 pl0).2 hs,hpr]
 ·rw [<- (GB h hj h1 pl1).2 hs,hpr]
theorem w1u (h:XG p=true) (hj:p.procs[j]? = some f) {r:Int} (hr:plP p j f r) (hcl : ∀ b c,sccP (wR p j f) r b->wR p j f b c->sccP (wR p j f) r c) (h0 : ¬sccP (wR p j f) r 0) (hx : ¬sccP (wR p j f) r (-1)) :
  ∃ l∈trapsW (QQ p j f) f,∀ b,b∈l↔plP p j f b∧sccP (wR p j f) r b:=by
 have h1:=WY hr;have h2:=q1a (p:=p) (j:=j) (f:=f) h1;have h3:=z5s (p:=p) (j:=j) (f:=f) (k:=(ixI p j f r).toNat) (by omega);have h4:0<=GJ p j f (ixI p j f r)∧GJ p j f (ixI p j f r)<(QV f.body+2:Nat):=h3;generalize hi:GJ p j f (ixI p j f r)=v at h2 h4;obtain ⟨h5,h6⟩:=JU (p:=p) (j:=j) (f:=f) (i:=v) h4;have hs:sccP (wR p j f) r (QN p j (QV f.body+2:Nat) v):=(w7e h hj hr h5).1 (by rw [h6];exact h2.scc);have hpv:GJ p j f v=v:=(q1a (p:=p) (j:=j) (f:=f) h4).uniq (h2.same h2.scc);have ev:((v.toNat:Nat):Int)=v:=by omega
 refine ⟨_,q2a.2 ⟨v.toNat,by omega,by rw [ev];exact hpv,?_,rfl⟩,fun b => ?_⟩
 ·cases ho:(q6u (QV f.body+2) (WP (QQ p j f) f) (prsW (QQ p j f) f)).getD v.toNat false with
  | false=>rfl
  | true =>
    have:=(w2y h hj (by omega)).1 ho;rw [ev,<- hi] at this;rcases this with h7|h7|⟨a,b,h7,h8,h9⟩
    ·exact absurd ((GB h hj hr pl0).1 h7.symm) h0
    ·exact absurd ((GB h hj hr pl1).1 h7.symm) hx
    ·have h10:=w8e h hj h7;have h11:=(GB h hj hr h10.1).1 h9.symm;exact absurd (h11.symm.trans (hcl a b h11 h7)) h8
 ·rw [z3p h hj (by omega) (by rw [ev];exact hpv),ev];exact and_congr Iff.rfl ⟨fun h7=>hs.trans h7,fun h7=>hs.symm.trans h7⟩
end
theorem z3k {p:Pg} {j:Nat} {f:Pr} (hj:p.procs[j]? = some f) (hcn:cntP p.procs<=200):(QQ p j f).real.length<=100000:=by
 obtain ⟨_,_,_,hlen,hsp⟩:=QJ p;obtain ⟨_,_,hle,_⟩:=hsp j f hj;have h9:=x7p (QK p j f);have h10:=BS p j f;show (ZL (QK p j f)).length<=100000;omega
theorem z4n {p:Pg} (h:XG p=true) {j:Nat} {f:Pr} (hj:p.procs[j]? = some f) : ∀ it∈itsOf p j f,∀ s∈fOf it,okSt s:=fun it hi s hs=>by
 obtain ⟨hm,_⟩:=QF h;obtain ⟨_,_,hcn⟩:=KU h;obtain ⟨_,_,_,hlen,hsp⟩:=QJ p;obtain ⟨_,_,hle,_⟩:=hsp j f hj;have h1:=YT hm hj (LO hi);have h2:=(BH hi).1;unfold fOf at hs;split at hs
 ·rw [List.mem_singleton.1 hs];unfold okI at h2;unfold okSt;constructor
  ·show it.s.id≠_;omega
  ·show it.next≠_;omega
 ·cases hs
theorem x4a {p:Pg} (h:XG p=true) {j:Nat} {f:Pr} (hj:p.procs[j]? = some f) {l:List Int} (hl:l∈trapsW (QQ p j f) f):l.length<=QV f.body+2 ∧ ∀ id∈l,(QR p.procs j:Int)+1<=id∧id<=(QR p.procs j+QV f.body:Nat):=by
 constructor
 ·obtain ⟨i,_,_,_,rfl⟩:=q2a.1 hl;exact x9p _ _ _ _
 ·intro id hid;obtain ⟨r,ht⟩:=x7b h hj hl;obtain ⟨h1,h2⟩:=(ht.mem id).1 hid;rcases h1 with rfl|rfl|h1
  ·exact absurd h2 ht.n0
  ·exact absurd h2 ht.nx
  ·exact h1
theorem v1j {p:Pg} (h:XG p=true) {j:Nat} {f:Pr} (hj:p.procs[j]? = some f):WayT (QQ p j f) f (QV f.body+2):=by
 obtain ⟨_,_,hcn⟩:=KU h;obtain ⟨_,_,_,hlen,hsp⟩:=QJ p;obtain ⟨_,_,hle,_⟩:=hsp j f hj;refine ⟨rfl,hj,by show cntP p.procs<=1000;omega,by omega,by omega,Nat.le_trans (z3k hj hcn) (by decide),w8v h hj,?_,fun l hl => ?_,fun s hs=>(PT h hj).2.2 s (((VI h hj).2 s).1 hs),z4n h hj⟩
 ·have:=x9x (QN p j (QV f.body+2:Nat)) (WP (QQ p j f) f) (q6u (QV f.body+2) (WP (QQ p j f) f) (prsW (QQ p j f) f)) (QV f.body+2);have e:trapsW (QQ p j f) f=LR (QN p j (QV f.body+2:Nat)) (WP (QQ p j f) f) (q6u (QV f.body+2) (WP (QQ p j f) f) (prsW (QQ p j f) f)) (QV f.body+2):=by
   unfold trapsW;rw [q7h];rfl
  rw [e];omega
 ·obtain ⟨h1,h2⟩:=x4a h hj hl;refine ⟨by omega,fun id hid => ?_⟩;have:=h2 id hid;show 1<=id∧id<=(sheetOf p).l.length;omega
def v2v (p:Pg) (n:Str):List Step:=match DR p n with
 | some w=>(match w.p.procs[w.j]? with
   | some f=>MX w f
   | none=>[])
 | none=>[]
theorem x0q {p:Pg} {n:Str} {k:Nat} {f:Pr} (hw:DR p n=some (QQ p k f)) (hk:p.procs[k]? = some f):v2v p n=MX (QQ p k f) f:=by
 have h:(QQ p k f).p.procs[(QQ p k f).j]? = some f:=hk;unfold v2v;rw [hw];simp only;rw [h]
theorem x7y {p:Pg} {n:Str} (hw:DR p n=none):v2v p n=[]:=by
 unfold v2v;rw [hw]
instance (a b:Step):Decidable (q0c a b):=inferInstanceAs (Decidable (_∨_))
instance:DecidableEq Step:=fun a b=>decidable_of_iff (a.src=b.src∧a.dst=b.dst∧a.kind=b.kind) ⟨fun h=>YQ h.1 h.2.1 h.2.2,fun h=>by rw [h];exact ⟨rfl,rfl,rfl⟩⟩
theorem v0y {a b:Step} (ha:okSt a) (hb:okSt b) (h:DN b a=false):(a.src=b.src∧a.dst=b.dst∧a.kind<=b.kind)∨q0c a b:=by
 rw [Bool.eq_false_iff,ne_eq,HI] at h;unfold q0c;by_cases h1:ZW a.src=ZW b.src
 ·by_cases h2:ZW a.dst=ZW b.dst
  ·exact .inl ⟨FX ha.1 hb.1 h1,FX ha.2 hb.2 h2,by omega⟩
  ·exact .inr (by omega)
 ·exact .inr (by omega)
theorem q5f : ∀ (l:List Step) (a:Step),okSt a->(∀ s∈l,okSt s)->(a::l).Pairwise (fun a b=>DN b a=false) ->
  (∀ s∈XY a l,q0c a s)∧(XY a l).Pairwise q0c∧(∀ s∈XY a l,s∈l) ∧ ∀ s∈l,(s.src=a.src∧s.dst=a.dst∧a.kind<=s.kind) ∨ ∃ s'∈XY a l,s'.src=s.src∧s'.dst=s.dst∧s'.kind<=s.kind
 | [],a,_,_,_=>by simp [XY]
 | b::r,a,ha,hl,h=>by
   have hb:=hl b mem_cons_self;have hr : ∀ s∈r,okSt s:=fun s hs=>hl s (mem_cons_of_mem _ hs);rw [List.pairwise_cons] at h;obtain ⟨h1,h2⟩:=h;obtain ⟨i1,i2,i3,i4⟩:=q5f r b hb hr h2;have hab:=v0y ha hb (h1 b mem_cons_self);rw [XY];cases hs:ZF b a with
   | true =>
     unfold ZF at hs;simp only [Bool.and_eq_true,decide_eq_true_eq] at hs;have hk:a.kind<=b.kind:=by
      rcases hab with h3|h3
      ·exact h3.2.2
      ·unfold q0c at h3;rw [hs.1,hs.2] at h3;omega
     rw [cond_true];refine ⟨fun s hs' => ?_,i2,fun s hs'=>mem_cons_of_mem _ (i3 s hs'),fun s hs' => ?_⟩
     ·have:=i1 s hs';unfold q0c at this ⊢
      rwa [<- hs.1,<- hs.2]
     ·rcases List.mem_cons.1 hs' with rfl|hs'
      ·exact .inl ⟨hs.1,hs.2,hk⟩
      ·rcases i4 s hs' with ⟨h3,h4,h5⟩|h3
       ·exact .inl ⟨by rw [h3,hs.1],by rw [h4,hs.2],by omega⟩
       ·exact .inr h3
   | false =>
     have hlt:q0c a b:=by
      rcases hab with h3|h3
      ·unfold ZF at hs;simp [h3.1,h3.2.1] at hs
      ·exact h3
     rw [cond_false];refine ⟨fun s hs' => ?_,List.pairwise_cons.2 ⟨i1,i2⟩,fun s hs' => ?_,fun s hs' => ?_⟩
     ·rcases List.mem_cons.1 hs' with rfl|hs'
      ·exact hlt
      ·exact q4v hlt (i1 s hs')
     ·rcases List.mem_cons.1 hs' with rfl|hs'
      ·exact mem_cons_self
      ·exact mem_cons_of_mem _ (i3 s hs')
     ·rcases List.mem_cons.1 hs' with rfl|hs'
      ·exact .inr ⟨s,mem_cons_self,rfl,rfl,Int.le_refl _⟩
      ·rcases i4 s hs' with ⟨h3,h4,h5⟩|⟨s',h3,h4⟩
       ·exact .inr ⟨b,mem_cons_self,h3.symm,h4.symm,h5⟩
       ·exact .inr ⟨s',mem_cons_of_mem _ h3,h4⟩
theorem GI {l:List Step} (hok : ∀ s∈l,okSt s):(ZL l).Pairwise q0c∧(∀ s∈ZL l,s∈l) ∧ ∀ s∈l,∃ s'∈ZL l,s'.src=s.src∧s'.dst=s.dst∧s'.kind<=s.kind:=by
 have hp : ∀ s,s∈YC l↔s∈l:=fun s=>(q9g l).mem_iff;have hs:=q1u l;unfold ZL;cases hq:YC l with
 | nil =>
   rw [hq] at hp;refine ⟨by simp [LK],by simp [LK],fun s hs => ?_⟩;have:=(hp s).2 hs;cases this
 | cons a r =>
   rw [hq] at hp hs;have hok' : ∀ s∈a::r,okSt s:=fun s h=>hok s ((hp s).1 h);obtain ⟨h1,h2,h3,h4⟩:=q5f r a (hok' a mem_cons_self) (fun s h=>hok' s (mem_cons_of_mem _ h)) hs;rw [LK];refine ⟨List.pairwise_cons.2 ⟨h1,h2⟩,fun s hs' => ?_,fun s hs' => ?_⟩
   ·rcases List.mem_cons.1 hs' with rfl|hs'
    ·exact (hp s).1 mem_cons_self
    ·exact (hp s).1 (mem_cons_of_mem _ (h3 s hs'))
   ·rcases List.mem_cons.1 ((hp s).2 hs') with rfl|hs'
    ·exact ⟨s,mem_cons_self,rfl,rfl,Int.le_refl _⟩
    ·rcases h4 s hs' with ⟨h5,h6,h7⟩|⟨s',h5,h6⟩
     ·exact ⟨a,mem_cons_self,h5.symm,h6.symm,h7⟩
     ·exact ⟨s',mem_cons_of_mem _ h5,h6⟩
theorem w0l {l:List Step} (h:l.Pairwise q0c) {a b:Step} (ha:a∈l) (hb:b∈l) (h1:a.src=b.src) (h2:a.dst=b.dst):a=b:=by
 have hn : ∀ {x y:Step},x.src=y.src->x.dst=y.dst -> ¬q0c x y:=fun {x y} e1 e2 hlt=>by
  unfold q0c at hlt;rw [e1,e2] at hlt;omega
 induction h with
 | nil=>cases ha
 | @cons c r hc hr ih =>
   rcases List.mem_cons.1 ha with e1|ha'
   ·rcases List.mem_cons.1 hb with e2|hb'
    ·rw [e1,e2]
    ·exact absurd (hc b hb') (by rw [<- e1];exact hn h1 h2)
   ·rcases List.mem_cons.1 hb with e2|hb'
    ·exact absurd (hc a ha') (by rw [<- e2];exact hn h1.symm h2.symm)
    ·exact ih ha' hb'
theorem q6i {l m:List Step} (hok : ∀ s∈l,okSt s) (h1:m.Pairwise q0c) (h2 : ∀ s∈m,s∈l) (h3 : ∀ s∈l,∃ s'∈m,s'.src=s.src∧s'.dst=s.dst∧s'.kind<=s.kind):ZL l=m:=by
 obtain ⟨g1,g2,g3⟩:=GI hok;refine x1e g1 h1 fun s=>⟨fun hs => ?_,fun hs => ?_⟩
 ·obtain ⟨a,ha,h4,h5,h6⟩:=h3 s (g2 s hs);obtain ⟨b,hb,h7,h8,h9⟩:=g3 a (h2 a ha);have:=w0l g1 hb hs (h7.trans h4) (h8.trans h5);subst this;have:a=b:=YQ h4 h5 (by omega);rw [<- this];exact ha
 ·obtain ⟨a,ha,h4,h5,h6⟩:=g3 s (h2 s hs);obtain ⟨b,hb,h7,h8,h9⟩:=h3 a (g2 a ha);have:=w0l h1 hb hs (h7.trans h4) (h8.trans h5);subst this;have:a=b:=YQ h4 h5 (by omega);rw [<- this];exact ha
theorem v2d:(QQ someP 1 f1).real=[⟨0,5,1⟩,⟨5,6,1⟩,⟨6,7,1⟩,⟨6,8,1⟩,⟨7,-1,1⟩,⟨8,-1,1⟩]:=v3x
theorem v1c:(QQ someP 0 f0).real=[⟨0,1,1⟩,⟨1,2,1⟩,⟨2,3,1⟩,⟨3,4,1⟩,⟨4,-1,1⟩]:=v4f
theorem v5b:prsW (QQ someP 1 f1) f1=[(0,1),(1,2),(2,3),(2,4),(3,5),(4,5)]:=by
 unfold prsW;rw [v2d]
 kernel_rfl
theorem v6y:prsW (QQ someP 0 f0) f0=[(0,1),(1,2),(2,3),(3,4),(4,5)]:=by
 unfold prsW;rw [v1c]
 kernel_rfl
theorem v1d:trapsW (QQ someP 1 f1) f1=[]:=by
 unfold trapsW WP;rw [v5b]
 kernel_rfl
theorem v2k:trapsW (QQ someP 0 f0) f0=[]:=by
 unfold trapsW WP;rw [v6y]
 kernel_rfl
theorem v5a:MX (QQ someP 1 f1) f1=[⟨0,5,1⟩,⟨0,-1,2⟩,⟨5,6,1⟩,⟨6,7,1⟩,⟨6,8,1⟩,⟨7,8,2⟩,⟨7,-1,1⟩,⟨8,-1,1⟩]:=by
 have h1:DP (QQ someP 1 f1) f1=[⟨0,5,1⟩,⟨5,6,1⟩,⟨6,7,1⟩,⟨6,8,1⟩,⟨7,-1,1⟩,⟨8,-1,1⟩,⟨0,-1,2⟩,⟨7,8,2⟩,⟨8,-1,2⟩]:=by
  unfold DP WM;rw [v1d,v2d]
  kernel_rfl
 unfold MX;rw [h1];exact q6i (by unfold okSt;decide) (by decide) (by decide) (by decide)
theorem v5c:MX (QQ someP 0 f0) f0=[⟨0,1,1⟩,⟨0,-1,2⟩,⟨1,2,1⟩,⟨2,3,1⟩,⟨3,4,1⟩,⟨4,-1,1⟩]:=by
 have h1:DP (QQ someP 0 f0) f0=[⟨0,1,1⟩,⟨1,2,1⟩,⟨2,3,1⟩,⟨3,4,1⟩,⟨4,-1,1⟩,⟨0,-1,2⟩]:=by
  unfold DP WM;rw [v2k,v1c]
  kernel_rfl
 unfold MX;rw [h1];exact q6i (by unfold okSt;decide) (by decide) (by decide) (by decide)
theorem w1j:DR someP [109,97,105,110]=some (QQ someP 0 f0):=by
 unfold DR;rw [q6r];rfl
theorem v5f {R:Int->Int->Prop} {PL:List Int} (hPL : ∀ x y,x∈PL->R x y->y∈PL) : ∀ (k:Nat) {x:Int},x∈PL->(∀ c:Int->Nat,(∀ y,c y=0∨c y=1)->(∀ y,c y=1->Rch R x y)->(PL.map c).sum<k) -> ∃ y,Rch R x y ∧ ∀ z,Rch R y z->Rch R z y
 | 0,x,_,hk=>absurd (hk (fun _=>0) (fun _ => .inl rfl) (fun _ h=>by cases h)) (Nat.not_lt_zero _)
 | k+1,x,hx,hk=>by
   by_cases h : ∀ z,Rch R x z->Rch R z x
   ·exact ⟨x,.refl,h⟩
   ·obtain ⟨z,hz⟩:=Classical.not_forall.1 h;obtain ⟨h1,h2⟩:=Classical.not_imp.1 hz;have hzp:z∈PL:=h1.closed (S:=fun y=>y∈PL) hPL hx;obtain ⟨y,h3,h4⟩:=v5f hPL k hzp fun c hc hr=>by
     have hcx:c x=0:=by
      rcases hc x with h5|h5
      ·exact h5
      ·exact absurd (hr x h5) h2
     have h6:(PL.map c).sum<(PL.map fun y=>if y=x then 1 else c y).sum:=z9m (fun y _=>by
      split
      ·rename_i e;rw [e,hcx];exact zero_le _
      ·exact Nat.le_refl _) ⟨x,hx,by simp [hcx]⟩
     have h7:=hk (fun y=>if y=x then 1 else c y) (fun y=>by
      split
      ·exact .inr rfl
      ·exact hc y) (fun y hy=>by
      split at hy
      ·rename_i e;rw [e];exact .refl
      ·exact h1.trans (hr y hy))
     omega
    exact ⟨y,h1.trans h3,h4⟩
theorem w2o {c:Int->Nat} (h : ∀ y,c y=0∨c y=1) : ∀ l:List Int,(l.map c).sum<=l.length
 | []=>by simp
 | a::r=>by
   have h1:=w2o h r;have h2:=h a;simp only [map_cons,sum_cons,List.length_cons];omega
def plL (p:Pg) (j:Nat) (f:Pr):List Int:=0::(-1)::YR (QR p.procs j) (QV f.body)
theorem JP {p:Pg} {j:Nat} {f:Pr} {x:Int}:x∈plL p j f↔plP p j f x:=by
 unfold plL plP;simp only [List.mem_cons];refine or_congr Iff.rfl (or_congr Iff.rfl ⟨fun h => ?_,fun h=>x3s h.1 h.2⟩);have:=YX h;omega
theorem w8n {p:Pg} (h:XG p=true) {j:Nat} {f:Pr} (hj:p.procs[j]? = some f) {x:Int} (hx:plP p j f x) : ∃ y,Rch (wR p j f) x y ∧ ∀ z,Rch (wR p j f) y z->Rch (wR p j f) z y :=
 v5f (PL:=plL p j f) (fun a b _ hab=>JP.2 (w8e h hj hab).2) ((plL p j f).length+1) (JP.2 hx) fun _ hc _=>Nat.lt_succ_of_le (w2o hc _)
theorem x6g {p:Pg} (h:XG p=true) {j:Nat} {f:Pr} (hj:p.procs[j]? = some f) {a:Int} : ¬wR p j f a 0:=fun ⟨s,hs,_,hd⟩=>by
 have h1:=((PT h hj).2.1 s (((VI h hj).2 s).1 hs)).2;unfold okI at h1;omega
theorem x9l {p:Pg} (h:XG p=true) {j:Nat} {f:Pr} (hj:p.procs[j]? = some f) {a:Int} (hr:Rch (wR p j f) a 0):a=0:=by
 cases hr with
 | refl=>rfl
 | tail _ h2=>exact absurd h2 (x6g h hj)
theorem z5o {p:Pg} (h:XG p=true) {j:Nat} {f:Pr} (hj:p.procs[j]? = some f):wR p j f 0 (w8m p j f):=⟨⟨0,w8m p j f,1⟩,((VI h hj).2 _).2 (by unfold QK w8m;exact mem_cons_self),rfl,rfl⟩
theorem z9p {p:Pg} (h:XG p=true) {j:Nat} {f:Pr} (hj:p.procs[j]? = some f) {r:Int} (hr:plP p j f r) (hcl : ∀ b c,sccP (wR p j f) r b->wR p j f b c->sccP (wR p j f) r c) (h0 : ¬sccP (wR p j f) r 0) (hx : ¬sccP (wR p j f) r (-1)) : ∃ t∈flL f.body,sccP (wR p j f) r t.id∧t.kind=10:=by
 refine Classical.byContradiction fun hno=>hx ?_;have hrr:(QR p.procs j:Int)+1<=r∧r<=(QR p.procs j+QV f.body:Nat):=by
  rcases hr with rfl|rfl|h1
  ·exact absurd (sccP.refl 0) h0
  ·exact absurd (sccP.refl (-1)) hx
  ·exact h1
 obtain ⟨t,ht,_,hti⟩:=NY h hj hrr.1 hrr.2;exact z9t h hj (T:=fun y=>sccP (wR p j f) r y) (fun a b ha hab=>hcl a b ha hab) (fun u hu hs hk=>hno ⟨u,hu,hs,hk⟩) ht (by rw [hti];exact sccP.refl r)
theorem w9q {p:Pg} (h:XG p=true) {j:Nat} {f:Pr} (hj:p.procs[j]? = some f) {t:S} (ht:t∈flL f.body):w9j p t.id=some t:=by
 have hb:=YT (QF h).1 hj ht;obtain ⟨u,hu,h1,h2⟩:=NY h hj hb.1 hb.2;obtain ⟨it,hi,rfl⟩:=w4b (p:=p) (j:=j) ht;obtain ⟨iu,hiu,rfl⟩:=w4b (p:=p) (j:=j) hu;rw [w8q (QF h).1 hj hiu hi h2] at h1;exact h1
theorem q3z {p:Pg} (h:XG p=true) {j:Nat} {f:Pr} (hj:p.procs[j]? = some f) {s:Step}:s∈WM (QQ p j f) f ↔ ∃ l∈trapsW (QQ p j f) f,∃ t∈flL f.body,t.id∈l∧t.kind=10∧s=⟨t.id,-1,3⟩:=by
 unfold WM;constructor
 ·intro hs;obtain ⟨l,hl,hs⟩:=List.mem_flatMap.1 hs;obtain ⟨id,hid,hs⟩:=List.mem_flatMap.1 hs;have hb:=(x4a h hj hl).2 id hid;obtain ⟨t,ht,h1,h2⟩:=NY h hj hb.1 hb.2;have e:(QQ p j f).p=p:=rfl;unfold vOf at hs;rw [e,h1] at hs;simp only at hs;split at hs
  ·rename_i hk;exact ⟨l,hl,t,ht,by rw [h2];exact hid,hk,by rw [h2];simpa using hs⟩
  ·cases hs
 ·rintro ⟨l,hl,t,ht,hid,hk,rfl⟩;refine List.mem_flatMap.2 ⟨l,hl,List.mem_flatMap.2 ⟨t.id,hid,?_⟩⟩;have e:(QQ p j f).p=p:=rfl;unfold vOf;rw [e,w9q h hj ht];simp [hk]
theorem z2i {p:Pg} (h:XG p=true) {j:Nat} {f:Pr} (hj:p.procs[j]? = some f) : ∀ s∈WM (QQ p j f) f++(QQ p j f).real,okSt s:=fun s hs =>
 (List.mem_append.1 hs).elim ((v1j h hj).virt_ok s) ((v1j h hj).hok s)
theorem w3u {p:Pg} (h:XG p=true) {j:Nat} {f:Pr} (hj:p.procs[j]? = some f) {s:Step} (hs:s∈WM (QQ p j f) f++(QQ p j f).real):stR (w9t (QQ p j f) f) s.src s.dst:=by
 obtain ⟨s',h1,h2,h3,_⟩:=(GI (z2i h hj)).2.2 s hs;exact ⟨s',h1,h2,h3⟩
theorem w2j {p:Pg} (h:XG p=true) {j:Nat} {f:Pr} (hj:p.procs[j]? = some f) {x:Int} (hx:plP p j f x):Rch (stR (w9t (QQ p j f) f)) x (-1):=by
 have hm : ∀ a b,wR p j f a b->stR (w9t (QQ p j f) f) a b:=fun a b ⟨s,hs,h1,h2⟩=>by
  rw [<- h1,<- h2];exact w3u h hj (List.mem_append.2 (.inr hs))
 obtain ⟨y,h1,h2⟩:=w8n h hj hx;have hy:=w2h h hj hx h1;have hcl : ∀ b c,sccP (wR p j f) y b->wR p j f b c->sccP (wR p j f) y c:=fun b c hb hbc=>by
  have h3:Rch (wR p j f) y c := .tail hb.1 hbc;exact ⟨h3,h2 c h3⟩
 by_cases hxe:sccP (wR p j f) y (-1)
 ·exact (h1.trans hxe.1).mono hm
 have h0 : ¬sccP (wR p j f) y 0:=fun hs=>by
  have hy0:=x9l h hj hs.1;subst hy0;have h3:=h2 _ (.tail .refl (z5o h hj));have h4:=x9l h hj h3;have h5:=z5o h hj;rw [h4] at h5;exact x6g h hj h5
 obtain ⟨l,hl,hlm⟩:=w1u h hj hy hcl h0 hxe;obtain ⟨t,ht,h3,h4⟩:=z9p h hj hy hcl h0 hxe;have hv:(⟨t.id,-1,3⟩:Step)∈WM (QQ p j f) f:=(q3z h hj).2 ⟨l,hl,t,ht,(hlm _).2 ⟨w2h h hj hy h3.1,h3⟩,h4,rfl⟩;exact .tail ((h1.trans h3.1).mono hm) (w3u h hj (List.mem_append.2 (.inl hv)))
def RI0:RI:=⟨.mk 0 0 [] [] [] (.mk 0 0 [] []) false [] [] [],0,0,false⟩
theorem v0m:Sub (.agg [.int .i64 0,.int .i64 0,.nils,.str [],.str [],.int .i64 0,.int .i64 0,.str [],.nils,.ff,.nils,.nils,.nils,.int .i64 0,.int .i64 0,.ff]) (.agg RI0.cells) :=
 Sub.agg (by repeat' (first|exact SubL.nil|refine SubL.cons ?_ ?_|exact Sub.nils|exact Sub.ff rfl|exact Sub.refl _))
theorem z0u {l:List RI} {q:RI->Bool} {k:Nat} (hk:k<l.length):(l.drop k).find? q=if q l[k] then some l[k] else (l.drop (k+1)).find? q:=by
 rw [QH hk,List.find?_cons];cases q l[k]<;>rfl
def ElS (es es':List AV):Prop:=es'.length=es.length ∧ ∀ (m:Nat) (x':AV),es'[m]? = some x' -> ∃ x,es[m]? = some x∧x'.cells.length=x.cells.length ∧ ∀ (j:Nat) (c':AV),x'.cells[j]? = some c' -> ∃ c,x.cells[j]? = some c∧Sub c c'
theorem ElS.refl (es:List AV):ElS es es:=⟨rfl,fun _ x' h=>⟨x',h,rfl,fun _ c' hc=>⟨c',hc,Sub.refl _⟩⟩⟩
theorem z1h {l:List Str} {s:Str} (h:s∈l):s∈Go.Lib.compact l:=by
 have key : ∀ (j:Nat) (hj:j<l.length),l[j]∈Go.Lib.compact l:=fun j=>by
  induction j with
  | zero =>
    intro hj;refine List.mem_map.2 ⟨0,List.mem_filter.2 ⟨by simpa using hj,by simp [Go.Lib.keeps]⟩,?_⟩;simp [hj]
  | succ j ih =>
    intro hj;cases hk:Go.Lib.keeps l.toArray (j+1) with
    | true =>
      refine List.mem_map.2 ⟨j+1,List.mem_filter.2 ⟨by simpa using hj,hk⟩,?_⟩;simp [hj]
    | false =>
      have hj':j<l.length:=by omega
      have:l[j+1]=l[j]:=by
       unfold Go.Lib.keeps at hk;simp [hj,hj'] at hk;exact hk
      rw [this];exact ih hj'
 obtain ⟨j,hj,rfl⟩:=List.mem_iff_getElem.1 h;exact key j hj
theorem q8q {l:List Str} {s:Str}:s∈Go.Lib.compact l↔s∈l:=⟨q0j,z1h⟩
section
variable {p:Pg} {k:Nat} {f:Pr}
end
theorem x1l : ∀ (l:List Pr) {n:Nat} {m:Int},XE n l=some m -> ∀ (j:Nat) (f:Pr),l[j]? = some f -> ∃ m',ZB 1 ((n+QR l j:Nat):Int) f.body=some m'
 | [],_,_,_,j,f,hj=>by simp at hj
 | g::r,n,m,h,j,f,hj=>by
   rw [XE] at h;cases hm:GW g<;>rw [hm] at h
   ·cases h
   simp only [cond_true] at h;split at h
   ·rename_i m1 h1;cases j with
    | zero =>
      cases hj;exact ⟨m1,h1⟩
    | succ j =>
      have h2:=ZC _ _ g.body h1;have h':XE ((n+QV g.body:Nat):Int) r=some m:=by rw [<- h,h2];rfl
      obtain ⟨m',h3⟩:=x1l r h' j f (by simpa using hj);exact ⟨m',by rw [<- h3,QR];congr 1;omega⟩
   ·cases h
theorem MO {p:Pg} (h:VB p=true) {j:Nat} {f:Pr} (hj:p.procs[j]? = some f) : ∃ m,ZB 1 ((QR p.procs j:Nat):Int) f.body=some m:=by
 unfold VB at h;simp only [Bool.and_eq_true] at h;obtain ⟨m,hm⟩:=Option.isSome_iff_exists.1 h.2;obtain ⟨m',h'⟩:=x1l p.procs (n:=0) hm j f hj;exact ⟨m',by rw [<- h'];congr 1;omega⟩
section
variable {p:Pg} {k:Nat} {f:Pr}
end
theorem w2k {σ:Mem} {β:Lab} {H:Heap} {w:World} (h:HRel σ β H w) {k b0:Nat} {i:BInfo} (hk:k∈H.map (·.1)) (hi:β k=some i) (hb0:i.has b0) {vs:Array Value} {H':Heap} (hH:H'.map (·.1)=H.map (·.1))
  (hold : ∀ j c,(j,c)∈H'->j≠k->(j,c)∈H) (hnew : ∀ c,(k,c)∈H'->c.holds σ β (w.setRow b0 vs) k) :
  HRel σ β H' (w.setRow b0 vs)∧Later σ β H w σ β H' (w.setRow b0 vs):=by
 have hap:=h.apart k hk i hi b0 hb0;have hot : ∀ b,b≠b0->(w.setRow b0 vs).heap[b]? = w.heap[b]? := fun b hb=>setRow_other w b0 b vs hb;refine ⟨⟨fun b c hb => ?_,fun j c hj => ?_,by rw [hH];exact h.nodup,fun j hj i' hi' b hb => ?_,fun j hj j' hj'=>h.inj j (hH▸hj) j' (hH▸hj')⟩,Mem.le_refl σ,⟨rfl,rfl,rfl,Nat.le_refl _,by simp,fun b _ hn=>hot b fun e=>hn ⟨k,hk,i,hi,e.symm▸hb0⟩⟩,fun b h0 h1=>absurd h0 h1,fun b hb => ?_,fun _ _ _=>rfl⟩
 ·have hne:b≠b0:=fun e=>by rw [e,hap.1] at hb;cases hb
  obtain ⟨e,fr,hh⟩:=h.mem b c hb;exact ⟨e,fr,(hot b hne).trans hh⟩
 ·by_cases hjk:j=k
  ·subst hjk;exact hnew c hj
  ·have hm:=hold j c hj hjk;refine (h.chunks j c hm).mono (Mem.le_refl σ) fun i' hi' b hb=>hot _ fun e=>hjk ?_;exact h.inj j (List.mem_map.2 ⟨_,hm,rfl⟩) k hk i' i hi' hi b hb (e.symm▸hb0)
 ·have:=h.apart j (hH▸hj) i' hi' b hb;exact ⟨this.1,by simpa using this.2⟩
 ·obtain ⟨j,hj,i',hi',hb'⟩:=hb;exact .inl ⟨j,hH▸hj,i',hi',hb'⟩
theorem w7w {P:Program} {T:Tab} {N:Nat} (hT:TabOK P T) {s:St} {o:Oper} {K:St->Prop} {t:TypeId} {x v:Operand} (hop:o.op = .store t x v) (hd:o.dst=none) {k a off:Nat} (hx:QI s.sl x = .ext k (.rptr a off)) {u:AV} (hv:QI s.sl v = .p u) (hone:u.one=true) (huc:u.cells=[u])
  {e e2:TypeId} {rows:List (List AV)} {hole:List Nat} (hg:getH s.H k=some (.ext (.mat e e2 1 rows hole))) {it:TyI} (ht:T.get t=some it) (hsz:it.size=1) {row:List AV} (hrow:rows[a]? = some row) (hnh:a∉hole) (hoff:off<row.length)
  (h:x4n s.H k (.ext (.mat e e2 1 (rows.set a (row.set off u)) hole)) fun H=>K ⟨s.sl,H⟩):OpK P N s o K:=by
 refine ⟨fun σ β ac w hr Q => ?_⟩;obtain ⟨H',hK,h1,h2,h3⟩:=HF hr.heap.nodup h;have hx':=QU hr.slots x;have hv':=QU hr.slots v;rw [hx] at hx';rw [hv] at hv';have hk1:=XZ hg;generalize hxe:ac.eval x=xv at hx';generalize hve:ac.eval v=vv at hv';cases hv' with
 | p hvr =>
 cases hx' with
 | ext _ _ i _ hi hdx =>
 obtain ⟨b,c,hsub,rfl⟩:=hdx;rcases hr.heap.chunks k _ (QB hg) with ⟨h0,_⟩|⟨i',vs,hi',hisz,hh,hvs,hle,hmax,hsl',hdis,hrows⟩
 ·rw [hi] at h0;cases h0
 rw [hi] at hi';cases hi';have hb:i.has b := .inr ⟨c,List.mem_of_getElem? hsub⟩;rcases (hrows a row hrow).2 hnh with ⟨h4,_⟩|⟨b',c',ws,h4,h5,h6,h7,h8,h9,h10⟩
 ·rw [hsub] at h4;cases h4
 rw [hsub] at h4;cases h4;have hone':vv.oneCell'=true:=hvr.oneCell hone;have hcells:vv.cells = #[vv]:=by cases vv<;>first|rfl|simp [Value.oneCell'] at hone'
 have hoffw:off<ws.size:=by omega
 let ws':Array Value:=(ws.toList.take off++[vv]++ws.toList.drop (off+1)).toArray;have hrun:(execOp ac.eval o).run P w = .ok .skip (w.setRow b ws'):=by
  have hst:=run_storeCells_at P b off e2 [vv] 0 ws w h6 (by simp;omega) (by simpa using hone');simp only [Nat.add_zero,List.length_singleton] at hst;have hsize:=(hT _ _ ht).sizeOf;simp [execOp,hop,Instr.storeAt,Instr.sureAddr,hxe,hve,storeVar,hsize,hsz,hcells,hst,ws']
 have hcell : ∀ p,ws'[p]? = if p=off then some vv else ws[p]? := fun p=>by
  simp only [ws',List.getElem?_toArray];by_cases g1:p<off
  ·rw [if_neg (by omega),List.append_assoc,List.getElem?_append_left (by simp;omega),List.getElem?_take,if_pos g1];simp
  ·by_cases g2:p=off
   ·subst g2;rw [if_pos rfl,List.append_assoc,List.getElem?_append_right (by simp;omega)];simp only [length_take,length_toList];rw [show p-min p ws.size=0 by omega];rfl
   ·rw [if_neg g2,List.getElem?_append_right (by simp;omega)];simp only [List.length_append,length_take,length_toList,List.length_singleton,List.getElem?_drop,Array.getElem?_toList];congr 1;omega
 have hother : ∀ b',b'≠b->(w.setRow b ws').heap[b']? = w.heap[b']? := fun b' hb'=>setRow_other w b b' ws' hb';have hal:a<rows.length:=(List.getElem?_eq_some_iff.1 hrow).1;obtain ⟨h11,h12⟩:=w2k hr.heap hk1 hi hb (vs:=ws') h1 h2 (fun d hd=>h3 d hd▸by
  refine .inr ⟨i,vs,hi,hisz,(hother _ (hdis a b c hsub).1).trans hh,hvs,by simpa using hle,hmax,by simpa using hsl',hdis,fun a' row' hra=>⟨fun hin => ?_,fun hnin => ?_⟩⟩
  ·by_cases g:a'=a
   ·subst g;exact absurd hin hnh
   ·rw [List.getElem?_set_ne (Ne.symm g)] at hra;exact (hrows a' row' hra).1 hin
  ·by_cases g:a'=a
   ·subst g;rw [List.getElem?_set_self hal] at hra;cases hra;refine .inr ⟨b,c,ws',hsub,by simpa using h5,setRow_heap w b ws _ e2 _ h6,?_,by simpa using h8,h9,fun m y hy => ?_⟩
    ·simp only [ws',List.size_toArray,List.length_append,length_take,List.length_drop,length_toList,List.length_singleton];omega
    ·by_cases gm:m=off
     ·subst gm;rw [List.getElem?_set_self hoff] at hy;cases hy;refine ⟨by rw [huc];rfl,fun j c' hj => ?_⟩;rw [huc] at hj
      match j,hj with
      | 0,hj=>cases hj;exact ⟨vv,by rw [Nat.mul_one,Nat.add_zero,hcell,if_pos rfl],hvr⟩
      | j+1,hj=>simp at hj
     ·rw [List.getElem?_set_ne (Ne.symm gm)] at hy;obtain ⟨g1,g2⟩:=h10 m y hy;refine ⟨g1,fun j c' hj => ?_⟩;obtain ⟨u',g3,g4⟩:=g2 j c' hj;have hj0:j=0:=by
       have:=(List.getElem?_eq_some_iff.1 hj).1;omega
      subst hj0;exact ⟨u',by rw [hcell,if_neg (by omega)];exact g3,g4⟩
   ·rw [List.getElem?_set_ne (Ne.symm g)] at hra;rcases (hrows a' row' hra).2 hnin with g1|⟨b1,c1,ws1,g1,g2,g3,g4⟩
    ·exact .inl g1
    ·refine .inr ⟨b1,c1,ws1,g1,g2,(hother b1 fun he => ?_).trans g3,g4⟩;subst he;exact g ((hdis a b1 c hsub).2 a' c1 g1))
 refine q7j hrun ⟨σ,β,⟨s.sl,H'⟩,hK,⟨?_,?_,?_,h11⟩,h12⟩
 ·rw [hd];exact hr.size
 ·rw [hd];exact hr.defers
 ·rw [hd];exact hr.slots
theorem z7k {s:St} {k k2:Nat} {c c2:Chunk} {K:St->Prop} (h:PU s k k2 c c2 K) : ∃ s2,K s2∧PU s k k2 c c2 fun s3=>s3=s2:=by
 unfold PU at h ⊢;obtain ⟨sl,h1,_⟩:=JD (by rfl) h;have key : ∀ {f:LV->LV} {l:List (Nat×LV)} {K:List (Nat×LV)->Prop},x0o f l K↔K (l.map fun x=>(x.1,f x.2)):=fun {f} l=>by
  induction l with
  | nil=>intro K;rfl
  | cons x r ih=>intro K;simp only [x0o,XM,ih,map_cons]
 have key2 : ∀ {f:LV->LV} {c:Chunk} {H:Heap},∃ H',∀ K:Heap->Prop,q6q k k2 f c H K↔K H':=fun {f c} H=>by
  induction H with
  | nil=>exact ⟨[],fun K=>Iff.rfl⟩
  | cons x r ih =>
    obtain ⟨H',hH'⟩:=ih;obtain ⟨j,d⟩:=x;simp only [q6q,q2t];cases j==k2 with
    | true=>exact ⟨H',fun K=>by simp only [cond_true];exact hH' _⟩
    | false =>
      cases j==k with
      | true=>exact ⟨(j,c)::H',fun K=>by simp only [cond_true,cond_false];exact hH' _⟩
      | false=>exact ⟨(j,d.mapL f)::H',fun K=>by simp only [cond_false];exact hH' _⟩
 rw [key] at h;simp only [key];obtain ⟨H',hH'⟩:=key2 (f:=LV.xkill k) (c:=c) (H:=s.H);rw [hH'] at h;exact ⟨_,h,(hH' _).2 rfl⟩
theorem OpK.focus {P:Program} {T:Tab} {N:Nat} (hT:TabOK P T) {s:St} {o:Oper} {K:St->Prop} (t k a k2:Nat) {e e2 sz:Nat} {rows:List (List AV)} {hole:List Nat} {row:List AV} (hu:UV k2 s=true) (hg:getH s.H k=some (.ext (.mat e e2 sz rows hole)))
  (hrow:rows[a]? = some row) (hnh:a∉hole) (hpin:VK k=false) (ht:getS s.sl t = .ext k (.row a row.length))
  (h:PU s k k2 (.ext (.mat e e2 sz rows (a::hole))) (.own e2 sz row) fun s2=>opW P T N ⟨(t,.hd k2 0 row.length)::s2.sl,s2.H⟩ o K):OpK P N s o K:=by
 obtain ⟨s2,h,he⟩:=z7k h;refine ⟨fun σ β ac w hr Q => ?_⟩;obtain ⟨β',hr',hl,hrep,hrow'⟩:=z5t hr hu hg hrow hnh hpin he;have hr2:Rel N σ β' ⟨(t,.hd k2 0 row.length)::s2.sl,s2.H⟩ ac w:=⟨hr'.size,hr'.defers,fun i=>by
  show RepL σ β' (getS ((t,.hd k2 0 row.length)::s2.sl) i) _;simp only [getS];cases hi:t==i with
  | true =>
    have:t=i:=by simpa using hi
    subst this;have h1:=hr.slots t;rw [ht] at h1;exact hrow' _ h1
  | false=>exact hr'.slots i,hr'.heap⟩
 exact Oper.wp_mono (fun a' w' ⟨σ',β'',s3,hK,hr3,hl3⟩=>⟨σ',β'',s3,hK,hr3,hl.trans hl3⟩) (q8c hT h hr2 Q)
theorem q7r {α:Type} {l m:List α} {j:Nat} (h:l.take j=m.take j) (hl:j<l.length) (hm:j<m.length) (he:l[j]=m[j]):l.take (j+1)=m.take (j+1):=by
 rw [List.take_succ_eq_append_getElem hl,List.take_succ_eq_append_getElem hm,h,he]
theorem x5q {α:Type} {l m:List α} {j:Nat} (h:l.take j=m.take j) (hl:l.length<=j) (hm:m.length<=j):l=m:=by
 rwa [take_of_length_le hl,take_of_length_le hm] at h
theorem NC (l m:List Int):SpecP Tryz.prog 49 [QD l,QD m] (fun r=>r = .bool (decide (l=m))):=by
 refine sB DE Tryz.func49 rfl Tryz.call49 ?_;conv=>whnf
 have h1:(l.map (AV.int .i64)).length=l.length:=length_map _;have h2:(m.map (AV.int .i64)).length=m.length:=length_map _;repeat' (first|(refine iM fun _=>?_;conv=>whnf)|(apply bE<;>intro _<;>first|omega|conv=>whnf))
 all_goals first
  | exact RetK.ff (decide_eq_false fun h=>by subst h;omega)
  | skip
 have hlen:l.length=m.length:=by omega
 refine LoopK.inv QX (fun j:Nat=>⟨[(0,.p (QD l)),(1,.p (QD m)),(12,.p (.int .i64 (l.map (AV.int .i64)).length)),(13,.p (.int .i64 j))],[]⟩) (fun j=>j<=l.length∧l.take j=m.take j) (fun j=>l.length-j) 0 (Le.of_eq rfl) ⟨zero_le _,rfl⟩ ?_;rintro j ⟨h3,h4⟩;rcases Nat.lt_or_ge j l.length with hj|hj
 ·conv=>whnf
  repeat' (first|((first|refine dA ?_|(refine iA fun _=>?_)|refine wI ?_);conv=>whnf)|(apply bD<;>intro _<;>first|omega|conv=>whnf)|(apply bE<;>intro _<;>first|omega|conv=>whnf))
  all_goals first
   | exact RetK.ff (decide_eq_false fun h=>by subst h;simp_all)
   | exact ⟨j+1,⟨by omega,q7r h4 hj (by omega) (by simp_all)⟩,by omega,Le.of_eq rfl⟩
 ·conv=>whnf
  repeat' (apply bD<;>intro _<;>first|omega|conv=>whnf)
  exact RetK.tt (decide_eq_true (x5q h4 hj (by omega)))
def eBs (l:List Bool):AV := .sl (l.map bv)
theorem q1r (b:Bool):(bv b).cells=[bv b]:=by cases b<;>rfl
theorem FB (l m:List Bool):SpecP Tryz.prog 195 [eBs l,eBs m] (fun r=>r = .bool (decide (l=m))):=by
 refine sB GG Tryz.func195 rfl Tryz.call195 ?_;conv=>whnf
 have h1:(l.map bv).length=l.length:=length_map _;have h2:(m.map bv).length=m.length:=length_map _;repeat' (first|(refine iM fun _=>?_;conv=>whnf)|(apply bE<;>intro _<;>first|omega|conv=>whnf))
 all_goals first
  | exact RetK.ff (decide_eq_false fun h=>by subst h;omega)
  | skip
 have hlen:l.length=m.length:=by omega
 refine LoopK.inv QX (fun j:Nat=>⟨[(0,.p (eBs l)),(1,.p (eBs m)),(12,.p (.int .i64 (l.map bv).length)),(13,.p (.int .i64 j))],[]⟩) (fun j=>j<=l.length∧l.take j=m.take j) (fun j=>l.length-j) 0 (Le.of_eq rfl) ⟨zero_le _,rfl⟩ ?_;rintro j ⟨h3,h4⟩;rcases Nat.lt_or_ge j l.length with hj|hj
 ·have e1:(l.map bv)[j]? = some (bv l[j]):=by rw [List.getElem?_map,List.getElem?_eq_getElem hj];rfl
  have e2:(m.map bv)[j]? = some (bv (m[j]'(by omega))):=by rw [List.getElem?_map,List.getElem?_eq_getElem (by omega)];rfl
  have hst:l[j]=m[j]'(by omega)->l.take (j+1)=m.take (j+1):=fun h=>q7r h4 hj (by omega) h;have hno:l[j]≠m[j]'(by omega) -> ¬l=m:=fun h he=>h (by subst he;rfl);generalize l[j]=x at e1 hst hno;generalize m[j]'(by omega)=y at e2 hst hno;cases x<;>cases y <;>
  conv=>whnf
  repeat' (first|((first|refine dA ?_|refine wI ?_|(refine IdxK.at (k:=j) rfl e1 rfl ?_)|(refine IdxK.at (k:=j) rfl e2 rfl ?_)|refine WN QX rfl rfl rfl rfl rfl ?_);conv=>whnf)|(apply bD<;>intro _<;>first|omega|conv=>whnf)|(apply bE<;>intro _<;>first|omega|conv=>whnf))
  all_goals first
   | exact RetK.ff (decide_eq_false (hno (by decide)))
   | exact ⟨j+1,⟨by omega,hst rfl⟩,by omega,Le.of_eq rfl⟩
   | (exfalso;simp_all;done)
 ·conv=>whnf
  repeat' (apply bD<;>intro _<;>first|omega|conv=>whnf)
  exact RetK.tt (decide_eq_true (x5q h4 hj (by omega)))
def bmI (fm:List (List Bool)):List (List AV):=fm.map fun r=>r.map bv
def shH (fm:List (List Bool)):Heap:=[(1000,.ext (.mat 137 4 1 (bmI fm) []))]
def GF (fm:List (List Bool)) (l:List Int) (b:Nat):Bool:=l.all fun a=>(fm.getD a.toNat []).getD b false
def XL (fm:List (List Bool)) (l:List Int) (n:Nat):List Bool:=(List.range n).map (GF fm l)
def q4n (fm:List (List Bool)) (l:List Int) (n j:Nat) (c:Bool):List Bool:=(XL fm l n).take j++c::List.replicate (n-j-1) false
theorem x8i {fm:List (List Bool)} {l:List Int} {n j:Nat} (hj:j<n) (c:Bool):((q4n fm l n j c).map bv)[j]? = some (bv c):=by
 have h1:((XL fm l n).take j).length=j:=by unfold XL;simp;omega
 have h2:(q4n fm l n j c)[j]? = some c:=by
  unfold q4n;rw [List.getElem?_append_right (by omega),h1,Nat.sub_self];rfl
 rw [List.getElem?_map,h2];rfl
theorem x9y {fm:List (List Bool)} {l:List Int} {n j:Nat} (hj:j<n) (c c':Bool):((q4n fm l n j c).map bv).set j (bv c')=(q4n fm l n j c').map bv:=by
 rw [<- List.map_set];congr 1;unfold q4n;rw [List.set_append_right _ _ (by unfold XL;simp;omega)];have:j-((XL fm l n).take j).length=0:=by unfold XL;simp;omega
 rw [this];rfl
theorem z7i {fm:List (List Bool)} {l:List Int} {n j:Nat} (hj:j<n):q4n fm l n j (GF fm l j)=(XL fm l n).take (j+1)++List.replicate (n-(j+1)) false:=by
 unfold q4n;have:(XL fm l n)[j]? = some (GF fm l j):=by unfold XL;simp [hj]
 rw [List.take_add_one,this,List.append_assoc];rfl
theorem z7j {fm:List (List Bool)} {l:List Int} {n j:Nat} (hj:j<n):(XL fm l n).take j++List.replicate (n-j) false=q4n fm l n j false:=by
 unfold q4n;rw [show n-j=(n-j-1)+1 by omega,List.replicate_succ];congr 2
theorem x4m {α:Type} {f:α->Bool} {l:List α} {i:Nat} (hi:i<l.length):(l.take (i+1)).all f=((l.take i).all f&&f l[i]):=by
 rw [List.take_succ_eq_append_getElem hi,List.all_append];simp
theorem z7d (fm:List (List Bool)) (l:List Int) (n:Nat) (hn:fm.length=n) (hn5:n<=5000) (hr : ∀ r∈fm,r.length=n) (hl:l.length<=1000000) (hs : ∀ x∈l,0<=x∧x<n):SpecH Tryz.prog 194 [.hd 1000 0 n,.p (QD l)] (shH fm) (fun r H=>r = .hd 0 0 n∧H=(0,.own 4 1 ((XL fm l n).map bv))::shH fm):=by
 refine sH x9c Tryz.func194 rfl Tryz.call194 ?_;conv=>whnf
 have hll:(l.map (AV.int .i64)).length=l.length:=length_map _;repeat' ((first|(refine iM fun _=>?_)|refine aR ?_|refine MkK.mk n rfl (by show 1*_<=140737488355328;omega) (by unfold maxLen;omega) ?_);conv=>whnf)
 refine LoopK.inv QX (fun j:Nat=>⟨[(0,.hd 1000 0 n),(1,.p (QD l)),(5,.hd 0 0 n),(13,.p (.int .i64 n)),(14,.p (.int .i64 j))],(0,.own 4 1 (((XL fm l n).take j++List.replicate (n-j) false).map bv))::shH fm⟩) (fun j=>j<=n) (fun j=>n-j) 0
  (Le.of_eq (by rw [show ((XL fm l n).take 0++List.replicate (n-0) false).map bv=List.replicate n .ff by simp [bv]];rfl)) (zero_le _) ?_
 intro j h2;rcases Nat.lt_or_ge j n with hj|hj;rotate_left 1
 ·have hje:j=n:=by omega
  subst hje;have he:((XL fm l j).take j++List.replicate (j-j) false)=XL fm l j:=by
   rw [Nat.sub_self,take_of_length_le (by unfold XL;simp)];simp
  rw [he];conv=>whnf
  repeat' (apply bD<;>intro _<;>first|omega|conv=>whnf)
  exact ⟨_,LSub.refl _,rfl,rfl⟩
 rw [z7j hj];have hg0:=x8i (fm:=fm) (l:=l) hj false;have hs0:=x9y (fm:=fm) (l:=l) hj false true;generalize (q4n fm l n j false).map bv=row0 at hg0 hs0 ⊢;unfold shH;conv=>whnf
 repeat' (first|((first|(refine iM fun _=>?_)|refine And.intro rfl ?_|refine IdxL.mk j rfl hj ?_|refine StOwn.mk j 0 _ (bv true) (by show (0+j)*1=j*1+0;omega) hg0 (Nat.le_refl _) rfl ?_);conv=>whnf)|(apply bD<;>intro _<;>first|omega|conv=>whnf))
 rw [hs0];refine LoopK.inv QX (fun i:Nat=>⟨[(0,.hd 1000 0 n),(1,.p (QD l)),(5,.hd 0 0 n),(6,.p (.int .i64 j)),(13,.p (.int .i64 n)),(14,.p (.int .i64 j)),(20,.p (QD l)),(21,.p (.int .i64 (l.map (AV.int .i64)).length)),(22,.p (.int .i64 i))],(0,.own 4 1 ((q4n fm l n j ((l.take i).all fun a=>(fm.getD a.toNat []).getD j false)).map bv))::shH fm⟩) (fun i=>i<=l.length) (fun i=>l.length-i) 0
  (Le.of_eq rfl) (zero_le _) ?_
 intro i h3;rcases Nat.lt_or_ge i l.length with hi|hi;rotate_left 1
 ·have hje:i=l.length:=by omega
  subst hje;rw [take_of_length_le (Nat.le_refl _),show (l.all fun a=>(fm.getD a.toNat []).getD j false)=GF fm l j from rfl,z7i hj];conv=>whnf
  repeat' (first|(refine wI ?_;conv=>whnf)|(apply bD<;>intro _<;>first|omega|conv=>whnf))
  exact ⟨j+1,hj,by omega,Le.of_eq rfl⟩
 have hsa:=hs _ (List.getElem_mem hi);have hal:l[i].toNat<fm.length:=by omega
 have hrl:=hr _ (List.getElem_mem hal);have hli:(l.map (AV.int .i64))[i]? = some (.int .i64 l[i]):=by rw [List.getElem?_map,List.getElem?_eq_getElem hi];rfl
 have hfr:(bmI fm)[l[i].toNat]? = some (fm[l[i].toNat].map bv):=by unfold bmI;rw [List.getElem?_map,List.getElem?_eq_getElem hal];rfl
 have hfv:(fm[l[i].toNat].map bv)[j]? = some (bv (fm[l[i].toNat][j]'(by omega))):=by rw [List.getElem?_map,List.getElem?_eq_getElem (by omega)];rfl
 have hnx:((l.take (i+1)).all fun a=>(fm.getD a.toNat []).getD j false)=(((l.take i).all fun a=>(fm.getD a.toNat []).getD j false)&&fm[l[i].toNat][j]'(by omega)):=by
  rw [x4m hi];congr 1;simp only [getD_eq_getElem?_getD];rw [List.getElem?_eq_getElem hal,Option.getD_some,List.getElem?_eq_getElem (by omega),Option.getD_some]
 have hrn:(fm[l[i].toNat].map bv).length=n:=by rw [length_map,hrl]
 generalize fm[l[i].toNat][j]'(by omega)=v at hfv hnx;generalize ((l.take i).all fun a=>(fm.getD a.toNat []).getD j false)=c at hnx ⊢;have hgc:=x8i (fm:=fm) (l:=l) hj c;have hsc:=x9y (fm:=fm) (l:=l) hj c (c&&v);generalize (q4n fm l n j c).map bv=row at hgc hsc ⊢;cases c<;>cases v<;>unfold shH <;>
 conv=>whnf
 repeat' (first|((first|refine And.intro rfl ?_|(refine iA fun _=>?_)|refine wI ?_|refine IdxL.mk j rfl hj ?_|refine IdxL.mk l[i].toNat (by omega) (by omega) ?_|refine IdxL.mk j rfl (by rw [hrn];exact hj) ?_|refine LdOwn.mk j 0 _ (by show (0+j)*1=j*1+0;omega) hgc ?_|refine RowK.mk l[i].toNat _ (by omega) hfr (by simp) ?_|refine RLd.mk _ j 0 _ hfr (by simp) (by omega) hfv ?_|refine StOwn.mk j 0 _ (bv false) (by show (0+j)*1=j*1+0;omega) hgc (Nat.le_refl _) rfl ?_|refine StOwn.mk j 0 _ (bv true) (by show (0+j)*1=j*1+0;omega) hgc (Nat.le_refl _) rfl ?_);conv=>whnf)|(apply bD<;>intro _<;>first|omega|conv=>whnf))
 all_goals first
  | exact ⟨i+1,hi,by omega,Le.of_eq (by rw [hnx,<- hsc];rfl)⟩
  | (exfalso;simp_all;done)
def filRow (n a:Nat):List Bool:=(List.range n).map fun b=>decide (a<n-1)||decide (a=b)
theorem NU (n a:Nat):(filRow n a).length=n:=by unfold filRow;simp
inductive Avd (nx:List (List Int)) (n b:Nat):Nat->Prop
 | exit (h:b≠n-1):Avd nx n b (n-1)
 | step {a t:Nat} (hab:a≠b) (ht:(t:Int)∈nx.getD a []) (h:Avd nx n b t):Avd nx n b a
def rowF (n:Nat) (nx:List (List Int)) (fm:List (List Bool)) (a:Nat):List Bool:=(XL fm (nx.getD a []) n).set a true
def bitF (fm:List (List Bool)) (a b:Nat):Bool:=(fm.getD a []).getD b false
theorem q3v (n:Nat) (nx:List (List Int)) (fm:List (List Bool)) (a:Nat):(rowF n nx fm a).length=n:=by unfold rowF XL;simp
theorem q6t {n:Nat} {nx:List (List Int)} {fm:List (List Bool)} {a b:Nat} (hb:b<n):(rowF n nx fm a).getD b false=(decide (a=b)||GF fm (nx.getD a []) b):=by
 unfold rowF;have hs:(XL fm (nx.getD a []) n)[b]? = some (GF fm (nx.getD a []) b):=by unfold XL;simp [hb]
 have hl:(XL fm (nx.getD a []) n).length=n:=by unfold XL;simp
 rw [getD_eq_getElem?_getD];by_cases hab:a=b
 ·subst hab;rw [List.getElem?_set_self (by omega),decide_eq_true rfl];rfl
 ·rw [List.getElem?_set_ne hab,hs,decide_eq_false hab];rfl
theorem HQ {fm:List (List Bool)} {l:List Int} {b:Nat}:GF fm l b=true ↔ ∀ t∈l,bitF fm t.toNat b=true:=by
 unfold GF bitF;rw [List.all_eq_true]
structure FolI (n:Nat) (nx:List (List Int)) (fm:List (List Bool)):Prop where
 len:fm.length=n
 rows : ∀ r∈fm,r.length=n
 last:fm.getD (n-1) []=filRow n (n-1)
 post : ∀ a b,a<n-1->b<n->(rowF n nx fm a).getD b false=true->bitF fm a b=true
 min : ∀ a b,a<n->b<n->bitF fm a b=false->Avd nx n b a
structure FollowP (n:Nat) (nx:List (List Int)) (fm:List (List Bool)):Prop where
 inv:FolI n nx fm
 fix : ∀ a,a<n-1->fm.getD a []=rowF n nx fm a
theorem x2g {n a b:Nat} (hb:b<n):(filRow n a).getD b false=(decide (a<n-1)||decide (a=b)):=by
 unfold filRow;rw [getD_eq_getElem?_getD,List.getElem?_map,List.getElem?_range hb];rfl
theorem w2c {n a b:Nat} (ha:a<n) (hb:b<n):bitF ((List.range n).map (filRow n)) a b=(decide (a<n-1)||decide (a=b)):=by
 have hg:((List.range n).map (filRow n)).getD a []=filRow n a:=by
  rw [getD_eq_getElem?_getD,List.getElem?_map,List.getElem?_range ha];rfl
 unfold bitF;rw [hg,x2g hb]
theorem FolI.start {n:Nat} (hn:2<=n) (nx:List (List Int)):FolI n nx ((List.range n).map (filRow n)):=by
 refine ⟨by simp,fun r hr => ?_,?_,fun a b ha hb _ => ?_,fun a b ha hb h => ?_⟩
 ·obtain ⟨a,_,rfl⟩:=List.mem_map.1 hr;exact NU n a
 ·rw [getD_eq_getElem?_getD,List.getElem?_map,List.getElem?_range (by omega)];rfl
 ·rw [w2c (by omega) hb,decide_eq_true ha];rfl
 ·rw [w2c ha hb,Bool.or_eq_false_iff,decide_eq_false_iff_not,decide_eq_false_iff_not] at h;have:a=n-1:=by omega
  subst this;exact .exit fun e=>h.2 e.symm
theorem z0e {fm:List (List Bool)} {a:Nat} (ha:a<fm.length) (l:List Bool) (x b:Nat):bitF (fm.set a l) x b=if x=a then l.getD b false else bitF fm x b:=by
 unfold bitF;by_cases h:x=a
 ·subst h;rw [if_pos rfl,getD_eq_getElem?_getD (l:=fm.set x l),List.getElem?_set_self ha];rfl
 ·rw [if_neg h,getD_eq_getElem?_getD (l:=fm.set a l),List.getElem?_set_ne (Ne.symm h),<- getD_eq_getElem?_getD]
theorem FolI.step {n:Nat} {nx:List (List Int)} {fm:List (List Bool)} (h:FolI n nx fm) (hnx : ∀ a,∀ x∈nx.getD a [],0<=x∧x<(n:Int)) {a:Nat} (ha:a<n-1):FolI n nx (fm.set a (rowF n nx fm a)):=by
 have hal:a<fm.length:=by have:=h.len;omega
 have mono : ∀ x b,b<n->bitF (fm.set a (rowF n nx fm a)) x b=true->bitF fm x b=true:=fun x b hb hx=>by
  rw [z0e hal] at hx;split at hx
  ·rename_i he;subst he;exact h.post _ b ha hb hx
  ·exact hx
 have rmono : ∀ x b,b<n->(rowF n nx (fm.set a (rowF n nx fm a)) x).getD b false=true->(rowF n nx fm x).getD b false=true:=fun x b hb hx=>by
  rw [q6t hb,Bool.or_eq_true] at hx ⊢;rcases hx with hx|hx
  ·exact .inl hx
  ·exact .inr (HQ.2 fun t ht=>mono _ b hb (HQ.1 hx t ht))
 refine ⟨by rw [List.length_set];exact h.len,fun r hr => ?_,?_,fun x b hx hb hr => ?_,fun x b hx hb hf => ?_⟩
 ·rcases List.mem_or_eq_of_mem_set hr with hr|rfl
  ·exact h.rows r hr
  ·exact q3v _ _ _ _
 ·rw [getD_eq_getElem?_getD,List.getElem?_set_ne (by omega),<- getD_eq_getElem?_getD];exact h.last
 ·have h1:=rmono x b hb hr;rw [z0e hal];split
  ·rename_i he;subst he;exact h1
  ·exact h.post x b hx hb h1
 ·rw [z0e hal] at hf;split at hf
  ·rename_i he;subst he;rw [q6t hb,Bool.or_eq_false_iff,decide_eq_false_iff_not] at hf;have hno : ¬∀ t∈nx.getD x [],bitF fm t.toNat b=true:=fun hall=>by
    rw [HQ.2 hall] at hf;cases hf.2
   obtain ⟨t,ht⟩:=Classical.not_forall.1 hno;obtain ⟨ht1,ht2⟩:=Classical.not_imp.1 ht;have hr:=hnx x t ht1;have hbf:bitF fm t.toNat b=false:=by cases hq:bitF fm t.toNat b with|true=>exact absurd hq ht2|false=>rfl
   exact .step hf.1 (by rw [Int.toNat_of_nonneg hr.1];exact ht1) (h.min t.toNat b (by omega) hb hbf)
  ·exact h.min x b hx hb hf
def z4i (fm:List (List Bool)):Nat:=(fm.map fun r=>r.count true).sum
theorem w9x {fm:List (List Bool)} {a:Nat} (ha:a<fm.length) (l:List Bool):z4i (fm.set a l)+(fm.getD a []).count true=z4i fm+l.count true:=by
 unfold z4i;induction fm generalizing a with
 | nil=>simp at ha
 | cons r fm ih =>
   cases a with
   | zero=>simp;omega
   | succ a =>
     have:=ih (a:=a) (by simpa using ha);simp only [List.set_cons_succ,map_cons,sum_cons,List.getD_cons_succ];omega
theorem q6s : ∀ {r s:List Bool},r.length=s.length->(∀ b:Nat,r.getD b false=true->s.getD b false=true)->r≠s->r.count true<s.count true
 | [],[],_,_,h=>absurd rfl h
 | x::r,y::s,hl,hle,hne=>by
   have h0:=hle 0;have hr : ∀ b:Nat,r.getD b false=true->s.getD b false=true:=fun b hb=>hle (b+1) hb;have hle2:r.count true<=s.count true:=by
    by_cases he:r=s
    ·subst he;exact Nat.le_refl _
    ·exact Nat.le_of_lt (q6s (by simpa using hl) hr he)
   simp only [List.getD_cons_zero] at h0;by_cases he:r=s
   ·subst he;cases x<;>cases y
    ·exact absurd rfl hne
    ·simp
    ·cases h0 rfl
    ·exact absurd rfl hne
   ·have:=q6s (by simpa using hl) hr he;cases x<;>cases y<;>simp_all<;>omega
theorem FolI.less {n:Nat} {nx:List (List Int)} {fm:List (List Bool)} (h:FolI n nx fm) {a:Nat} (ha:a<n-1) (hne:rowF n nx fm a≠fm.getD a []):z4i (fm.set a (rowF n nx fm a))<z4i fm:=by
 have hal:a<fm.length:=by have:=h.len;omega
 have h1:=w9x hal (rowF n nx fm a);have hrl:(fm.getD a []).length=n:=by
  rw [getD_eq_getElem?_getD,List.getElem?_eq_getElem hal];exact h.rows _ (List.getElem_mem hal)
 have h2:=q6s (r:=rowF n nx fm a) (s:=fm.getD a []) (by rw [q3v,hrl]) (fun b hb=>by
  rcases Nat.lt_or_ge b n with hbn|hbn
  ·exact h.post a b ha hbn hb
  ·rw [getD_eq_getElem?_getD,List.getElem?_eq_none (by rw [q3v];exact hbn)] at hb;cases hb) hne
 omega
theorem Rel.layI {N:Nat} {σ:Mem} {β:Lab} {s s':St} {a:Act} {w:World} (hr:Rel N σ β s a w) {k:Nat} {i:BInfo} (hi:β k=some i) (hk:k∈s.H.map (·.1)) (hcell : ∀ b,i.has b -> ∃ c e fr,w.heap[b]? = some (.cells c e fr))
  (hsl : ∀ τ:Mem,σ.le τ->(∀ b c e fr,i.has b->w.heap[b]? = some (.cells c e fr)->τ b=some c) -> ∀ j v,RepL σ β (getS s.sl j) v->RepL τ β (getS s'.sl j) v)
  (hch : ∀ τ:Mem,σ.le τ -> ∀ j c',(j,c')∈s'.H->j≠k ∧ ∃ c,(j,c)∈s.H∧(c.holds σ β w j->c'.holds τ β w j)) (hnd:(s'.H.map (·.1)).Nodup) :
  ∃ σ' β',Rel N σ' β' s' a w∧Later σ β s.H w σ' β' s'.H w:=by
 let τ:Mem:=fun b => @ite _ (i.has b) (Classical.propDecidable _) (match w.heap[b]? with
  | some (.cells c _ _)=>some c
  | _=>none) (σ b)
 have hpos : ∀ b c e fr,i.has b->w.heap[b]? = some (.cells c e fr)->τ b=some c:=fun b c e fr hb hh=>by
  show @ite _ (i.has b) (Classical.propDecidable _) _ _=_;rw [if_pos hb,hh]
 have hneg : ∀ b,¬i.has b->τ b=σ b:=fun b hb=>by
  show @ite _ (i.has b) (Classical.propDecidable _) _ _=_;rw [if_neg hb]
 have hle:σ.le τ:=fun b c hb=>by
  rw [hneg b]
  ·exact hb
  ·intro hib;rw [(hr.heap.apart k hk i hi b hib).1] at hb;cases hb
 have hlab : ∀ j∈s'.H.map (·.1),j≠k∧j∈s.H.map (·.1):=fun j hj=>by
  obtain ⟨⟨j',c'⟩,hm,rfl⟩:=List.mem_map.1 hj;obtain ⟨h1,c,h2,_⟩:=hch τ hle j' c' hm;exact ⟨h1,List.mem_map.2 ⟨_,h2,rfl⟩⟩
 refine ⟨τ,β,⟨hr.size,hr.defers,fun j=>hsl τ hle hpos j _ (hr.slots j),⟨fun b c hb => ?_,fun j c' hj => ?_,hnd,fun j hj ij hij b hb => ?_,fun j hj j' hj'=>hr.heap.inj j (hlab j hj).2 j' (hlab j' hj').2⟩⟩,hle,Frm.refl _ _,fun b hb hb' => .inl ?_,fun b ⟨j,hj,hjb⟩ => .inl ⟨j,(hlab j hj).2,hjb⟩,fun _ _ _=>rfl⟩
 ·by_cases ho:i.has b
  ·obtain ⟨c0,e,fr,hh⟩:=hcell b ho;rw [hpos b c0 e fr ho hh] at hb;cases hb;exact ⟨_,_,hh⟩
  ·rw [hneg b ho] at hb;exact hr.heap.mem b c hb
 ·obtain ⟨_,c,h2,h3⟩:=hch τ hle j c' hj;exact h3 (hr.heap.chunks j c h2)
 ·have h1:=hlab j hj;have h2:=hr.heap.apart j h1.2 ij hij b hb;refine ⟨?_,h2.2⟩;rw [hneg b fun he=>h1.1 (hr.heap.inj j h1.2 k hk ij i hij hi b hb he)];exact h2.1
 ·by_cases ho:i.has b
  ·exact ⟨k,hk,i,hi,ho⟩
  ·rw [hneg b ho] at hb';exact absurd hb hb'
theorem w7v {N:Nat} {sl sl':List (Nat×LV)} {H H':Heap} {k:Nat} {e e2:TypeId} {sz:Nat} {rows:List (List AV)} (hg:getH H k=some (.ext (.mat e e2 sz rows [])))
  (hsl : ∀ i,getS sl' i=(getS sl i).kill k∨(getS sl i = .hd k 0 rows.length∧getS sl' i = .p (.sl (rows.map .sl))))
  (hsub:(H'.map (·.1)).Sublist (H.map (·.1))) (hH : ∀ j c',(j,c')∈H'->j≠k∧(j,c')∈H∧c'.kill k=c'):Le N ⟨sl,H⟩ ⟨sl',H'⟩:=fun σ β a w hr=>by
 have hk:=XZ hg;rcases hr.heap.chunks k _ (QB hg) with ⟨hb0,hr0⟩|⟨i,vs,hi,h1,h2,h3,h4,h5,h6,h7,h8⟩
 ·refine ⟨σ,β,⟨hr.size,hr.defers,fun j => ?_,⟨hr.heap.mem,fun j c' hj => ?_,hsub.nodup hr.heap.nodup,fun j hj=>hr.heap.apart j (hsub.subset hj),fun j hj j' hj'=>hr.heap.inj j (hsub.subset hj) j' (hsub.subset hj')⟩⟩,Mem.le_refl σ,Frm.refl _ _,fun _ h0 h1=>absurd h0 h1,fun b ⟨j,hj,r⟩ => .inl ⟨j,hsub.subset hj,r⟩,fun _ _ _=>rfl⟩
  ·show RepL σ β (getS sl' j) _;have hv:=hr.slots j;rcases hsl j with he|⟨g1,g2⟩
   ·rw [he];exact hv.kill k
   ·rw [g2];have hv:RepL σ β (getS sl j) _:=hv;rw [g1] at hv;rcases hv.hdI with ⟨_,_,_,he⟩|⟨i,_,hk,_⟩
    ·rw [he,hr0];exact .p .nilsl
    ·rw [hb0] at hk;cases hk
  ·exact hr.heap.chunks j c' (hH j c' hj).2.1
 ·have hrow : ∀ (b c a':Nat),i.subs[a']? = some (some (b,c)) -> ∃ ws,w.heap[b]? = some (.cells ws e2 (0,0)):=fun b c a' hs=>by
   have ha:a'<rows.length:=by rw [<- h6];exact (List.getElem?_eq_some_iff.1 hs).1
   rcases (h8 a' _ (List.getElem?_eq_getElem ha)).2 (by simp) with ⟨q1,_⟩|⟨b',c',ws,q1,_,q3,_⟩
   ·rw [hs] at q1;cases q1
   ·rw [hs] at q1;cases q1;exact ⟨ws,q3⟩
  refine hr.layI hi hk (fun b hb => ?_) (fun τ hle hτ j v hv => ?_) (fun τ hle j c' hj => ?_) (hsub.nodup hr.heap.nodup)
  ·rcases hb with rfl|⟨c,hb⟩
   ·exact ⟨_,_,_,h2⟩
   ·obtain ⟨a',ha',hs⟩:=List.mem_iff_getElem.1 hb;obtain ⟨ws,hw⟩:=hrow b c a' (by rw [List.getElem?_eq_getElem ha',hs]);exact ⟨_,_,_,hw⟩
  ·show RepL τ β (getS sl' j) v;have hv:RepL σ β (getS sl j) v:=hv;rcases hsl j with he|⟨g1,g2⟩
   ·rw [he];exact (hv.kill k).mono hle
   ·rw [g2];rw [g1] at hv;rcases hv.hdI with ⟨hk',_⟩|⟨i',oo,hk',hl,ho,rfl⟩
    ·rw [hi] at hk';cases hk'
    ·rw [hi] at hk';cases hk';have hoo:oo=0:=by
      rcases ho with ho|ho
      ·simpa using ho
      ·omega
     subst hoo;have hrl : ∀ (m:Nat) (x:AV),(rows.map AV.sl)[m]? = some x -> ∃ row,rows[m]? = some row∧x = .sl row:=fun m x hx=>by
      rw [List.getElem?_map] at hx;cases hq:rows[m]? with
      | none=>rw [hq] at hx;cases hx
      | some row=>rw [hq] at hx;cases hx;exact ⟨row,rfl,rfl⟩
     have hcellv : ∀ (m:Nat) (row:List AV),rows[m]? = some row -> ∃ u,vs[m]? = some u∧Rep τ (.sl row) u:=fun m row hm=>by
      rcases (h8 m row hm).2 (by simp) with ⟨q1,rfl,q3⟩|⟨b,c,ws,q1,q2,q3,q4,q5,q6,q7⟩
      ·exact ⟨_,q3,.nilsl⟩
      ·refine ⟨_,q2,.sl row b 0 c sz ws (fun m j=>(ws[m*sz+j]?).getD undef) (hτ b ws _ _ (.inr ⟨c,List.mem_of_getElem? q1⟩) q3) q5 q6 (fun m x hx=>(q7 m x hx).1) (fun m x j c' hx hj => ?_) fun m x j c' hx hj => ?_⟩
       ·obtain ⟨u,r4,_⟩:=(q7 m x hx).2 j c' hj;simp [r4]
       ·obtain ⟨u,r4,r5⟩:=(q7 m x hx).2 j c' hj;simpa [r4] using r5.mono hle
     have hfin:Rep τ (.sl (rows.map .sl)) (.slice (some ⟨i.blk,0,none⟩) (rows.map AV.sl).length i.cap):=by
      refine .sl (rows.map .sl) i.blk 0 i.cap 1 vs (fun m j=>(vs[m*1+j]?).getD undef) (hτ _ _ _ _ i.has_blk h2) (by simpa using h4) h5 (fun m x hx => ?_) (fun m x j c' hx hj => ?_) fun m x j c' hx hj => ?_
      ·obtain ⟨row,_,rfl⟩:=hrl m x hx;rfl
      ·obtain ⟨row,g3,rfl⟩:=hrl m x hx;obtain ⟨u,g4,g5⟩:=hcellv m row g3;have hj0:j=0:=by
        have:=(List.getElem?_eq_some_iff.1 hj).1;simpa [AV.cells] using this
       subst hj0;simp [g4]
      ·obtain ⟨row,g3,rfl⟩:=hrl m x hx;obtain ⟨u,g4,g5⟩:=hcellv m row g3;have hj0:j=0:=by
        have:=(List.getElem?_eq_some_iff.1 hj).1;simpa [AV.cells] using this
       subst hj0;cases hj;simpa [g4] using g5
     have:RepL τ β (.p (.sl (rows.map .sl))) (.slice (some ⟨i.blk,0,none⟩) (rows.map AV.sl).length i.cap) := .p hfin;simpa using this
  ·obtain ⟨g1,g2,g3⟩:=hH j c' hj;refine ⟨g1,c',g2,fun hold => ?_⟩;have:=(hold.kill k).mono hle fun _ _ _ _=>rfl
   rwa [g3] at this
end Go.Ab
