/- aug: what a procedure's traps are, by its places. -/
import Derived.Test.YtmfnbgbblkhneaaGreatRchA5
import Derived.Test.YtmfnbgbblkhneaaGreatRchA8
import Derived.Test.YtmfnbgbblkhneaaGreatRchA14
import Derived.Test.YtmfnbgbblkhneaaGreatRchA16
import Derived.Test.YtmfnbgbblkhneaaGreatRchA17
set_option linter.unusedSimpArgs false
set_option linter.unusedVariables false
set_option maxRecDepth 100000
set_option maxHeartbeats 16000000
namespace Go.Ab
open Go.Proofs.Tryz
open Go.Proofs
variable {a i x:Int}
section
variable {p:Pg}{j:Nat}{f:Pr}
theorem DG(h:0<=i/\i<(QU f.body+2:Nat)):plP p j f (QH p j (QU f.body+2:Nat) i)/\ixI p j f (QH p j (QU f.body+2:Nat) i)=i:=by
 unfold QH ixI UZ plP loI hiI;constructor
 ·(repeat' split)<;>omega
 ·(repeat' split)<;>omega
theorem DP(h:plP p j f x):QH p j (QU f.body+2:Nat) (ixI p j f x)=x:=by
 have h1:=DG (p:=p) (j:=j) (f:=f) (ZA h);exact BJ h1.1 h h1.2
theorem Hz:prsW (QQ p j f) f=(QQ p j f).real.map (ixP p j f (QU f.body+2:Nat)):=rfl
theorem Ii(h:QO p=true)(hj:p.procs[j]?=some f):∀t∈prsW (QQ p j f) f,(0<=t.1/\t.1<(QU f.body+2:Nat))/\0<=t.2/\t.2<(QU f.body+2:Nat):=fun t ht=>by
 rw[Hz]at ht;obtain⟨s,hs,rfl⟩:=q7s.1 ht;obtain⟨h1,h2⟩:=WO h hj s hs;exact⟨ZA h1,ZA h2⟩
def wE(p:Pg)(j:Nat)(f:Pr):Int->Int->Prop:=rowE (QC (QU f.body+2) (prsW (QQ p j f) f)).1
def wR(p:Pg)(j:Nat)(f:Pr):Int->Int->Prop:=stR (QQ p j f).real
theorem q0p(h:QO p=true)(hj:p.procs[j]?=some f){k:Int}:wE p j f i k ↔ ∃a b,wR p j f a b/\ixI p j f a=i/\ixI p j f b=k:=by
 unfold wE wR;rw[Qy];constructor
 ·rintro⟨h1,_,_⟩;rw[Hz]at h1;obtain⟨s,hs,he⟩:=q7s.1 h1;exact⟨s.src,s.dst,⟨s,hs,rfl,rfl⟩,q9e Prod.fst he,q9e Prod.snd he⟩
 ·rintro⟨a,b,⟨s,hs,rfl,rfl⟩,rfl,rfl⟩;obtain⟨h1,h2⟩:=WO h hj s hs;exact⟨q7s.2 ⟨s,hs,rfl⟩,FV (ZA h1),FV (ZA h2)⟩
theorem ID(h:QO p=true)(hj:p.procs[j]?=some f){b:Int}(hr:wR p j f a b):plP p j f a/\plP p j f b:=by
 obtain⟨s,hs,rfl,rfl⟩:=hr;exact WO h hj s hs
theorem IQ(h:QO p=true)(hj:p.procs[j]?=some f){b:Int}(ha:plP p j f a)(hr:Rch (wR p j f) a b):plP p j f b:=
 hr.closed (S:=plP p j f) (fun _ _ _ h1=>(ID h hj h1).2) ha
theorem Io(h:QO p=true)(hj:p.procs[j]?=some f){b:Int}(ha:plP p j f a)(hb:plP p j f b):Rch (wE p j f) (ixI p j f a) (ixI p j f b)↔Rch (wR p j f) a b:=by
 constructor
 ·intro hr;obtain⟨c,h1,h2,h3⟩:=hr.closed (S:=fun k=>∃c,plP p j f c/\ixI p j f c=k/\Rch (wR p j f) a c) (by
   rintro i k ⟨c,h1,h2,h3⟩ h4;obtain⟨x,y,h5,h6,h7⟩:=(q0p h hj).1 h4;have h8:=ID h hj h5;have:x=c:=BJ h8.1 h1 (by rw[h6,h2]);subst this;exact⟨y,h8.2,h7,.tail h3 h5⟩) ⟨a,ha,rfl,.refl⟩
  rw[<-BJ h1 hb h2];exact h3
 ·intro hr;exact(hr.closed (S:=fun c=>plP p j f c/\Rch (wE p j f) (ixI p j f a) (ixI p j f c)) (fun x y ⟨h1,h2⟩ h3=>⟨(ID h hj h3).2,.tail h2 ((q0p h hj).2 ⟨x,y,h3,rfl,rfl⟩)⟩) ⟨ha,.refl⟩).2
theorem IX(h:QO p=true)(hj:p.procs[j]?=some f){b:Int}(ha:plP p j f a)(hb:plP p j f b):sccP (wE p j f) (ixI p j f a) (ixI p j f b)↔sccP (wR p j f) a b:=by
 unfold sccP;rw[Io h hj ha hb,Io h hj hb ha]
def KW(p:Pg)(j:Nat)(f:Pr)(i:Int):Int:=(VG (QQ p j f) f).getD i.toNat 0
theorem Uv:VG (QQ p j f) f=Qm (QU f.body+2) (QC (QU f.body+2) (prsW (QQ p j f) f)).1:=rfl
theorem Zo(hi:0<=i/\i<(QU f.body+2:Nat)):MinP (wE p j f) i (KW p j f i):=by
 unfold KW;rw[Uv];exact Ql (YS _ _).1 hi
theorem Ld{k:Nat}(hk:k<QU f.body+2):0<=(VG (QQ p j f) f).getD k 0/\(VG (QQ p j f) f).getD k 0<(QU f.body+2:Nat):=by
 rw[Uv];exact Lh (YS _ _).1 hk
theorem Lf:(VG (QQ p j f) f).length=QU f.body+2:=by rw[Uv,FF]
theorem MinP.same{E:Int->Int->Prop}{y v:Int}(h:MinP E x v)(hs:sccP E x y):MinP E y v:=⟨hs.symm.trans h.scc,fun z hz=>h.le z (hs.trans hz)⟩
theorem Ec{k:Int}(hi:0<=i/\i<(QU f.body+2:Nat))(hk:0<=k/\k<(QU f.body+2:Nat)):KW p j f i=KW p j f k↔sccP (wE p j f) i k:=by
 have h1:=Zo (p:=p) (j:=j) hi;have h2:=Zo (p:=p) (j:=j) hk;constructor
 ·intro he;rw[<-he]at h2;exact h1.scc.trans h2.scc.symm
 ·intro hs;exact(h1.same hs).uniq h2
theorem KV(h:QO p=true)(hj:p.procs[j]?=some f){b:Int}(ha:plP p j f a)(hb:plP p j f b):KW p j f (ixI p j f a)=KW p j f (ixI p j f b)↔sccP (wR p j f) a b:=by
 rw[Ec (ZA ha) (ZA hb),IX h hj ha hb]
structure TrapP(p:Pg)(j:Nat)(f:Pr)(l:List Int)(r:Int):Prop where
 pl:plP p j f r
 mem:∀b,b∈l↔plP p j f b/\sccP (wR p j f) r b
 cl:∀b c,sccP (wR p j f) r b->wR p j f b c->sccP (wR p j f) r c
 n0:¬sccP (wR p j f) r 0
 nx:¬sccP (wR p j f) r (-1)
theorem CB{plc:Int->Int}{part:List Int}{i q:Nat}{b:Int}:b∈FT plc part i q ↔ ∃k:Nat,k<q/\part.getD k 0=i/\plc k=b:=by
 unfold FT;constructor
 ·intro h;obtain⟨k,hk,rfl⟩:=q7s.1 h;obtain⟨h1,h2⟩:=q8t.1 hk;exact⟨k,q9q.1 h1,x1l.1 h2,rfl⟩
 ·rintro⟨k,h1,h2,rfl⟩;exact q7s.2 ⟨k,q8t.2 ⟨q9q.2 h1,x1l.2 h2⟩,rfl⟩
theorem ix0:ixI p j f 0=0:=by unfold ixI UZ;rw[if_pos rfl]
theorem ix1:ixI p j f (-1)=((QU f.body+2:Nat):Int)-1:=by unfold ixI UZ;rw[if_neg (by omega),if_pos rfl]
theorem pl0:plP p j f 0:=.inl rfl
theorem pl1:plP p j f (-1):=.inr (.inl rfl)
theorem W0(k:Nat):(VG (QQ p j f) f).getD k 0=KW p j f k:=by
 unfold KW;rw[x0q]
theorem SE(h:QO p=true)(hj:p.procs[j]?=some f){i:Nat}(hi:i<QU f.body+2):(Yg (QU f.body+2) (VG (QQ p j f) f) (prsW (QQ p j f) f)).getD i false=true ↔
  KW p j f (ixI p j f 0)=i\/KW p j f (ixI p j f (-1))=i\/∃a b,wR p j f a b/\¬sccP (wR p j f) a b/\KW p j f (ixI p j f a)=i:=by
 rw[En (by omega) (fun k hk=>Ld hk) hi fun t ht=>(Ii h hj t ht).1,ix0,ix1];have e1:(VG (QQ p j f) f).getD (QU f.body+2-1) 0=KW p j f (((QU f.body+2:Nat):Int)-1):=by
  unfold KW;congr 1;omega
 have e0:(VG (QQ p j f) f).getD 0 0=KW p j f 0:=rfl;rw[e0,e1];refine or_congr Iff.rfl (or_congr Iff.rfl ?_);constructor
 ·rintro⟨t,ht,h1,h2⟩;rw[Hz]at ht;obtain⟨s,hs,rfl⟩:=q7s.1 ht;obtain⟨h3,h4⟩:=WO h hj s hs;exact⟨s.src,s.dst,⟨s,hs,rfl,rfl⟩,fun hsc=>h1 ((KV h hj h3 h4).2 hsc),h2⟩
 ·rintro⟨a,b,⟨s,hs,rfl,rfl⟩,h1,h2⟩;obtain⟨h3,h4⟩:=WO h hj s hs;exact⟨ixP p j f (QU f.body+2:Nat) s,by rw[Hz];exact q7s.2 ⟨s,hs,rfl⟩,fun he=>h1 ((KV h hj h3 h4).1 he),h2⟩
theorem Ua{l:List Int}:l∈trapsW (QQ p j f) f ↔ ∃i:Nat,i<QU f.body+2/\KW p j f i=i/\(Yg (QU f.body+2) (VG (QQ p j f) f) (prsW (QQ p j f) f)).getD i false=false/\l=FT (QH p j (QU f.body+2:Nat)) (VG (QQ p j f) f) i (QU f.body+2):=by
 unfold trapsW X3;rw[Lf];constructor
 ·intro hl;obtain⟨i,hi,rfl⟩:=q7s.1 hl;obtain⟨h1,h2⟩:=q8t.1 hi;unfold Uc at h2;rw[q8j,x1l,x0p,W0]at h2;exact⟨i,q9q.1 h1,h2.1,h2.2,rfl⟩
 ·rintro⟨i,h1,h2,h3,rfl⟩;refine q7s.2 ⟨i,q8t.2 ⟨q9q.2 h1,?_⟩,rfl⟩;unfold Uc;rw[q8j,x1l,x0p,W0];exact⟨h2,h3⟩
theorem Rw(h:QO p=true)(hj:p.procs[j]?=some f){i:Nat}(hi:i<QU f.body+2)(hp:KW p j f i=i)(b:Int):
  b∈FT (QH p j (QU f.body+2:Nat)) (VG (QQ p j f) f) i (QU f.body+2)↔plP p j f b/\sccP (wR p j f) (QH p j (QU f.body+2:Nat) i) b:=by
 obtain⟨h1,h2⟩:=DG (p:=p) (j:=j) (f:=f) (i:=i) (by omega);rw[CB];constructor
 ·rintro⟨k,h3,h4,rfl⟩;obtain⟨h5,h6⟩:=DG (p:=p) (j:=j) (f:=f) (i:=k) (by omega);refine⟨h5,(KV h hj h1 h5).1 ?_⟩;rw[h2,h6,hp,<-W0,h4]
 ·rintro⟨h3,h4⟩;have h5:=ZA h3;refine⟨(ixI p j f b).toNat,by omega,?_,?_⟩
  ·rw[W0,show(((ixI p j f b).toNat:Nat):Int)=ixI p j f b by omega,<-(KV h hj h1 h3).2 h4,h2,hp]
  ·rw[show(((ixI p j f b).toNat:Nat):Int)=ixI p j f b by omega,DP h3]
theorem CN(h:QO p=true)(hj:p.procs[j]?=some f){l:List Int}(hl:l∈trapsW (QQ p j f) f):∃r,TrapP p j f l r:=by
 obtain⟨i,hi,hp,ho,rfl⟩:=Ua.1 hl;obtain⟨h1,h2⟩:=DG (p:=p) (j:=j) (f:=f) (i:=i) (by omega);have ho2:¬_:=fun hx=>by
  have:=(SE h hj hi).2 hx;rw[ho]at this;cases this
 have hpr:KW p j f (ixI p j f (QH p j (QU f.body+2:Nat) i))=i:=by rw[h2,hp]
 refine⟨_,h1,Rw h hj hi hp,fun b c hb hbc=>?_,fun hs=>ho2 (.inl ?_),fun hs=>ho2 (.inr (.inl ?_))⟩
 ·have h3:=ID h hj hbc;by_cases hsc:sccP (wR p j f) b c
  ·exact hb.trans hsc
  ·refine absurd (.inr (.inr ⟨b,c,hbc,hsc,?_⟩)) ho2;rw[<-(KV h hj h1 h3.1).2 hb,hpr]
 ·rw[<-(KV h hj h1 pl0).2 hs,hpr]
 ·rw[<-(KV h hj h1 pl1).2 hs,hpr]
theorem OT(h:QO p=true)(hj:p.procs[j]?=some f){r:Int}(hr:plP p j f r)(hcl:∀b c,sccP (wR p j f) r b->wR p j f b c->sccP (wR p j f) r c)(h0:¬sccP (wR p j f) r 0)(hx:¬sccP (wR p j f) r (-1)):
  ∃l∈trapsW (QQ p j f) f,∀b,b∈l↔plP p j f b/\sccP (wR p j f) r b:=by
 have h1:=ZA hr;have h2:=Zo (p:=p) (j:=j) (f:=f) h1;have h3:=Ld (p:=p) (j:=j) (f:=f) (k:=(ixI p j f r).toNat) (by omega);have h4:0<=KW p j f (ixI p j f r)/\KW p j f (ixI p j f r)<(QU f.body+2:Nat):=h3;generalize hi:KW p j f (ixI p j f r)=v at h2 h4;obtain⟨h5,h6⟩:=DG (p:=p) (j:=j) (f:=f) (i:=v) h4;have hs:sccP (wR p j f) r (QH p j (QU f.body+2:Nat) v):=(IX h hj hr h5).1 (by rw[h6];exact h2.scc);have hpv:KW p j f v=v:=(Zo (p:=p) (j:=j) (f:=f) h4).uniq (h2.same h2.scc);have ev:((v.toNat:Nat):Int)=v:=by omega
 refine⟨_,Ua.2 ⟨v.toNat,by omega,by rw[ev];exact hpv,?_,rfl⟩,fun b=>?_⟩
 ·cases ho:(Yg (QU f.body+2) (VG (QQ p j f) f) (prsW (QQ p j f) f)).getD v.toNat false with
  |false=>rfl
  | true=>
    have:=(SE h hj (by omega)).1 ho;rw[ev,<-hi]at this;rcases this with h7|h7|⟨a,b,h7,h8,h9⟩
    ·exact absurd ((KV h hj hr pl0).1 h7.symm) h0
    ·exact absurd ((KV h hj hr pl1).1 h7.symm) hx
    ·have h10:=ID h hj h7;have h11:=(KV h hj hr h10.1).1 h9.symm;exact absurd (h11.symm.trans (hcl a b h11 h7)) h8
 ·rw[Rw h hj (by omega) (by rw[ev];exact hpv),ev];exact and_congr Iff.rfl ⟨fun h7=>hs.trans h7,fun h7=>hs.symm.trans h7⟩
end
theorem La{p:Pg}{j:Nat}{f:Pr}(hj:p.procs[j]?=some f)(hcn:cntP p.procs<=200):(QQ p j f).real.length<=100000:=by
 obtain⟨_,_,_,hlen,hsp⟩:=QV p;obtain⟨_,_,hle,_⟩:=hsp j f hj;have h9:=Bu (QP p j f);have h10:=Xo p j f;show(WM (QP p j f)).length<=100000;omega
theorem Lv{p:Pg}(h:QO p=true){j:Nat}{f:Pr}(hj:p.procs[j]?=some f):∀it∈itsOf p j f,∀s∈fOf it,okSt s:=fun it hi s hs=>by
 obtain⟨hm,_⟩:=QD h;obtain⟨_,_,hcn⟩:=XP h;obtain⟨_,_,_,hlen,hsp⟩:=QV p;obtain⟨_,_,hle,_⟩:=hsp j f hj;have h1:=WG hm hj (Zk hi);have h2:=(Qk hi).1;unfold fOf at hs;split at hs
 ·rw[q7m.1 hs];unfold okI at h2;unfold okSt;constructor
  ·show it.s.id≠_;omega
  ·show it.next≠_;omega
 ·cases hs
theorem Rv{p:Pg}(h:QO p=true){j:Nat}{f:Pr}(hj:p.procs[j]?=some f){l:List Int}(hl:l∈trapsW (QQ p j f) f):l.length<=QU f.body+2/\∀id∈l,(QM p.procs j:Int)+1<=id/\id<=(QM p.procs j+QU f.body:Nat):=by
 constructor
 ·obtain⟨i,_,_,_,rfl⟩:=Ua.1 hl;exact P8 _ _ _ _
 ·intro id hid;obtain⟨r,ht⟩:=CN h hj hl;obtain⟨h1,h2⟩:=(ht.mem id).1 hid;rcases h1 with rfl|rfl|h1
  ·exact absurd h2 ht.n0
  ·exact absurd h2 ht.nx
  ·exact h1
theorem q0w{p:Pg}(h:QO p=true){j:Nat}{f:Pr}(hj:p.procs[j]?=some f):WayT (QQ p j f) f (QU f.body+2):=by
 obtain⟨_,_,hcn⟩:=XP h;obtain⟨_,_,_,hlen,hsp⟩:=QV p;obtain⟨_,_,hle,_⟩:=hsp j f hj;refine⟨rfl,hj,by show cntP p.procs<=1000;omega,by omega,by omega,q8i (La hj hcn) (by decide),Ii h hj,?_,fun l hl=>?_,fun s hs=>(Q7 h hj).2.2 s (((KS h hj).2 s).1 hs),Lv h hj⟩
 ·have:=P7 (QH p j (QU f.body+2:Nat)) (VG (QQ p j f) f) (Yg (QU f.body+2) (VG (QQ p j f) f) (prsW (QQ p j f) f)) (QU f.body+2);have e:trapsW (QQ p j f) f=X3 (QH p j (QU f.body+2:Nat)) (VG (QQ p j f) f) (Yg (QU f.body+2) (VG (QQ p j f) f) (prsW (QQ p j f) f)) (QU f.body+2):=by
   unfold trapsW;rw[Lf];rfl
  rw[e];omega
 ·obtain⟨h1,h2⟩:=Rv h hj hl;refine⟨by omega,fun id hid=>?_⟩;have:=h2 id hid;show 1<=id/\id<=(sheetOf p).l.length;omega
instance (a b:Step):Decidable (Qg a b):=inferInstanceAs (Decidable (_\/_))
instance:DecidableEq Step:=fun a b=>decidable_of_iff (a.src=b.src/\a.dst=b.dst/\a.kind=b.kind) ⟨fun h=>KF h.1 h.2.1 h.2.2,fun h=>by rw[h];exact⟨rfl,rfl,rfl⟩⟩
theorem OU{a b:Step}(ha:okSt a)(hb:okSt b)(h:GI b a=false):(a.src=b.src/\a.dst=b.dst/\a.kind<=b.kind)\/Qg a b:=by
 rw[x2a,ne_eq,KA]at h;unfold Qg;by_cases h1:QS a.src=QS b.src
 ·by_cases h2:QS a.dst=QS b.dst
  ·exact .inl ⟨US ha.1 hb.1 h1,US ha.2 hb.2 h2,by omega⟩
  ·exact .inr (by omega)
 ·exact .inr (by omega)
theorem Xb:∀(l:List Step)(a:Step),okSt a->(∀s∈l,okSt s)->(a::l).Pairwise (fun a b=>GI b a=false)->
  (∀s∈XY a l,Qg a s)/\(XY a l).Pairwise Qg/\(∀s∈XY a l,s∈l)/\∀s∈l,(s.src=a.src/\s.dst=a.dst/\a.kind<=s.kind)\/∃s'∈XY a l,s'.src=s.src/\s'.dst=s.dst/\s'.kind<=s.kind
 |[],a,_,_,_=>by simp[XY]
 | b::r,a,ha,hl,h=>by
   have hb:=hl b q7d;have hr:∀s∈r,okSt s:=fun s hs=>hl s (q7n _ hs);rw[x1q]at h;obtain⟨h1,h2⟩:=h;obtain⟨i1,i2,i3,i4⟩:=Xb r b hb hr h2;have hab:=OU ha hb (h1 b q7d);rw[XY];cases hs:ZY b a with
   | true=>
     unfold ZY at hs;simp only[q8j,q8e]at hs;have hk:a.kind<=b.kind:=by
      rcases hab with h3|h3
      ·exact h3.2.2
      ·unfold Qg at h3;rw[hs.1,hs.2]at h3;omega
     rw[q8g];refine⟨fun s hs'=>?_,i2,fun s hs'=>q7n _ (i3 s hs'),fun s hs'=>?_⟩
     ·have:=i1 s hs';unfold Qg at this⊢
      rwa[<-hs.1,<-hs.2]
     ·rcases q7r.1 hs' with rfl|hs'
      ·exact .inl ⟨hs.1,hs.2,hk⟩
      ·rcases i4 s hs' with⟨h3,h4,h5⟩|h3
       ·exact .inl ⟨by rw[h3,hs.1],by rw[h4,hs.2],by omega⟩
       ·exact .inr h3
   | false=>
     have hlt:Qg a b:=by
      rcases hab with h3|h3
      ·unfold ZY at hs;simp[h3.1,h3.2.1]at hs
      ·exact h3
     rw[q8b];refine⟨fun s hs'=>?_,x1q.2 ⟨i1,i2⟩,fun s hs'=>?_,fun s hs'=>?_⟩
     ·rcases q7r.1 hs' with rfl|hs'
      ·exact hlt
      ·exact Qh hlt (i1 s hs')
     ·rcases q7r.1 hs' with rfl|hs'
      ·exact q7d
      ·exact q7n _ (i3 s hs')
     ·rcases q7r.1 hs' with rfl|hs'
      ·exact .inr ⟨s,q7d,rfl,rfl,Int.le_refl _⟩
      ·rcases i4 s hs' with⟨h3,h4,h5⟩|⟨s',h3,h4⟩
       ·exact .inr ⟨b,q7d,h3.symm,h4.symm,h5⟩
       ·exact .inr ⟨s',q7n _ h3,h4⟩
theorem FH{l:List Step}(hok:∀s∈l,okSt s):(WM l).Pairwise Qg/\(∀s∈WM l,s∈l)/\∀s∈l,∃s'∈WM l,s'.src=s.src/\s'.dst=s.dst/\s'.kind<=s.kind:=by
 have hp:∀s,s∈YJ l↔s∈l:=fun s=>(Ut l).mem_iff;have hs:=LY l;unfold WM;cases hq:YJ l with
 | nil=>
   rw[hq]at hp;refine⟨by simp[PX],by simp[PX],fun s hs=>?_⟩;have:=(hp s).2 hs;cases this
 | cons a r=>
   rw[hq]at hp hs;have hok':∀s∈a::r,okSt s:=fun s h=>hok s ((hp s).1 h);obtain⟨h1,h2,h3,h4⟩:=Xb r a (hok' a q7d) (fun s h=>hok' s (q7n _ h)) hs;rw[PX];refine⟨x1q.2 ⟨h1,h2⟩,fun s hs'=>?_,fun s hs'=>?_⟩
   ·rcases q7r.1 hs' with rfl|hs'
    ·exact(hp s).1 q7d
    ·exact(hp s).1 (q7n _ (h3 s hs'))
   ·rcases q7r.1 ((hp s).2 hs')with rfl|hs'
    ·exact⟨s,q7d,rfl,rfl,Int.le_refl _⟩
    ·rcases h4 s hs' with⟨h5,h6,h7⟩|⟨s',h5,h6⟩
     ·exact⟨a,q7d,h5.symm,h6.symm,h7⟩
     ·exact⟨s',q7n _ h5,h6⟩
theorem SG{l:List Step}(h:l.Pairwise Qg){a b:Step}(ha:a∈l)(hb:b∈l)(h1:a.src=b.src)(h2:a.dst=b.dst):a=b:=by
 have hn:∀{x y:Step},x.src=y.src->x.dst=y.dst->¬Qg x y:=fun {x y} e1 e2 hlt=>by
  unfold Qg at hlt;rw[e1,e2]at hlt;omega
 induction h with
 |nil=>cases ha
 | @cons c r hc hr ih=>
   rcases q7r.1 ha with e1|ha'
   ·rcases q7r.1 hb with e2|hb'
    ·rw[e1,e2]
    ·exact absurd (hc b hb') (by rw[<-e1];exact hn h1 h2)
   ·rcases q7r.1 hb with e2|hb'
    ·exact absurd (hc a ha') (by rw[<-e2];exact hn h1.symm h2.symm)
    ·exact ih ha' hb'
theorem Lu{l m:List Step}(hok:∀s∈l,okSt s)(h1:m.Pairwise Qg)(h2:∀s∈m,s∈l)(h3:∀s∈l,∃s'∈m,s'.src=s.src/\s'.dst=s.dst/\s'.kind<=s.kind):WM l=m:=by
 obtain⟨g1,g2,g3⟩:=FH hok;refine Kw g1 h1 fun s=>⟨fun hs=>?_,fun hs=>?_⟩
 ·obtain⟨a,ha,h4,h5,h6⟩:=h3 s (g2 s hs);obtain⟨b,hb,h7,h8,h9⟩:=g3 a (h2 a ha);have:=SG g1 hb hs (h7.trans h4) (h8.trans h5);subst this;have:a=b:=KF h4 h5 (by omega);rw[<-this];exact ha
 ·obtain⟨a,ha,h4,h5,h6⟩:=g3 s (h2 s hs);obtain⟨b,hb,h7,h8,h9⟩:=h3 a (g2 a ha);have:=SG h1 hb hs (h7.trans h4) (h8.trans h5);subst this;have:a=b:=KF h4 h5 (by omega);rw[<-this];exact ha
theorem q2y:(QQ someP 1 f1).real=[⟨0,5,1⟩,⟨5,6,1⟩,⟨6,7,1⟩,⟨6,8,1⟩,⟨7,-1,1⟩,⟨8,-1,1⟩]:=q1i
theorem q2u:(QQ someP 0 f0).real=[⟨0,1,1⟩,⟨1,2,1⟩,⟨2,3,1⟩,⟨3,4,1⟩,⟨4,-1,1⟩]:=q1e
theorem q3z:prsW (QQ someP 1 f1) f1=[(0,1),(1,2),(2,3),(2,4),(3,5),(4,5)]:=by
 unfold prsW;rw[q2y]
 kernel_rfl
theorem q3x:prsW (QQ someP 0 f0) f0=[(0,1),(1,2),(2,3),(3,4),(4,5)]:=by
 unfold prsW;rw[q2u]
 kernel_rfl
theorem q2b:trapsW (QQ someP 1 f1) f1=[]:=by
 unfold trapsW VG;rw[q3z]
 kernel_rfl
theorem q2d:trapsW (QQ someP 0 f0) f0=[]:=by
 unfold trapsW VG;rw[q3x]
 kernel_rfl
theorem q3h:DC (QQ someP 1 f1) f1=[⟨0,5,1⟩,⟨5,6,1⟩,⟨6,7,1⟩,⟨6,8,1⟩,⟨7,-1,1⟩,⟨8,-1,1⟩]:=by
 unfold DC UB;rw[q2b,q2y];exact Lu (by unfold okSt;decide) (by decide) (by decide) (by decide)
theorem q6u{R:Int->Int->Prop}{PL:List Int}(hPL:∀x y,x∈PL->R x y->y∈PL):∀(k:Nat){x:Int},x∈PL->(∀c:Int->Nat,(∀y,c y=0\/c y=1)->(∀y,c y=1->Rch R x y)->(PL.map c).sum<k)->∃y,Rch R x y/\∀z,Rch R y z->Rch R z y
 |0,x,_,hk=>absurd (hk (fun _=>0) (fun _=>.inl rfl) (fun _ h=>by cases h)) (Nat.not_lt_zero _)
 | k+1,x,hx,hk=>by
   by_cases h:∀z,Rch R x z->Rch R z x
   ·exact⟨x,.refl,h⟩
   ·obtain⟨z,hz⟩:=Classical.not_forall.1 h;obtain⟨h1,h2⟩:=Classical.not_imp.1 hz;have hzp:z∈PL:=h1.closed (S:=fun y=>y∈PL) hPL hx;obtain⟨y,h3,h4⟩:=q6u hPL k hzp fun c hc hr=>by
     have hcx:c x=0:=by
      rcases hc x with h5|h5
      ·exact h5
      ·exact absurd (hr x h5) h2
     have h6:(PL.map c).sum<(PL.map fun y=>if y=x then 1 else c y).sum:=CU (fun y _=>by
      split
      ·rename_i e;rw[e,hcx];exact q7c _
      ·exact q8z _) ⟨x,hx,by simp[hcx]⟩
     have h7:=hk (fun y=>if y=x then 1 else c y) (fun y=>by
      split
      ·exact .inr rfl
      ·exact hc y) (fun y hy=>by
      split at hy
      ·rename_i e;rw[e];exact .refl
      ·exact h1.trans (hr y hy))
     omega
    exact⟨y,h1.trans h3,h4⟩
theorem CY{c:Int->Nat}(h:∀y,c y=0\/c y=1):∀l:List Int,(l.map c).sum<=l.length
 |[]=>by simp
 | a::r=>by
   have h1:=CY h r;have h2:=h a;simp only[q8f,x2c,q8s];omega
def plL(p:Pg)(j:Nat)(f:Pr):List Int:=0::(-1)::Zj (QM p.procs j) (QU f.body)
theorem C3{p:Pg}{j:Nat}{f:Pr}:x∈plL p j f↔plP p j f x:=by
 unfold plL plP;simp only[q7r];refine or_congr Iff.rfl (or_congr Iff.rfl ⟨fun h=>?_,fun h=>Ma h.1 h.2⟩);have:=Me h;omega
theorem OR{p:Pg}(h:QO p=true){j:Nat}{f:Pr}(hj:p.procs[j]?=some f)(hx:plP p j f x):∃y,Rch (wR p j f) x y/\∀z,Rch (wR p j f) y z->Rch (wR p j f) z y:=
 q6u (PL:=plL p j f) (fun a b _ hab=>C3.2 (ID h hj hab).2) ((plL p j f).length+1) (C3.2 hx) fun _ hc _=>Nat.lt_succ_of_le (CY hc _)
theorem H7{p:Pg}(h:QO p=true){j:Nat}{f:Pr}(hj:p.procs[j]?=some f):¬wR p j f a 0:=fun⟨s,hs,_,hd⟩=>by
 have h1:=((Q7 h hj).2.1 s (((KS h hj).2 s).1 hs)).2;unfold okI at h1;omega
theorem Bp{p:Pg}(h:QO p=true){j:Nat}{f:Pr}(hj:p.procs[j]?=some f)(hr:Rch (wR p j f) a 0):a=0:=by
 cases hr with
 |refl=>rfl
 |tail _ h2=>exact absurd h2 (H7 h hj)
theorem Mh{p:Pg}(h:QO p=true){j:Nat}{f:Pr}(hj:p.procs[j]?=some f):wR p j f 0 (q2o p j f):=⟨⟨0,q2o p j f,1⟩,((KS h hj).2 _).2 (by unfold QP q2o;exact q7d),rfl,rfl⟩
theorem CP{p:Pg}(h:QO p=true){j:Nat}{f:Pr}(hj:p.procs[j]?=some f){r:Int}(hr:plP p j f r)(hcl:∀b c,sccP (wR p j f) r b->wR p j f b c->sccP (wR p j f) r c)(h0:¬sccP (wR p j f) r 0)(hx:¬sccP (wR p j f) r (-1)):∃t∈flL f.body,sccP (wR p j f) r t.id/\t.kind=10:=by
 refine x0k fun hno=>hx ?_;have hrr:(QM p.procs j:Int)+1<=r/\r<=(QM p.procs j+QU f.body:Nat):=by
  rcases hr with rfl|rfl|h1
  ·exact absurd (sccP.refl 0) h0
  ·exact absurd (sccP.refl (-1)) hx
  ·exact h1
 obtain⟨t,ht,_,hti⟩:=LJ h hj hrr.1 hrr.2;exact C4 h hj (T:=fun y=>sccP (wR p j f) r y) (fun a b ha hab=>hcl a b ha hab) (fun u hu hs hk=>hno ⟨u,hu,hs,hk⟩) ht (by rw[hti];exact sccP.refl r)
theorem CX{p:Pg}(h:QO p=true){j:Nat}{f:Pr}(hj:p.procs[j]?=some f){t:S}(ht:t∈flL f.body):IV p t.id=some t:=by
 have hb:=WG (QD h).1 hj ht;obtain⟨u,hu,h1,h2⟩:=LJ h hj hb.1 hb.2;obtain⟨it,hi,rfl⟩:=Oh (p:=p) (j:=j) ht;obtain⟨iu,hiu,rfl⟩:=Oh (p:=p) (j:=j) hu;rw[Ib (QD h).1 hj hiu hi h2]at h1;exact h1
theorem DT{p:Pg}(h:QO p=true){j:Nat}{f:Pr}(hj:p.procs[j]?=some f){s:Step}:s∈UB (QQ p j f) f ↔ ∃l∈trapsW (QQ p j f) f,∃t∈flL f.body,t.id∈l/\t.kind=10/\s=⟨t.id,-1,3⟩:=by
 unfold UB;constructor
 ·intro hs;obtain⟨l,hl,hs⟩:=q8r.1 hs;obtain⟨id,hid,hs⟩:=q8r.1 hs;have hb:=(Rv h hj hl).2 id hid;obtain⟨t,ht,h1,h2⟩:=LJ h hj hb.1 hb.2;have e:(QQ p j f).p=p:=rfl;unfold vOf at hs;rw[e,h1]at hs;simp only at hs;split at hs
  ·rename_i hk;exact⟨l,hl,t,ht,by rw[h2];exact hid,hk,by rw[h2];simpa using hs⟩
  ·cases hs
 ·rintro⟨l,hl,t,ht,hid,hk,rfl⟩;refine q8r.2 ⟨l,hl,q8r.2 ⟨t.id,hid,?_⟩⟩;have e:(QQ p j f).p=p:=rfl;unfold vOf;rw[e,CX h hj ht];simp[hk]
theorem Gj{p:Pg}(h:QO p=true){j:Nat}{f:Pr}(hj:p.procs[j]?=some f):∀s∈UB (QQ p j f) f++(QQ p j f).real,okSt s:=fun s hs=>
 (q7a.1 hs).elim ((q0w h hj).virt_ok s) ((q0w h hj).hok s)
theorem Gy{p:Pg}(h:QO p=true){j:Nat}{f:Pr}(hj:p.procs[j]?=some f){s:Step}(hs:s∈UB (QQ p j f) f++(QQ p j f).real):stR (DC (QQ p j f) f) s.src s.dst:=by
 obtain⟨s',h1,h2,h3,_⟩:=(FH (Gj h hj)).2.2 s hs;exact⟨s',h1,h2,h3⟩
theorem TA{p:Pg}(h:QO p=true){j:Nat}{f:Pr}(hj:p.procs[j]?=some f)(hx:plP p j f x):Rch (stR (DC (QQ p j f) f)) x (-1):=by
 have hm:∀a b,wR p j f a b->stR (DC (QQ p j f) f) a b:=fun a b ⟨s,hs,h1,h2⟩=>by
  rw[<-h1,<-h2];exact Gy h hj (q7a.2 (.inr hs))
 obtain⟨y,h1,h2⟩:=OR h hj hx;have hy:=IQ h hj hx h1;have hcl:∀b c,sccP (wR p j f) y b->wR p j f b c->sccP (wR p j f) y c:=fun b c hb hbc=>by
  have h3:Rch (wR p j f) y c:=.tail hb.1 hbc;exact⟨h3,h2 c h3⟩
 by_cases hxe:sccP (wR p j f) y (-1)
 ·exact(h1.trans hxe.1).mono hm
 have h0:¬sccP (wR p j f) y 0:=fun hs=>by
  have hy0:=Bp h hj hs.1;subst hy0;have h3:=h2 _ (.tail .refl (Mh h hj));have h4:=Bp h hj h3;have h5:=Mh h hj;rw[h4]at h5;exact H7 h hj h5
 obtain⟨l,hl,hlm⟩:=OT h hj hy hcl h0 hxe;obtain⟨t,ht,h3,h4⟩:=CP h hj hy hcl h0 hxe;have hv:(⟨t.id,-1,3⟩:Step)∈UB (QQ p j f) f:=(DT h hj).2 ⟨l,hl,t,ht,(hlm _).2 ⟨IQ h hj hy h3.1,h3⟩,h4,rfl⟩;exact .tail ((h1.trans h3.1).mono hm) (Gy h hj (q7a.2 (.inl hv)))
theorem Gu{p:Pg}(h:QO p=true){j:Nat}{f:Pr}(hj:p.procs[j]?=some f):(DC (QQ p j f) f).length<=200000:=by
 obtain⟨_,_,hcn⟩:=XP h;obtain⟨_,_,_,hlen,hsp⟩:=QV p;obtain⟨_,_,hle,_⟩:=hsp j f hj;obtain⟨h1,h2,_⟩:=FH (Gj h hj);have h3:=FG (l:=DC (QQ p j f) f) (m:=(QQ p j f).real++(Zj (QM p.procs j) (QU f.body)).map fun id=>⟨id,-1,3⟩) (Eu h1) fun s hs=>by
  rcases q7a.1 (h2 s hs)with h4|h4
  ·obtain⟨l,hl,t,ht,hid,hk,rfl⟩:=(DT h hj).1 h4;have hb:=WG (QD h).1 hj ht;exact q7a.2 (.inr (q7s.2 ⟨t.id,Ma hb.1 hb.2,rfl⟩))
  ·exact q7a.2 (.inl h4)
 rw[q7b,q7f]at h3;have h4:=La hj hcn;have h5:(Zj (QM p.procs j) (QU f.body)).length=QU f.body:=by unfold Zj;simp
 omega
theorem T8{p:Pg}(h:QO p=true)(n:Int):∃(k:Nat) (f:Pr),p.procs[k]?=some f/\X7 p (ZL p n)=some (QQ p k f)/\q2x p (ZL p n)=(f,true):=by
 have hne:0<p.procs.length:=by
  obtain⟨_,hb,_⟩:=JT (QD h).2.1;cases hp:p.procs with
  | nil=>
    unfold ZD procsN at hb;rw[hp]at hb;simp at hb
  |cons a r=>simp
 have hr:=ML (n:=n) (k:=p.procs.length) (by omega);have hlt:(F9 n p.procs.length).toNat<p.procs.length:=by omega
 have e:ZL p n=(p.procs[(F9 n p.procs.length).toNat]).name:=by unfold ZL;rw[q7g hlt]
 cases hw:X7 p (ZL p n)with
 | none=>
   exfalso;unfold X7 at hw;rw[h,q8g]at hw;cases hf:p.procs.find? (fun f=>f.name==ZL p n)with
   | none=>
     have:=x0o.1 hf _ (q7i hlt);simp[e]at this
   |some g=>rw[hf]at hw;cases hw
 | some w=>
   obtain⟨k,f,hkj,rfl,_,hfn,hfind⟩:=KI hw;exact⟨k,f,hkj,rfl,by unfold q2x;rw[hfind]⟩
theorem O6{p:Pg}(h:QO p=true){j:Nat}{f:Pr}(hj:p.procs[j]?=some f){x:RI}(hx:x∈HE f):x.s∈flL f.body:=by
 rw[Zt (QD h).1 (q8u hj)]at hx;rw[<-show(flatU f).map RI.s=flL f.body from N5 1 0 false f.body];exact q7s.2 ⟨x,hx,rfl⟩
def RI0:RI:=⟨.mk 0 0 [] [] [] (.mk 0 0 [] []) false [] [] [],0,0,false⟩
def RJ(id:Int)(f:Pr):Option (RI×Str):=((HE f).find? fun x=>decide (x.s.id=id)).map fun x=>(x,f.name)
def N1(p:Pg)(id:Int):Option (RI×Str):=p.procs.findSome? (RJ id)
def WI(p:Pg)(id:Int):RI×Str×Bool:=match N1 p id with
 |some (x,n)=>(x,n,true)
 |none=>(RI0,[],false)
theorem OD:Sub (.agg [.int .i64 0,.int .i64 0,.nils,.str [],.str [],.int .i64 0,.int .i64 0,.str [],.nils,.ff,.nils,.nils,.nils,.int .i64 0,.int .i64 0,.ff]) (.agg RI0.cells):=
 Sub.agg (by repeat' (first|exact SubL.nil|refine SubL.cons ?_ ?_|exact Sub.nils|exact Sub.ff rfl|exact Sub.refl _))
theorem S4{l:List RI}{q:RI->Bool}{k:Nat}(hk:k<l.length):(l.drop k).find? q=if q l[k]then some l[k]else(l.drop (k+1)).find? q:=by
 rw[QB hk,x2s];cases q l[k]<;>rfl
theorem Xz(p:Pg)(id:Int):SpecP prog 51 [.agg p.cells,.int .i64 id] (fun r=>r=.tup [.agg (WI p id).1.cells,.str (WI p id).2.1,.bool (WI p id).2.2]):=by
 refine sB BA func51 rfl call51 ?_;conv=>whnf
 have hpl:(p.procs.map fun f=>AV.agg f.cells).length=p.procs.length:=q7f _;repeat' (refine iM fun _=>?_;conv=>whnf)
 refine LoopK.inv QK (fun j:Nat=>⟨[(1,.p (.int .i64 id)),(4,.ptr 1 0),(12,.p (.sl (p.procs.map fun f=>.agg f.cells))),(13,.p (.int .i64 (p.procs.map fun f=>AV.agg f.cells).length)),(14,.p (.int .i64 j))],[(1,.obj 101 [.p (.int .i64 0),.p (.int .i64 0),.p .nils,.p (.str []),.p (.str []),.p (.int .i64 0),.p (.int .i64 0),.p (.str []),.p .nils,.p .ff,.p .nils,.p .nils,.p .nils,.p (.int .i64 0),.p (.int .i64 0),.p .ff])]⟩) (fun j=>j<=p.procs.length/\(p.procs.drop j).findSome? (RJ id)=N1 p id) (fun j=>p.procs.length-j) 0 (Le.of_eq rfl) ⟨q7c _,rfl⟩ ?_;rintro j ⟨h2,h3⟩;rcases q7e j p.procs.length with hj|hj;rotate_left 1
 ·rw[q8v hj,List.findSome?_nil]at h3;have hO:WI p id=(RI0,[],false):=by unfold WI;rw[<-h3]
  rw[hO];conv=>whnf
  repeat' (first|(refine q7p rfl ?_;conv=>whnf)|(apply bD<;>intro _<;>first|omega|conv=>whnf))
  exact⟨_,.p (Sub.tup (SubL.cons OD (SubL.cons (Sub.refl _) (SubL.cons (Sub.ff rfl) SubL.nil)))),rfl⟩
 rw[QB hj,List.findSome?_cons]at h3;conv=>whnf
 repeat' (first|((first|(refine iM fun _=>?_)|refine q7p rfl ?_|(refine iA fun _=>?_)|refine cP (KO _) ?_);conv=>whnf)|(apply bD<;>intro _<;>first|omega|conv=>whnf))
 have hrl:((HE p.procs[j]).map fun i=>AV.agg i.cells).length=(HE p.procs[j]).length:=q7f _;have hff:RJ id p.procs[j]=((HE p.procs[j]).find? fun x=>decide (x.s.id=id)).map fun x=>(x,p.procs[j].name):=rfl;rw[hff]at h3;have hfl:=Dk p.procs[j];generalize HE p.procs[j]=F at hrl hfl h3⊢;refine LoopK.inv QK (fun k:Nat=>⟨[(1,.p (.int .i64 id)),(4,.ptr 1 0),(8,.p (.ip p.procs[j].cells)),(12,.p (.sl (p.procs.map fun f=>.agg f.cells))),(13,.p (.int .i64 (p.procs.map fun f=>AV.agg f.cells).length)),(14,.p (.int .i64 j)),(19,.p (q1x F)),(20,.p (.int .i64 (F.map fun i=>AV.agg i.cells).length)),(21,.p (.int .i64 k))],[(1,.obj 101 [.p (.int .i64 0),.p (.int .i64 0),.p .nils,.p (.str []),.p (.str []),.p (.int .i64 0),.p (.int .i64 0),.p (.str []),.p .nils,.p .ff,.p .nils,.p .nils,.p .nils,.p (.int .i64 0),.p (.int .i64 0),.p .ff])]⟩) (fun k=>k<=F.length/\(F.drop k).find? (fun x=>decide (x.s.id=id))=F.find? fun x=>decide (x.s.id=id)) (fun k=>F.length-k) 0 (Le.of_eq rfl) ⟨q7c _,rfl⟩ ?_;rintro k ⟨h4,h5⟩;rcases q7e k F.length with hk|hk;rotate_left 1
 ·rw[q8v hk,List.find?_nil]at h5;rw[<-h5]at h3;conv=>whnf
  repeat' (first|(refine wI ?_;conv=>whnf)|(apply bD<;>intro _<;>first|omega|conv=>whnf))
  exact⟨j+1,⟨hj,h3⟩,by omega,Le.of_eq rfl⟩
 rw[S4 hk]at h5;conv=>whnf
 repeat' (first|((first|refine dA ?_|refine q7p rfl ?_|(refine iA fun _=>?_)|refine wI ?_);conv=>whnf)|(apply bD<;>intro _<;>first|omega|conv=>whnf))
 ·have hid:F[k].s.id=id:=by assumption
  rw[if_pos (x0b hid)]at h5;rw[<-h5]at h3;have hO:WI p id=(F[k],p.procs[j].name,true):=by unfold WI;rw[<-h3];rfl
  rw[hO];exact⟨_,.p (Sub.tup (SubL.cons (Sub.refl _) (SubL.cons (Sub.refl _) (SubL.cons (Sub.tt rfl) SubL.nil)))),rfl⟩
 ·have hid:¬F[k].s.id=id:=by assumption
  rw[if_neg (by simpa using hid)]at h5;exact⟨k+1,⟨hk,h5⟩,by omega,Le.of_eq rfl⟩
theorem X8(l:List Int)(x:Int):SpecP prog 35 [QA l,.int .i64 x] (fun r=>r=.bool (Pu l x)):=by
 refine sB BM func35 rfl call35 ?_;conv=>whnf
 repeat' (refine cP (UP _ _) ?_;conv=>whnf)
 exact RetK.bool rfl
def DO(l:List Int)(n:Int):Int:=if l=[]then 0 else l.getD (F9 n l.length).toNat 0
theorem Xw(l:List Int)(n:Int)(hl:l.length<=1000000):SpecP prog 32 [QA l,.int .i64 n] (fun r=>r=.int .i64 (DO l n)):=by
 refine sB BE func32 rfl call32 ?_;conv=>whnf
 have hll:(l.map (AV.int .i64)).length=l.length:=q7f _;have hr:=fun h:0<(l.length:Int)=>ML (n:=n) h;repeat' (first|((first|(refine iM fun _=>?_)|(refine CallK.pure (GO n (l.length:Int) (by omega)) (.cons (Sub.refl _) (.cons (Sub.int (by omega)) .nil)) ?_;rintro _ rfl));conv=>whnf)|(apply bD<;>intro _<;>first|omega|conv=>whnf))
 all_goals first
  |exact RetK.p (by unfold DO;rw[if_pos (x2h.1 (by omega))];rfl)
  |skip
 have h1:=hr (by omega);have hg:(l.map (AV.int .i64))[(F9 n l.length).toNat]?=some (.int .i64 (DO l n)):=by
  unfold DO;rw[if_neg (fun h=>by subst h;simp at h1;omega),q7h,q7l,q7g (by omega)];rfl
 refine IdxK.at (k:=(F9 n l.length).toNat) (by omega) hg rfl ?_;conv=>whnf
 skip
 exact RetK.int rfl
theorem JU(p:Pg)(id:Int):SpecP prog 15 [.agg p.cells,.int .i64 id] (fun r=>r=.str (WI p id).2.1):=by
 refine sB HL func15 rfl call15 ?_;conv=>whnf
 repeat' ((first|refine cP (Xz _ _) ?_|refine q7p rfl ?_);conv=>whnf)
 exact RetK.p rfl
theorem Wr.u64{n:Int}{K:Int->Prop}(h1:0<=n)(h2:n<=18446744073709551615)(hk:K n):Wr .u64 n K:=
 .fit ⟨by simp[IntKind.min,IntKind.signed];omega,by simp[IntKind.max,IntKind.signed,IntKind.bits];omega⟩ hk
theorem TV{P:Program}{hr:Bool}{s:St}{o:Oper}{K:LV->Prop}{t u:TypeId}{x y:Operand}(hop:o.op=.binOp .shr t x y u)(ha:0<=a)(hx:QL s.sl x=.p (.int .u64 a))(hy:QL s.sl y=.p (.int .u64 1)){m:Int}(hm:m=a/2)(hK:K (.p (.int .u64 m))):ValO P hr s o K:=by
 subst hm;refine⟨fun σ β ac w hs _=>⟨_,.int .u64 (a/2),hK,.p (.int _ _),fun w' _ _=>?_⟩⟩;have h1:=QZ hs x;have h2:=QZ hs y;rw[hx]at h1;rw[hy]at h2;cases h1 with
 | p h1=>
   cases h2 with
   | p h2=>
     have key:∀(n:Int)(v:Value),Rep σ (.int .u64 n) v->v=.int .u64 n:=fun n v hv=>by
      cases hv;rfl
     have e1:=key _ _ h1;have e2:=key _ _ h2;have e3:a.fdiv (2^1)=a/2:=Int.fdiv_eq_ediv_of_nonneg _ (by decide);have hg:(eqGuard .shr t x y (.int .u64 a) (.int .u64 1)).run P w'=.ok () w':=by unfold eqGuard;rfl
     simp only[execOp,hop,e1,e2,Sem.run_bind,hg,Result.andThen_ok,binOp,Op.shift];rw[if_neg (by decide)];simp only[show min (1:Int).toNat IntKind.u64.bits=1 by decide,e3];rfl
theorem ZO(l m:List Str):SpecP prog 89 [eStrs l,eStrs m] (fun r=>r=.bool (decide (l=m))):=by
 refine sB YQ func89 rfl call89 ?_;conv=>whnf
 have h1:(l.map AV.str).length=l.length:=q7f _;have h2:(m.map AV.str).length=m.length:=q7f _;repeat' (first|(refine iM fun _=>?_;conv=>whnf)|(apply bE<;>intro _<;>first|omega|conv=>whnf))
 all_goals first
  |exact RetK.ff (x0y fun h=>by subst h;omega)
  |skip
 have hlen:l.length=m.length:=by omega
 refine LoopK.inv QK (fun j:Nat=>⟨[(0,.p (eStrs l)),(1,.p (eStrs m)),(12,.p (.int .i64 (l.map AV.str).length)),(13,.p (.int .i64 j))],[]⟩) (fun j=>j<=l.length/\l.take j=m.take j) (fun j=>l.length-j) 0 (Le.of_eq rfl) ⟨q7c _,rfl⟩ ?_;rintro j ⟨h3,h4⟩;rcases q7e j l.length with hj|hj
 ·have hjm:j<m.length:=by omega
  have hst:l[j]=m[j]->l.take (j+1)=m.take (j+1):=fun he=>by rw[q8q hj,q8q hjm,h4,he]
  have hno:l[j]≠m[j]->¬l=m:=fun hne he=>hne (by subst he;rfl);conv=>whnf
  repeat' (first|((first|refine dA ?_|(refine iA fun _=>?_)|refine wI ?_);conv=>whnf)|(apply bD<;>intro _<;>first|omega|conv=>whnf)|(apply bN<;>intro _<;>conv=>whnf))
  all_goals first
   | (have h9:l[j]=m[j]:=eq_of_beq (by assumption)
      exact⟨j+1,⟨hj,hst h9⟩,by omega,Le.of_eq rfl⟩)
   | (have h9:¬l[j]=m[j]:=by
       have h8:(l[j]==m[j])=false:=by assumption
       simpa using h8
      exact RetK.ff (x0y (hno h9)))
 ·rw[q8y hj,q8y (by omega)]at h4;conv=>whnf
  repeat' (apply bD<;>intro _<;>first|omega|conv=>whnf)
  all_goals exact RetK.tt (x0b h4)
theorem UY(a:Str):SpecP prog 162 [.str a] (fun r=>r=.bool false):=by
 refine sB BF func162 rfl call162 ?_;conv=>whnf
 skip
 all_goals exact RetK.bool (by simp)
theorem BZ(a:Str):SpecP prog 200 [.str a] (fun r=>r=.bool false):=by
 refine sB HX func200 rfl call200 ?_;conv=>whnf
 skip
 all_goals exact RetK.bool (by simp)
theorem Zx(a b:Str):SpecP prog 199 [.str a,.str b] (fun r=>r=.bool (Op.bytesLess a b)):=by
 refine sB PO func199 rfl call199 ?_;conv=>whnf
 repeat' (first|(refine cP (UY a) ?_;conv=>whnf)|(apply bB<;>intro _<;>conv=>whnf))
 all_goals first
  |contradiction
  |exact RetK.p rfl
theorem VH(l:List Str)(x:Str)(hs:l.Pairwise ltT)(hlen:l.length<=1000000000):SpecP prog 158 [eStrs l,.str x] (fun r=>∃k:Int,r=.tup [.int .i64 k,.bool (inS l x)]):=by
 refine sB WB func158 rfl call158 ?_;conv=>whnf
 have hll:(l.map AV.str).length=l.length:=q7f _;repeat' (refine iM fun _=>?_;conv=>whnf)
 refine LoopK.inv QK (fun y:Nat×Nat=>⟨[(0,.p (eStrs l)),(1,.p (.str x)),(6,.p (.int .i64 (l.map AV.str).length)),(7,.p (.int .i64 y.1)),(8,.p (.int .i64 y.2))],[]⟩) (fun y=>y.1<=y.2/\y.2<=l.length/\(∀(k:Nat)(h:k<l.length),k<y.1->ltT l[k] x)/\∀(k:Nat)(h:k<l.length),y.2<=k->¬ltT l[k] x) (fun y=>y.2-y.1) (0,l.length) (Le.of_eq (by rw[hll];rfl)) ⟨q7c _,q8z _,fun k h h1=>by simp only at h1;omega,fun k h h1=>by simp only at h1;omega⟩ ?_;rintro⟨i,j⟩ ⟨h1,h2,h3,h4⟩;simp only at h1 h2 h3 h4⊢;have hlt:∀(a b:Nat)(ha:a<l.length)(hb:b<l.length),a<b->ltT l[a] l[b]:=fun a b ha hb hab=>x2v.1 hs a b ha hb hab;rcases q7e i j with hij|hij
 ·have hh:(i+j)/2<l.length:=by omega
  have hL:=Zx l[(i+j)/2] x;conv=>whnf
  repeat' (first|((first|(refine iA fun _=>?_)|refine wI ?_|refine Wr.u64 (by omega) (by omega) ?_|refine TV rfl (by omega) rfl rfl (m:=(((i+j)/2:Nat):Int)) (by omega) ?_|refine cP hL ?_);conv=>whnf)|(apply bD<;>intro _<;>first|omega|conv=>whnf)|(apply bB<;>intro _<;>conv=>whnf))
  all_goals first
   | (have h9:Op.bytesLess l[(i+j)/2] x=true:=by assumption
      refine⟨((i+j)/2+1,j),⟨by simp only;omega,h2,fun k hk hk2=>?_,h4⟩,by simp only;omega,Le.of_eq rfl⟩;simp only at hk2;rcases q7e k ((i+j)/2)with h10|h10
      ·exact ltT.trans _ _ _ (hlt _ _ hk hh h10) h9
      ·have:k=(i+j)/2:=by omega
       subst this;exact h9)
   | (have h9:Op.bytesLess l[(i+j)/2] x=false:=by assumption
      have h11:¬ltT l[(i+j)/2] x:=fun h=>by unfold ltT at h;rw[h9]at h;cases h
      refine⟨(i,(i+j)/2),⟨by simp only;omega,by simp only;omega,h3,fun k hk hk2 h12=>?_⟩,by simp only;omega,Le.of_eq rfl⟩;simp only at hk2;rcases q7e ((i+j)/2) k with h10|h10
      ·exact h11 (ltT.trans _ _ _ (hlt _ _ hh hk h10) h12)
      ·have:k=(i+j)/2:=by omega
       subst this;exact h11 h12)
 ·obtain rfl:i=j:=by omega
  rcases q7e i l.length with hi|hi
  ·have hin:inS l x=(l[i]==x):=by
    rw[x3y,UH,x1l];constructor
    ·intro hx;obtain⟨k,hk,rfl⟩:=x0w.1 hx;rcases Nat.lt_trichotomy k i with h5|h5|h5
     ·exact absurd (h3 k hk h5) (ltT.irr _)
     ·subst h5;rfl
     ·exact absurd (hlt i k hi hk h5) (h4 i hi (q8z _))
    ·intro h5;rw[<-h5];exact q7i hi
   have hN:=BZ l[i];conv=>whnf
   repeat' (first|((first|(refine iA fun _=>?_)|refine cP hN ?_);conv=>whnf)|(apply bD<;>intro _<;>first|omega|conv=>whnf)|(apply bB<;>intro _<;>conv=>whnf))
   all_goals first
    |(exfalso;omega)
    |(exfalso;simp_all;done)
    | (have h9:inS l x=true:=by rw[hin];assumption
       exact⟨_,.p (Sub.tup (.cons (Sub.refl _) (.cons (Sub.tt h9) .nil))),_,rfl⟩)
    | (have h9:inS l x=false:=by rw[hin];assumption
       exact⟨_,.p (Sub.tup (.cons (Sub.refl _) (.cons (Sub.ff h9) .nil))),_,rfl⟩)
  ·have hin:inS l x=false:=by
    cases h5:inS l x with
    |false=>rfl
    | true=>
      obtain⟨k,hk,h6⟩:=x0w.1 (UH.1 h5);exact absurd (h3 k hk (by omega)) (by rw[h6];exact ltT.irr _)
   conv=>whnf
   repeat' (apply bD<;>intro _<;>first|omega|conv=>whnf)
   all_goals first
    |(exfalso;omega)
    |exact⟨_,.p (Sub.tup (.cons (Sub.refl _) (.cons (Sub.ff hin) .nil))),_,rfl⟩
    |exact⟨_,.p (Sub.refl _),_,by rw[hin];rfl⟩
theorem MK(l:List Str)(x:Str)(hs:l.Pairwise ltT)(hlen:l.length<=1000000000):SpecP prog 99 [eStrs l,.str x] (fun r=>r=.bool (inS l x)):=by
 refine sB Rn func99 rfl call99 ?_;conv=>whnf
 have hB:=VH l x hs hlen;repeat' (refine CallK.pure hB (.cons (Sub.refl _) (.cons (Sub.refl _) .nil)) ?_;rintro _ ⟨k,rfl⟩;conv=>whnf)
 all_goals first
  |exact RetK.p rfl
theorem Bf{σ:Mem}{a:Param}{v:Value}(h:Rep σ (.agg a.cells) v):v=.agg #[.string ⟨a.name.toArray⟩,.bool a.ref]:=by
 cases h with
 | agg cs vs u hn hc hr=>
   have hs:vs.size=2:=hn;have g0:vs[0]?=some (.string ⟨a.name.toArray⟩):=by
    have h1:=hc 0 (.str a.name) rfl;have h2:=hr 0 (.str a.name) rfl;generalize u 0=w at h1 h2;cases h2;exact h1
   have g1:vs[1]?=some (.bool a.ref):=by
    have h1:=hc 1 (.bool a.ref) rfl;have h2:=hr 1 (.bool a.ref) rfl;generalize u 1=w at h1 h2;cases h2;exact h1
   congr 1;apply Array.ext_getElem?;intro i
   match i with
   |0=>exact g0
   |1=>exact g1
   |i+2=>rw[x3h (by omega),x3h (by simp)]
instance:DecidableEq Param:=fun a b=>decidable_of_iff (a.name=b.name/\a.ref=b.ref) (by cases a;cases b;simp)
theorem ValO.params{hr:Bool}{s:St}{o:Oper}{K:LV->Prop}{x y:Operand}{u:TypeId}(hop:o.op=.binOp .eql 59 x y u){a b:Param}(hx:QL s.sl x=.p (.agg a.cells))(hy:QL s.sl y=.p (.agg b.cells))(hK:K (.p (.bool (decide (a=b))))):ValO prog hr s o K:=by
 refine⟨fun σ β ac w hs _=>⟨_,.bool (decide (a=b)),hK,.p (.bool _),fun w' _ _=>?_⟩⟩;have h1:ac.eval x=.agg #[.string ⟨a.name.toArray⟩,.bool a.ref]:=by
  have:=QZ hs x;rw[hx]at this;cases this with
  |p h=>exact Bf h
 have h2:ac.eval y=.agg #[.string ⟨b.name.toArray⟩,.bool b.ref]:=by
  have:=QZ hs y;rw[hy]at this;cases this with
  |p h=>exact Bf h
 have hu:prog.underlying 59=some (.struct (prog.fieldsOf 59)):=by kernel_rfl
 have hs':prog.underlying 9=some .string:=by kernel_rfl
 have hb':prog.underlying 4=some .bool:=by kernel_rfl
 have hf:(prog.fieldsOf 59).toList=(match ty59.desc with |.struct fs=>fs.toList|_=>[]):=by kernel_rfl
 have he:(Op.equalIn 10000 59 (.agg #[.string ⟨a.name.toArray⟩,.bool a.ref]) (.agg #[.string ⟨b.name.toArray⟩,.bool b.ref])).run prog w'=.ok (decide (a=b)) w':=by
  rw[run_equalIn_struct w' 9999 _ _ _ hu (by kernel_rfl),hf];simp only[ty59,Op.eqFields];have p0:∀(x:ByteArray)(y:Bool),(part 9 #[.string x,.bool y] 0).run prog w'=.ok (.string x) w':=fun x y=>run_part_plain w' (by kernel_rfl) rfl;have p1:∀(x:ByteArray)(y:Bool),(part 4 #[.string x,.bool y] 1).run prog w'=.ok (.bool y) w':=fun x y=>run_part_plain w' (by kernel_rfl) rfl;have es:∀x y:ByteArray,(Op.equalIn 9999 9 (.string x) (.string y)).run prog w'=.ok (x.toList==y.toList) w':=fun x y=>run_equalIn_string (P:=prog) w' 9998 9 x y hs';have eb:∀x y:Bool,(Op.equalIn 9999 4 (.bool x) (.bool y)).run prog w'=.ok (x==y) w':=fun x y=>run_equalIn_bool (P:=prog) w' 9998 4 x y hb';have e:decide (a=b)=(((⟨a.name.toArray⟩:ByteArray).toList==(⟨b.name.toArray⟩:ByteArray).toList)&&(a.ref==b.ref)):=by
   rw[ByteArray.toList_eq,ByteArray.toList_eq,x3y,x2t,q8j,x1l,x1l];cases a;cases b;simp
  simp only[ne_eq,show ¬("Name" = "_") by decide,show ¬("Ref" = "_") by decide,not_false_eq_true,if_true,Sem.run_bind,p0,p1,Result.andThen_ok,es,eb,Sem.run_ite,Sem.run_pure,e];cases((⟨a.name.toArray⟩:ByteArray).toList==(⟨b.name.toArray⟩:ByteArray).toList)<;>cases(a.ref==b.ref)<;>simp
 simp only[execOp,hop,h1,h2,Sem.run_bind,run_eqGuard_agg _ _ _ _ _ _ _ (show prog.eqGuardType prog.depth 59=false by kernel_rfl),Result.andThen_ok,run_eql_struct,he,Sem.run_pure]
theorem VI(l:List Param)(x:Param):SpecP prog 189 [.sl (l.map fun a=>.agg a.cells),.agg x.cells] (fun r=>∃k:Int,r=.int .i64 k/\(0<=k↔x∈l)):=by
 refine sB WA func189 rfl call189 ?_;conv=>whnf
 have hll:(l.map fun a=>AV.agg a.cells).length=l.length:=q7f _;repeat' (refine iM fun _=>?_;conv=>whnf)
 refine LoopK.inv QK (fun j:Nat=>⟨[(0,.p (.sl (l.map fun a=>.agg a.cells))),(3,.p (.ip x.cells)),(7,.p (.int .i64 (l.map fun a=>AV.agg a.cells).length)),(8,.p (.int .i64 j))],[]⟩) (fun j=>j<=l.length/\x∉l.take j) (fun j=>l.length-j) 0 (Le.of_eq rfl) ⟨q7c _,by simp⟩ ?_;rintro j ⟨h2,h3⟩;rcases q7e j l.length with hj|hj
 ·have htk:x∈l.take (j+1)↔x∈l.take j\/x=l[j]:=ZQ hj;conv=>whnf
  repeat' (first|((first|refine dA ?_|(refine iA fun _=>?_)|refine wI ?_|refine ValO.params (a:=x) (b:=l[j]) rfl rfl rfl ?_);conv=>whnf)|(apply bD<;>intro _<;>first|omega|conv=>whnf))
  all_goals first
   | (have h9:x=l[j]:=by assumption
      exact⟨_,.p (Sub.refl _),j,rfl,⟨fun _=>by rw[h9];exact q7i hj,fun _=>by omega⟩⟩)
   | (have h9:¬x=l[j]:=by assumption
      exact⟨j+1,⟨hj,fun h8=>(htk.1 h8).elim h3 h9⟩,by omega,Le.of_eq rfl⟩)
 ·rw[q8y hj]at h3;conv=>whnf
  repeat' (apply bD<;>intro _<;>first|omega|conv=>whnf)
  all_goals exact⟨_,.p (Sub.refl _),-1,rfl,by simp[h3]⟩
theorem WT(l:List Param)(x:Param):SpecP prog 147 [.sl (l.map fun a=>.agg a.cells),.agg x.cells] (fun r=>r=.bool (decide (x∈l))):=by
 refine sB WZ func147 rfl call147 ?_;conv=>whnf
 have hI:=VI l x;repeat' (refine CallK.pure hI (.cons (Sub.refl _) (.cons (Sub.refl _) .nil)) ?_;rintro _ ⟨k,rfl,hk⟩;conv=>whnf)
 all_goals first
  |exact RetK.bool (by rw[x3y,x2t,x2t];exact hk)
theorem q0r{p:Pg}(h:QO p=true){j:Nat}{f:Pr}(hj:p.procs[j]?=some f):∀s∈J0 (QQ p j f) f,okSt s:=fun s hs=>by
 unfold J0 at hs;rcases q7a.1 hs with hs|hs
 ·rcases q7a.1 hs with hs|hs
  ·exact Gj h hj s hs
  ·rw[q7m.1 hs];exact⟨by decide,by decide⟩
 ·obtain⟨it,hi,hs⟩:=q8r.1 hs;exact Lv h hj it hi s hs
theorem q3s{p:Pg}(h:QO p=true){j:Nat}{f:Pr}(hj:p.procs[j]?=some f){it:Item}(hi:it∈itsOf p j f):(sheetOf p).l[(it.s.id-1).toNat]?=some it:=by
 have hb:=WG (QD h).1 hj (Zk hi);obtain⟨it',h1,h2⟩:=KC hj (k:=(it.s.id-1).toNat) (by omega) (by omega);have h3:=Hh h hj (by omega) (by omega) h1;rw[h1,Ib (QD h).1 hj h2 hi (by omega)]
section
variable {p:Pg}{k:Nat}{f:Pr}
end
theorem Jt:∀(l:List Pr){n:Nat}{m:Int},XO n l=some m->∀(j:Nat)(f:Pr),l[j]?=some f->∃m',JY 1 ((n+QM l j:Nat):Int) f.body=some m'
 |[],_,_,_,j,f,hj=>by simp at hj
 | g::r,n,m,h,j,f,hj=>by
   rw[XO]at h;cases hm:DI g<;>rw[hm]at h
   ·cases h
   simp only[q8g]at h;split at h
   ·rename_i m1 h1;cases j with
    | zero=>
      cases hj;exact⟨m1,h1⟩
    | succ j=>
      have h2:=JR _ _ g.body h1;have h':XO ((n+QU g.body:Nat):Int) r=some m:=by rw[<-h,h2];rfl
      obtain⟨m',h3⟩:=Jt r h' j f (by simpa using hj);exact⟨m',by rw[<-h3,QM];congr 1;omega⟩
   ·cases h
theorem Om{p:Pg}(h:HY p=true){j:Nat}{f:Pr}(hj:p.procs[j]?=some f):∃m,JY 1 ((QM p.procs j:Nat):Int) f.body=some m:=by
 unfold HY at h;simp only[q8j]at h;obtain⟨m,hm⟩:=Option.isSome_iff_exists.1 h.2;obtain⟨m',h'⟩:=Jt p.procs (n:=0) hm j f hj;exact⟨m',by rw[<-h'];congr 1;omega⟩
theorem K7:∀(l:List Int)(b:List Bool)(i:Nat),i<b.length->((JX l b).getD i false=true↔b.getD i false=true\/∃a∈l,a.toNat=i)
 |[],b,i,hi=>by simp[JX]
 | a::r,b,i,hi=>by
   have ih:=K7 r (b.set a.toNat true) i (by rw[x0d];exact hi);have e:JX (a::r) b=JX r (b.set a.toNat true):=rfl;rw[e,ih];simp only[q7r,exists_eq_or_imp];by_cases ha:a.toNat=i
   ·simp[ha,hi,q7h,x2g]
   ·simp[ha,q7h,x2g]
theorem DH{p:Pg}(h:QO p=true){j:Nat}{f:Pr}(hj:p.procs[j]?=some f){y:Int}(hy:plP p j f y):(QQ p j f).live.getD (ixI p j f y).toNat false=true↔Rch (wR p j f) 0 y:=by
 have hrng:=ZA hy;have hl:(QQ p j f).live=JX (HU 0 (ZN (QC (QU f.body+2) ((QQ p j f).real.map (ixP p j f (QU f.body+2:Nat)))).1 [0])) (List.replicate (QU f.body+2) false):=rfl;rw[hl,K7 _ _ _ (by rw[q9d];omega)];have h0:(List.replicate (QU f.body+2) false).getD (ixI p j f y).toNat false=false:=by
  rw[q7h,q8l];split<;>rfl
 rw[h0];have hs:=Tb (F:=(QQ p j f).real) (WO h hj) hy;unfold wR;rw[<-hs];constructor
 ·rintro(h1|⟨a,h1,h2⟩)
  ·cases h1
  ·have ha:=H5 _ _ _ h1
   rwa[show ixI p j f y=a by omega]
 ·exact fun h1=>.inr ⟨_,h1,rfl⟩
section
variable {p:Pg}{k:Nat}{f:Pr}
end
theorem Db:∀(l:List (Int×Int))(rows:List (List Int)),(∀t∈l,0<=t.1/\t.1<rows.length)->∀(a:Nat)(x:Int),x∈(l.foldl nxE rows).getD a []↔x∈rows.getD a []\/∃t∈l,t.1=a/\t.2=x
 |[],rows,_,a,x=>by simp
 | t::r,rows,h,a,x=>by
   obtain⟨h1,h2⟩:=h t q7d;rw[x0s,Db r (nxE rows t) (fun u hu=>by rw[SL];exact h u (q7n _ hu))];have e:x∈(nxE rows t).getD a []↔x∈rows.getD a []\/(t.1=a/\t.2=x):=by
    unfold nxE;simp only[q7h,x2g];by_cases he:t.1.toNat=a
    ·subst he;have e0:t.1=(t.1.toNat:Int):=by omega
     rw[if_pos rfl,if_pos (by omega)];simp only[q9j,q7a,q7m];constructor
     ·rintro(h3|h3)
      ·exact .inl h3
      ·exact .inr ⟨e0,h3.symm⟩
     ·rintro(h3|⟨_,h3⟩)
      ·exact .inl h3
      ·exact .inr h3.symm
    ·rw[if_neg he];constructor
     ·exact .inl
     ·rintro(h3|⟨h3,_⟩)
      ·exact h3
      ·omega
   rw[e];simp only[q7r,exists_eq_or_imp,or_assoc]
theorem Uq{n:Nat}{l:List (Int×Int)}(h:∀t∈l,0<=t.1/\t.1<n){a:Nat}:x∈(MS n l).getD a [] ↔ ∃t∈l,t.1=a/\t.2=x:=by
 unfold MS;rw[Db l _ (by simpa using h)];have:(List.replicate n ([]:List Int)).getD a []=[]:=by
  rw[q7h,q8l];split<;>rfl
 rw[this];simp
mutual
theorem EJ:∀(t:S){nest seen m:Int},Bs nest seen t=some m->∀u∈flS t,oneOk u=true
 | .mk id kind labels name pr x has args thn els,nest,seen,m,h,u,hu=>by
   obtain⟨h1,_,m1,h3,h4⟩:=Qe h;rw[flS]at hu;rcases q7r.1 hu with rfl|hu
   ·exact h1
   ·rcases q7a.1 hu with hu|hu
    ·exact W3 thn h3 u hu
    ·exact W3 els h4 u hu
theorem W3:∀(l:List S){nest seen m:Int},JY nest seen l=some m->∀u∈flL l,oneOk u=true
 |[],_,_,_,_,u,hu=>by rw[flL]at hu;cases hu
 | t::r,nest,seen,m,h,u,hu=>by
   obtain⟨_,m1,h1,h2⟩:=DN h;rw[flL]at hu;rcases q7a.1 hu with hu|hu
   ·exact EJ t h1 u hu
   ·exact W3 r h2 u hu
end
theorem Ao{p:Pg}{j:Nat}{f:Pr}(h:QO p=true)(hj:p.procs[j]?=some f){t:S}(ht:t∈flL f.body):OneF t:=by
 obtain⟨m,hr⟩:=Om (QD h).1 hj;exact SC (W3 _ hr t ht)
section
variable {p:Pg}{j:Nat}{f:Pr}
def q2a(p:Pg)(j:Nat)(f:Pr):Int->Int->Prop:=stR (q6g (QQ p j f) f)
theorem M6(h:QO p=true)(hj:p.procs[j]?=some f){b:Int}:q2a p j f a b↔wR p j f a b\/(a=0/\b = -1)\/(∃l∈trapsW (QQ p j f) f,∃t∈flL f.body,t.id∈l/\t.kind=10/\a=t.id/\b = -1)\/∃it∈itsOf p j f,7<=it.s.kind/\a=it.s.id/\b=it.next:=by
 have hA:=FH (q0r h hj);have hraw:∀s,s∈J0 (QQ p j f) f↔s∈UB (QQ p j f) f\/s∈(QQ p j f).real\/s=⟨0,-1,2⟩\/s∈(itsOf p j f).flatMap fOf:=fun s=>by
  have e:J0 (QQ p j f) f=UB (QQ p j f) f++(QQ p j f).real++[⟨0,-1,2⟩]++(itsOf p j f).flatMap fOf:=rfl;rw[e];simp only[q7a,q7m,or_assoc]
 have hof:∀s∈J0 (QQ p j f) f,q2a p j f s.src s.dst:=fun s hs=>by
  obtain⟨s',h1,h2,h3,_⟩:=hA.2.2 s hs;exact⟨s',h1,h2,h3⟩
 constructor
 ·rintro⟨s,hs,rfl,rfl⟩;rcases(hraw s).1 (hA.2.1 s hs)with h1|h1|h1|h1
  ·obtain⟨l,hl,t,ht,hid,hk,rfl⟩:=(DT h hj).1 h1;exact .inr (.inr (.inl ⟨l,hl,t,ht,hid,hk,rfl,rfl⟩))
  ·exact .inl ⟨s,h1,rfl,rfl⟩
  ·rw[h1];exact .inr (.inl ⟨rfl,rfl⟩)
  ·obtain⟨it,hi,hs⟩:=q8r.1 h1;unfold fOf at hs;split at hs
   ·rw[q7m.1 hs];exact .inr (.inr (.inr ⟨it,hi,by omega,rfl,rfl⟩))
   ·cases hs
 ·rintro(⟨s,hs,rfl,rfl⟩|⟨rfl,rfl⟩|⟨l,hl,t,ht,hid,hk,rfl,rfl⟩|⟨it,hi,hk,rfl,rfl⟩)
  ·exact hof s ((hraw s).2 (.inr (.inl hs)))
  ·exact hof ⟨0,-1,2⟩ ((hraw _).2 (.inr (.inr (.inl rfl))))
  ·exact hof ⟨t.id,-1,3⟩ ((hraw _).2 (.inl ((DT h hj).2 ⟨l,hl,t,ht,hid,hk,rfl⟩)))
  ·refine hof ⟨it.s.id,it.next,2⟩ ((hraw _).2 (.inr (.inr (.inr (q8r.2 ⟨it,hi,?_⟩)))));have hF:=(Ao h hj (Zk hi)).hi;unfold fOf;rw[if_pos (by omega)];exact q7m.2 rfl
theorem IB(h:QO p=true)(hj:p.procs[j]?=some f){b:Int}(hr:q2a p j f a b):plP p j f a/\plP p j f b/\a ≠ -1/\b≠0:=by
 have hst:∀t∈flL f.body,plP p j f t.id/\t.id ≠ -1:=fun t ht=>by
  have hb:=WG (QD h).1 hj ht;exact⟨.inr (.inr hb),by omega⟩
 rcases(M6 h hj).1 hr with h1|⟨rfl,rfl⟩|⟨l,hl,t,ht,hid,hk,rfl,rfl⟩|⟨it,hi,hk,rfl,rfl⟩
 ·obtain⟨h2,h3⟩:=ID h hj h1;refine⟨h2,h3,?_,fun e=>H7 h hj (e▸h1)⟩;obtain⟨s,hs,rfl,rfl⟩:=h1;rcases Eo h hj (((KS h hj).2 s).1 hs)with h4|h4
  ·rw[h4];show(0:Int) ≠ -1;decide
  ·omega
 ·exact⟨.inl rfl,.inr (.inl rfl),by decide,by decide⟩
 ·exact⟨(hst t ht).1,.inr (.inl rfl),(hst t ht).2,by decide⟩
 ·have h1:=(Qk hi).1;unfold okI at h1;refine⟨(hst _ (Zk hi)).1,?_,(hst _ (Zk hi)).2,by omega⟩;rcases h1 with h1|h1
  ·exact .inr (.inl h1)
  ·exact .inr (.inr h1)
theorem ix_exit:ixI p j f (-1)=(QU f.body+2:Nat)-1:=by
 unfold ixI UZ;rw[if_neg (by decide),if_pos rfl]
end
def Nv(k:Int)(x:RI):Bool:=decide (k=0)||decide (x.s.kind=k)
def Jf(p:Pg)(k:Int):List Int:=((allR p).filter (Nv k)).map fun x=>x.s.id
theorem Zd(p:Pg)(k:Int)(hl:(allR p).length<=1000):SpecP prog 33 [.agg p.cells,.int .i64 k] (fun r=>r=QA (Jf p k)):=by
 refine sB NF func33 rfl call33 ?_;conv=>whnf
 have hrl:=Bm (allR p);repeat' ((first|(refine iM fun _=>?_)|refine cP (Zh _) ?_);conv=>whnf)
 refine LoopK.inv QK (fun x:Nat×List Int=>⟨[(1,.p (.int .i64 k)),(5,.hd 0 0 x.2.length),(9,.p (q1x (allR p))),(10,.p (.int .i64 ((allR p).map fun i=>AV.agg i.cells).length)),(11,.p (.int .i64 x.1))],[(0,.own 3 1 (x.2.map (.int .i64)))]⟩) (fun x=>x.1<=(allR p).length/\x.2.length<=x.1/\x.2++(((allR p).drop x.1).filter (Nv k)).map (fun y=>y.s.id)=Jf p k) (fun x=>(allR p).length-x.1) (0,[])
  (Le.mk [(0,.own 3 1 [])] (by simp[Chunk.new0];rfl) (by simp) (by simp) (.r (.cons (.nil q7d) (.r (.r (.r .nil))))) (.new q7d .nil)) ⟨q7c _,q8z _,rfl⟩ ?_
 rintro⟨j,o⟩ ⟨h2,h4,h3⟩;simp only at h2 h3 h4⊢;generalize hL:allR p=L at h2 h3 hrl hl⊢;rcases q7e j L.length with hj|hj
 ·rw [q8o hj]at h3;conv=>whnf
  repeat' (first|((first|refine q7p rfl ?_|refine aD ?_|refine bP ?_|(refine iA fun _=>?_)|refine wI ?_|refine XX (by simp) (by simp;omega) ?_);conv=>whnf)|(apply bD<;>intro _<;>first|omega|conv=>whnf))
  all_goals first
   | (have e:Nv k L[j]=true:=by unfold Nv;simp[*];done
      rw[x0n e,q8f]at h3;exact⟨(j+1,o++[L[j].s.id]),⟨hj,by simp;omega,by rw[q8d];exact h3⟩,by simp only;omega,Le.of_eq (by simp only[q7b,q7o,q7f];rfl)⟩)
   | (have e:Nv k L[j]=false:=by unfold Nv;simp[*];done
      rw[x0t (fun hh=>by rw[e]at hh;cases hh)]at h3;exact⟨(j+1,o),⟨hj,by simp only;omega,h3⟩,by simp only;omega,Le.of_eq rfl⟩)
 ·rw[q8v hj]at h3;simp only[List.filter_nil,x3q,q9h]at h3;conv=>whnf
  repeat' (apply bD<;>intro _<;>first|omega|conv=>whnf)
  all_goals first
   |exact⟨_,.hd rfl (by simp),by rw[<-h3];rfl⟩
theorem Lp:∀(l:List Pr)(k:Nat),k<cntP l->∃j f,l[j]?=some f/\QM l j<=k/\k<QM l j+QU f.body
 |[],k,h=>by rw[cntP]at h;omega
 | g::r,k,h=>by
   rw[cntP]at h;rcases q7e k (QU g.body)with hk|hk
   ·exact⟨0,g,rfl,by rw[QM];omega,by rw[QM];omega⟩
   ·obtain⟨j,f,h1,h2,h3⟩:=Lp r (k-QU g.body) (by omega);exact⟨j+1,f,by simpa using h1,by rw[QM];omega,by rw[QM];omega⟩
namespace Own
end Own
open Go.Proofs
def rng(a b:Int)(v:Int):Prop:=a<=v/\v<=b
def q6q(l:List Int)(i:Nat):Int:=l.getD i 0
def srt(K:Int->Int)(l:List Int)(a b:Nat):Prop:=∀i k,a<=i->i<k->k<b->K (q6q l k)<=K (q6q l i)
def blk(K:Int->Int)(l:List Int)(bs n:Nat):Prop:=∀q,srt K l (q*bs) (min (q*bs+bs) n)
theorem SR:∀(l:List Pr)(j:Nat),QM l j<=cntP l
 |_,0=>by rw[QM];omega
 |[],j+1=>by rw[QM];omega
 |g::r,j+1=>by rw[QM,cntP];have:=SR r j;omega
section
variable {p:Pg}{j:Nat}{f:Pr}
end
section
variable {p:Pg}{j:Nat}{f:Pr}
end
structure Book where
 s:Sheet
 ways:List Way
 defs:List (List Str)
 uses:List (List Str)
 ins:List (List Str)
 outs:List (List Str)
def Book.cells(b:Book):List AV:=[.ip b.s.cells,.sl (b.ways.map fun w=>.ip w.cells),.sl (b.defs.map eStrs),.sl (b.uses.map eStrs),.sl (b.ins.map eStrs),.sl (b.outs.map eStrs)]
def KE:Str:=[36,105,110]
def comB(p:Pg)(n:Str):Bool:=(n==KE)||p.globals.any fun s=>n==s
theorem GA(b:Book)(n:Str):SpecP prog 146 [.ip b.cells,.str n] (fun r=>r=.bool (comB b.s.p n)):=by
 refine sB NW func146 rfl call146 ?_;conv=>whnf
 repeat' (first|(refine cP (QW _ _) ?_;conv=>whnf)|(apply bB<;>intro _<;>conv=>whnf))
 all_goals first
  | (have h9:(n==KE)=true:=by assumption
     exact RetK.tt (by unfold comB;rw[h9];rfl))
  | (have h9:(n==KE)=false:=by assumption
     exact RetK.bool (by unfold comB;rw[h9,Bool.false_or]))
theorem He(p:Pg)(j:Nat)(f:Pr)(h:QO p=true)(hj:p.procs[j]?=some f)(id:Int)(hid:plP p j f id):SpecP prog 145 [.ip (QQ p j f).cells,.int .i64 id] (fun r=>r=.bool ((QQ p j f).live.getD (ixI p j f id).toNat false)):=by
 refine sB Wu func145 rfl call145 ?_;conv=>whnf
 have hT:=q0w h hj;have hI:=LB (QQ p j f) f hT.hj hT.hc (by have:=hT.hn2;have:=hT.hn;have:=hT.hw;omega) id;have he:UZ (loI (QQ p j f).p (QQ p j f).j) (hiI (QQ p j f).p (QQ p j f).j f) (QQ p j f).n id=ixI p j f id:=rfl;rw[he]at hI;have hr:=ZA hid;have hll:(QQ p j f).live.length=QU f.body+2:=by show(JX _ (List.replicate (QU f.body+2) false)).length=_;rw[DM];simp
 generalize ixI p j f id=ix at*
 have hg:((QQ p j f).live.map bv)[ix.toNat]?=some (bv ((QQ p j f).live.getD ix.toNat false)):=by
  rw[q7l,q7h,q7g (by omega)];rfl
 generalize(QQ p j f).live.getD ix.toNat false=v at*
 cases v;all_goals
  repeat' ((first|refine dA ?_|refine cP hI ?_|(refine IdxK.at (k:=ix.toNat) (by omega) hg rfl ?_));conv=>whnf)
 all_goals first
  |exact RetK.tt rfl
  |exact RetK.ff rfl
def pureL:LV->LV
 |.p a=>.p a
 |_=>.p .any
def T9:List (Nat×LV)->List (Nat×LV)
 |[]=>[]
 |(j,l)::r=>(j,pureL l)::T9 r
theorem Bb:∀(sl:List (Nat×LV))(i:Nat),getS (T9 sl) i=pureL (getS sl i)
 |[],i=>rfl
 | (j,l)::r,i=>by
   rw[T9,getS,getS];cases j==i with
   |true=>rfl
   |false=>exact Bb r i
theorem KY{P:Program}{N:Nat}{g:FuncId}{args:List LV}{dst:Option Nat}{s:St}{K:St->Prop}{avs:List AV}{R:AV->Prop}(hs:SpecP P g avs R)(ha:FrzL s.H args avs)(h:∀c,R c->setD N (T9 s.sl) dst (.p c) fun sl=>K ⟨sl,[]⟩):CallK P N g args dst s K:=by
 refine⟨fun σ β a w hr vals hn hv=>⟨hs.go vals,?_⟩⟩;obtain⟨hlen,hget⟩:=ha.get;obtain⟨τ,h5,h6,h7,h8⟩:=MV hr.heap;refine(hs.ok τ w vals (hn.trans hlen) (fun j c hj=>?_) h6).mono fun e w' ⟨c,u,σ',he,hR,hrep,hle,hl,hf,hnew⟩=>?_
 ·obtain⟨l,h1,h2⟩:=hget j c hj;exact h8 l _ c (hv j l h1) h2
 ·have hr':Rel N σ' β ⟨T9 s.sl,[]⟩ a w':=⟨hr.size,hr.defers,fun i=>by
   show RepL σ' β (getS (T9 s.sl) i) _;rw[Bb];have:=hr.slots i;generalize getS s.sl i=l at this⊢;cases l with
   |p x=>exact this.mono (Mem.le_trans h5 hle)
   |_=>exact .p (.any _),⟨hl,fun k c h=>(by cases h),x4x,fun k h=>(by cases h),fun k h=>(by cases h)⟩⟩
  obtain⟨sl,hK,hr''⟩:=hr'.setD (.p hrep) (h c hR);refine⟨u,σ',β,_,he,hK,hr'',Mem.le_trans h5 hle,⟨hf.os,hf.tape,hf.output,hf.drawn,hf.size,fun b hb _=>hf.block b hb id⟩,fun b h0 h1=>?_,fun b ⟨j,hj,_⟩=>(by cases hj),fun _ _ _=>rfl⟩;by_cases h2:τ b=none
  ·exact .inr (hnew b h2 h1)
  ·rcases h7 b h2 with h3|h3
   ·exact absurd h0 h3
   ·exact .inl h3
end Go.Ab
