/- aug: what a procedure's traps are, by its places. -/
import Derived.Test.YtonbdgcjnecapaaGreatRchC5
import Derived.Test.YtonbdgcjnecapaaGreatRchC7
import Derived.Test.YtonbdgcjnecapaaGreatRchC14
import Derived.Test.YtonbdgcjnecapaaGreatRchC16
import Derived.Test.YtonbdgcjnecapaaGreatRchC17
set_option linter.all false
set_option maxRecDepth 100000
set_option maxHeartbeats 16000000
namespace Go.Ab
open Go.Proofs.Tryz
open Go.Proofs
variable {a:Int}
section
variable {p:Pg}{j:Nat}{f:Pr}
def BG{i:Int}(h:0<=i/\i<(QW f.body+2:Nat)):plP p j f (QH p j (QW f.body+2:Nat) i)/\ixI p j f (QH p j (QW f.body+2:Nat) i)=i:=by
 unfold QH ixI UJ plP loI hiI;constructor
 ·(repeat' split)<;>omega
 ·(repeat' split)<;>omega
def BP{x:Int}(h:plP p j f x):QH p j (QW f.body+2:Nat) (ixI p j f x)=x:=by
 have i:=BG (p:=p) (j:=j) (f:=f) (ZE h);exact PB i.1 h i.2
def Fo:prsW (QQ p j f) f=(QQ p j f).real.map (ixP p j f (QW f.body+2:Nat)):=rfl
def OM(h:QE p=true)(n:p.A[j]?=some f):∀t∈prsW (QQ p j f) f,(0<=t.1/\t.1<(QW f.body+2:Nat))/\0<=t.2/\t.2<(QW f.body+2:Nat):=fun t i=>by
 rw[Fo]at i;obtain⟨s,o,rfl⟩:=x0n.1 i;obtain⟨l,m⟩:=VZ h n s o;exact⟨ZE l,ZE m⟩
def wE(p:Pg)(j:Nat)(f:Pr):Int->Int->Prop:=rowE (QS (QW f.body+2) (prsW (QQ p j f) f)).1
def wR(p:Pg)(j:Nat)(f:Pr):Int->Int->Prop:=stR (QQ p j f).real
def q3n(h:QE p=true)(q:p.A[j]?=some f){i k:Int}:wE p j f i k ↔ ∃a b,wR p j f a b/\ixI p j f a=i/\ixI p j f b=k:=by
 unfold wE wR;rw[Xl];constructor
 .rintro ⟨l,_,_⟩;rw[Fo]at l;obtain⟨s,m,n⟩:=x0n.1 l;exact⟨s.src,s.dst,⟨s,m,rfl,rfl⟩,x2o Prod.fst n,x2o Prod.snd n⟩
 .rintro ⟨a,b,⟨s,m,rfl,rfl⟩,rfl,rfl⟩;obtain⟨l,o⟩:=VZ h q s m;exact⟨x0n.2 ⟨s,m,rfl⟩,DU (ZE l),DU (ZE o)⟩
def q0u(h:QE p=true)(i:p.A[j]?=some f){b:Int}(l:wR p j f a b):plP p j f a/\plP p j f b:=by
 obtain⟨s,m,rfl,rfl⟩:=l;exact VZ h i s m
def OT(h:QE p=true)(m:p.A[j]?=some f){b:Int}(l:plP p j f a)(n:Rch (wR p j f) a b):plP p j f b:=
 n.closed (S:=plP p j f) (fun _ _ _ i=>(q0u h m i).2) l
def OR(h:QE p=true)(o:p.A[j]?=some f){b:Int}(t:plP p j f a)(z:plP p j f b):Rch (wE p j f) (ixI p j f a) (ixI p j f b)↔Rch (wR p j f) a b:=by
 constructor
 .intro q;obtain⟨c,n,m,l⟩:=q.closed (S:=fun k=>∃c,plP p j f c/\ixI p j f c=k/\Rch (wR p j f) a c) (by
   rintro i k ⟨c,n,m,l⟩ u;obtain⟨x,y,r,v,w⟩:=(q3n h o).1 u;have s:=q0u h o r;have:x=c:=PB s.1 n (by rw[v,m]);subst this;exact⟨y,s.2,w,.tail l r⟩) ⟨a,t,rfl,.refl⟩
  rw[<-PB n z m];exact l
 .intro q;exact(q.closed (S:=fun c=>plP p j f c/\Rch (wE p j f) (ixI p j f a) (ixI p j f c)) (fun x y ⟨n,m⟩ l=>⟨(q0u h o l).2,.tail m ((q3n h o).2 ⟨x,y,l,rfl,rfl⟩)⟩) ⟨t,.refl⟩).2
def OS(h:QE p=true)(m:p.A[j]?=some f){b:Int}(i:plP p j f a)(l:plP p j f b):sccP (wE p j f) (ixI p j f a) (ixI p j f b)↔sccP (wR p j f) a b:=by
 unfold sccP;rw[OR h m i l,OR h m l i]
def KL(p:Pg)(j:Nat)(f:Pr)(i:Int):Int:=(VP (QQ p j f) f).getD i.toNat 0
def Yb:VP (QQ p j f) f=Z1 (QW f.body+2) (QS (QW f.body+2) (prsW (QQ p j f) f)).1:=rfl
def Vz{i:Int}(h:0<=i/\i<(QW f.body+2:Nat)):MinP (wE p j f) i (KL p j f i):=by
 unfold KL;rw[Yb];exact Z2 (JW _ _).1 h
def RC{k:Nat}(h:k<QW f.body+2):0<=(VP (QQ p j f) f).getD k 0/\(VP (QQ p j f) f).getD k 0<(QW f.body+2:Nat):=by
 rw[Yb];exact RT (JW _ _).1 h
def RS:(VP (QQ p j f) f).length=QW f.body+2:=by rw[Yb,DD]
theorem MinP.same{E:Int->Int->Prop}{x y v:Int}(h:MinP E x v)(i:sccP E x y):MinP E y v:=⟨i.symm.trans h.scc,fun z l=>h.le z (i.trans l)⟩
def IL{i k:Int}(n:0<=i/\i<(QW f.body+2:Nat))(o:0<=k/\k<(QW f.body+2:Nat)):KL p j f i=KL p j f k↔sccP (wE p j f) i k:=by
 have l:=Vz (p:=p) (j:=j) n;have h:=Vz (p:=p) (j:=j) o;constructor
 .intro m;rw[<-m]at h;exact l.scc.trans h.scc.symm
 .intro q;exact(l.same q).uniq h
def KR(h:QE p=true)(m:p.A[j]?=some f){b:Int}(i:plP p j f a)(l:plP p j f b):KL p j f (ixI p j f a)=KL p j f (ixI p j f b)↔sccP (wR p j f) a b:=by
 rw[IL (ZE i) (ZE l),OS h m i l]
structure TrapP(p:Pg)(j:Nat)(f:Pr)(l:List Int)(r:Int):Prop where
 pl:plP p j f r
 mem:∀b,b∈l↔plP p j f b/\sccP (wR p j f) r b
 cl:∀b c,sccP (wR p j f) r b->wR p j f b c->sccP (wR p j f) r c
 n0:¬sccP (wR p j f) r 0
 nx:¬sccP (wR p j f) r (-1)
def AO{l:Int->Int}{part:List Int}{i q:Nat}{b:Int}:b∈DR l part i q ↔ ∃k:Nat,k<q/\part.getD k 0=i/\l k=b:=by
 unfold DR;constructor
 .intro h;obtain⟨k,o,rfl⟩:=x0n.1 h;obtain⟨m,n⟩:=x1s.1 o;exact⟨k,x1a.1 m,x3s.1 n,rfl⟩
 .rintro ⟨k,m,n,rfl⟩;exact x0n.2 ⟨k,x1s.2 ⟨x1a.2 m,x3s.2 n⟩,rfl⟩
def ix0:ixI p j f 0=0:=by unfold ixI UJ;rw[if_pos rfl]
def ix1:ixI p j f (-1)=((QW f.body+2:Nat):Int)-1:=by unfold ixI UJ;rw[if_neg (by omega),if_pos rfl]
def pl0:plP p j f 0:=.inl rfl
def pl1:plP p j f (-1):=.inr (.inl rfl)
def Vw(k:Nat):(VP (QQ p j f) f).getD k 0=KL p j f k:=by
 unfold KL;rw[x2s]
def A5(h:QE p=true)(l:p.A[j]?=some f){i:Nat}(z:i<QW f.body+2):(Js (QW f.body+2) (VP (QQ p j f) f) (prsW (QQ p j f) f)).getD i false=true ↔
  KL p j f (ixI p j f 0)=i\/KL p j f (ixI p j f (-1))=i\/∃a b,wR p j f a b/\¬sccP (wR p j f) a b/\KL p j f (ixI p j f a)=i:=by
 rw[IF (by omega) (fun k c=>RC c) z fun t n=>(OM h l t n).1,ix0,ix1];have x:(VP (QQ p j f) f).getD (QW f.body+2-1) 0=KL p j f (((QW f.body+2:Nat):Int)-1):=by
  unfold KL;congr 1;omega
 have w:(VP (QQ p j f) f).getD 0 0=KL p j f 0:=rfl;rw[w,x];refine or_congr Iff.rfl (or_congr Iff.rfl ?_);constructor
 .rintro ⟨t,n,o,q⟩;rw[Fo]at n;obtain⟨s,m,rfl⟩:=x0n.1 n;obtain⟨r,u⟩:=VZ h l s m;exact⟨s.src,s.dst,⟨s,m,rfl,rfl⟩,fun v=>o ((KR h l r u).2 v),q⟩
 .rintro ⟨a,b,⟨s,m,rfl,rfl⟩,o,q⟩;obtain⟨r,u⟩:=VZ h l s m;exact⟨ixP p j f (QW f.body+2:Nat) s,by rw[Fo];exact x0n.2 ⟨s,m,rfl⟩,fun y=>o ((KR h l r u).1 y),q⟩
def Jq{l:List Int}:l∈trapsW (QQ p j f) f ↔ ∃i:Nat,i<QW f.body+2/\KL p j f i=i/\(Js (QW f.body+2) (VP (QQ p j f) f) (prsW (QQ p j f) f)).getD i false=false/\l=DR (QH p j (QW f.body+2:Nat)) (VP (QQ p j f) f) i (QW f.body+2):=by
 unfold trapsW Zz;rw[RS];constructor
 .intro q;obtain⟨i,o,rfl⟩:=x0n.1 q;obtain⟨m,h⟩:=x1s.1 o;unfold J9 at h;rw[x1z,x3s,x3f,Vw]at h;exact⟨i,x1a.1 m,h.1,h.2,rfl⟩
 .rintro ⟨i,m,h,n,rfl⟩;refine x0n.2 ⟨i,x1s.2 ⟨x1a.2 m,?_⟩,rfl⟩;unfold J9;rw[x1z,x3s,x3f,Vw];exact⟨h,n⟩
def Tk(h:QE p=true)(r:p.A[j]?=some f){i:Nat}(u:i<QW f.body+2)(s:KL p j f i=i)(b:Int):
  b∈DR (QH p j (QW f.body+2:Nat)) (VP (QQ p j f) f) i (QW f.body+2)↔plP p j f b/\sccP (wR p j f) (QH p j (QW f.body+2:Nat) i) b:=by
 obtain⟨o,q⟩:=BG (p:=p) (j:=j) (f:=f) (i:=i) (by omega);rw[AO];constructor
 .rintro ⟨k,l,m,rfl⟩;obtain⟨n,t⟩:=BG (p:=p) (j:=j) (f:=f) (i:=k) (by omega);refine⟨n,(KR h r o n).1 ?_⟩;rw[q,t,s,<-Vw,m]
 .rintro ⟨l,m⟩;have n:=ZE l;refine⟨(ixI p j f b).toNat,by omega,?_,?_⟩
  .rw [Vw,show(((ixI p j f b).toNat:Nat):Int)=ixI p j f b by omega,<-(KR h r o l).2 m,q,s]
  .rw [show(((ixI p j f b).toNat:Nat):Int)=ixI p j f b by omega,BP l]
def E7(h:QE p=true)(o:p.A[j]?=some f){l:List Int}(d:l∈trapsW (QQ p j f) f):∃r,TrapP p j f l r:=by
 obtain⟨i,w,x,e,rfl⟩:=Jq.1 d;obtain⟨t,y⟩:=BG (p:=p) (j:=j) (f:=f) (i:=i) (by omega);have m:¬_:=fun g=>by
  have:=(A5 h o w).2 g;rw[e]at this;cases this
 have n:KL p j f (ixI p j f (QH p j (QW f.body+2:Nat) i))=i:=by rw[y,x]
 refine⟨_,t,Tk h o w x,fun b c v q=>?_,fun u=>m (.inl ?_),fun u=>m (.inr (.inl ?_))⟩
 .have z:=q0u h o q;by_cases s:sccP (wR p j f) b c
  .exact v.trans s
  .refine absurd (.inr (.inr ⟨b,c,q,s,?_⟩)) m;rw[<-(KR h o t z.1).2 v,n]
 .rw [<-(KR h o t pl0).2 u,n]
 .rw [<-(KR h o t pl1).2 u,n]
def q2t(h:QE p=true)(n:p.A[j]?=some f){r:Int}(s:plP p j f r)(y:∀b c,sccP (wR p j f) r b->wR p j f b c->sccP (wR p j f) r c)(d:¬sccP (wR p j f) r 0)(H:¬sccP (wR p j f) r (-1)):
  ∃l∈trapsW (QQ p j f) f,∀b,b∈l↔plP p j f b/\sccP (wR p j f) r b:=by
 have e:=ZE s;have u:=Vz (p:=p) (j:=j) (f:=f) e;have g:=RC (p:=p) (j:=j) (f:=f) (k:=(ixI p j f r).toNat) (by omega);have x:0<=KL p j f (ixI p j f r)/\KL p j f (ixI p j f r)<(QW f.body+2:Nat):=g;generalize F:KL p j f (ixI p j f r)=v at u x;obtain⟨B,C⟩:=BG (p:=p) (j:=j) (f:=f) (i:=v) x;have z:sccP (wR p j f) r (QH p j (QW f.body+2:Nat) v):=(OS h n s B).1 (by rw[C];exact u.scc);have q:KL p j f v=v:=(Vz (p:=p) (j:=j) (f:=f) x).uniq (u.same u.scc);have t:((v.toNat:Nat):Int)=v:=by omega
 refine⟨_,Jq.2 ⟨v.toNat,by omega,by rw[t];exact q,?_,rfl⟩,fun b=>?_⟩
 .cases G:(Js (QW f.body+2) (VP (QQ p j f) f) (prsW (QQ p j f) f)).getD v.toNat false with
  |false=>rfl
  | true=>
    have:=(A5 h n (by omega)).1 G;rw[t,<-F]at this;rcases this with m|m|⟨a,b,m,D,E⟩
    .exact absurd ((KR h n s pl0).1 m.symm) d
    .exact absurd ((KR h n s pl1).1 m.symm) H
    .have w:=q0u h n m;have o:=(KR h n s w.1).1 E.symm;exact absurd (o.symm.trans (y a b o m)) D
 .rw [Tk h n (by omega) (by rw[t];exact q),t];exact and_congr Iff.rfl ⟨fun m=>z.trans m,fun m=>z.symm.trans m⟩
end
def T4{p:Pg}{j:Nat}{f:Pr}(n:p.A[j]?=some f)(m:cntP p.A<=200):(QQ p j f).real.length<=100000:=by
 obtain⟨_,_,_,i,h⟩:=QJ p;obtain⟨_,_,o,_⟩:=h j f n;have q:=N8 (QP p j f);have l:=Wz p j f;show(WC (QP p j f)).length<=100000;omega
def RB{p:Pg}(h:QE p=true){j:Nat}{f:Pr}(o:p.A[j]?=some f):∀l∈itsOf p j f,∀s∈fOf l,okSt s:=fun l n s i=>by
 obtain⟨v,_⟩:=QF h;obtain⟨_,_,t⟩:=XP h;obtain⟨_,_,_,q,m⟩:=QJ p;obtain⟨_,_,u,_⟩:=m j f o;have w:=WD v o (We n);have r:=(Xt n).1;unfold fOf at i;split at i
 .rw [x0b.1 i];unfold okI at r;unfold okSt;constructor
  .show l.s.id≠_;omega
  .show l.next≠_;omega
 .cases i
def Tg{p:Pg}(h:QE p=true){j:Nat}{f:Pr}(t:p.A[j]?=some f){l:List Int}(s:l∈trapsW (QQ p j f) f):l.length<=QW f.body+2/\∀id∈l,(QR p.A j:Int)+1<=id/\id<=(QR p.A j+QW f.body:Nat):=by
 constructor
 .obtain ⟨i,_,_,_,rfl⟩:=Jq.1 s;exact No _ _ _ _
 .intro id n;obtain⟨r,o⟩:=E7 h t s;obtain⟨m,q⟩:=(o.mem id).1 n;rcases m with rfl|rfl|m
  .exact absurd q o.n0
  .exact absurd q o.nx
  .exact m
def q3v{p:Pg}(h:QE p=true){j:Nat}{f:Pr}(i:p.A[j]?=some f):WayT (QQ p j f) f (QW f.body+2):=by
 obtain⟨_,_,m⟩:=XP h;obtain⟨_,_,_,q,o⟩:=QJ p;obtain⟨_,_,u,_⟩:=o j f i;refine⟨rfl,i,by show cntP p.A<=1000;omega,by omega,by omega,x1t (T4 i m) (by decide),OM h i,?_,fun l t=>?_,fun s v=>(Xj h i).2.2 s (((GF h i).2 s).1 v),RB h i⟩
 .have:=Ni (QH p j (QW f.body+2:Nat)) (VP (QQ p j f) f) (Js (QW f.body+2) (VP (QQ p j f) f) (prsW (QQ p j f) f)) (QW f.body+2);have e:trapsW (QQ p j f) f=Zz (QH p j (QW f.body+2:Nat)) (VP (QQ p j f) f) (Js (QW f.body+2) (VP (QQ p j f) f) (prsW (QQ p j f) f)) (QW f.body+2):=by
   unfold trapsW;rw[RS];rfl
  rw[e];omega
 .obtain ⟨w,r⟩:=Tg h i t;refine⟨by omega,fun id n=>?_⟩;have:=r id n;show 1<=id/\id<=(sheetOf p).l.length;omega
instance (a b:Step):Decidable (Xs a b):=inferInstanceAs (Decidable (_\/_))
instance:DecidableEq Step:=fun a b=>decidable_of_iff (a.src=b.src/\a.dst=b.dst/\a.kind=b.kind) ⟨fun h=>GQ h.1 h.2.1 h.2.2,fun h=>by rw[h];exact⟨rfl,rfl,rfl⟩⟩
def q2u{a b:Step}(i:okSt a)(l:okSt b)(h:HS b a=false):(a.src=b.src/\a.dst=b.dst/\a.kind<=b.kind)\/Xs a b:=by
 rw[x5c,ne_eq,GB]at h;unfold Xs;by_cases m:QT a.src=QT b.src
 .by_cases n:QT a.dst=QT b.dst
  .exact .inl ⟨UE i.1 l.1 m,UE i.2 l.2 n,by omega⟩
  .exact .inr (by omega)
 .exact .inr (by omega)
theorem W0:∀(l:List Step)(a:Step),okSt a->(∀s∈l,okSt s)->(a::l).Pairwise (fun a b=>HS b a=false)->
  (∀s∈XW a l,Xs a s)/\(XW a l).Pairwise Xs/\(∀s∈XW a l,s∈l)/\∀s∈l,(s.src=a.src/\s.dst=a.dst/\a.kind<=s.kind)\/∃s'∈XW a l,s'.src=s.src/\s'.dst=s.dst/\s'.kind<=s.kind
 |[],a,_,_,_=>by simp[XW]
 | b::r,a,ha,hl,h=>by
   have w:=hl b x0k;have g:∀s∈r,okSt s:=fun s n=>hl s (x0f _ n);rw[x3e]at h;obtain⟨c,d⟩:=h;obtain⟨u,x,y,z⟩:=W0 r b w g d;have q:=q2u ha w (c b x0k);rw[XW];cases n:ZU b a with
   | true=>
     unfold ZU at n;simp only[x1z,x1n]at n;have e:a.kind<=b.kind:=by
      rcases q with m|m
      .exact m.2.2
      .unfold Xs at m;rw[n.1,n.2]at m;omega
     rw[x1u];refine⟨fun s i=>?_,x,fun s i=>x0f _ (y s i),fun s i=>?_⟩
     .have:=u s i;unfold Xs at this⊢
      rwa[<-n.1,<-n.2]
     .rcases x0p.1 i with rfl|i
      .exact .inl ⟨n.1,n.2,e⟩
      .rcases z s i with⟨m,o,v⟩|m
       .exact .inl ⟨by rw[m,n.1],by rw[o,n.2],by omega⟩
       .exact .inr m
   | false=>
     have t:Xs a b:=by
      rcases q with m|m
      .unfold ZU at n;simp[m.1,m.2.1]at n
      .exact m
     rw[x1g];refine⟨fun s i=>?_,x3e.2 ⟨u,x⟩,fun s i=>?_,fun s i=>?_⟩
     .rcases x0p.1 i with rfl|i
      .exact t
      .exact Xc t (u s i)
     .rcases x0p.1 i with rfl|i
      .exact x0k
      .exact x0f _ (y s i)
     .rcases x0p.1 i with rfl|i
      .exact .inr ⟨s,x0k,rfl,rfl,Int.le_refl _⟩
      .rcases z s i with⟨m,o,v⟩|⟨s',m,o⟩
       .exact .inr ⟨b,x0k,m.symm,o.symm,v⟩
       .exact .inr ⟨s',x0f _ m,o⟩
def DF{l:List Step}(u:∀s∈l,okSt s):(WC l).Pairwise Xs/\(∀s∈WC l,s∈l)/\∀s∈l,∃s'∈WC l,s'.src=s.src/\s'.dst=s.dst/\s'.kind<=s.kind:=by
 have n:∀s,s∈YB l↔s∈l:=fun s=>(J7 l).mem_iff;have o:=Qp l;unfold WC;cases v:YB l with
 | nil=>
   rw[v]at n;refine⟨by simp[NB],by simp[NB],fun s o=>?_⟩;have:=(n s).2 o;cases this
 | cons a r=>
   rw[v]at n o;have m:∀s∈a::r,okSt s:=fun s h=>u s ((n s).1 h);obtain⟨w,x,y,z⟩:=W0 r a (m a x0k) (fun s h=>m s (x0f _ h)) o;rw[NB];refine⟨x3e.2 ⟨w,x⟩,fun s i=>?_,fun s i=>?_⟩
   .rcases x0p.1 i with rfl|i
    .exact (n s).1 x0k
    .exact (n s).1 (x0f _ (y s i))
   .rcases x0p.1 ((n s).2 i)with rfl|i
    .exact ⟨s,x0k,rfl,rfl,Int.le_refl _⟩
    .rcases z s i with⟨q,t,b⟩|⟨s',q,t⟩
     .exact ⟨a,x0k,q.symm,t.symm,b⟩
     .exact ⟨s',x0f _ q,t⟩
def CM{l:List Step}(h:l.Pairwise Xs){a b:Step}(t:a∈l)(u:b∈l)(q:a.src=b.src)(s:a.dst=b.dst):a=b:=by
 have w:∀{x y:Step},x.src=y.src->x.dst=y.dst->¬Xs x y:=fun {x y} o e2 n=>by
  unfold Xs at n;rw[o,e2]at n;omega
 induction h with
 |nil=>cases t
 | @cons c r v d z=>
   rcases x0p.1 t with o|m
   .rcases x0p.1 u with e2|i
    .rw [o,e2]
    .exact absurd (v b i) (by rw[<-o];exact w q s)
   .rcases x0p.1 u with e2|i
    .exact absurd (v a m) (by rw[<-e2];exact w q.symm s.symm)
    .exact z m i
def RP{l m:List Step}(u:∀s∈l,okSt s)(x:m.Pairwise Xs)(y:∀s∈m,s∈l)(z:∀s∈l,∃s'∈m,s'.src=s.src/\s'.dst=s.dst/\s'.kind<=s.kind):WC l=m:=by
 obtain⟨g1,v,w⟩:=DF u;refine Ge g1 x fun s=>⟨fun o=>?_,fun o=>?_⟩
 .obtain ⟨a,n,h,i,c⟩:=z s (v s o);obtain⟨b,t,q,r,d⟩:=w a (y a n);have:=CM g1 t o (q.trans h) (r.trans i);subst this;have:a=b:=GQ h i (by omega);rw[<-this];exact n
 .obtain ⟨a,n,h,i,c⟩:=w s (y s o);obtain⟨b,t,q,r,d⟩:=z a (v a n);have:=CM x t o (q.trans h) (r.trans i);subst this;have:a=b:=GQ h i (by omega);rw[<-this];exact n
def q5v:(QQ someP 1 f1).real=[⟨0,5,1⟩,⟨5,6,1⟩,⟨6,7,1⟩,⟨6,8,1⟩,⟨7,-1,1⟩,⟨8,-1,1⟩]:=q4i
def q5w:(QQ someP 0 f0).real=[⟨0,1,1⟩,⟨1,2,1⟩,⟨2,3,1⟩,⟨3,4,1⟩,⟨4,-1,1⟩]:=q4e
def q5i:prsW (QQ someP 1 f1) f1=[(0,1),(1,2),(2,3),(2,4),(3,5),(4,5)]:=by
 unfold prsW;rw[q5v]
 kernel_rfl
def q5e:prsW (QQ someP 0 f0) f0=[(0,1),(1,2),(2,3),(3,4),(4,5)]:=by
 unfold prsW;rw[q5w]
 kernel_rfl
def q5d:trapsW (QQ someP 1 f1) f1=[]:=by
 unfold trapsW VP;rw[q5i]
 kernel_rfl
def q5f:trapsW (QQ someP 0 f0) f0=[]:=by
 unfold trapsW VP;rw[q5e]
 kernel_rfl
def q6y:PQ (QQ someP 1 f1) f1=[⟨0,5,1⟩,⟨5,6,1⟩,⟨6,7,1⟩,⟨6,8,1⟩,⟨7,-1,1⟩,⟨8,-1,1⟩]:=by
 unfold PQ UM;rw[q5d,q5v];exact RP (by unfold okSt;decide) (by decide) (by decide) (by decide)
theorem q9v{R:Int->Int->Prop}{PL:List Int}(i:∀x y,x∈PL->R x y->y∈PL):∀(k:Nat){x:Int},x∈PL->(∀c:Int->Nat,(∀y,c y=0\/c y=1)->(∀y,c y=1->Rch R x y)->(PL.map c).sum<k)->∃y,Rch R x y/\∀z,Rch R y z->Rch R z y
 |0,x,_,hk=>absurd (hk (fun _=>0) (fun _=>.inl rfl) (fun _ h=>by cases h)) (Nat.not_lt_zero _)
 | k+1,x,hx,hk=>by
   by_cases h:∀z,Rch R x z->Rch R z x
   .exact ⟨x,.refl,h⟩
   .obtain ⟨z,w⟩:=Classical.not_forall.1 h;obtain⟨m,t⟩:=Classical.not_imp.1 w;have o:z∈PL:=m.closed (S:=fun y=>y∈PL) i hx;obtain⟨y,u,v⟩:=q9v i k o fun c q r=>by
     have l:c x=0:=by
      rcases q x with n|n
      .exact n
      .exact absurd (r x n) t
     have b:(PL.map c).sum<(PL.map fun y=>if y=x then 1 else c y).sum:=AL (fun y _=>by
      split
      .rename_i e;rw[e,l];exact x0l _
      .exact x0o _) ⟨x,hx,by simp[l]⟩
     have d:=hk (fun y=>if y=x then 1 else c y) (fun y=>by
      split
      .exact .inr rfl
      .exact q y) (fun y s=>by
      split at s
      .rename_i e;rw[e];exact .refl
      .exact m.trans (r y s))
     omega
    exact⟨y,m.trans u,v⟩
theorem AR{c:Int->Nat}(h:∀y,c y=0\/c y=1):∀l:List Int,(l.map c).sum<=l.length
 |[]=>by simp
 | a::r=>by
   have i:=AR h r;have m:=h a;simp only[x1j,x5f,x1r];omega
def plL(p:Pg)(j:Nat)(f:Pr):List Int:=0::(-1)::GY (QR p.A j) (QW f.body)
def Ax{p:Pg}{j:Nat}{f:Pr}{x:Int}:x∈plL p j f↔plP p j f x:=by
 unfold plL plP;simp only[x0p];refine or_congr Iff.rfl (or_congr Iff.rfl ⟨fun h=>?_,fun h=>Rc h.1 h.2⟩);have:=Ra h;omega
def q2r{p:Pg}(h:QE p=true){j:Nat}{f:Pr}(m:p.A[j]?=some f){x:Int}(n:plP p j f x):∃y,Rch (wR p j f) x y/\∀z,Rch (wR p j f) y z->Rch (wR p j f) z y:=
 q9v (PL:=plL p j f) (fun a b _ i=>Ax.2 (q0u h m i).2) ((plL p j f).length+1) (Ax.2 n) fun _ l _=>Nat.lt_succ_of_le (AR l _)
def Fr{p:Pg}(h:QE p=true){j:Nat}{f:Pr}(i:p.A[j]?=some f):¬wR p j f a 0:=fun⟨s,m,_,n⟩=>by
 have l:=((Xj h i).2.1 s (((GF h i).2 s).1 m)).2;unfold okI at l;omega
def Nj{p:Pg}(h:QE p=true){j:Nat}{f:Pr}(l:p.A[j]?=some f)(m:Rch (wR p j f) a 0):a=0:=by
 cases m with
 |refl=>rfl
 |tail _ i=>exact absurd i (Fr h l)
def Ru{p:Pg}(h:QE p=true){j:Nat}{f:Pr}(i:p.A[j]?=some f):wR p j f 0 (q5a p j f):=⟨⟨0,q5a p j f,1⟩,((GF h i).2 _).2 (by unfold QP q5a;exact x0k),rfl,rfl⟩
def E0{p:Pg}(h:QE p=true){j:Nat}{f:Pr}(q:p.A[j]?=some f){r:Int}(d:plP p j f r)(m:∀b c,sccP (wR p j f) r b->wR p j f b c->sccP (wR p j f) r c)(v:¬sccP (wR p j f) r 0)(s:¬sccP (wR p j f) r (-1)):∃t∈flL f.body,sccP (wR p j f) r t.id/\t.kind=10:=by
 refine x3u fun n=>s ?_;have i:(QR p.A j:Int)+1<=r/\r<=(QR p.A j+QW f.body:Nat):=by
  rcases d with rfl|rfl|w
  .exact absurd (sccP.refl 0) v
  .exact absurd (sccP.refl (-1)) s
  .exact w
 obtain⟨t,g,_,o⟩:=Qn h q i.1 i.2;exact Aw h q (T:=fun y=>sccP (wR p j f) r y) (fun a b x l=>m a b x l) (fun u B e z=>n ⟨u,B,e,z⟩) g (by rw[o];exact sccP.refl r)
def AD{p:Pg}(h:QE p=true){j:Nat}{f:Pr}(l:p.A[j]?=some f){t:S}(o:t∈flL f.body):OE p t.id=some t:=by
 have n:=WD (QF h).1 l o;obtain⟨u,s,m,q⟩:=Qn h l n.1 n.2;obtain⟨v,r,rfl⟩:=q1b (p:=p) (j:=j) o;obtain⟨w,i,rfl⟩:=q1b (p:=p) (j:=j) s;rw[OK (QF h).1 l i r q]at m;exact m
def BT{p:Pg}(h:QE p=true){j:Nat}{f:Pr}(o:p.A[j]?=some f){s:Step}:s∈UM (QQ p j f) f ↔ ∃l∈trapsW (QQ p j f) f,∃t∈flL f.body,t.id∈l/\t.kind=10/\s=⟨t.id,-1,3⟩:=by
 unfold UM;constructor
 .intro i;obtain⟨l,n,i⟩:=x1p.1 i;obtain⟨id,m,i⟩:=x1p.1 i;have v:=(Tg h o n).2 id m;obtain⟨t,r,w,u⟩:=Qn h o v.1 v.2;have e:(QQ p j f).p=p:=rfl;unfold vOf at i;rw[e,w]at i;simp only at i;split at i
  .rename_i q;exact⟨l,n,t,r,by rw[u];exact m,q,by rw[u];simpa using i⟩
  .cases i
 .rintro ⟨l,n,t,r,m,q,rfl⟩;refine x1p.2 ⟨l,n,x1p.2 ⟨t.id,m,?_⟩⟩;have e:(QQ p j f).p=p:=rfl;unfold vOf;rw[e,AD h o r];simp[q]
def F0{p:Pg}(h:QE p=true){j:Nat}{f:Pr}(i:p.A[j]?=some f):∀s∈UM (QQ p j f) f++(QQ p j f).real,okSt s:=fun s l=>
 (x0r.1 l).elim ((q3v h i).virt_ok s) ((q3v h i).hok s)
def Ho{p:Pg}(h:QE p=true){j:Nat}{f:Pr}(n:p.A[j]?=some f){s:Step}(o:s∈UM (QQ p j f) f++(QQ p j f).real):stR (PQ (QQ p j f) f) s.src s.dst:=by
 obtain⟨s',i,l,m,_⟩:=(DF (F0 h n)).2.2 s o;exact⟨s',i,l,m⟩
def C5{p:Pg}(h:QE p=true){j:Nat}{f:Pr}(i:p.A[j]?=some f){x:Int}(D:plP p j f x):Rch (stR (PQ (QQ p j f) f)) x (-1):=by
 have C:∀a b,wR p j f a b->stR (PQ (QQ p j f) f) a b:=fun a b ⟨s,z,o,r⟩=>by
  rw[<-o,<-r];exact Ho h i (x0r.2 (.inr z))
 obtain⟨y,o,r⟩:=q2r h i D;have d:=OT h i D o;have q:∀b c,sccP (wR p j f) y b->wR p j f b c->sccP (wR p j f) y c:=fun b c E v=>by
  have m:Rch (wR p j f) y c:=.tail E.1 v;exact⟨m,r c m⟩
 by_cases n:sccP (wR p j f) y (-1)
 .exact (o.trans n.1).mono C
 have g:¬sccP (wR p j f) y 0:=fun z=>by
  have e:=Nj h i z.1;subst e;have m:=r _ (.tail .refl (Ru h i));have u:=Nj h i m;have B:=Ru h i;rw[u]at B;exact Fr h i B
 obtain⟨l,F,w⟩:=q2t h i d q g n;obtain⟨t,G,m,u⟩:=E0 h i d q g n;have H:(⟨t.id,-1,3⟩:Step)∈UM (QQ p j f) f:=(BT h i).2 ⟨l,F,t,G,(w _).2 ⟨OT h i d m.1,m⟩,u,rfl⟩;exact .tail ((o.trans m.1).mono C) (Ho h i (x0r.2 (.inl H)))
def He{p:Pg}(h:QE p=true){j:Nat}{f:Pr}(i:p.A[j]?=some f):(PQ (QQ p j f) f).length<=200000:=by
 obtain⟨_,_,o⟩:=XP h;obtain⟨_,_,_,u,q⟩:=QJ p;obtain⟨_,_,z,_⟩:=q j f i;obtain⟨v,w,_⟩:=DF (F0 h i);have x:=Yh (l:=PQ (QQ p j f) f) (m:=(QQ p j f).real++(GY (QR p.A j) (QW f.body)).map fun id=>⟨id,-1,3⟩) (IQ v) fun s b=>by
  rcases x0r.1 (w s b)with n|n
  .obtain ⟨l,g,t,c,y,e,rfl⟩:=(BT h i).1 n;have r:=WD (QF h).1 i c;exact x0r.2 (.inr (x0n.2 ⟨t.id,Rc r.1 r.2,rfl⟩))
  .exact x0r.2 (.inl n)
 rw[x0g,x0j]at x;have n:=T4 i o;have d:(GY (QR p.A j) (QW f.body)).length=QW f.body:=by unfold GY;simp
 omega
def Su{p:Pg}(h:QE p=true)(n:Int):∃(k:Nat) (f:Pr),p.A[k]?=some f/\Qo p (ZL p n)=some (QQ p k f)/\Ly p (ZL p n)=(f,true):=by
 have u:0<p.A.length:=by
  obtain⟨_,o,_⟩:=KV (QF h).2.1;cases v:p.A with
  | nil=>
    unfold ZF procsN at o;rw[v]at o;simp at o
  |cons a r=>simp
 have x:=Qq (n:=n) (k:=p.A.length) (by omega);have l:(B0 n p.A.length).toNat<p.A.length:=by omega
 have e:ZL p n=(p.A[(B0 n p.A.length).toNat]).name:=by unfold ZL;rw[x0u l]
 cases m:Qo p (ZL p n)with
 | none=>
   exfalso;unfold Qo at m;rw[h,x1u]at m;cases s:p.A.find? (fun f=>f.name==ZL p n)with
   | none=>
     have:=x3a.1 s _ (x0s l);simp[e]at this
   |some g=>rw[s]at m;cases m
 | some w=>
   obtain⟨k,f,q,rfl,_,t,i⟩:=JM m;exact⟨k,f,q,rfl,by unfold Ly;rw[i]⟩
def q0o{p:Pg}(h:QE p=true){j:Nat}{f:Pr}(l:p.A[j]?=some f){x:RI}(i:x∈UD f):x.s∈flL f.body:=by
 rw[LS (QF h).1 (x0i l)]at i;rw[<-show(flatU f).map RI.s=flL f.body from Ms 1 0 false f.body];exact x0n.2 ⟨x,i,rfl⟩
def RI0:RI:=⟨.mk 0 0 [] [] [] (.mk 0 0 [] []) false [] [] [],0,0,false⟩
def TB(id:Int)(f:Pr):Option (RI×Str):=((UD f).find? fun x=>decide (x.s.id=id)).map fun x=>(x,f.name)
def Mm(p:Pg)(id:Int):Option (RI×Str):=p.A.findSome? (TB id)
def YN(p:Pg)(id:Int):RI×Str×Bool:=match Mm p id with
 |some (x,n)=>(x,n,true)
 |none=>(RI0,[],false)
def q2d:Sub (.agg [.int .i64 0,.int .i64 0,.nils,.str [],.str [],.int .i64 0,.int .i64 0,.str [],.nils,.ff,.nils,.nils,.nils,.int .i64 0,.int .i64 0,.ff]) (.agg RI0.cells):=
 Sub.agg (by repeat' (first|exact SubL.nil|refine SubL.cons ?_ ?_|exact Sub.nils|exact Sub.ff rfl|exact Sub.refl _))
def Cq{l:List RI}{q:RI->Bool}{k:Nat}(h:k<l.length):(l.drop k).find? q=if q l[k]then some l[k]else(l.drop (k+1)).find? q:=by
 rw[QB h,x5y];cases q l[k]<;>rfl
def Zp(p:Pg)(id:Int):SpecP prog 63 [.agg p.cells,.int .i64 id] (fun r=>r=.tup [.agg (YN p id).1.cells,.str (YN p id).2.1,.bool (YN p id).2.2]):=by
 refine sB NY func63 rfl call63 ?_;conv=>whnf
 have w:(p.A.map fun f=>AV.agg f.cells).length=p.A.length:=x0j _;repeat' (refine iM fun _=>?_;conv=>whnf)
 refine LoopK.inv QK (fun j:Nat=>⟨[(1,.p (.int .i64 id)),(4,.ptr 1 0),(12,.p (.sl (p.A.map fun f=>.agg f.cells))),(13,.p (.int .i64 (p.A.map fun f=>AV.agg f.cells).length)),(14,.p (.int .i64 j))],[(1,.obj 119 [.p (.int .i64 0),.p (.int .i64 0),.p .nils,.p (.str []),.p (.str []),.p (.int .i64 0),.p (.int .i64 0),.p (.str []),.p .nils,.p .ff,.p .nils,.p .nils,.p .nils,.p (.int .i64 0),.p (.int .i64 0),.p .ff])]⟩) (fun j=>j<=p.A.length/\(p.A.drop j).findSome? (TB id)=Mm p id) (fun j=>p.A.length-j) 0 (Le.of_eq rfl) ⟨x0l _,rfl⟩ ?_;rintro j ⟨y,h⟩;rcases x0t j p.A.length with n|n;rotate_left 1
 .rw [x1q n,List.findSome?_nil]at h;have q:YN p id=(RI0,[],false):=by unfold YN;rw[<-h]
  rw[q];conv=>whnf
  repeat' (first|(refine x0h rfl ?_;conv=>whnf)|(apply bD<;>intro _<;>first|omega|conv=>whnf))
  exact⟨_,.p (Sub.tup (SubL.cons q2d (SubL.cons (Sub.refl _) (SubL.cons (Sub.ff rfl) SubL.nil)))),rfl⟩
 rw[QB n,List.findSome?_cons]at h;conv=>whnf
 repeat' (first|((first|(refine iM fun _=>?_)|refine x0h rfl ?_|(refine iA fun _=>?_)|refine cP (UL _) ?_);conv=>whnf)|(apply bD<;>intro _<;>first|omega|conv=>whnf))
 have v:((UD p.A[j]).map fun i=>AV.agg i.cells).length=(UD p.A[j]).length:=x0j _;have t:TB id p.A[j]=((UD p.A[j]).find? fun x=>decide (x.s.id=id)).map fun x=>(x,p.A[j].name):=rfl;rw[t]at h;have u:=Uv p.A[j];generalize UD p.A[j]=F at v u h⊢;refine LoopK.inv QK (fun k:Nat=>⟨[(1,.p (.int .i64 id)),(4,.ptr 1 0),(8,.p (.ip p.A[j].cells)),(12,.p (.sl (p.A.map fun f=>.agg f.cells))),(13,.p (.int .i64 (p.A.map fun f=>AV.agg f.cells).length)),(14,.p (.int .i64 j)),(19,.p (q3g F)),(20,.p (.int .i64 (F.map fun i=>AV.agg i.cells).length)),(21,.p (.int .i64 k))],[(1,.obj 119 [.p (.int .i64 0),.p (.int .i64 0),.p .nils,.p (.str []),.p (.str []),.p (.int .i64 0),.p (.int .i64 0),.p (.str []),.p .nils,.p .ff,.p .nils,.p .nils,.p .nils,.p (.int .i64 0),.p (.int .i64 0),.p .ff])]⟩) (fun k=>k<=F.length/\(F.drop k).find? (fun x=>decide (x.s.id=id))=F.find? fun x=>decide (x.s.id=id)) (fun k=>F.length-k) 0 (Le.of_eq rfl) ⟨x0l _,rfl⟩ ?_;rintro k ⟨z,l⟩;rcases x0t k F.length with o|o;rotate_left 1
 .rw [x1q o,List.find?_nil]at l;rw[<-l]at h;conv=>whnf
  repeat' (first|(refine wI ?_;conv=>whnf)|(apply bD<;>intro _<;>first|omega|conv=>whnf))
  exact⟨j+1,⟨n,h⟩,by omega,Le.of_eq rfl⟩
 rw[Cq o]at l;conv=>whnf
 repeat' (first|((first|refine dA ?_|refine x0h rfl ?_|(refine iA fun _=>?_)|refine wI ?_);conv=>whnf)|(apply bD<;>intro _<;>first|omega|conv=>whnf))
 .have m:F[k].s.id=id:=by assumption
  rw[if_pos (x2a m)]at l;rw[<-l]at h;have q:YN p id=(F[k],p.A[j].name,true):=by unfold YN;rw[<-h];rfl
  rw[q];exact⟨_,.p (Sub.tup (SubL.cons (Sub.refl _) (SubL.cons (Sub.refl _) (SubL.cons (Sub.tt rfl) SubL.nil)))),rfl⟩
 .have m:¬F[k].s.id=id:=by assumption
  rw[if_neg (by simpa using m)]at l;exact⟨k+1,⟨o,l⟩,by omega,Le.of_eq rfl⟩
def Zy(l:List Int)(x:Int):SpecP prog 33 [QI l,.int .i64 x] (fun r=>r=.bool (Rs l x)):=by
 refine sB PA func33 rfl call33 ?_;conv=>whnf
 repeat' (refine cP (Zj _ _) ?_;conv=>whnf)
 exact RetK.bool rfl
def PU(l:List Int)(n:Int):Int:=if l=[]then 0 else l.getD (B0 n l.length).toNat 0
def Zn(l:List Int)(n:Int)(s:l.length<=1000000):SpecP prog 28 [QI l,.int .i64 n] (fun r=>r=.int .i64 (PU l n)):=by
 refine sB NJ func28 rfl call28 ?_;conv=>whnf
 have o:(l.map (AV.int .i64)).length=l.length:=x0j _;have q:=fun h:0<(l.length:Int)=>Qq (n:=n) h;repeat' (first|((first|(refine iM fun _=>?_)|(refine CallK.pure (HA n (l.length:Int) (by omega)) (.cons (Sub.refl _) (.cons (Sub.int (by omega)) .nil)) ?_;rintro _ rfl));conv=>whnf)|(apply bD<;>intro _<;>first|omega|conv=>whnf))
 all_goals first
  |exact RetK.p (by unfold PU;rw[if_pos (x5d.1 (by omega))];rfl)
  |skip
 have i:=q (by omega);have m:(l.map (AV.int .i64))[(B0 n l.length).toNat]?=some (.int .i64 (PU l n)):=by
  unfold PU;rw[if_neg (fun h=>by subst h;simp at i;omega),x0y,x0d,x0u (by omega)];rfl
 refine IdxK.at (k:=(B0 n l.length).toNat) (by omega) m rfl ?_;conv=>whnf
 skip
 exact RetK.int rfl
def MG(p:Pg)(id:Int):SpecP prog 30 [.agg p.cells,.int .i64 id] (fun r=>r=.str (YN p id).2.1):=by
 refine sB FD func30 rfl call30 ?_;conv=>whnf
 repeat' ((first|refine cP (Zp _ _) ?_|refine x0h rfl ?_);conv=>whnf)
 exact RetK.p rfl
theorem Wr.u64{n:Int}{K:Int->Prop}(l:0<=n)(m:n<=18446744073709551615)(i:K n):Wr .u64 n K:=
 .fit ⟨by simp[IntKind.min,IntKind.signed];omega,by simp[IntKind.max,IntKind.signed,IntKind.bits];omega⟩ i
def SD{P:Program}{e:Bool}{s:St}{o:Oper}{K:LV->Prop}{t u:TypeId}{x y:Operand}(l:o.op=.binOp .shr t x y u)(D:0<=a)(A:QL s.sl x=.p (.int .u64 a))(B:QL s.sl y=.p (.int .u64 1)){m:Int}(d:m=a/2)(b:K (.p (.int .u64 m))):ValO P e s o K:=by
 subst d;refine⟨fun σ β C w q _=>⟨_,.int .u64 (a/2),b,.p (.int _ _),fun w' _ _=>?_⟩⟩;have h:=QZ q x;have i:=QZ q y;rw[A]at h;rw[B]at i;cases h with
 | p h=>
   cases i with
   | p i=>
     have key:∀(n:Int)(v:Value),Rep σ (.int .u64 n) v->v=.int .u64 n:=fun n v g=>by
      cases g;rfl
     have r:=key _ _ h;have e2:=key _ _ i;have z:a.fdiv (2^1)=a/2:=Int.fdiv_eq_ediv_of_nonneg _ (by decide);have c:(eqGuard .shr t x y (.int .u64 a) (.int .u64 1)).run P w'=.ok () w':=by unfold eqGuard;rfl
     simp only[execOp,l,r,e2,Sem.run_bind,c,Result.andThen_ok,binOp,Op.shift];rw[if_neg (by decide)];simp only[show min (1:Int).toNat IntKind.u64.bits=1 by decide,z];rfl
def WX(l m:List Str):SpecP prog 97 [eStrs l,eStrs m] (fun r=>r=.bool (decide (l=m))):=by
 refine sB YU func97 rfl call97 ?_;conv=>whnf
 have y:(l.map AV.str).length=l.length:=x0j _;have z:(m.map AV.str).length=m.length:=x0j _;repeat' (first|(refine iM fun _=>?_;conv=>whnf)|(apply bE<;>intro _<;>first|omega|conv=>whnf))
 all_goals first
  |exact RetK.ff (x2h fun h=>by subst h;omega)
  |skip
 have w:l.length=m.length:=by omega
 refine LoopK.inv QK (fun j:Nat=>⟨[(0,.p (eStrs l)),(1,.p (eStrs m)),(12,.p (.int .i64 (l.map AV.str).length)),(13,.p (.int .i64 j))],[]⟩) (fun j=>j<=l.length/\l.take j=m.take j) (fun j=>l.length-j) 0 (Le.of_eq rfl) ⟨x0l _,rfl⟩ ?_;rintro j ⟨b,n⟩;rcases x0t j l.length with i|i
 .have s:j<m.length:=by omega
  have v:l[j]=m[j]->l.take (j+1)=m.take (j+1):=fun q=>by rw[x0a i,x0a s,n,q]
  have u:l[j]≠m[j]->¬l=m:=fun t q=>t (by subst q;rfl);conv=>whnf
  repeat' (first|((first|refine dA ?_|(refine iA fun _=>?_)|refine wI ?_);conv=>whnf)|(apply bD<;>intro _<;>first|omega|conv=>whnf)|(apply bN<;>intro _<;>conv=>whnf))
  all_goals first
   | (have o:l[j]=m[j]:=eq_of_beq (by assumption)
      exact⟨j+1,⟨i,v o⟩,by omega,Le.of_eq rfl⟩)
   | (have o:¬l[j]=m[j]:=by
       have x:(l[j]==m[j])=false:=by assumption
       simpa using x
      exact RetK.ff (x2h (u o)))
 .rw [x1w i,x1w (by omega)]at n;conv=>whnf
  repeat' (apply bD<;>intro _<;>first|omega|conv=>whnf)
  all_goals exact RetK.tt (x2a n)
def UF(a:Str):SpecP prog 189 [.str a] (fun r=>r=.bool false):=by
 refine sB PM func189 rfl call189 ?_;conv=>whnf
 skip
 all_goals exact RetK.bool (by simp)
def PK(a:Str):SpecP prog 236 [.str a] (fun r=>r=.bool false):=by
 refine sB HO func236 rfl call236 ?_;conv=>whnf
 skip
 all_goals exact RetK.bool (by simp)
def Wm(a b:Str):SpecP prog 235 [.str a,.str b] (fun r=>r=.bool (Op.bytesLess a b)):=by
 refine sB MP func235 rfl call235 ?_;conv=>whnf
 repeat' (first|(refine cP (UF a) ?_;conv=>whnf)|(apply bB<;>intro _<;>conv=>whnf))
 all_goals first
  |contradiction
  |exact RetK.p rfl
def VN(l:List Str)(x:Str)(L:l.Pairwise ltT)(H:l.length<=1000000000):SpecP prog 185 [eStrs l,.str x] (fun r=>∃k:Int,r=.tup [.int .i64 k,.bool (inS l x)]):=by
 refine sB WL func185 rfl call185 ?_;conv=>whnf
 have C:(l.map AV.str).length=l.length:=x0j _;repeat' (refine iM fun _=>?_;conv=>whnf)
 refine LoopK.inv QK (fun y:Nat×Nat=>⟨[(0,.p (eStrs l)),(1,.p (.str x)),(6,.p (.int .i64 (l.map AV.str).length)),(7,.p (.int .i64 y.1)),(8,.p (.int .i64 y.2))],[]⟩) (fun y=>y.1<=y.2/\y.2<=l.length/\(∀(k:Nat)(h:k<l.length),k<y.1->ltT l[k] x)/\∀(k:Nat)(h:k<l.length),y.2<=k->¬ltT l[k] x) (fun y=>y.2-y.1) (0,l.length) (Le.of_eq (by rw[C];rfl)) ⟨x0l _,x0o _,fun k h w=>by simp only at w;omega,fun k h w=>by simp only at w;omega⟩ ?_;rintro⟨i,j⟩ ⟨w,D,d,g⟩;simp only at w D d g⊢;have v:∀(a b:Nat)(E:a<l.length)(F:b<l.length),a<b->ltT l[a] l[b]:=fun a b E F A=>x4k.1 L a b E F A;rcases x0t i j with B|B
 .have G:(i+j)/2<l.length:=by omega
  have J:=Wm l[(i+j)/2] x;conv=>whnf
  repeat' (first|((first|(refine iA fun _=>?_)|refine wI ?_|refine Wr.u64 (by omega) (by omega) ?_|refine SD rfl (by omega) rfl rfl (m:=(((i+j)/2:Nat):Int)) (by omega) ?_|refine cP J ?_);conv=>whnf)|(apply bD<;>intro _<;>first|omega|conv=>whnf)|(apply bB<;>intro _<;>conv=>whnf))
  all_goals first
   | (have s:Op.bytesLess l[(i+j)/2] x=true:=by assumption
      refine⟨((i+j)/2+1,j),⟨by simp only;omega,D,fun k t u=>?_,g⟩,by simp only;omega,Le.of_eq rfl⟩;simp only at u;rcases x0t k ((i+j)/2)with n|n
      .exact ltT.trans _ _ _ (v _ _ t G n) s
      .have:k=(i+j)/2:=by omega
       subst this;exact s)
   | (have s:Op.bytesLess l[(i+j)/2] x=false:=by assumption
      have z:¬ltT l[(i+j)/2] x:=fun h=>by unfold ltT at h;rw[s]at h;cases h
      refine⟨(i,(i+j)/2),⟨by simp only;omega,by simp only;omega,d,fun k t u c=>?_⟩,by simp only;omega,Le.of_eq rfl⟩;simp only at u;rcases x0t ((i+j)/2) k with n|n
      .exact z (ltT.trans _ _ _ (v _ _ G t n) c)
      .have:k=(i+j)/2:=by omega
       subst this;exact z c)
 .obtain rfl:i=j:=by omega
  rcases x0t i l.length with e|e
  .have o:inS l x=(l[i]==x):=by
    rw[x4b,ZA,x3s];constructor
    .intro M;obtain⟨k,t,rfl⟩:=x2m.1 M;rcases Nat.lt_trichotomy k i with q|q|q
     .exact absurd (d k t q) (ltT.irr _)
     .subst q;rfl
     .exact absurd (v i k e t q) (g i e (x0o _))
    .intro q;rw[<-q];exact x0s e
   have K:=PK l[i];conv=>whnf
   repeat' (first|((first|(refine iA fun _=>?_)|refine cP K ?_);conv=>whnf)|(apply bD<;>intro _<;>first|omega|conv=>whnf)|(apply bB<;>intro _<;>conv=>whnf))
   all_goals first
    |(exfalso;omega)
    |(exfalso;simp_all;done)
    | (have s:inS l x=true:=by rw[o];assumption
       exact⟨_,.p (Sub.tup (.cons (Sub.refl _) (.cons (Sub.tt s) .nil))),_,rfl⟩)
    | (have s:inS l x=false:=by rw[o];assumption
       exact⟨_,.p (Sub.tup (.cons (Sub.refl _) (.cons (Sub.ff s) .nil))),_,rfl⟩)
  .have o:inS l x=false:=by
    cases q:inS l x with
    |false=>rfl
    | true=>
      obtain⟨k,t,I⟩:=x2m.1 (ZA.1 q);exact absurd (d k t (by omega)) (by rw[I];exact ltT.irr _)
   conv=>whnf
   repeat' (apply bD<;>intro _<;>first|omega|conv=>whnf)
   all_goals first
    |(exfalso;omega)
    |exact⟨_,.p (Sub.tup (.cons (Sub.refl _) (.cons (Sub.ff o) .nil))),_,rfl⟩
    |exact⟨_,.p (Sub.refl _),_,by rw[o];rfl⟩
def Q1(l:List Str)(x:Str)(m:l.Pairwise ltT)(h:l.length<=1000000000):SpecP prog 114 [eStrs l,.str x] (fun r=>r=.bool (inS l x)):=by
 refine sB Tr func114 rfl call114 ?_;conv=>whnf
 have i:=VN l x m h;repeat' (refine CallK.pure i (.cons (Sub.refl _) (.cons (Sub.refl _) .nil)) ?_;rintro _ ⟨k,rfl⟩;conv=>whnf)
 all_goals first
  |exact RetK.p rfl
def Nw{σ:Mem}{a:Param}{v:Value}(h:Rep σ (.agg a.cells) v):v=.agg #[.string ⟨a.name.toArray⟩,.bool a.ref]:=by
 cases h with
 | agg cs vs u q n o=>
   have r:vs.size=2:=q;have g0:vs[0]?=some (.string ⟨a.name.toArray⟩):=by
    have l:=n 0 (.str a.name) rfl;have m:=o 0 (.str a.name) rfl;generalize u 0=w at l m;cases m;exact l
   have g1:vs[1]?=some (.bool a.ref):=by
    have l:=n 1 (.bool a.ref) rfl;have m:=o 1 (.bool a.ref) rfl;generalize u 1=w at l m;cases m;exact l
   congr 1;apply Array.ext_getElem?;intro i
   match i with
   |0=>exact g0
   |1=>exact g1
   |i+2=>rw[x5x (by omega),x5x (by simp)]
instance:DecidableEq Param:=fun a b=>decidable_of_iff (a.name=b.name/\a.ref=b.ref) (by cases a;cases b;simp)
theorem ValO.B{C:Bool}{s:St}{o:Oper}{K:LV->Prop}{x y:Operand}{u:TypeId}(l:o.op=.binOp .eql 48 x y u){a b:Param}(E:QL s.sl x=.p (.agg a.cells))(F:QL s.sl y=.p (.agg b.cells))(c:K (.p (.bool (decide (a=b))))):ValO prog C s o K:=by
 refine⟨fun σ β q w r _=>⟨_,.bool (decide (a=b)),c,.p (.bool _),fun w' _ _=>?_⟩⟩;have v:q.eval x=.agg #[.string ⟨a.name.toArray⟩,.bool a.ref]:=by
  have:=QZ r x;rw[E]at this;cases this with
  |p h=>exact Nw h
 have z:q.eval y=.agg #[.string ⟨b.name.toArray⟩,.bool b.ref]:=by
  have:=QZ r y;rw[F]at this;cases this with
  |p h=>exact Nw h
 have D:prog.underlying 48=some (.struct (prog.fieldsOf 48)):=by kernel_rfl
 have m:prog.underlying 9=some .string:=by kernel_rfl
 have i:prog.underlying 4=some .bool:=by kernel_rfl
 have A:(prog.fieldsOf 48).toList=(match ty48.desc with |.struct fs=>fs.toList|_=>[]):=by kernel_rfl
 have g:(Op.equalIn 10000 48 (.agg #[.string ⟨a.name.toArray⟩,.bool a.ref]) (.agg #[.string ⟨b.name.toArray⟩,.bool b.ref])).run prog w'=.ok (decide (a=b)) w':=by
  rw[run_equalIn_struct w' 9999 _ _ _ D (by kernel_rfl),A];simp only[ty48,Op.eqFields];have G:∀(x:ByteArray)(y:Bool),(part 9 #[.string x,.bool y] 0).run prog w'=.ok (.string x) w':=fun x y=>run_part_plain w' (by kernel_rfl) rfl;have H:∀(x:ByteArray)(y:Bool),(part 4 #[.string x,.bool y] 1).run prog w'=.ok (.bool y) w':=fun x y=>run_part_plain w' (by kernel_rfl) rfl;have es:∀x y:ByteArray,(Op.equalIn 9999 9 (.string x) (.string y)).run prog w'=.ok (x.toList==y.toList) w':=fun x y=>run_equalIn_string (P:=prog) w' 9998 9 x y m;have t:∀x y:Bool,(Op.equalIn 9999 4 (.bool x) (.bool y)).run prog w'=.ok (x==y) w':=fun x y=>run_equalIn_bool (P:=prog) w' 9998 4 x y i;have e:decide (a=b)=(((⟨a.name.toArray⟩:ByteArray).toList==(⟨b.name.toArray⟩:ByteArray).toList)&&(a.ref==b.ref)):=by
   rw[ByteArray.toList_eq,ByteArray.toList_eq,x4b,x5w,x1z,x3s,x3s];cases a;cases b;simp
  simp only[ne_eq,show ¬("Name" = "_") by decide,show ¬("Ref" = "_") by decide,not_false_eq_true,if_true,Sem.run_bind,G,H,Result.andThen_ok,es,t,Sem.run_ite,Sem.run_pure,e];cases((⟨a.name.toArray⟩:ByteArray).toList==(⟨b.name.toArray⟩:ByteArray).toList)<;>cases(a.ref==b.ref)<;>simp
 simp only[execOp,l,v,z,Sem.run_bind,run_eqGuard_agg _ _ _ _ _ _ _ (show prog.eqGuardType prog.depth 48=false by kernel_rfl),Result.andThen_ok,run_eql_struct,g,Sem.run_pure]
def UX(l:List Param)(x:Param):SpecP prog 221 [.sl (l.map fun a=>.agg a.cells),.agg x.cells] (fun r=>∃k:Int,r=.int .i64 k/\(0<=k↔x∈l)):=by
 refine sB VQ func221 rfl call221 ?_;conv=>whnf
 have q:(l.map fun a=>AV.agg a.cells).length=l.length:=x0j _;repeat' (refine iM fun _=>?_;conv=>whnf)
 refine LoopK.inv QK (fun j:Nat=>⟨[(0,.p (.sl (l.map fun a=>.agg a.cells))),(3,.p (.ip x.cells)),(7,.p (.int .i64 (l.map fun a=>AV.agg a.cells).length)),(8,.p (.int .i64 j))],[]⟩) (fun j=>j<=l.length/\x∉l.take j) (fun j=>l.length-j) 0 (Le.of_eq rfl) ⟨x0l _,by simp⟩ ?_;rintro j ⟨s,i⟩;rcases x0t j l.length with h|h
 .have n:x∈l.take (j+1)↔x∈l.take j\/x=l[j]:=HU h;conv=>whnf
  repeat' (first|((first|refine dA ?_|(refine iA fun _=>?_)|refine wI ?_|refine ValO.B (a:=x) (b:=l[j]) rfl rfl rfl ?_);conv=>whnf)|(apply bD<;>intro _<;>first|omega|conv=>whnf))
  all_goals first
   | (have m:x=l[j]:=by assumption
      exact⟨_,.p (Sub.refl _),j,rfl,⟨fun _=>by rw[m];exact x0s h,fun _=>by omega⟩⟩)
   | (have m:¬x=l[j]:=by assumption
      exact⟨j+1,⟨h,fun o=>(n.1 o).elim i m⟩,by omega,Le.of_eq rfl⟩)
 .rw [x1w h]at i;conv=>whnf
  repeat' (apply bD<;>intro _<;>first|omega|conv=>whnf)
  all_goals exact⟨_,.p (Sub.refl _),-1,rfl,by simp[i]⟩
def WE(l:List Param)(x:Param):SpecP prog 166 [.sl (l.map fun a=>.agg a.cells),.agg x.cells] (fun r=>r=.bool (decide (x∈l))):=by
 refine sB WU func166 rfl call166 ?_;conv=>whnf
 have h:=UX l x;repeat' (refine CallK.pure h (.cons (Sub.refl _) (.cons (Sub.refl _) .nil)) ?_;rintro _ ⟨k,rfl,i⟩;conv=>whnf)
 all_goals first
  |exact RetK.bool (by rw[x4b,x5w,x5w];exact i)
def q3t{p:Pg}(h:QE p=true){j:Nat}{f:Pr}(l:p.A[j]?=some f):∀s∈K8 (QQ p j f) f,okSt s:=fun s i=>by
 unfold K8 at i;rcases x0r.1 i with i|i
 .rcases x0r.1 i with i|i
  .exact F0 h l s i
  .rw [x0b.1 i];exact⟨by decide,by decide⟩
 .obtain ⟨n,m,i⟩:=x1p.1 i;exact RB h l n m s i
def q6m{p:Pg}(h:QE p=true){j:Nat}{f:Pr}(i:p.A[j]?=some f){m:Item}(o:m∈itsOf p j f):(sheetOf p).l[(m.s.id-1).toNat]?=some m:=by
 have u:=WD (QF h).1 i (We o);obtain⟨r,n,q⟩:=GD i (k:=(m.s.id-1).toNat) (by omega) (by omega);have t:=Dx h i (by omega) (by omega) n;rw[n,OK (QF h).1 i q o (by omega)]
section
variable {p:Pg}{k:Nat}{f:Pr}
end
theorem Gv:∀(l:List Pr){n:Nat}{m:Int},XR n l=some m->∀(j:Nat)(f:Pr),l[j]?=some f->∃i,YL 1 ((n+QR l j:Nat):Int) f.body=some i
 |[],_,_,_,j,f,hj=>by simp at hj
 | g::r,n,m,h,j,f,hj=>by
   rw[XR]at h;cases u:KN g<;>rw[u]at h
   .cases h
   simp only[x1u]at h;split at h
   .rename_i v o;cases j with
    | zero=>
      cases hj;exact⟨v,o⟩
    | succ j=>
      have s:=KW _ _ g.body o;have q:XR ((n+QW g.body:Nat):Int) r=some m:=by rw[<-h,s];rfl
      obtain⟨i,t⟩:=Gv r q j f (by simpa using hj);exact⟨i,by rw[<-t,QR];congr 1;omega⟩
   .cases h
def q1r{p:Pg}(h:JJ p=true){j:Nat}{f:Pr}(l:p.A[j]?=some f):∃m,YL 1 ((QR p.A j:Nat):Int) f.body=some m:=by
 unfold JJ at h;simp only[x1z]at h;obtain⟨m,o⟩:=Option.isSome_iff_exists.1 h.2;obtain⟨q,i⟩:=Gv p.A (n:=0) o j f l;exact⟨q,by rw[<-i];congr 1;omega⟩
theorem Gt:∀(l:List Int)(b:List Bool)(i:Nat),i<b.length->((JP l b).getD i false=true↔b.getD i false=true\/∃a∈l,a.toNat=i)
 |[],b,i,hi=>by simp[JP]
 | a::r,b,i,hi=>by
   have m:=Gt r (b.set a.toNat true) i (by rw[x3g];exact hi);have e:JP (a::r) b=JP r (b.set a.toNat true):=rfl;rw[e,m];simp only[x0p,exists_eq_or_imp];by_cases h:a.toNat=i
   .simp [h,hi,x0y,x5h]
   .simp [h,x0y,x5h]
def BF{p:Pg}(h:QE p=true){j:Nat}{f:Pr}(o:p.A[j]?=some f){y:Int}(m:plP p j f y):(QQ p j f).live.getD (ixI p j f y).toNat false=true↔Rch (wR p j f) 0 y:=by
 have l:=ZE m;have q:(QQ p j f).live=JP (FW 0 (ZN (QS (QW f.body+2) ((QQ p j f).real.map (ixP p j f (QW f.body+2:Nat)))).1 [0])) (List.replicate (QW f.body+2) false):=rfl;rw[q,Gt _ _ _ (by rw[x2d];omega)];have n:(List.replicate (QW f.body+2) false).getD (ixI p j f y).toNat false=false:=by
  rw[x0y,x1b];split<;>rfl
 rw[n];have r:=Sc (F:=(QQ p j f).real) (VZ h o) m;unfold wR;rw[<-r];constructor
 .rintro (i|⟨a,i,s⟩)
  .cases i
  .have t:=Fp _ _ _ i
   rwa[show ixI p j f y=a by omega]
 .exact fun i=>.inr ⟨_,i,rfl⟩
section
variable {p:Pg}{k:Nat}{f:Pr}
end
theorem Pw:∀(l:List (Int×Int))(rows:List (List Int)),(∀t∈l,0<=t.1/\t.1<rows.length)->∀(a:Nat)(x:Int),x∈(l.foldl nxE rows).getD a []↔x∈rows.getD a []\/∃t∈l,t.1=a/\t.2=x
 |[],rows,_,a,x=>by simp
 | t::r,rows,h,a,x=>by
   obtain⟨q,s⟩:=h t x0k;rw[x3m,Pw r (nxE rows t) (fun u o=>by rw[A0];exact h u (x0f _ o))];have e:x∈(nxE rows t).getD a []↔x∈rows.getD a []\/(t.1=a/\t.2=x):=by
    unfold nxE;simp only[x0y,x5h];by_cases m:t.1.toNat=a
    .subst m;have n:t.1=(t.1.toNat:Int):=by omega
     rw[if_pos rfl,if_pos (by omega)];simp only[x2k,x0r,x0b];constructor
     .rintro (i|i)
      .exact .inl i
      .exact .inr ⟨n,i.symm⟩
     .rintro (i|⟨_,i⟩)
      .exact .inl i
      .exact .inr i.symm
    .rw [if_neg m];constructor
     .exact .inl
     .rintro (i|⟨i,_⟩)
      .exact i
      .omega
   rw[e];simp only[x0p,exists_eq_or_imp,or_assoc]
def Yk{n:Nat}{l:List (Int×Int)}(h:∀t∈l,0<=t.1/\t.1<n){a:Nat}{x:Int}:x∈(Qw n l).getD a [] ↔ ∃t∈l,t.1=a/\t.2=x:=by
 unfold Qw;rw[Pw l _ (by simpa using h)];have:(List.replicate n ([]:List Int)).getD a []=[]:=by
  rw[x0y,x1b];split<;>rfl
 rw[this];simp
mutual
theorem O3:∀(t:S){nest seen m:Int},D7 nest seen t=some m->∀u∈flS t,oneOk u=true
 | .mk id kind M name pr x has args F L,nest,seen,m,h,u,hu=>by
   obtain⟨h1,_,m1,h3,h4⟩:=Z6 h;rw[flS]at hu;rcases x0p.1 hu with rfl|hu
   ·exact h1
   ·rcases x0r.1 hu with hu|hu
    ·exact Vu F h3 u hu
    ·exact Vu L h4 u hu
theorem Vu:∀(l:List S){nest seen m:Int},YL nest seen l=some m->∀u∈flL l,oneOk u=true
 |[],_,_,_,_,u,hu=>by rw[flL]at hu;cases hu
 | t::r,nest,seen,m,h,u,hu=>by
   obtain⟨_,m1,h1,h2⟩:=BN h;rw[flL]at hu;rcases x0r.1 hu with hu|hu
   ·exact O3 t h1 u hu
   ·exact Vu r h2 u hu
end
def EL{p:Pg}{j:Nat}{f:Pr}(h:QE p=true)(i:p.A[j]?=some f){t:S}(n:t∈flL f.body):OneF t:=by
 obtain⟨m,l⟩:=q1r (QF h).1 i;exact JH (Vu _ l t n)
section
variable {p:Pg}{j:Nat}{f:Pr}
def q5t(p:Pg)(j:Nat)(f:Pr):Int->Int->Prop:=stR (q9k (QQ p j f) f)
def R2(h:QE p=true)(v:p.A[j]?=some f){b:Int}:q5t p j f a b↔wR p j f a b\/(a=0/\b = -1)\/(∃l∈trapsW (QQ p j f) f,∃t∈flL f.body,t.id∈l/\t.kind=10/\a=t.id/\b = -1)\/∃q∈itsOf p j f,7<=q.s.kind/\a=q.s.id/\b=q.next:=by
 have z:=DF (q3t h v);have i:∀s,s∈K8 (QQ p j f) f↔s∈UM (QQ p j f) f\/s∈(QQ p j f).real\/s=⟨0,-1,2⟩\/s∈(itsOf p j f).flatMap fOf:=fun s=>by
  have e:K8 (QQ p j f) f=UM (QQ p j f) f++(QQ p j f).real++[⟨0,-1,2⟩]++(itsOf p j f).flatMap fOf:=rfl;rw[e];simp only[x0r,x0b,or_assoc]
 have o:∀s∈K8 (QQ p j f) f,q5t p j f s.src s.dst:=fun s m=>by
  obtain⟨s',n,c,d,_⟩:=z.2.2 s m;exact⟨s',n,c,d⟩
 constructor
 .rintro ⟨s,m,rfl,rfl⟩;rcases(i s).1 (z.2.1 s m)with n|n|n|n
  .obtain ⟨l,x,t,y,r,w,rfl⟩:=(BT h v).1 n;exact .inr (.inr (.inl ⟨l,x,t,y,r,w,rfl,rfl⟩))
  .exact .inl ⟨s,n,rfl,rfl⟩
  .rw [n];exact .inr (.inl ⟨rfl,rfl⟩)
  .obtain ⟨q,u,m⟩:=x1p.1 n;unfold fOf at m;split at m
   .rw [x0b.1 m];exact .inr (.inr (.inr ⟨q,u,by omega,rfl,rfl⟩))
   .cases m
 .rintro (⟨s,m,rfl,rfl⟩|⟨rfl,rfl⟩|⟨l,x,t,y,r,w,rfl,rfl⟩|⟨q,u,w,rfl,rfl⟩)
  .exact o s ((i s).2 (.inr (.inl m)))
  .exact o ⟨0,-1,2⟩ ((i _).2 (.inr (.inr (.inl rfl))))
  .exact o ⟨t.id,-1,3⟩ ((i _).2 (.inl ((BT h v).2 ⟨l,x,t,y,r,w,rfl⟩)))
  .refine o ⟨q.s.id,q.next,2⟩ ((i _).2 (.inr (.inr (.inr (x1p.2 ⟨q,u,?_⟩)))));have g:=(EL h v (We u)).hi;unfold fOf;rw[if_pos (by omega)];exact x0b.2 rfl
def q0y(h:QE p=true)(n:p.A[j]?=some f){b:Int}(z:q5t p j f a b):plP p j f a/\plP p j f b/\a ≠ -1/\b≠0:=by
 have m:∀t∈flL f.body,plP p j f t.id/\t.id ≠ -1:=fun t o=>by
  have w:=WD (QF h).1 n o;exact⟨.inr (.inr w),by omega⟩
 rcases(R2 h n).1 z with i|⟨rfl,rfl⟩|⟨l,d,t,o,x,y,rfl,rfl⟩|⟨g,q,y,rfl,rfl⟩
 .obtain ⟨u,v⟩:=q0u h n i;refine⟨u,v,?_,fun e=>Fr h n (e▸i)⟩;obtain⟨s,c,rfl,rfl⟩:=i;rcases IC h n (((GF h n).2 s).1 c)with r|r
  .rw [r];show(0:Int) ≠ -1;decide
  .omega
 .exact ⟨.inl rfl,.inr (.inl rfl),by decide,by decide⟩
 .exact ⟨(m t o).1,.inr (.inl rfl),(m t o).2,by decide⟩
 .have i:=(Xt q).1;unfold okI at i;refine⟨(m _ (We q)).1,?_,(m _ (We q)).2,by omega⟩;rcases i with i|i
  .exact .inr (.inl i)
  .exact .inr (.inr i)
def ix_exit:ixI p j f (-1)=(QW f.body+2:Nat)-1:=by
 unfold ixI UJ;rw[if_neg (by decide),if_pos rfl]
end
def L5(k:Int)(x:RI):Bool:=decide (k=0)||decide (x.s.kind=k)
def Kc(p:Pg)(k:Int):List Int:=((allR p).filter (L5 k)).map fun x=>x.s.id
def V2(p:Pg)(k:Int)(u:(allR p).length<=1000):SpecP prog 29 [.agg p.cells,.int .i64 k] (fun r=>r=QI (Kc p k)):=by
 refine sB LW func29 rfl call29 ?_;conv=>whnf
 have m:=Gd (allR p);repeat' ((first|(refine iM fun _=>?_)|refine cP (HC _) ?_);conv=>whnf)
 refine LoopK.inv QK (fun x:Nat×List Int=>⟨[(1,.p (.int .i64 k)),(5,.hd 0 0 x.2.length),(9,.p (q3g (allR p))),(10,.p (.int .i64 ((allR p).map fun i=>AV.agg i.cells).length)),(11,.p (.int .i64 x.1))],[(0,.own 3 1 (x.2.map (.int .i64)))]⟩) (fun x=>x.1<=(allR p).length/\x.2.length<=x.1/\x.2++(((allR p).drop x.1).filter (L5 k)).map (fun y=>y.s.id)=Kc p k) (fun x=>(allR p).length-x.1) (0,[])
  (Le.mk [(0,.own 3 1 [])] (by simp[Chunk.new0];rfl) (by simp) (by simp) (.r (.cons (.nil x0k) (.r (.r (.r .nil))))) (.new x0k .nil)) ⟨x0l _,x0o _,rfl⟩ ?_
 rintro⟨j,o⟩ ⟨n,t,h⟩;simp only at n h t⊢;generalize v:allR p=L at n h m u⊢;rcases x0t j L.length with l|l
 .rw [x1c l]at h;conv=>whnf
  repeat' (first|((first|refine x0h rfl ?_|refine aD ?_|refine bP ?_|(refine iA fun _=>?_)|refine wI ?_|refine XU (by simp) (by simp;omega) ?_);conv=>whnf)|(apply bD<;>intro _<;>first|omega|conv=>whnf))
  all_goals first
   | (have e:L5 k L[j]=true:=by unfold L5;simp[*];done
      rw[x3d e,x1j]at h;exact⟨(j+1,o++[L[j].s.id]),⟨l,by simp;omega,by rw[x1k];exact h⟩,by simp only;omega,Le.of_eq (by simp only[x0g,x0c,x0j];rfl)⟩)
   | (have e:L5 k L[j]=false:=by unfold L5;simp[*];done
      rw[x3n (fun q=>by rw[e]at q;cases q)]at h;exact⟨(j+1,o),⟨l,by simp only;omega,h⟩,by simp only;omega,Le.of_eq rfl⟩)
 .rw [x1q l]at h;simp only[List.filter_nil,x5j,x2v]at h;conv=>whnf
  repeat' (apply bD<;>intro _<;>first|omega|conv=>whnf)
  all_goals first
   |exact⟨_,.hd rfl (by simp),by rw[<-h];rfl⟩
theorem RE:∀(l:List Pr)(k:Nat),k<cntP l->∃j f,l[j]?=some f/\QR l j<=k/\k<QR l j+QW f.body
 |[],k,h=>by rw[cntP]at h;omega
 | g::r,k,h=>by
   rw[cntP]at h;rcases x0t k (QW g.body)with m|m
   .exact ⟨0,g,rfl,by rw[QR];omega,by rw[QR];omega⟩
   .obtain ⟨j,f,i,n,o⟩:=RE r (k-QW g.body) (by omega);exact⟨j+1,f,by simpa using i,by rw[QR];omega,by rw[QR];omega⟩
namespace Own
end Own
open Go.Proofs
def rng(a b:Int)(v:Int):Prop:=a<=v/\v<=b
def q8e(l:List Int)(i:Nat):Int:=l.getD i 0
def srt(K:Int->Int)(l:List Int)(a b:Nat):Prop:=∀i k,a<=i->i<k->k<b->K (q8e l k)<=K (q8e l i)
def blk(K:Int->Int)(l:List Int)(bs n:Nat):Prop:=∀q,srt K l (q*bs) (min (q*bs+bs) n)
theorem A1:∀(l:List Pr)(j:Nat),QR l j<=cntP l
 |_,0=>by rw[QR];omega
 |[],j+1=>by rw[QR];omega
 |g::r,j+1=>by rw[QR,cntP];have:=A1 r j;omega
section
variable {p:Pg}{j:Nat}{f:Pr}
end
section
variable {p:Pg}{j:Nat}{f:Pr}
end
structure Book where
 s:Sheet
 ways:List Way
 G:List (List Str)
 N:List (List Str)
 ins:List (List Str)
 P:List (List Str)
def Book.cells(b:Book):List AV:=[.ip b.s.cells,.sl (b.ways.map fun w=>.ip w.cells),.sl (b.G.map eStrs),.sl (b.N.map eStrs),.sl (b.ins.map eStrs),.sl (b.P.map eStrs)]
def GP:Str:=[36,105,110]
def comB(p:Pg)(n:Str):Bool:=(n==GP)||p.D.any fun s=>n==s
def HT(b:Book)(n:Str):SpecP prog 165 [.ip b.cells,.str n] (fun r=>r=.bool (comB b.s.p n)):=by
 refine sB MR func165 rfl call165 ?_;conv=>whnf
 repeat' (first|(refine cP (QV _ _) ?_;conv=>whnf)|(apply bB<;>intro _<;>conv=>whnf))
 all_goals first
  | (have h:(n==GP)=true:=by assumption
     exact RetK.tt (by unfold comB;rw[h];rfl))
  | (have h:(n==GP)=false:=by assumption
     exact RetK.bool (by unfold comB;rw[h,Bool.false_or]))
def Dp(p:Pg)(j:Nat)(f:Pr)(h:QE p=true)(q:p.A[j]?=some f)(id:Int)(i:plP p j f id):SpecP prog 164 [.ip (QQ p j f).cells,.int .i64 id] (fun r=>r=.bool ((QQ p j f).live.getD (ixI p j f id).toNat false)):=by
 refine sB Vl func164 rfl call164 ?_;conv=>whnf
 have hT:=q3v h q;have l:=Qs (QQ p j f) f hT.hj hT.hc (by have:=hT.hn2;have:=hT.hn;have:=hT.hw;omega) id;have m:UJ (loI (QQ p j f).p (QQ p j f).j) (hiI (QQ p j f).p (QQ p j f).j f) (QQ p j f).n id=ixI p j f id:=rfl;rw[m]at l;have t:=ZE i;have s:(QQ p j f).live.length=QW f.body+2:=by show(JP _ (List.replicate (QW f.body+2) false)).length=_;rw[BM];simp
 generalize ixI p j f id=ix at*
 have o:((QQ p j f).live.map bv)[ix.toNat]?=some (bv ((QQ p j f).live.getD ix.toNat false)):=by
  rw[x0d,x0y,x0u (by omega)];rfl
 generalize(QQ p j f).live.getD ix.toNat false=v at*
 cases v;all_goals
  repeat' ((first|refine dA ?_|refine cP l ?_|(refine IdxK.at (k:=ix.toNat) (by omega) o rfl ?_));conv=>whnf)
 all_goals first
  |exact RetK.tt rfl
  |exact RetK.ff rfl
inductive RwL(k:Nat)(es:List AV):LV->LV->Prop
 |keep {l:LV} (hf:l.free k=true):RwL k es l l
 |row {n:Nat} (hn:n=es.length):RwL k es (.hd k 0 n) (.p (.sl es))
inductive RwC(k:Nat)(es:List AV):List LV->List LV->Prop
 |nil:RwC k es [] []
 |cons {l l':LV} {r r':List LV} (h:RwL k es l l') (hr:RwC k es r r'):RwC k es (l::r) (l'::r')
theorem RwC.get{k:Nat}{es:List AV}{ls i:List LV}(h:RwC k es ls i):i.length=ls.length/\∀(j:Nat)(l':LV),i[j]?=some l'->∃l,ls[j]?=some l/\RwL k es l l':=by
 induction h with
 |nil=>exact⟨rfl,by simp⟩
 | cons h q o=>
   refine⟨by simp[o.1],fun j l' m=>?_⟩;cases j with
   |zero=>simp at m;subst m;exact⟨_,rfl,h⟩
   |succ j=>exact o.2 j l' (by simpa using m)
inductive RwS(k:Nat)(es:List AV):List (Nat×LV)->List (Nat×LV)->Prop
 |nil:RwS k es [] []
 |cons {i:Nat} {l l':LV} {r r':List (Nat×LV)} (h:RwL k es l l') (hr:RwS k es r r'):RwS k es ((i,l)::r) ((i,l')::r')
theorem RwS.get{k:Nat}{es:List AV}{sl m:List (Nat×LV)}(h:RwS k es sl m)(i:Nat):RwL k es (getS sl i) (getS m i):=by
 induction h with
 |nil=>exact .keep rfl
 | @cons j l l' r t h q o=>
   simp only[getS];cases j==i
   .exact o
   .exact h
inductive RwH(k:Nat)(es:List AV):Heap->Heap->Prop
 |nil:RwH k es [] []
 |drop {e:TypeId} {sz:Nat} {es':List AV} {H H':Heap} (h:RwH k es H H'):RwH k es ((k,.own e sz es')::H) H'
 |own {j:Nat} {e:TypeId} {sz:Nat} {es':List AV} {H H':Heap} (hj:j≠k) (h:RwH k es H H'):RwH k es ((j,.own e sz es')::H) ((j,.own e sz es')::H')
 |ext {j:Nat} {d:XC} {H H':Heap} (hj:j≠k) (h:RwH k es H H'):RwH k es ((j,.ext d)::H) ((j,.ext d)::H')
 |obj {j:Nat} {e:TypeId} {cs cs':List LV} {H H':Heap} (hj:j≠k) (hc:RwC k es cs cs') (h:RwH k es H H'):RwH k es ((j,.obj e cs)::H) ((j,.obj e cs')::H')
inductive CRw(k:Nat)(es:List AV):Chunk->Chunk->Prop
 |own {e:TypeId} {sz:Nat} {es':List AV}:CRw k es (.own e sz es') (.own e sz es')
 |ext {d:XC}:CRw k es (.ext d) (.ext d)
 |obj {e:TypeId} {cs cs':List LV} (hc:RwC k es cs cs'):CRw k es (.obj e cs) (.obj e cs')
theorem RwH.get{k:Nat}{es:List AV}{H H':Heap}(h:RwH k es H H'):(H'.map (·.1)).Sublist (H.map (·.1))/\∀j c',(j,c')∈H'->j≠k/\∃c,(j,c)∈H/\CRw k es c c':=by
 induction h with
 |nil=>exact⟨.slnil,by simp⟩
 |drop h l=>exact⟨l.1.cons _,fun j c' r=>let ⟨m,c,o,q⟩:=l.2 j c' r;⟨m,c,x0f _ o,q⟩⟩
 | own r h l=>
   refine⟨l.1.cons_cons _,fun j c' i=>?_⟩;rcases x0p.1 i with t|i
   .cases t;exact⟨r,_,x0k,.own⟩
   .obtain ⟨m,c,o,q⟩:=l.2 j c' i;exact⟨m,c,x0f _ o,q⟩
 | ext r h l=>
   refine⟨l.1.cons_cons _,fun j c' i=>?_⟩;rcases x0p.1 i with t|i
   .cases t;exact⟨r,_,x0k,.ext⟩
   .obtain ⟨m,c,o,q⟩:=l.2 j c' i;exact⟨m,c,x0f _ o,q⟩
 | obj r u h l=>
   refine⟨l.1.cons_cons _,fun j c' i=>?_⟩;rcases x0p.1 i with t|i
   .cases t;exact⟨r,_,x0k,.obj u⟩
   .obtain ⟨m,c,o,q⟩:=l.2 j c' i;exact⟨m,c,x0f _ o,q⟩
def EQ{N:Nat}{sl K:List (Nat×LV)}{H H':Heap}{k:Nat}{e:TypeId}{sz:Nat}{es:List AV}(hg:getH H k=some (.own e sz es))(hs:RwS k es sl K)(hh:RwH k es H H'):Le N ⟨sl,H⟩ ⟨K,H'⟩:=fun σ β a w s=>by
 obtain⟨d,y⟩:=hh.get;have G:=d.nodup s.heap.nodup;have q:∀j∈H'.map (·.1),j∈H.map (·.1):=fun j n=>d.subset n;rcases ZI.1 (s.heap.chunks k _ (QD hg))with⟨O,rfl⟩|⟨i,vs,Q,hisz,hb,hn,hle',hmax,hE⟩
 .have C:∀{l l':LV}{v:Value},RwL k [] l l'->RepL σ β l v->RepL σ β l' v:=fun {l l' v} Y g=>by
   cases Y with
   |keep=>exact g
   | row hn=>
     rcases g.hdI with⟨_,_,_,he⟩|⟨i,_,z,_⟩
     .rw [he];exact .p .nilsl
     .rw [O]at z;cases z
  refine⟨σ,β,⟨s.size,s.defers,fun j=>C (hs.get j) (s.E j),⟨s.heap.mem,fun j c' n=>?_,G,fun j n=>s.heap.apart j (q j n),fun j n j' R=>s.heap.inj j (q j n) j' (q j' R)⟩⟩,Mem.le_refl σ,Frm.refl _ _,fun _ h0 t=>absurd h0 t,fun b ⟨j,n,r⟩=>.inl ⟨j,q j n,r⟩,fun _ _ _=>rfl⟩;obtain⟨_,c,F,M⟩:=y j c' n;have h:=s.heap.chunks j c F;cases M with
  |own=>exact h
  |ext=>exact h
  | obj P=>
    obtain⟨i',B,Z,q2,q3,q4⟩:=h;obtain⟨q5,q6⟩:=P.get;refine⟨i',B,Z,q2,by omega,fun m l' T=>?_⟩;obtain⟨l,q7,q8⟩:=q6 m l' T;obtain⟨u,q9,A⟩:=q4 m l q7;exact⟨u,q9,C q8 A⟩
 .have C:∀τ:Mem,σ.le τ->τ i.blk=some vs->∀{l l':LV}{v:Value},RwL k es l l'->RepL σ β l v->RepL τ β l' v:=fun τ o J {l l' v} Y g=>by
   cases Y with
   |keep=>exact g.mono o
   | row U=>
     rcases g.hdI with⟨z,_⟩|⟨i',oo,z,C,L,rfl⟩
     .rw [Q]at z;cases z
     .rw [Q]at z;cases z;have V:oo=0:=by
       rcases L with L|L
       .simpa using L
       .omega
      subst V U;obtain⟨u,hu⟩ : ∃u:Nat->Nat->Value,∀(m:Nat)(x:AV)(j:Nat)(c:AV),es[m]?=some x->x.cells[j]?=some c->vs[m*sz+j]?=some (u m j)/\Rep σ c (u m j):=by
       refine⟨fun m j=>(vs[m*sz+j]?).getD undef,fun m x j c I n=>?_⟩;obtain⟨v,t,F⟩:=hE.rep m x j c I n;rw[x1e]at t;split at t
       .have D:vs[m*sz+j]?=some v:=by simpa using t
        exact⟨by simp[D],by simpa[D]using F⟩
       .cases t
      exact .p (.sl es i.blk 0 _ sz vs u J (by omega) (by omega) hE.size (fun m x j c I n=>by simpa using(hu m x j c I n).1) fun m x j c I n=>(hu m x j c I n).2.mono o)
  refine s.lay Q (QM hg) hb (fun τ o J j v g=>C τ o J (hs.get j) g) (fun τ o J j c' n=>?_) G;obtain⟨t,c,F,M⟩:=y j c' n;refine⟨t,c,F,fun h=>?_⟩;cases M with
  |own=>exact h.mono o fun _ _ _ _=>rfl
  |ext=>exact h.mono o fun _ _ _ _=>rfl
  | obj P=>
    obtain⟨i',B,Z,q2,q3,q4⟩:=h;obtain⟨q5,q6⟩:=P.get;refine⟨i',B,Z,q2,by omega,fun m l' T=>?_⟩;obtain⟨l,q7,q8⟩:=q6 m l' T;obtain⟨u,q9,A⟩:=q4 m l q7;exact⟨u,q9,C τ o J q8 A⟩
def pureL:LV->LV
 |.p a=>.p a
 |_=>.p .any
def Sy:List (Nat×LV)->List (Nat×LV)
 |[]=>[]
 |(j,l)::r=>(j,pureL l)::Sy r
theorem Ny:∀(sl:List (Nat×LV))(i:Nat),getS (Sy sl) i=pureL (getS sl i)
 |[],i=>rfl
 | (j,l)::r,i=>by
   rw[Sy,getS,getS];cases j==i with
   |true=>rfl
   |false=>exact Ny r i
def DA{P:Program}{N:Nat}{g:FuncId}{args:List LV}{o:Option Nat}{s:St}{K:St->Prop}{avs:List AV}{R:AV->Prop}(I:SpecP P g avs R)(U:FrzL s.H args avs)(h:∀c,R c->setD N (Sy s.sl) o (.p c) fun sl=>K ⟨sl,[]⟩):CallK P N g args o s K:=by
 refine⟨fun σ β a w A m hn hv=>⟨I.go m,?_⟩⟩;obtain⟨t,q⟩:=U.get;obtain⟨τ,G,L,M,O⟩:=LO A.heap;refine(I.ok τ w m (hn.trans t) (fun j c D=>?_) L).mono fun e w' ⟨c,u,σ',Y,T,z,r,Z,n,v⟩=>?_
 .obtain ⟨l,B,d⟩:=q j c D;exact O l _ c (hv j l B) d
 .have F:Rel N σ' β ⟨Sy s.sl,[]⟩ a w':=⟨A.size,A.defers,fun i=>by
   show RepL σ' β (getS (Sy s.sl) i) _;rw[Ny];have:=A.E i;generalize getS s.sl i=l at this⊢;cases l with
   |p x=>exact this.mono (Mem.le_trans G r)
   |_=>exact .p (.any _),⟨Z,fun k c h=>(by cases h),x7z,fun k h=>(by cases h),fun k h=>(by cases h)⟩⟩
  obtain⟨sl,Q,y⟩:=F.setD (.p z) (h c T);refine⟨u,σ',β,_,Y,Q,y,Mem.le_trans G r,⟨n.os,n.tape,n.output,n.drawn,n.size,fun b V _=>n.block b V id⟩,fun b J B=>?_,fun b ⟨j,D,_⟩=>(by cases D),fun _ _ _=>rfl⟩;by_cases d:τ b=none
  .exact .inr (v b d B)
  .rcases M b d with C|C
   .exact absurd J C
   .exact .inl C
end Go.Ab
