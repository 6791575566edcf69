/- aug: what a procedure's traps are, by its places. -/
import Derived.Test.YtonbdgcjnecapaaGreatInK4
import Derived.Test.YtonbdgcjnecapaaGreatInK6
import Derived.Test.YtonbdgcjnecapaaGreatInK9
import Derived.Test.YtonbdgcjnecapaaGreatInK10
import Derived.Test.YtonbdgcjnecapaaGreatInK13
import Derived.Test.YtonbdgcjnecapaaGreatInK14
import Derived.Test.YtonbdgcjnecapaaGreatInK15
set_option linter.all false
set_option maxRecDepth 100000
set_option maxHeartbeats 16000000
open Nat (beq blt)
namespace Go.Ab
open Go.Proofs
variable {K:St->Prop}{N k sz:Nat}{P:Program}{a y:Int}{e:TypeId}
section
variable {p:Pg}{j:Nat}{f:Pr}
def Yz{i:Int}(h:0<=i/\i<(cntL f.body+2:Nat)):plP p j f (ZM p j (cntL f.body+2:Nat) i)/\ixI p j f (ZM p j (cntL f.body+2:Nat) i)=i:=by
 unfold ZM ixI KJ plP loI hiI;constructor
 ·(repeat' split)<;>omega
 ·(repeat' split)<;>omega
def q0d{x:Int}(h:plP p j f x):ZM p j (cntL f.body+2:Nat) (ixI p j f x)=x:=by
 have m:=Yz (p:=p) (j:=j) (f:=f) (HN h);exact Mp m.1 h m.2
def Bl:prsW (QQ p j f) f=(QQ p j f).real.map (ixP p j f (cntL f.body+2:Nat)):=rfl
def q2c(h:QS p=true)(hj:p.A[j]?=some f):∀t∈prsW (QQ p j f) f,(0<=t.1/\t.1<(cntL f.body+2:Nat))/\0<=t.2/\t.2<(cntL f.body+2:Nat):=fun t m=>by
 rw[Bl]at m;obtain⟨s,r,rfl⟩:=x6r.1 m;obtain⟨n,q⟩:=VE h hj s r;exact⟨HN n,HN q⟩
def wE(p:Pg)(j:Nat)(f:Pr):Int->Int->Prop:=rowE (QO (cntL f.body+2) (prsW (QQ p j f) f)).1
def wR(p:Pg)(j:Nat)(f:Pr):Int->Int->Prop:=stR (QQ p j f).real
def q7v(h:QS p=true)(hj:p.A[j]?=some f){i k:Int}:wE p j f i k ↔ ∃a b,wR p j f a b/\ixI p j f a=i/\ixI p j f b=k:=by
 unfold wE wR;rw[Cd];constructor
 .rintro ⟨m,_,_⟩;rw[Bl]at m;obtain⟨s,n,q⟩:=x6r.1 m;exact⟨s.src,s.dst,⟨s,n,rfl,rfl⟩,x8m Prod.fst q,x8m Prod.snd q⟩
 .rintro ⟨a,b,⟨s,n,rfl,rfl⟩,rfl,rfl⟩;obtain⟨m,r⟩:=VE h hj s n;exact⟨x6r.2 ⟨s,n,rfl⟩,B8 (HN m),B8 (HN r)⟩
def x0v(h:QS p=true)(hj:p.A[j]?=some f){b:Int}(hr:wR p j f a b):plP p j f a/\plP p j f b:=by
 obtain⟨s,m,rfl,rfl⟩:=hr;exact VE h hj s m
def q2e(h:QS p=true)(hj:p.A[j]?=some f){b:Int}(u:plP p j f a)(d:plP p j f b):Rch (wE p j f) (ixI p j f a) (ixI p j f b)↔Rch (wR p j f) a b:=by
 constructor
 .intro hr;obtain⟨c,q,n,m⟩:=hr.closed (S:=fun k=>∃c,plP p j f c/\ixI p j f c=k/\Rch (wR p j f) a c) (by
   rintro i k ⟨c,q,n,m⟩ v;obtain⟨x,y,r,w,z⟩:=(q7v h hj).1 v;have t:=x0v h hj r;have:x=c:=Mp t.1 q (by rw[w,n]);subst this;exact⟨y,t.2,z,.tail m r⟩) ⟨a,u,rfl,.refl⟩
  rw[<-Mp q d n];exact m
 .intro hr;exact(hr.closed (S:=fun c=>plP p j f c/\Rch (wE p j f) (ixI p j f a) (ixI p j f c)) (fun x y ⟨q,n⟩ m=>⟨(x0v h hj m).2,.tail n ((q7v h hj).2 ⟨x,y,m,rfl,rfl⟩)⟩) ⟨u,.refl⟩).2
def q9r(h:QS p=true)(hj:p.A[j]?=some f){b:Int}(m:plP p j f a)(n:plP p j f b):sccP (wE p j f) (ixI p j f a) (ixI p j f b)↔sccP (wR p j f) a b:=by
 unfold sccP;rw[q2e h hj m n,q2e h hj n m]
def PP(p:Pg)(j:Nat)(f:Pr)(i:Int):Int:=(VA (QQ p j f) f).getD i.toNat 0
def Kk:VA (QQ p j f) f=V6 (cntL f.body+2) (QO (cntL f.body+2) (prsW (QQ p j f) f)).1:=rfl
def Sd{i:Int}(h:0<=i/\i<(cntL f.body+2:Nat)):MinP (wE p j f) i (PP p j f i):=by
 unfold PP;rw[Kk];exact V7 (HB _ _).1 h
def q0g(h:k<cntL f.body+2):0<=(VA (QQ p j f) f).getD k 0/\(VA (QQ p j f) f).getD k 0<(cntL f.body+2:Nat):=by
 rw[Kk];exact Sh (HB _ _).1 h
def Sf:(VA (QQ p j f) f).length=cntL f.body+2:=by rw[Kk,PN]
theorem MinP.same{E:Int->Int->Prop}{x v:Int}(h:MinP E x v)(m:sccP E x y):MinP E y v:=⟨m.symm.trans h.scc,fun z q=>h.le z (m.trans q)⟩
def q0k{i k:Int}(q:0<=i/\i<(cntL f.body+2:Nat))(r:0<=k/\k<(cntL f.body+2:Nat)):PP p j f i=PP p j f k↔sccP (wE p j f) i k:=by
 have m:=Sd (p:=p) (j:=j) q;have h:=Sd (p:=p) (j:=j) r;constructor
 .intro n;rw[<-n]at h;exact m.scc.trans h.scc.symm
 .intro t;exact(m.same t).uniq h
def Qz(h:QS p=true)(hj:p.A[j]?=some f){b:Int}(m:plP p j f a)(n:plP p j f b):PP p j f (ixI p j f a)=PP p j f (ixI p j f b)↔sccP (wR p j f) a b:=by
 rw[q0k (HN m) (HN n),q9r h hj m n]
structure TrapP(p:Pg)(j:Nat)(f:Pr)(l:List Int)(r:Int):Prop where
 pl:plP p j f r
 mem:∀b,b∈l↔plP p j f b/\sccP (wR p j f) r b
 cl:∀b c,sccP (wR p j f) r b->wR p j f b c->sccP (wR p j f) r c
 n0:¬sccP (wR p j f) r 0
 nx:¬sccP (wR p j f) r (-1)
def IQ{m:Int->Int}{part:List Int}{i q:Nat}{b:Int}:b∈PI m part i q ↔ ∃k:Nat,k<q/\part.getD k 0=i/\m k=b:=by
 unfold PI;constructor
 .intro h;obtain⟨k,t,rfl⟩:=x6r.1 h;obtain⟨n,r⟩:=x7o.1 t;exact⟨k,x9l.1 n,z0x.1 r,rfl⟩
 .rintro ⟨k,n,r,rfl⟩;exact x6r.2 ⟨k,x7o.2 ⟨x9l.2 n,z0x.2 r⟩,rfl⟩
def ix0:ixI p j f 0=0:=by unfold ixI KJ;rw[if_pos rfl]
def ix1:ixI p j f (-1)=((cntL f.body+2:Nat):Int)-1:=by unfold ixI KJ;rw[if_neg (by omega),if_pos rfl]
def pl0:plP p j f 0:=.inl rfl
def pl1:plP p j f (-1):=.inr (.inl rfl)
def Yv(k:Nat):(VA (QQ p j f) f).getD k 0=PP p j f k:=by
 unfold PP;rw[z0d]
def q5n(h:QS p=true)(hj:p.A[j]?=some f){i:Nat}(d:i<cntL f.body+2):(Bb (cntL f.body+2) (VA (QQ p j f) f) (prsW (QQ p j f) f)).getD i false=true ↔
  PP p j f (ixI p j f 0)=i\/PP p j f (ixI p j f (-1))=i\/∃a b,wR p j f a b/\¬sccP (wR p j f) a b/\PP p j f (ixI p j f a)=i:=by
 rw[q0u (by omega) (fun k B=>q0g B) d fun t n=>(q2c h hj t n).1,ix0,ix1];have z:(VA (QQ p j f) f).getD (cntL f.body+2-1) 0=PP p j f (((cntL f.body+2:Nat):Int)-1):=by
  unfold PP;congr 1;omega
 have x:(VA (QQ p j f) f).getD 0 0=PP p j f 0:=rfl;rw[x,z];refine or_congr Iff.rfl (or_congr Iff.rfl ?_);constructor
 .rintro ⟨t,n,q,r⟩;rw[Bl]at n;obtain⟨s,m,rfl⟩:=x6r.1 n;obtain⟨u,v⟩:=VE h hj s m;exact⟨s.src,s.dst,⟨s,m,rfl,rfl⟩,fun w=>q ((Qz h hj u v).2 w),r⟩
 .rintro ⟨a,b,⟨s,m,rfl,rfl⟩,q,r⟩;obtain⟨u,v⟩:=VE h hj s m;exact⟨ixP p j f (cntL f.body+2:Nat) s,by rw[Bl];exact x6r.2 ⟨s,m,rfl⟩,fun c=>q ((Qz h hj u v).1 c),r⟩
def Lm{l:List Int}:l∈trapsW (QQ p j f) f ↔ ∃i:Nat,i<cntL f.body+2/\PP p j f i=i/\(Bb (cntL f.body+2) (VA (QQ p j f) f) (prsW (QQ p j f) f)).getD i false=false/\l=PI (ZM p j (cntL f.body+2:Nat)) (VA (QQ p j f) f) i (cntL f.body+2):=by
 unfold trapsW Vj;rw[Sf];constructor
 .intro r;obtain⟨i,q,rfl⟩:=x6r.1 r;obtain⟨m,h⟩:=x7o.1 q;unfold Ki at h;rw[x7y,z0x,x9u,Yv]at h;exact⟨i,x9l.1 m,h.1,h.2,rfl⟩
 .rintro ⟨i,m,h,n,rfl⟩;refine x6r.2 ⟨i,x7o.2 ⟨x9l.2 m,?_⟩,rfl⟩;unfold Ki;rw[x7y,z0x,x9u,Yv];exact⟨h,n⟩
def q1g(h:QS p=true)(hj:p.A[j]?=some f){i:Nat}(w:i<cntL f.body+2)(u:PP p j f i=i)(b:Int):
  b∈PI (ZM p j (cntL f.body+2:Nat)) (VA (QQ p j f) f) i (cntL f.body+2)↔plP p j f b/\sccP (wR p j f) (ZM p j (cntL f.body+2:Nat) i) b:=by
 obtain⟨r,t⟩:=Yz (p:=p) (j:=j) (f:=f) (i:=i) (by omega);rw[IQ];constructor
 .rintro ⟨k,m,n,rfl⟩;obtain⟨q,v⟩:=Yz (p:=p) (j:=j) (f:=f) (i:=k) (by omega);refine⟨q,(Qz h hj r q).1 ?_⟩;rw[t,v,u,<-Yv,n]
 .rintro ⟨m,n⟩;have q:=HN m;refine⟨(ixI p j f b).toNat,by omega,?_,?_⟩
  .rw [Yv,show(((ixI p j f b).toNat:Nat):Int)=ixI p j f b by omega,<-(Qz h hj r m).2 n,t,u]
  .rw [show(((ixI p j f b).toNat:Nat):Int)=ixI p j f b by omega,q0d m]
def IX(h:QS p=true)(hj:p.A[j]?=some f){l:List Int}(C:l∈trapsW (QQ p j f) f):∃r,TrapP p j f l r:=by
 obtain⟨i,x,z,D,rfl⟩:=Lm.1 C;obtain⟨u,d⟩:=Yz (p:=p) (j:=j) (f:=f) (i:=i) (by omega);have m:¬_:=fun E=>by
  have:=(q5n h hj x).2 E;rw[D]at this;cases this
 have n:PP p j f (ixI p j f (ZM p j (cntL f.body+2:Nat) i))=i:=by rw[d,z]
 refine⟨_,u,q1g h hj x z,fun b c w q=>?_,fun v=>m (.inl ?_),fun v=>m (.inr (.inl ?_))⟩
 .have B:=x0v h hj q;by_cases t:sccP (wR p j f) b c
  .exact w.trans t
  .refine absurd (.inr (.inr ⟨b,c,q,t,?_⟩)) m;rw[<-(Qz h hj u B.1).2 w,n]
 .rw [<-(Qz h hj u pl0).2 v,n]
 .rw [<-(Qz h hj u pl1).2 v,n]
end
def Ss{p:Pg}{j:Nat}{f:Pr}(hj:p.A[j]?=some f)(q:cntP p.A<=200):(QQ p j f).real.length<=100000:=by
 obtain⟨_,_,_,m,h⟩:=QY p;obtain⟨_,_,r,_⟩:=h j f hj;have t:=L2 (QG p j f);have n:=Uz p j f;show(WA (QG p j f)).length<=100000;omega
def Sy{p:Pg}(h:QS p=true){j:Nat}{f:Pr}(hj:p.A[j]?=some f):∀it∈itsOf p j f,∀s∈fOf it,okSt s:=fun it q s m=>by
 obtain⟨w,_⟩:=QJ h;obtain⟨_,_,u⟩:=XZ h;obtain⟨_,_,_,r,n⟩:=QY p;obtain⟨_,_,v,_⟩:=n j f hj;have x:=WD w hj (JC q);have t:=(Q6 q).1;unfold fOf at m;split at m
 .rw [x6p.1 m];unfold okI at t;unfold okSt;constructor
  .show it.s.id≠_;omega
  .show it.next≠_;omega
 .cases m
def SJ{p:Pg}(h:QS p=true){j:Nat}{f:Pr}(hj:p.A[j]?=some f){l:List Int}(u:l∈trapsW (QQ p j f) f):l.length<=cntL f.body+2/\∀id∈l,(QH p.A j:Int)+1<=id/\id<=(QH p.A j+cntL f.body:Nat):=by
 constructor
 .obtain ⟨i,_,_,_,rfl⟩:=Lm.1 u;exact Ln _ _ _ _
 .intro id n;obtain⟨r,q⟩:=IX h hj u;obtain⟨m,t⟩:=(q.mem id).1 n;rcases m with rfl|rfl|m
  .exact absurd t q.n0
  .exact absurd t q.nx
  .exact m
def x0r{p:Pg}(h:QS p=true){j:Nat}{f:Pr}(hj:p.A[j]?=some f):WayT (QQ p j f) f (cntL f.body+2):=by
 obtain⟨_,_,m⟩:=XZ h;obtain⟨_,_,_,r,q⟩:=QY p;obtain⟨_,_,v,_⟩:=q j f hj;refine⟨rfl,hj,by show cntP p.A<=1000;omega,by omega,by omega,x8s (Ss hj m) (by decide),q2c h hj,?_,fun l u=>?_,fun s w=>(BI h hj).2.2 s (((KF h hj).2 s).1 w),Sy h hj⟩
 .have:=Lp (ZM p j (cntL f.body+2:Nat)) (VA (QQ p j f) f) (Bb (cntL f.body+2) (VA (QQ p j f) f) (prsW (QQ p j f) f)) (cntL f.body+2);have e:trapsW (QQ p j f) f=Vj (ZM p j (cntL f.body+2:Nat)) (VA (QQ p j f) f) (Bb (cntL f.body+2) (VA (QQ p j f) f) (prsW (QQ p j f) f)) (cntL f.body+2):=by
   unfold trapsW;rw[Sf];rfl
  rw[e];omega
 .obtain ⟨x,t⟩:=SJ h hj u;refine⟨by omega,fun id n=>?_⟩;have:=t id n;show 1<=id/\id<=(sheetOf p).l.length;omega
instance (a b:Step):Decidable (We a b):=inferInstanceAs (Decidable (_\/_))
instance:DecidableEq Step:=fun a b=>decidable_of_iff (a.src=b.src/\a.dst=b.dst/\a.kind=b.kind) ⟨fun h=>GO h.1 h.2.1 h.2.2,fun h=>by rw[h];exact⟨rfl,rfl,rfl⟩⟩
def q6v{a b:Step}(m:okSt a)(n:okSt b)(h:DI b a=false):(a.src=b.src/\a.dst=b.dst/\a.kind<=b.kind)\/We a b:=by
 rw[z2u,ne_eq,HO]at h;unfold We;by_cases q:ZN a.src=ZN b.src
 .by_cases r:ZN a.dst=ZN b.dst
  .exact .inl ⟨HT m.1 n.1 q,HT m.2 n.2 r,by omega⟩
  .exact .inr (by omega)
 .exact .inr (by omega)
theorem U0:∀(l:List Step)(a:Step),okSt a->(∀s∈l,okSt s)->(a::l).Pairwise (fun a b=>DI b a=false)->
  (∀s∈XJ a l,We a s)/\(XJ a l).Pairwise We/\(∀s∈XJ a l,s∈l)/\∀s∈l,(s.src=a.src/\s.dst=a.dst/\a.kind<=s.kind)\/∃s'∈XJ a l,s'.src=s.src/\s'.dst=s.dst/\s'.kind<=s.kind
 |[],a,_,_,_=>by simp[XJ]
 | b::r,a,ha,hl,h=>by
   have z:=hl b x6g;have hr:∀s∈r,okSt s:=fun s q=>hl s (x6b _ q);rw[x9i]at h;obtain⟨B,C⟩:=h;obtain⟨w,c,d,A⟩:=U0 r b z hr C;have u:=q6v ha z (B b x6g);rw[XJ];cases q:ZR b a with
   | true=>
     unfold ZR at q;simp only[x7y,x7s]at q;have D:a.kind<=b.kind:=by
      rcases u with n|n
      .exact n.2.2
      .unfold We at n;rw[q.1,q.2]at n;omega
     rw[x7z];refine⟨fun s m=>?_,c,fun s m=>x6b _ (d s m),fun s m=>?_⟩
     .have:=w s m;unfold We at this⊢
      rwa[<-q.1,<-q.2]
     .rcases x6m.1 m with rfl|m
      .exact .inl ⟨q.1,q.2,D⟩
      .rcases A s m with⟨n,t,x⟩|n
       .exact .inl ⟨by rw[n,q.1],by rw[t,q.2],by omega⟩
       .exact .inr n
   | false=>
     have v:We a b:=by
      rcases u with n|n
      .unfold ZR at q;simp[n.1,n.2.1]at q
      .exact n
     rw[x7k];refine⟨fun s m=>?_,x9i.2 ⟨w,c⟩,fun s m=>?_,fun s m=>?_⟩
     .rcases x6m.1 m with rfl|m
      .exact v
      .exact Wi v (w s m)
     .rcases x6m.1 m with rfl|m
      .exact x6g
      .exact x6b _ (d s m)
     .rcases x6m.1 m with rfl|m
      .exact .inr ⟨s,x6g,rfl,rfl,z2z _⟩
      .rcases A s m with⟨n,t,x⟩|⟨s',n,t⟩
       .exact .inr ⟨b,x6g,n.symm,t.symm,x⟩
       .exact .inr ⟨s',x6b _ n,t⟩
def PD{l:List Step}(w:∀s∈l,okSt s):(WA l).Pairwise We/\(∀s∈WA l,s∈l)/\∀s∈l,∃s'∈WA l,s'.src=s.src/\s'.dst=s.dst/\s'.kind<=s.kind:=by
 have q:∀s,s∈JM l↔s∈l:=fun s=>(Ka l).mem_iff;have t:=Zk l;unfold WA;cases x:JM l with
 | nil=>
   rw[x]at q;refine⟨by simp[LO],by simp[LO],fun s t=>?_⟩;have:=(q s).2 t;cases this
 | cons a r=>
   rw[x]at q t;have n:∀s∈a::r,okSt s:=fun s h=>w s ((q s).1 h);obtain⟨z,b,c,d⟩:=U0 r a (n a x6g) (fun s h=>n s (x6b _ h)) t;rw[LO];refine⟨x9i.2 ⟨z,b⟩,fun s m=>?_,fun s m=>?_⟩
   .rcases x6m.1 m with rfl|m
    .exact (q s).1 x6g
    .exact (q s).1 (x6b _ (c s m))
   .rcases x6m.1 ((q s).2 m)with rfl|m
    .exact ⟨s,x6g,rfl,rfl,z2z _⟩
    .rcases d s m with⟨u,v,A⟩|⟨s',u,v⟩
     .exact ⟨a,x6g,u.symm,v.symm,A⟩
     .exact ⟨s',x6b _ u,v⟩
def EU{l:List Step}(h:l.Pairwise We){a b:Step}(z:a∈l)(d:b∈l)(v:a.src=b.src)(w:a.dst=b.dst):a=b:=by
 have A:∀{x y:Step},x.src=y.src->x.dst=y.dst->¬We x y:=fun {x y} u n t=>by
  unfold We at t;rw[u,n]at t;omega
 induction h with
 |nil=>cases z
 | @cons c r hc hr B=>
   rcases x6m.1 z with u|q
   .rcases x6m.1 d with n|m
    .rw [u,n]
    .exact absurd (hc b m) (by rw[<-u];exact A v w)
   .rcases x6m.1 d with n|m
    .exact absurd (hc a q) (by rw[<-n];exact A v.symm w.symm)
    .exact B q m
def NP{l m:List Step}(w:∀s∈l,okSt s)(c:m.Pairwise We)(d:∀s∈m,s∈l)(A:∀s∈l,∃s'∈m,s'.src=s.src/\s'.dst=s.dst/\s'.kind<=s.kind):WA l=m:=by
 obtain⟨g1,x,z⟩:=PD w;refine Fc g1 c fun s=>⟨fun r=>?_,fun r=>?_⟩
 .obtain ⟨a,q,h,n,B⟩:=A s (x s r);obtain⟨b,v,t,u,C⟩:=z a (d a q);have:=EU g1 v r (t.trans h) (u.trans n);subst this;have:a=b:=GO h n (by omega);rw[<-this];exact q
 .obtain ⟨a,q,h,n,B⟩:=z s (d s r);obtain⟨b,v,t,u,C⟩:=A a (x a q);have:=EU c v r (t.trans h) (u.trans n);subst this;have:a=b:=GO h n (by omega);rw[<-this];exact q
def q9p:(QQ someP 1 f1).real=[⟨0,5,1⟩,⟨5,6,1⟩,⟨6,7,1⟩,⟨6,8,1⟩,⟨7,-1,1⟩,⟨8,-1,1⟩]:=q9v
def q9b:(QQ someP 0 f0).real=[⟨0,1,1⟩,⟨1,2,1⟩,⟨2,3,1⟩,⟨3,4,1⟩,⟨4,-1,1⟩]:=q9w
def x0n:prsW (QQ someP 1 f1) f1=[(0,1),(1,2),(2,3),(2,4),(3,5),(4,5)]:=by
 unfold prsW;rw[q9p]
 kernel_rfl
def x0p:prsW (QQ someP 0 f0) f0=[(0,1),(1,2),(2,3),(3,4),(4,5)]:=by
 unfold prsW;rw[q9b]
 kernel_rfl
def q9s:trapsW (QQ someP 1 f1) f1=[]:=by
 unfold trapsW VA;rw[x0n]
 kernel_rfl
def q9t:trapsW (QQ someP 0 f0) f0=[]:=by
 unfold trapsW VA;rw[x0p]
 kernel_rfl
def x1v:BO (QQ someP 1 f1) f1=[⟨0,5,1⟩,⟨5,6,1⟩,⟨6,7,1⟩,⟨6,8,1⟩,⟨7,-1,1⟩,⟨8,-1,1⟩]:=by
 unfold BO UI;rw[q9s,q9p];exact NP (by unfold okSt;decide) (by decide) (by decide) (by decide)
def q0z{p:Pg}(h:QS p=true){j:Nat}{f:Pr}(hj:p.A[j]?=some f):¬wR p j f a 0:=fun⟨s,n,_,q⟩=>by
 have m:=((BI h hj).2.1 s (((KF h hj).2 s).1 n)).2;unfold okI at m;omega
def Tz{p:Pg}(h:QS p=true){j:Nat}{f:Pr}(hj:p.A[j]?=some f){t:S}(r:t∈flL f.body):O1 p t.id=some t:=by
 have q:=WD (QJ h).1 hj r;obtain⟨u,x,n,v⟩:=P9 h hj q.1 q.2;obtain⟨it,w,rfl⟩:=q4o (p:=p) (j:=j) r;obtain⟨z,m,rfl⟩:=q4o (p:=p) (j:=j) x;rw[Em (QJ h).1 hj m w v]at n;exact n
def Zd{p:Pg}(h:QS p=true){j:Nat}{f:Pr}(hj:p.A[j]?=some f){s:Step}:s∈UI (QQ p j f) f ↔ ∃l∈trapsW (QQ p j f) f,∃t∈flL f.body,t.id∈l/\t.kind=10/\s=⟨t.id,-1,3⟩:=by
 unfold UI;constructor
 .intro m;obtain⟨l,q,m⟩:=x8w.1 m;obtain⟨id,n,m⟩:=x8w.1 m;have w:=(SJ h hj q).2 id n;obtain⟨t,u,x,v⟩:=P9 h hj w.1 w.2;have e:(QQ p j f).p=p:=rfl;unfold vOf at m;rw[e,x]at m;simp only at m;split at m
  .rename_i r;exact⟨l,q,t,u,by rw[v];exact n,r,by rw[v];simpa using m⟩
  .cases m
 .rintro ⟨l,q,t,u,n,r,rfl⟩;refine x8w.2 ⟨l,q,x8w.2 ⟨t.id,n,?_⟩⟩;have e:(QQ p j f).p=p:=rfl;unfold vOf;rw[e,Tz h hj u];simp[r]
def De{p:Pg}(h:QS p=true){j:Nat}{f:Pr}(hj:p.A[j]?=some f):∀s∈UI (QQ p j f) f++(QQ p j f).real,okSt s:=fun s m=>
 (x6s.1 m).elim ((x0r h hj).virt_ok s) ((x0r h hj).hok s)
def AD{p:Pg}(h:QS p=true){j:Nat}{f:Pr}(hj:p.A[j]?=some f){s:Step}(r:s∈UI (QQ p j f) f++(QQ p j f).real):stR (BO (QQ p j f) f) s.src s.dst:=by
 obtain⟨s',m,n,q,_⟩:=(PD (De h hj)).2.2 s r;exact⟨s',m,n,q⟩
def TY{p:Pg}(h:QS p=true){j:Nat}{f:Pr}(hj:p.A[j]?=some f):(BO (QQ p j f) f).length<=200000:=by
 obtain⟨_,_,q⟩:=XZ h;obtain⟨_,_,_,v,r⟩:=QY p;obtain⟨_,_,c,_⟩:=r j f hj;obtain⟨w,x,_⟩:=PD (De h hj);have z:=PF (l:=BO (QQ p j f) f) (m:=(QQ p j f).real++(JK (QH p.A j) (cntL f.body)).map fun id=>⟨id,-1,3⟩) (OE w) fun s d=>by
  rcases x6s.1 (x s d)with n|n
  .obtain ⟨l,E,t,B,b,D,rfl⟩:=(Zd h hj).1 n;have u:=WD (QJ h).1 hj B;exact x6s.2 (.inr (x6r.2 ⟨t.id,OW u.1 u.2,rfl⟩))
  .exact x6s.2 (.inl n)
 rw[x6f,x6j]at z;have n:=Ss hj q;have C:(JK (QH p.A j) (cntL f.body)).length=cntL f.body:=by unfold JK;simp
 omega
theorem Fu:∀(l:List Pr){n:Nat}{m:Int},ZZ n l=some m->∀(j:Nat)(f:Pr),l[j]?=some f->∃q,UT 1 ((n+QH l j:Nat):Int) f.body=some q
 |[],_,_,_,j,f,hj=>by simp at hj
 | g::r,n,m,h,j,f,hj=>by
   rw[ZZ]at h;cases x:GM g<;>rw[x]at h
   .cases h
   simp only[x7z]at h;split at h
   .rename_i z t;cases j with
    | zero=>
      cases hj;exact⟨z,t⟩
    | succ j=>
      have v:=YM _ _ g.body t;have u:ZZ ((n+cntL g.body:Nat):Int) r=some m:=by rw[<-h,v];rfl
      obtain⟨q,w⟩:=Fu r u j f (by simpa using hj);exact⟨q,by rw[<-w,QH];congr 1;omega⟩
   .cases h
def RC{p:Pg}(h:YH p=true){j:Nat}{f:Pr}(hj:p.A[j]?=some f):∃m,UT 1 ((QH p.A j:Nat):Int) f.body=some m:=by
 unfold YH at h;simp only[x7y]at h;obtain⟨m,r⟩:=Option.isSome_iff_exists.1 h.2;obtain⟨t,q⟩:=Fu p.A (n:=0) r j f hj;exact⟨t,by rw[<-q];congr 1;omega⟩
theorem Fr:∀(l:List Int)(b:List Bool)(i:Nat),i<b.length->((DE l b).getD i false=true↔b.getD i false=true\/∃a∈l,a.toNat=i)
 |[],b,i,hi=>by simp[DE]
 | a::r,b,i,hi=>by
   have m:=Fr r (b.set a.toNat true) i (by rw[x8i];exact hi);have e:DE (a::r) b=DE r (b.set a.toNat true):=rfl;rw[e,m];simp only[x6m,exists_eq_or_imp];by_cases h:a.toNat=i
   .simp [h,hi,x6h,x9r]
   .simp [h,x6h,x9r]
def S8{p:Pg}(h:QS p=true){j:Nat}{f:Pr}(hj:p.A[j]?=some f)(q:plP p j f y):(QQ p j f).live.getD (ixI p j f y).toNat false=true↔Rch (wR p j f) 0 y:=by
 have n:=HN q;have t:(QQ p j f).live=DE (DS 0 (ZO (QO (cntL f.body+2) ((QQ p j f).real.map (ixP p j f (cntL f.body+2:Nat)))).1 [0])) (List.replicate (cntL f.body+2) false):=rfl;rw[t,Fr _ _ _ (by rw[x8j];omega)];have r:(List.replicate (cntL f.body+2) false).getD (ixI p j f y).toNat false=false:=by
  rw[x6h,x7c];split<;>rfl
 rw[r];have u:=Fe (F:=(QQ p j f).real) (VE h hj) q;unfold wR;rw[<-u];constructor
 .rintro (m|⟨a,m,v⟩)
  .cases m
  .have w:=Bk _ _ _ m
   rwa[show ixI p j f y=a by omega]
 .exact fun m=>.inr ⟨_,m,rfl⟩
section
variable {p:Pg}{k:Nat}{f:Pr}
end
def CK{p:Pg}(h:QS p=true)(n:Int):∃(k:Nat) (f:Pr),p.A[k]?=some f/\O3 p (GR p n)=some (QQ p k f)/\UE p (GR p n)=(f,true):=by
 have b:0<p.A.length:=by
  obtain⟨_,u,_⟩:=WX (QJ h).2.1;cases c:p.A with
  | nil=>
    unfold ZX procsN at u;rw[c]at u;simp at u
  |cons a r=>simp
 have hr:=Bh (n:=n) (k:=p.A.length) (by omega);have q:(RE n p.A.length).toNat<p.A.length:=by omega
 have e:GR p n=(p.A[(RE n p.A.length).toNat]).name:=by unfold GR;rw[x6k q]
 cases t:O3 p (GR p n)with
 | none=>
   exfalso;unfold O3 at t;rw[h,x7z]at t;cases x:p.A.find? (fun f=>f.name==GR p n)with
   | none=>
     have:=z0v.1 x _ (x6o q);simp[e]at this
   |some g=>rw[x]at t;cases t
 | some w=>
   obtain⟨k,f,v,rfl,_,z,m⟩:=Zp t;exact⟨k,f,v,rfl,by unfold UE;rw[m]⟩
def q7h{p:Pg}(h:QS p=true){j:Nat}{f:Pr}(hj:p.A[j]?=some f):∀s∈Hz (QQ p j f) f,okSt s:=fun s m=>by
 unfold Hz at m;rcases x6s.1 m with m|m
 .rcases x6s.1 m with m|m
  .exact De h hj s m
  .rw [x6p.1 m];exact⟨by decide,by decide⟩
 .obtain ⟨it,n,m⟩:=x8w.1 m;exact Sy h hj it n s m
def OF{p:Pg}(h:QS p=true){j:Nat}{f:Pr}(hj:p.A[j]?=some f){it:Item}(n:it∈itsOf p j f):(sheetOf p).l[(it.s.id-1).toNat]?=some it:=by
 have u:=WD (QJ h).1 hj (JC n);obtain⟨r,m,q⟩:=Zv hj (k:=(it.s.id-1).toNat) (by omega) (by omega);have t:=Se h hj (by omega) (by omega) m;rw[m,Em (QJ h).1 hj q n (by omega)]
mutual
def shS(o:Nat):S->S
 |.mk id kind F name D x has args I L=>.mk (id+o) kind F name D x has args (shL o I) (shL o L)
def shL(o:Nat):List S->List S
 |[]=>[]
 |t::r=>shS o t::shL o r
end
def sg(o:Nat)(x:Int):Int:=if 0<x then x+o else x
def shI(o:Nat)(it:Item):Item:=⟨shS o it.s,it.D,sg o it.up,sg o it.next,sg o it.loop⟩
def UP(o:Nat)(t:S):shS o t=.mk (t.id+o) t.kind t.F t.name t.D t.x t.has t.args (shL o t.I) (shL o t.L):=by
 cases t;rw[shS];rfl
def ME{o:Nat}{x:Int}(h:0<x):sg o x=x+o:=if_pos h
def q3z{o:Nat}{x:Int}(h:sg o x=sg o y):x=y:=by
 unfold sg at h;split at h<;>split at h<;>omega
mutual
theorem q9z(o:Nat):∀(t:S)(n:Nat),nmS (n+o) t=shS o (nmS n t)
 | .mk id kind F name D x has args I L,n=>by
   rw[nmS,nmS,shS,<-Sk o I,<-Sk o L];congr 1
   ·omega
   ·congr 1;omega
   ·congr 1;omega
theorem Sk(o:Nat):∀(l:List S)(n:Nat),nmL (n+o) l=shL o (nmL n l)
 |[],n=>by rw[nmL,nmL,shL]
 | t::r,n=>by
   rw[nmL,nmL,shL,<-q9z o t,<-Sk o r,show n+o+XT t=n+XT t+o by omega]
end
mutual
theorem AF(o:Nat):∀t:S,XT (shS o t)=XT t
 |.mk id kind F name D x has args I L=>by rw[shS,XT,XT,Da o I,Da o L]
theorem Da(o:Nat):∀l:List S,cntL (shL o l)=cntL l
 |[]=>by rw[shL]
 |t::r=>by rw[shL,cntL,cntL,AF o t,Da o r]
end
def q6j{o:Nat}{l:List S}:(shL o l).isEmpty=l.isEmpty:=by cases l<;>rw[shL]<;>rfl
mutual
theorem q8f(o:Nat):∀t:S,flS (shS o t)=(flS t).map (shS o)
 | .mk id kind F name D x has args I L=>by
   rw[shS,flS,flS,x7l,x6l,Hb o I,Hb o L,shS]
theorem Hb(o:Nat):∀l:List S,flL (shL o l)=(flL l).map (shS o)
 |[]=>by rw[shL,flL];rfl
 |t::r=>by rw[shL,flL,flL,x6l,q8f o t,Hb o r]
end
mutual
theorem q8s(o:Nat):∀(t:S)(pr up nx lp:Int)(n:Nat),itS pr (sg o up) (sg o nx) (sg o lp) (n+o) (shS o t)=(itS pr up nx lp n t).map (shI o)
 | .mk id kind F name D x has args I L,pr,up,nx,lp,n=>by
   have e1:((n+o:Nat):Int)+1=sg o ((n:Int)+1):=by rw[ME (by omega)];omega
   have e2:(if kind=6 then sg o ((n:Int)+1)else sg o nx)=sg o (if kind=6 then(n:Int)+1 else nx):=by split<;>rfl
   have e3:(if kind=6 then sg o ((n:Int)+1)else sg o lp)=sg o (if kind=6 then(n:Int)+1 else lp):=by split<;>rfl
   rw[shS,itS,itS,x7l,x6l,e1,e2,e3,Da,show n+o+1=n+1+o by omega,show n+1+o+cntL I=n+1+cntL I+o by omega,S3 o I,S3 o L];rfl
theorem S3(o:Nat):∀(l:List S)(pr up nx lp:Int)(n:Nat),itL pr (sg o up) (sg o nx) (sg o lp) (n+o) (shL o l)=(itL pr up nx lp n l).map (shI o)
 |[],pr,up,nx,lp,n=>by rw[shL,itL,itL];rfl
 | t::r,pr,up,nx,lp,n=>by
   have e1:(if(shL o r).isEmpty then sg o nx else((n+o:Nat):Int)+1+XT t)=sg o (if r.isEmpty then nx else(n:Int)+1+XT t):=by
    rw[q6j];split
    ·rfl
    ·rw[ME (by omega)];omega
   rw[shL,itL,itL,x6l,AF,e1,q8s o t,show n+o+XT t=n+XT t+o by omega,S3 o r]
end
mutual
theorem q5f:∀(s:S)(n:Nat)(t:S),t∈flS (nmS n s)->0<t.id
 | .mk id kind F name D x has args I L,n,t,h=>by
   rw[nmS,flS]at h;rcases x6m.1 h with rfl|h
   ·show(0:Int)<((n+1:Nat):Int);omega
   ·rcases x6s.1 h with h|h
    ·exact V2 I _ t h
    ·exact V2 L _ t h
theorem V2:∀(l:List S)(n:Nat)(t:S),t∈flL (nmL n l)->0<t.id
 |[],n,t,h=>by rw[nmL,flL]at h;cases h
 | s::r,n,t,h=>by
   rw[nmL,flL]at h;rcases x6s.1 h with h|h
   ·exact q5f s n t h
   ·exact V2 r _ t h
end
def Ef{n c:Nat}{l:List Int}(h:a::l=JK n (c+1)):a=((n+1:Nat):Int)/\l=JK (n+1) c:=by
 rw[show c+1=1+c by omega,YP,TT]at h;exact z2b h
mutual
theorem q0q:∀(t:S)(n:Nat),(flS t).map S.id=JK n (XT t)->nmS n t=t
 | .mk id kind F name D x has args I L,n,h=>by
   rw[flS,XT,x7l,x6l,show 1+cntL I+cntL L=cntL I+cntL L+1 by omega]at h;obtain⟨h1,h2⟩:=Ef h;rw[YP]at h2;obtain⟨h3,h4⟩:=z2m h2 (by rw[x6j,Wh];unfold JK;simp);rw[nmS,Yw I _ h3,Yw L _ h4];have h1:id=((n+1:Nat):Int):=h1;rw[h1]
theorem Yw:∀(l:List S)(n:Nat),(flL l).map S.id=JK n (cntL l)->nmL n l=l
 |[],n,_=>by rw[nmL]
 | t::r,n,h=>by
   rw[flL,cntL,x6l,YP]at h;obtain⟨h1,h2⟩:=z2m h (by rw[x6j,E5];unfold JK;simp);rw[nmL,q0q t _ h1,Yw r _ h2]
end
def Cg(h:List Item)(f:Pr)(it:Item):List Int:=
 if it.s.kind=5 then [KE it.s.I it.next,KE it.s.L it.next]
 else if it.s.kind=6 then [KE it.s.I it.s.id,it.next]
 else if it.s.kind=7 then [((h[(it.loop-1).toNat]?).map Item.next).getD 0]
 else if it.s.kind=8 then [it.loop]
 else if it.s.kind=9 then [-1]
 else if it.s.kind=10 then [(atB f it.s.name).1]
 else [it.next]
def Er(j:Nat)(B:List S):List Item:=itL j 0 (-1) 0 0 (nmL 0 B)
def q8b(B:List S):Int:=if 0<cntL B then 1 else -1
def w0(j:Nat)(f:Pr)(a b:Int):Prop:=(a=0/\b=q8b f.body)\/∃it∈Er j f.body,a=it.s.id/\b∈Cg (Er j f.body) ⟨f.name,f.C,f.E,nmL 0 f.body,f.fin⟩ it
def B9{o:Nat}{l:List S}{d:Int}(h:∀t∈l,0<t.id):KE (shL o l) (sg o d)=sg o (KE l d):=by
 cases l with
 |nil=>rw[shL];rfl
 | cons t r=>
   rw[shL];show(shS o t).id=sg o t.id;rw[ME (h t x6g),UP];rfl
section
variable {p:Pg}{j:Nat}{g:Pr}(hc:QS p=true)(hj:p.A[j]? = some g)
include hc hj
def Dl:g.body=shL (QH p.A j) (nmL 0 g.body):=by
 rw[<-Sk,x8d];exact(Yw _ _ (RS (QJ hc).1 hj)).symm
def S5:itsOf p j g=(Er j g.body).map (shI (QH p.A j)):=by
 have h:=S3 (QH p.A j) (nmL 0 g.body) j 0 (-1) 0 0;rw[<-Dl hc hj,x8d]at h;exact h
def OD:(Er j g.body).length=cntL g.body:=by
 have h:=S5 hc hj;have m:=x8m List.length h;rw[x6j]at m;rw[<-m];exact ZC _ _ _ _ _ _
def q0o{i:Nat}(r:i<cntL g.body):(sheetOf p).l[QH p.A j+i]?=((Er j g.body)[i]?).map (shI (QH p.A j)):=by
 have t:(itsOf p j g).length=cntL g.body:=ZC _ _ _ _ _ _;have m:(itsOf p j g)[i]?=some ((itsOf p j g)[i]'(by omega)):=x6k _;have n:=OF hc hj (x7j m);have h:((itsOf p j g).map fun it=>it.s.id)[i]?=some (((itsOf p j g)[i]'(by omega)).s.id):=by rw[x6a,m];rfl
 rw[Bu (QJ hc).1 hj]at h;unfold JK at h;rw[x6a,z0m r]at h;have q:((QH p.A j+1+1*i:Nat):Int)=((itsOf p j g)[i]'(by omega)).s.id:=x8l h;rw[<-q,show(((QH p.A j+1+1*i:Nat):Int)-1).toNat=QH p.A j+i by omega]at n;rw[n,<-m,S5 hc hj,x6a]
def Ej{it:Item}(b:it∈Er j g.body):UC (sheetOf p) g (shI (QH p.A j) it)=(Cg (Er j g.body) ⟨g.name,g.C,g.E,nmL 0 g.body,g.fin⟩ it).map (sg (QH p.A j)):=by
 have q:shI (QH p.A j) it∈itsOf p j g:=by rw[S5 hc hj];exact z0h b
 have r:it.s∈flL (nmL 0 g.body):=by
  rw[<-BU j 0 (-1) 0 0 (nmL 0 g.body)];exact z0h b
 have n:=V2 g.body 0;have v:∀t,t∈it.s.I\/t∈it.s.L->0<t.id:=fun t z=>n t (Xm _ it.s t r z);have w:=n it.s r;have c:(shI (QH p.A j) it).s.kind=it.s.kind:=by
  show(shS _ it.s).kind=_;rw[UP];rfl
 have z:(shI (QH p.A j) it).s.I=shL (QH p.A j) it.s.I:=by
  show(shS _ it.s).I=_;rw[UP];rfl
 have J:(shI (QH p.A j) it).s.L=shL (QH p.A j) it.s.L:=by
  show(shS _ it.s).L=_;rw[UP];rfl
 have H:(shI (QH p.A j) it).s.id=sg (QH p.A j) it.s.id:=by
  show(shS _ it.s).id=_;rw[UP,ME w];rfl
 have Q:(shI (QH p.A j) it).s.name=it.s.name:=by
  show(shS _ it.s).name=_;rw[UP];rfl
 unfold UC Cg;rw[c,z,J,H,Q];show(if it.s.kind=5 then [KE (shL _ it.s.I) (sg _ it.next),KE (shL _ it.s.L) (sg _ it.next)]else if it.s.kind=6 then [KE (shL _ it.s.I) (sg _ it.s.id),sg _ it.next]else if it.s.kind=7 then [(((sheetOf p).l[(sg (QH p.A j) it.loop-1).toNat]?).map Item.next).getD 0]else if it.s.kind=8 then [sg _ it.loop]else if it.s.kind=9 then [-1]else if it.s.kind=10 then [(atB g it.s.name).1]else [sg _ it.next])=_;rw[B9 fun t h=>v t (.inl h),B9 fun t h=>v t (.inr h),B9 fun t h=>v t (.inl h)];split
 .rfl
 split
 .rfl
 split
 .rename_i V Y B;have O:=MA (QJ hc).2.1 (QJ hc).2.2.2.1 hj;have m:=(Q6 q).2;have x:(shI (QH p.A j) it).loop=sg (QH p.A j) it.loop:=rfl;have D:=(BI hc hj).1 _ q (by rw[c];exact B);rw[x]at m D;have m:=m.resolve_left (by omega);have G:0<it.loop:=by
   unfold sg at m;split at m
   .assumption
   .omega
  rw[ME G]at m⊢;have u:=q0o hc hj (i:=(it.loop-1).toNat) (by omega);rw[show(it.loop+(QH p.A j:Nat)-1).toNat=QH p.A j+(it.loop-1).toNat by omega,u];have M:=OD hc hj;rw[x6k (show(it.loop-1).toNat<(Er j g.body).length by omega)];rfl
 split
 .rfl
 split
 .rfl
 split
 .unfold atB;have e:flL g.body=(flL (nmL 0 g.body)).map (shS (QH p.A j)):=by
   conv=>lhs;rw[Dl hc hj]
   exact Hb _ _
  rw[e,List.find?_map];have d:((fun t:S=>t.F.any fun s=>it.s.name==s)∘shS (QH p.A j))=fun t:S=>t.F.any fun s=>it.s.name==s:=by
   funext t;show(shS _ t).F.any _=_;rw[UP];rfl
  rw[d];show [(match((flL (nmL 0 g.body)).find? fun(t:S)=>t.F.any fun s=>it.s.name==s).map (shS (QH p.A j))with
   |some t=>(t.id,true)
   |none=>bif g.fin.any fun s=>it.s.name==s then(-1,true)else(0,false)).1]=_
  cases U:(flL (nmL 0 g.body)).find? fun(t:S)=>t.F.any fun s=>it.s.name==s with
  | some t=>
    show [(shS _ t).id]=[sg _ t.id];rw[ME (n t (x9n U)),UP];rfl
  | none=>
    show [(bif g.fin.any fun s=>it.s.name==s then((-1:Int),true)else(0,false)).1]=[sg _ (bif g.fin.any fun s=>it.s.name==s then((-1:Int),true)else(0,false)).1];cases g.fin.any fun s=>it.s.name==s<;>rfl
 .rfl
def q9h{b:Int}:stR (QG p j g) a b ↔ ∃x y,w0 j g x y/\a=sg (QH p.A j) x/\b=sg (QH p.A j) y:=by
 have w:(if QH p.A j<QH p.A j+cntL g.body then((QH p.A j:Nat)+1:Int)else -1)=sg (QH p.A j) (q8b g.body):=by
  unfold q8b;by_cases h:0<cntL g.body
  .rw [if_pos (by omega),if_pos h,ME (by decide)];omega
  .rw [if_neg (by omega),if_neg h];rfl
 have c:itL j 0 (-1) 0 (QH p.A j) g.body=(Er j g.body).map (shI (QH p.A j)):=S5 hc hj;have n:∀it∈Er j g.body,(shI (QH p.A j) it).s.id=sg (QH p.A j) it.s.id:=fun it B=>by
  have u:it.s∈flL (nmL 0 g.body):=by
   rw[<-BU j 0 (-1) 0 0 (nmL 0 g.body)];exact z0h B
  show(shS _ it.s).id=_;rw[UP,ME (V2 g.body 0 _ u)];rfl
 unfold stR QG;rw[w,c];constructor
 .rintro ⟨s,t,rfl,rfl⟩;rcases x6m.1 t with rfl|t
  .exact ⟨0,q8b g.body,.inl ⟨rfl,rfl⟩,rfl,rfl⟩
  .obtain ⟨C,m,q⟩:=x8w.1 t;obtain⟨it,r,rfl⟩:=x6r.1 m;obtain⟨y,v,rfl⟩:=x6r.1 q;rw[Ej hc hj r]at v;obtain⟨z,d,rfl⟩:=x6r.1 v;exact⟨it.s.id,z,.inr ⟨it,r,rfl,d⟩,n it r,rfl⟩
 .rintro ⟨x,y,(⟨rfl,rfl⟩|⟨it,m,rfl,q⟩),rfl,rfl⟩
  .exact ⟨_,x6g,rfl,rfl⟩
  .refine ⟨⟨sg (QH p.A j) it.s.id,sg (QH p.A j) y,1⟩,x6b _ (x8w.2 ⟨_,z0h m,?_⟩),rfl,rfl⟩;rw[Ej hc hj m];exact x6r.2 ⟨sg (QH p.A j) y,z0h q,by rw[n it m]⟩
def x4e{b:Int}:wR p j g a b ↔ ∃x y,w0 j g x y/\a=sg (QH p.A j) x/\b=sg (QH p.A j) y:=by
 rw[<-q9h hc hj];have q:=(KF hc hj).2;constructor
 .rintro ⟨s,h,m,n⟩;exact⟨s,(q s).1 h,m,n⟩
 .rintro ⟨s,h,m,n⟩;exact⟨s,(q s).2 h,m,n⟩
def q2i:Rch (wR p j g) 0 y ↔ ∃x,Rch (w0 j g) 0 x/\y=sg (QH p.A j) x:=by
 constructor
 .intro h;induction h with
  |refl=>exact⟨0,.refl,rfl⟩
  | tail _ m n=>
    obtain⟨x,q,r⟩:=n;obtain⟨u,v,t,w,z⟩:=(x4e hc hj).1 m;rw[q3z (r.symm.trans w)]at q;exact⟨v,.tail q t,z⟩
 .rintro ⟨x,h,rfl⟩;induction h with
  |refl=>exact .refl
  |tail _ m n=>exact .tail n ((x4e hc hj).2 ⟨_,_,m,rfl,rfl⟩)
end
def q5v{p q:Pg}(F:QS p=true)(G:QS q=true){j:Nat}{g m:Pr}(v:p.A[j]?=some g)(w:q.A[j]?=some m)(B:nmL 0 m.body=nmL 0 g.body)(u:cntL m.body=cntL g.body)(O:m.fin=g.fin){r:S}(H:r∈flL m.body):
  ∃t∈flL g.body,t.kind=r.kind/\t.name=r.name/\t.D=r.D/\t.args=r.args/\(Rch (wR q j m) 0 r.id->Rch (wR p j g) 0 t.id):=by
 have I:flL m.body=(flL (nmL 0 g.body)).map (shS (QH q.A j)):=by
  conv=>lhs;rw[Dl G w,B]
  exact Hb _ _
 have J:flL g.body=(flL (nmL 0 g.body)).map (shS (QH p.A j)):=by
  conv=>lhs;rw[Dl F v]
  exact Hb _ _
 rw[I]at H;obtain⟨t0,z,rfl⟩:=x6r.1 H;have n:=V2 g.body 0 t0 z;refine⟨shS (QH p.A j) t0,by rw[J];exact z0h z,?_,?_,?_,?_,fun h=>?_⟩
 .rw [UP,UP];rfl
 .rw [UP,UP];rfl
 .rw [UP,UP];rfl
 .rw [UP,UP];rfl
 .have U:w0 j m=w0 j g:=by
   funext a b;unfold w0 Er q8b;rw[B,u];have Q:∀it,Cg (itL j 0 (-1) 0 0 (nmL 0 g.body)) ⟨m.name,m.C,m.E,nmL 0 g.body,m.fin⟩ it=Cg (itL j 0 (-1) 0 0 (nmL 0 g.body)) ⟨g.name,g.C,g.E,nmL 0 g.body,g.fin⟩ it:=fun it=>by
    unfold Cg atB;simp only;rw[O]
   simp only[Q]
  obtain⟨x,c,d⟩:=(q2i G w).1 h;have L:(shS (QH q.A j) t0).id=sg (QH q.A j) t0.id:=by rw[UP,ME n];rfl
  have M:(shS (QH p.A j) t0).id=sg (QH p.A j) t0.id:=by rw[UP,ME n];rfl
  rw[L]at d;rw[M];rw[U,<-q3z d]at c;exact(q2i F v).2 ⟨_,c,rfl⟩
theorem Bs{α:Type}{R:α->α->Prop}(n:∀a,¬R a a)(v:∀a b c,R a b->R b c->R a c):∀{l m:List α},l.Pairwise R->m.Pairwise R->(∀s,s∈l↔s∈m)->l=m
 |[],[],_,_,_=>rfl
 |[],b::m,_,_,h=>by have:=(h b).2 x6g;cases this
 |a::l,[],_,_,h=>by have:=(h a).1 x6g;cases this
 | a::l,b::m,hl,hm,h=>by
   rw[x9i]at hl hm;have u:a=b:=by
    rcases x6m.1 ((h a).1 x6g)with q|q
    .exact q
    rcases x6m.1 ((h b).2 x6g)with t|t
    .exact t.symm
    exact absurd (v _ _ _ (hl.1 b t) (hm.1 a q)) (n a)
   subst u;rw[Bs n v hl.2 hm.2 fun s=>?_];constructor
   .intro r;rcases x6m.1 ((h s).1 (x6b _ r))with rfl|q
    .exact absurd (hl.1 s r) (n s)
    .exact q
   .intro r;rcases x6m.1 ((h s).2 (x6b _ r))with rfl|q
    .exact absurd (hm.1 s r) (n s)
    .exact q
theorem TQ:∀(x y:List UInt8),Op.bytesLess x y=decide (x<y)
 |[],[]=>by simp[Op.bytesLess]
 |_::_,[]=>by simp[Op.bytesLess]
 |[],_::_=>by simp[Op.bytesLess]
 | a::x,b::y=>by
   rw[Op.bytesLess,TQ x y];simp only[List.cons_lt_cons_iff];by_cases h:a<b<;>by_cases m:a=b<;>by_cases n:x<y<;>simp[h,m,n]
def ltT(a b:Str):Prop:=Op.bytesLess a b=true
def PG{a b:Str}:ltT a b↔a<b:=by
 unfold ltT;rw[TQ,x7s]
def Qq(a:Str):¬ltT a a:=fun h=>List.lt_irrefl a (PG.1 h)
theorem ltT.trans(a b c:Str)(m:ltT a b)(q:ltT b c):ltT a c:=PG.2 (List.lt_trans (PG.1 m) (PG.1 q))
def EW{a b:Str}(h:a≠b):ltT a b\/ltT b a:=by
 by_cases n:a<b
 .exact .inl (PG.2 n)
 .rcases List.le_iff_lt_or_eq.1 (List.not_lt.1 n)with m|m
  .exact .inr (PG.2 m)
  .exact absurd m.symm h
def SX(l:List Str):(YB l).Pairwise fun a b=>a<=b:=by
 have:=List.pairwise_mergeSort (le:=fun x y:Str=>decide (x<=y)) (fun a b c m n=>by
  rw[x7s]at m n⊢;exact List.le_trans m n) (fun a b=>by
  rcases List.le_total a b with h|h
  .rw [x8r h];rfl
  .rw [x8r h];exact Bool.or_true _) l
 exact this.imp fun h=>by simpa using h
def Nt{l:List Str}(h:l.Pairwise fun a b=>a<=b):(Go.Lib.compact l).Pairwise ltT:=by
 unfold Go.Lib.compact Go.Lib.compactUpTo;rw[List.pairwise_map];refine(List.Pairwise.filter _ (List.pairwise_lt_range (n:=l.length))).imp_of_mem fun {i k} A B C=>?_;obtain⟨r,_⟩:=x7o.1 A;obtain⟨m,q⟩:=x7o.1 B;rw[x9l]at r m;have le:∀(a b:Nat)(_:a<=b)(z:b<l.length),l[a]'(by omega)<=l[b]:=fun a b d z=>by
  rcases x6c a b with t|t
  .exact List.pairwise_iff_getElem.1 h a b (by omega) z t
  .obtain rfl:a=b:=by omega
   exact List.le_refl _
 have g:∀(a:Nat)(x:a<l.length),l.toArray[a]! = l[a]:=fun a x=>by simp[x]
 rw[g i r,g k m];unfold Go.Lib.keeps at q;rw[x7s,g k m,g (k-1) (by omega)]at q;have v:l[k]≠l[k-1]'(by omega):=by
  rcases q with w|w
  .omega
  .exact w
 have t:=le i (k-1) (by omega) (by omega);have c:=le (k-1) k (by omega) m;rcases List.le_iff_lt_or_eq.1 c with u|u
 .exact PG.2 (List.lt_of_le_of_lt t u)
 .exact absurd u.symm v
def WN(l:List Str):List Str:=Go.Lib.compact (YB l)
def WM{l:List Str}{s:Str}:s∈WN l↔s∈l:=by unfold WN;rw[K6,PC]
def JO(l:List Str):(WN l).Pairwise ltT:=Nt (SX l)
def Bt{l m:List Str}(h:m.Pairwise ltT)(n:∀s,s∈m↔s∈l):m=WN l:=Bs Qq ltT.trans h (JO l) fun s=>by rw[n,WM]
def Tx{l:List Str}(h:l.Nodup):YB l=WN l:=by
 refine Bt ?_ fun s=>PC;have r:(YB l).Nodup:=by
  unfold YB;exact(List.mergeSort_perm l _).nodup_iff.2 h
 refine(List.pairwise_and_iff.2 ⟨SX l,r⟩).imp fun⟨n,q⟩=>?_;rcases List.le_iff_lt_or_eq.1 n with m|m
 .exact PG.2 m
 .exact absurd m q
structure RiseI{α:Type}(R:α->α->Prop)(l out:List α)(i:Nat):Prop where
 rise:out.Pairwise R
 sub:∀s∈out,s∈l
 seg:∀s∈l,s∉out->∀o∈out,R o s
 cnt:(∀s∈l,s∈out)\/out.length=i
def LeastI{α:Type}(R:α->α->Prop)(l out:List α)(k:Nat):Option α->Prop
 |none=>∀s∈l.take k,s∈out
 |some m=>m∈l/\m∉out/\∀s∈l.take k,s∉out->s=m\/R m s
section
variable {α:Type}{R:α->α->Prop}{l out:List α}{i k:Nat}
theorem RiseI.zero:RiseI R l [] 0:=⟨.nil,fun _ h=>(by cases h),fun _ _ _ _ h=>(by cases h),.inr rfl⟩
theorem LeastI.zero:LeastI R l out 0 none:=fun s h=>by rw[z0t]at h;cases h
def QC{s:α}(h:k<l.length):s∈l.take (k+1)↔s∈l.take k\/s=l[k]:=by
 rw[x7x h,x6s,x6p]
theorem LeastI.old(t:k<l.length){o:Option α}(h:LeastI R l out k o)(v:l[k]∈out):LeastI R l out (k+1) o:=by
 cases o with
 | none=>
   intro s r;rcases(QC t).1 r with q|rfl
   .exact h s q
   .exact v
 | some m=>
   refine⟨h.1,h.2.1,fun s r u=>?_⟩;rcases(QC t).1 r with q|rfl
   .exact h.2.2 s q u
   .exact absurd v u
theorem LeastI.first(m:k<l.length)(h:LeastI R l out k none)(u:l[k]∉out):LeastI R l out (k+1) (some l[k]):=by
 refine⟨x6o m,u,fun s t r=>?_⟩;rcases(QC m).1 t with q|rfl
 .exact absurd (h s q) r
 .exact .inl rfl
theorem LeastI.less(z:∀a b c,R a b->R b c->R a c)(r:k<l.length){m:α}(h:LeastI R l out k (some m))(x:l[k]∉out)(q:R l[k] m):LeastI R l out (k+1) (some l[k]):=by
 refine⟨x6o r,x,fun s w v=>?_⟩;rcases(QC r).1 w with t|rfl
 .rcases h.2.2 s t v with rfl|u
  .exact .inr q
  .exact .inr (z _ _ _ q u)
 .exact .inl rfl
theorem LeastI.more(tot:∀a b,a≠b->R a b\/R b a)(u:k<l.length){m:α}(h:LeastI R l out k (some m))(t:¬R l[k] m):LeastI R l out (k+1) (some m):=by
 refine⟨h.1,h.2.1,fun s w v=>?_⟩;rcases(QC u).1 w with r|rfl
 .exact h.2.2 s r v
 .by_cases q:l[k]=m
  .exact .inl q
  .exact .inr ((tot _ _ q).resolve_left t)
theorem RiseI.stay(h:RiseI R l out i)(m:LeastI R l out l.length none):RiseI R l out (i+1):=by
 rw[LeastI,z1z]at m;exact⟨h.rise,h.sub,h.seg,.inl m⟩
theorem RiseI.snoc(h:RiseI R l out i){m:α}(c:LeastI R l out l.length (some m)):RiseI R l (out++[m]) (i+1):=by
 obtain⟨u,v,w⟩:=c;rw[z1z]at w;refine⟨?_,fun s t=>?_,fun s t r o A=>?_,?_⟩
 .rw [List.pairwise_append];exact⟨h.rise,List.pairwise_singleton _ _,fun a x b z=>by rw[x6p.1 z];exact h.seg m u v a x⟩
 .rcases x6s.1 t with q|q
  .exact h.sub s q
  .rw [x6p.1 q];exact u
 .rw [x6s,not_or,x6p]at r;rcases x6s.1 A with q|q
  .exact h.seg s t r.1 o q
  .rw [x6p.1 q];exact(w s t r.1).resolve_left r.2
 .rcases h.cnt with q|q
  .exact absurd (q m u) v
  .exact .inr (by rw[x6f,q];rfl)
theorem RiseI.nodup(m:∀a,¬R a a)(h:RiseI R l out i):out.Nodup:=by
 unfold List.Nodup;refine h.rise.imp fun {a b} q e=>?_;subst e;exact m _ q
theorem RiseI.all[DecidableEq α](t:∀a,¬R a a)(h:RiseI R l out i)(z:i=l.length):out.Pairwise R/\∀s,s∈out↔s∈l:=by
 refine⟨h.rise,fun s=>⟨h.sub s,fun v=>?_⟩⟩;rcases h.cnt with u|u
 .exact u s v
 .refine z0k fun w=>?_;have q:(s::out).Nodup:=x8k.2 ⟨w,h.nodup t⟩;have:=PF q (m:=l) fun x r=>by
   rcases x6m.1 r with rfl|r
   .exact v
   .exact h.sub x r
  rw[x7g]at this;omega
theorem RiseI.len[DecidableEq α](m:∀a,¬R a a)(h:RiseI R l out i):out.length<=l.length:=PF (h.nodup m) h.sub
end
def C2(k t:Nat)(cs:List AV):List (Nat×LV)->(List (Nat×LV)->Prop)->Prop
 |[],K=>K []
 |(j,l)::r,K=>bif beq j t then C2 k t cs r fun r=>K ((j,.p (.agg cs))::r)else JJ (l.kill k) fun l=>C2 k t cs r fun r=>K ((j,l)::r)
theorem Wz{k t:Nat}{cs:List AV}:∀{sl:List (Nat×LV)}{K:List (Nat×LV)->Prop},C2 k t cs sl K->∃sl',K sl'/\∀i,getS sl' i=(getS sl i).kill k\/(i=t/\getS sl' i=.p (.agg cs))
 |[],_,h=>⟨[],h,fun _=>.inl rfl⟩
 | (j,l)::r,K,h=>by
   unfold C2 at h;cases n:beq j t with
   | true=>
     rw[n,x7z]at h;have hj:j=t:=Nat.eq_of_beq_eq_true n;obtain⟨sl',m,q⟩:=Wz h;refine⟨_,m,fun i=>?_⟩;simp only[getS];cases u:j==i with
     |true=>exact .inr ⟨by rw[<-hj];exact(by simpa using u:j=i).symm,rfl⟩
     |false=>exact q i
   | false=>
     rw[n,x7k,XH]at h;obtain⟨sl',m,q⟩:=Wz h;refine⟨_,m,fun i=>?_⟩;simp only[getS];cases u:j==i with
     |true=>exact .inl rfl
     |false=>exact q i
def Ay{s:St}{es:List AV}{t:Nat}{ls:List LV}{cs:List AV}(hg:getH s.H k=some (.own e sz es))(ht:getS s.sl t=.agg ls)(E:ls.length=cs.length)(V:∀(j:Nat)(l:LV)(c:AV),ls[j]?=some l->cs[j]?=some c->(∃a,l=.p a/\Sub a c)\/(∃n,l=.hd k 0 n/\n=es.length/\c=.sl es))(h:C2 k t cs s.sl fun sl=>MF k s.H fun H=>K ⟨sl,H⟩):∃s',K s'/\Le N s s':=by
 obtain⟨sl,h,M⟩:=Wz h;obtain⟨H,h,q,hH⟩:=NM h;have agg:∀{σ τ:Mem}{β:Lab}{v:Value},σ.le τ->RepL σ β (.agg ls) v->(∀v,RepL σ β (.hd k 0 es.length) v->Rep τ (.sl es) v)->Rep τ (.agg cs) v:=fun {σ τ β v} z B L=>by
  cases B with
  | agg _ vs u hn hc hrr=>
    refine Rep.agg cs vs u (by rw[hn,E]) (fun j c hj=>?_) fun j c hj=>?_
    .have C:j<ls.length:=by rw[E];exact(x6n.1 hj).1
     exact hc j _ (x6k C)
    .have C:j<ls.length:=by rw[E];exact(x6n.1 hj).1
     have d:=hrr j _ (x6k C);rcases V j _ c (x6k C) hj with⟨a,A,h3⟩|⟨n,A,rfl,rfl⟩
     .rw [A]at d;cases d with
      |p hp=>exact h3 _ _ (hp.mono z)
     .rw [A]at d;exact L _ d
 refine⟨_,h,fun σ β a w hr=>?_⟩;rcases VD.1 (hr.heap.chunks k _ (QD hg))with⟨U,rfl⟩|⟨i,vs,Y,hisz,hh,hn,hle',hmax,hE⟩
 .refine ⟨σ,β,⟨hr.size,hr.defers,fun j=>?_,⟨hr.heap.mem,fun j c' hj=>?_,q.nodup hr.heap.nodup,fun j hj=>hr.heap.apart j (q.subset hj),fun j hj j' Z=>hr.heap.inj j (q.subset hj) j' (q.subset Z)⟩⟩,Mem.le_refl σ,Frm.refl _ _,fun _ h0 d=>absurd h0 d,fun b ⟨j,hj,r⟩=>.inl ⟨j,q.subset hj,r⟩,fun _ _ _=>rfl⟩
  .show RepL σ β (getS sl j) _;have B:=hr.G j;rcases M j with I|⟨rfl,A⟩
   .rw [I];exact B.kill k
   .rw [A];rw[ht]at B;refine .p (agg (Mem.le_refl σ) B fun v B=>?_);rcases B.hdI with⟨_,_,_,I⟩|⟨i,_,D,_⟩
    .rw [I];exact .nilsl
    .rw [U]at D;cases D
  .obtain ⟨_,c,A,rfl⟩:=hH j c' hj;exact(hr.heap.chunks j c A).kill k
 .refine hr.lay Y (XY hg) hh (fun τ z hτ j v B=>?_) (fun τ z hτ j c' hj=>?_) (q.nodup hr.heap.nodup)
  .show RepL τ β (getS sl j) v;rcases M j with I|⟨rfl,A⟩
   .rw [I];exact(B.kill k).mono z
   .rw [A];rw[ht]at B;refine .p (agg z B fun v B=>?_);rcases B.hdI with⟨D,_⟩|⟨i',oo,D,hl,Q,rfl⟩
    .rw [Y]at D;cases D
    .rw [Y]at D;cases D;have hoo:oo=0:=by
      rcases Q with Q|Q
      .simpa using Q
      .omega
     subst hoo;obtain⟨u,hu⟩ : ∃u:Nat->Nat->Value,∀(m:Nat)(x:AV)(j:Nat)(c:AV),es[m]?=some x->x.cells[j]?=some c->vs[m*sz+j]?=some (u m j)/\Rep σ c (u m j):=by
      refine⟨fun m j=>(vs[m*sz+j]?).getD undef,fun m x j c O hj=>?_⟩;obtain⟨v,d,A⟩:=hE.rep m x j c O hj;rw[x7i]at d;split at d
      .have F:vs[m*sz+j]?=some v:=by simpa using d
       exact⟨by simp[F],by simpa[F]using A⟩
      .cases d
     exact .sl es i.blk 0 _ sz vs u hτ (by omega) (by omega) hE.size (fun m x j c O hj=>by simpa using(hu m x j c O hj).1) fun m x j c O hj=>(hu m x j c O hj).2.mono z
  .obtain ⟨d,c,A,rfl⟩:=hH j c' hj;exact⟨d,c,A,fun J=>(J.kill k).mono z fun _ _ _ _=>rfl⟩
def SI{T:Tab}{o:Oper}{s:St}(hT:TabOK P T){es:List AV}(t:Nat){ls:List LV}(cs:List AV)(d:getH s.H k=some (.own e sz es))(B:getS s.sl t=.agg ls)(u:ls.length=cs.length)(m:∀(j:Nat)(l:LV)(c:AV),ls[j]?=some l->cs[j]?=some c->(∃a,l=.p a/\Sub a c)\/(∃n,l=.hd k 0 n/\n=es.length/\c=.sl es))(h:C2 k t cs s.sl fun sl=>MF k s.H fun H=>opW P T N ⟨sl,H⟩ o K):OpK P N s o K:=⟨fun σ β a w hr Q=>by
 obtain⟨E,z,r⟩:=Ay (N:=N) d B u m (K:=fun s'=>opW P T N s' o K) h;obtain⟨σ1,β1,x,q⟩:=r σ β a w hr;exact Oper.wp_mono (fun D w' ⟨σ',β',C,b,v,A⟩=>⟨σ',β',C,b,v,q.trans A⟩) (PB hT z x Q)⟩
def cpA(b:Nat):AV:=.raw (.pointer (some ⟨b,0,none⟩))
def LV.cl(k b:Nat):LV->LV
 |.p a=>.p a
 | .ptr j off=>bif j==k then(match off with
   |0=>.p (cpA b)
   |_+1=>.p .any)else .ptr j off
 |.hd j off n=>bif j==k then .p .any else .hd j off n
 |.agg vs=>.agg (cls k b vs)
 |.tup vs=>.tup (cls k b vs)
 |.ext j d=>bif j==k then .p .any else .ext j d
where cls (k b:Nat):List LV->List LV
 |[]=>[]
 |v::r=>LV.cl k b v::cls k b r
theorem AG(k b:Nat):∀ls:List LV,LV.cl.cls k b ls=ls.map (LV.cl k b)
 |[]=>rfl
 |v::r=>by rw[LV.cl.cls,AG k b r];rfl
theorem RepL.cl{σ:Mem}{β γ:Lab}{k kc:Nat}{i:BInfo}(z:β k=some i)(t:∀j,j≠k->j≠kc->γ j=β j){l:LV}{v:Value}(hr:RepL σ β l v)(r:l.free kc=true):RepL σ γ (l.cl k i.blk) v:=by
 induction hr with
 |p h=>exact .p h
 | ptr j off i' hj=>
   have m:j≠kc:=by simpa[LV.free]using r
   by_cases h:j=k
   .subst h;rw[z]at hj;cases hj;simp only[LV.cl,x8f,x7z];cases off with
    |zero=>exact .p (.raw _)
    |succ off=>exact .p (.any _)
   .have:(j==k)=false:=by simp[h]
    simp only[LV.cl,this,x7k];exact .ptr j off i' (by rw[t j h m];exact hj)
 | hdn j hj=>
   have m:j≠kc:=by simpa[LV.free]using r
   by_cases h:j=k
   .subst h;simp only[LV.cl,x8f,x7z];exact .p (.any _)
   .have:(j==k)=false:=by simp[h]
    simp only[LV.cl,this,x7k];exact .hdn j (by rw[t j h m];exact hj)
 | hd j off len i' o hj b c=>
   have m:j≠kc:=by simpa[LV.free]using r
   by_cases h:j=k
   .subst h;simp only[LV.cl,x8f,x7z];exact .p (.any _)
   .have:(j==k)=false:=by simp[h]
    simp only[LV.cl,this,x7k];exact .hd j off len i' o (by rw[t j h m];exact hj) b c
 | agg ls vs u w hc _ x=>
   simp only[LV.cl,AG];refine .agg _ vs u (by rw[x6j];exact w) (fun j l' hj=>?_) fun j l' hj=>?_
   .rw [x6a]at hj;cases q:ls[j]?with
    |none=>rw[q]at hj;cases hj
    |some l=>exact hc j l q
   .rw [x6a]at hj;cases q:ls[j]?with
    |none=>rw[q]at hj;cases hj
    | some l=>
      rw[q]at hj;cases hj;exact x j l q (XQ (by simpa[LV.free]using r) j l q)
 | tup ls vs u w hc _ x=>
   simp only[LV.cl,AG];refine .tup _ vs u (by rw[x6j];exact w) (fun j l' hj=>?_) fun j l' hj=>?_
   .rw [x6a]at hj;cases q:ls[j]?with
    |none=>rw[q]at hj;cases hj
    |some l=>exact hc j l q
   .rw [x6a]at hj;cases q:ls[j]?with
    |none=>rw[q]at hj;cases hj
    | some l=>
      rw[q]at hj;cases hj;exact x j l q (XQ (by simpa[LV.free]using r) j l q)
 | ext j d i' v hj hd=>
   have m:j≠kc:=by simpa[LV.free]using r
   by_cases h:j=k
   .subst h;simp only[LV.cl,x8f,x7z];exact .p (.any _)
   .have:(j==k)=false:=by simp[h]
    simp only[LV.cl,this,x7k];exact .ext j d i' v (by rw[t j h m];exact hj) hd
def x0s(k kc b:Nat)(c:AV)(j:Nat)(ch:Chunk):Chunk:=bif j==kc then(match ch with
 |.ext (.cells e l)=>.ext (.cells e (l++[(b,c)]))
 |ch=>ch)else ch.mapL (LV.cl k b)
def q3r(k kc b:Nat)(c:AV)(H:Heap):Heap:=(H.filter fun x=> !(x.1==k)).map fun x=>(x.1,x0s k kc b c x.1 x.2)
def Rl(k kc b:Nat)(c:AV):Heap->(Heap->Prop)->Prop
 |[],K=>K []
 |(j,ch)::r,K=>bif j==k then Rl k kc b c r K else bif j==kc then(match ch with
     |.ext (.cells e l)=>Rl k kc b c r fun r=>K ((j,.ext (.cells e (l++[(b,c)])))::r)
     |ch=>Rl k kc b c r fun r=>K ((j,ch)::r))else Ca (LV.cl k b) ch fun ch=>Rl k kc b c r fun r=>K ((j,ch)::r)
theorem Tl(k kc b:Nat)(c:AV):∀(H:Heap)(K:Heap->Prop),Rl k kc b c H K=K (q3r k kc b c H)
 |[],K=>rfl
 | (j,ch)::r,K=>by
   have n:=Tl k kc b c r;unfold Rl q3r;by_cases h:j=k
   .have e:(j==k)=true:=by simp[h]
    rw[e,x7z,n,x9f (by simp[e])];rfl
   .have e:(j==k)=false:=by simp[h]
    rw[e,x7k,x9j (by simp[e]),x7l];simp only[x0s];by_cases q:j=kc
    .have m:(j==kc)=true:=by simp[q]
     rw[m,x7z,x7z];split<;>rw[n]<;>first|rfl|skip
    .have m:(j==kc)=false:=by simp[q]
     rw[m,x7k,x7k,NB,n];rfl
def q9u(k kc:Nat)(s:St):Bool:=(!(k==kc)&&(Nat.ble 2000 kc&&blt k 1000))&&((s.sl.all fun x=>x.2.free kc)&&s.H.all fun x=>x.2.free kc)
def x0c(k kc:Nat)(s:St)(K:St->Prop):Prop:=match getH s.H k,getH s.H kc with
 |some (.obj e [.p c]),some (.ext (.cells e' l))=>(e=e'/\q9u k kc s=true)/\∀b,(∀x∈l,x.1≠b)->Ji (LV.cl k b) s.sl fun sl=>Rl k kc b c s.H fun H=>K ⟨sl,H⟩
 |_,_=>False
def Ad{σ:Mem}{β:Lab}{s:St}{a:Act}{w:World}{kc:Nat}(h:x0c k kc s K)(hr:Rel N σ β s a w):∃σ' β' s',K s'/\Rel N σ' β' s' a w/\Later σ β s.H w σ' β' s'.H w:=by
 unfold x0c at h;split at h<;>first|exact h.elim|skip
 rename_i e c e' l hgk hgc;obtain⟨⟨rfl,hok⟩,h⟩:=h;simp only[q9u,x7y,x8h,x9u,z0f,ne_eq]at hok;obtain⟨⟨hne,hkc,hk⟩,hf1,hf2⟩:=hok;have hkc:2000<=kc:=z0c hkc;have hk:k<1000:=by simpa[blt,Nat.lt_iff_add_one_le]using hk
 have hmk:=QD hgk;have hmc:=QD hgc;have hlk:k∈s.H.map (·.1):=x6r.2 ⟨_,hmk,rfl⟩;have hlc:kc∈s.H.map (·.1):=x6r.2 ⟨_,hmc,rfl⟩;obtain⟨i,vs,hi,hh,hn,hc⟩:=hr.heap.chunks k _ hmk;have hcc:XC.holds (.cells e l) σ (β kc) w:=hr.heap.chunks kc _ hmc;obtain⟨hnd,hcl⟩:=hcc;have Q:∀x∈l,x.1≠i.blk:=fun x q L=>by
  obtain⟨B,_,n,b,_⟩:=hcl x q;exact hne (hr.heap.inj k hlk kc hlc i B hi n i.blk i.has_blk (L▸b))
 have h:=h i.blk Q;obtain⟨sl,h,hsl⟩:=YG (by rfl) h;rw[Tl]at h;obtain⟨C,Z⟩ : ∃C:BInfo,∀x,C.has x↔x=i.blk\/∃B,β kc=some B/\B.has x:=by
  cases hq:β kc with
  | none=>
    refine⟨⟨i.blk,0,1,[],x6t _⟩,fun x=>?_⟩;rw[Qr];exact⟨fun h=>.inl h.symm,fun h=>h.elim (fun h=>h.symm) fun⟨_,h,_⟩=>by cases h⟩
  | some B=>
    refine⟨⟨B.blk,B.cap,B.sz,some (i.blk,0)::B.subs,B.ok⟩,fun x=>?_⟩;constructor
    .rintro (h|⟨c,h⟩)
     .exact .inr ⟨B,rfl,.inl h⟩
     .rcases x6m.1 h with h|h
      .cases h;exact .inl rfl
      .exact .inr ⟨B,rfl,.inr ⟨c,h⟩⟩
    .rintro (rfl|⟨_,h,h'⟩)
     .exact .inr ⟨0,x6g⟩
     .cases h;rcases h' with h'|⟨c,h'⟩
      .exact .inl h'
      .exact .inr ⟨c,x6b _ h'⟩
 let β':Lab:=fun j=>if j=kc then some C else if j=k then none else β j;have hβc:β' kc=some C:=if_pos rfl;have hβ:∀j,j≠k->j≠kc->β' j=β j:=fun j n b=>by
  show(if j=kc then some C else if j=k then none else β j)=β j;rw[if_neg b,if_neg n]
 have Y:∀i,(getS s.sl i).free kc=true:=fun i=>by
  have key:∀sl:List (Nat×LV),(∀x∈sl,x.2.free kc=true)->(getS sl i).free kc=true:=fun sl=>by
   induction sl with
   |nil=>exact fun _=>rfl
   | cons x r ih=>
     intro q;obtain⟨j,v⟩:=x;simp only[getS];cases j==i with
     |true=>exact q _ x6g
     |false=>exact ih fun y hy=>q y (x6b _ hy)
  exact key _ hf1
 have D:∀j∈(q3r k kc i.blk c s.H).map (·.1),j≠k/\j∈s.H.map (·.1):=fun j hj=>by
  obtain⟨x,q,rfl⟩:=x6r.1 hj;obtain⟨y,hy,rfl⟩:=x6r.1 q;obtain⟨n,b⟩:=x7o.1 hy;exact⟨by simpa using b,x6r.2 ⟨y,n,rfl⟩⟩
 have F:∀j∈(q3r k kc i.blk c s.H).map (·.1),∀i',β' j=some i'->∀x,i'.has x->∃m∈s.H.map (·.1),∃U,β m=some U/\U.has x/\(m=j\/(m=k/\j=kc)):=fun j hj i' A x q=>by
  by_cases t:j=kc
  .subst t;rw[hβc]at A;cases A;rcases(Z x).1 q with rfl|⟨B,n,b⟩
   .exact ⟨k,hlk,i,hi,i.has_blk,.inr ⟨rfl,rfl⟩⟩
   .exact ⟨j,hlc,B,n,b,.inl rfl⟩
  .rw [hβ j (D j hj).1 t]at A;exact⟨j,(D j hj).2,i',A,q,.inl rfl⟩
 refine⟨σ,β',⟨sl,q3r k kc i.blk c s.H⟩,h,⟨hr.size,hr.defers,fun m=>?_,⟨hr.heap.mem,fun j ch hj=>?_,?_,fun j hj i' A x q=>?_,fun j hj j' hj' i1 i2 n b x hx1 hx2=>?_⟩⟩,Mem.le_refl σ,Frm.refl _ _,fun _ h0 n=>absurd h0 n,fun x ⟨j,hj,i',A,q⟩=>?_,fun j n b=>hβ j (by omega) (by omega)⟩
 .show RepL σ β' (getS sl m) _;rw[hsl];exact(hr.G m).cl hi hβ (Y m)
 .obtain ⟨y,hy,L⟩:=x6r.1 hj;cases L;obtain⟨n,b⟩:=x7o.1 hy;have hyk:y.1≠k:=by simpa using b
  unfold x0s;by_cases t:y.1=kc
  .have:y.2=.ext (.cells e l):=by
    have M:(kc,y.2)∈s.H:=by rw[<-t];exact n
    have O:=hr.heap.nodup;have key:∀(H:Heap),(H.map (·.1)).Nodup->∀{c1 c2},(kc,c1)∈H->(kc,c2)∈H->c1=c2:=fun H=>by
     induction H with
     |nil=>intro _ c1 c2 h;cases h
     | cons z r ih=>
       intro hn c1 c2 n b;rw[x7l,x8k]at hn;rcases x6m.1 n with e1|n<;>rcases x6m.1 b with e2|b
       .rw [<-e1]at e2;cases e2;rfl
       .exact absurd (x6r.2 ⟨_,b,by rw[<-e1]⟩) hn.1
       .exact absurd (x6r.2 ⟨_,n,by rw[<-e2]⟩) hn.1
       .exact ih hn.2 n b
    exact key _ O M hmc
   rw[this,t];simp only[x8f,x7z];show XC.holds (.cells e (l++[(i.blk,c)])) σ (β' kc) w;rw[hβc];refine⟨?_,fun x q=>?_⟩
   .rw [x6l,x8b];refine⟨hnd,by simp,fun x q y hy L=>?_⟩;obtain⟨z,hz,rfl⟩:=x6r.1 q;rw[x6p.1 hy]at L;exact Q z hz L
   .rcases x6s.1 q with q|q;rotate_left
    .rw [x6p.1 q];obtain⟨u,J,V⟩:=hc 0 (.p c) rfl;refine⟨C,u,rfl,(Z _).2 (.inl rfl),?_,?_⟩
     .have:vs=#[u]:=by
       have h7:vs.size=1:=hn;obtain⟨ls⟩:=vs
       match ls,h7,J with
       |[v],_,J=>simp at J;rw[J]
      rw[<-this];exact hh
     .cases V with
      |p V=>exact V
    .obtain ⟨B,u,J,V,h7,h8⟩:=hcl x q;exact⟨C,u,rfl,(Z _).2 (.inr ⟨B,J,V⟩),h7,h8⟩
  .have e2:(y.1==kc)=false:=by simp[t]
   rw[e2,x7k];have E:=hr.heap.chunks y.1 y.2 n;have hfr:=hf2 y n;obtain⟨j,ch⟩:=y;cases ch with
   | obj e' ls=>
     obtain⟨i',vs',M,O,J,V⟩:=E;refine⟨i',vs',by rw[hβ j hyk t];exact M,O,by rw[x6j];exact J,fun m l' I=>?_⟩;rw[x6a]at I;cases hq:ls[m]?with
     |none=>rw[hq]at I;cases I
     | some lv=>
       rw[hq]at I;cases I;obtain⟨u,h7,h8⟩:=V m lv hq;exact⟨u,h7,h8.cl hi hβ (XQ hfr m lv hq)⟩
   | own e' sz es=>
     show Chunk.holds σ β' w j (.own e' sz es);unfold Chunk.holds at E⊢;rw[hβ j hyk t];exact E
   | ext d=>
     show XC.holds d σ (β' j) w;rw[hβ j hyk t];exact E
 .have:((q3r k kc i.blk c s.H).map (·.1)).Sublist (s.H.map (·.1)):=by
   unfold q3r;rw[z1s];exact(List.filter_sublist (l:=s.H)).map _
  exact this.nodup hr.heap.nodup
 .obtain ⟨m,I,U,M,O,_⟩:=F j hj i' A x q;exact hr.heap.apart m I U M x O
 .obtain ⟨m,I,U,M,O,J⟩:=F j hj i1 n x hx1;obtain⟨m',hm',im',h3',h4',h5'⟩:=F j' hj' i2 b x hx2;have L:=hr.heap.inj m I m' hm' U im' M h3' x O h4';have hjk:=(D j hj).1;have hjk':=(D j' hj').1;rcases J with rfl|⟨rfl,rfl⟩<;>rcases h5' with rfl|⟨rfl,rfl⟩
  .exact L
  .exact absurd L hjk
  .exact absurd L.symm hjk'
  .rfl
 .obtain ⟨m,I,U,M,O,_⟩:=F j hj i' A x q;exact .inl ⟨m,I,U,M,O⟩
section
variable {P:Program}{T:Tab}{N:Nat}{o:Oper}{K:St->Prop}{s:St}
def Wx(hT:TabOK P T)(k kc:Nat)(h:x0c k kc s fun s'=>opW P T N s' o K):OpK P N s o K:=by
 refine⟨fun σ β a w hr Q=>?_⟩;obtain⟨σ1,β1,z,r,q,m⟩:=Ad h hr;refine Oper.wp_mono (fun x w' u=>?_) (PB hT r q Q);obtain⟨σ',β',s',t,n,v⟩:=u;exact⟨σ',β',s',t,n,m.trans v⟩
def Av{sl:List (Nat×LV)}{H:Heap}(kc:Nat)(e:TypeId)(h:((sl.all fun x=>x.2.free kc)&&H.all fun x=> !(x.1==kc)&&x.2.free kc)=true)(V:2000<=kc):Le N ⟨sl,H⟩ ⟨sl,(kc,.ext (.cells e []))::H⟩:=fun σ β a w hr=>by
 simp only[x7y,x8h,x9u,z0f,ne_eq]at h;obtain⟨E,I⟩:=h;have u:∀j∈H.map (·.1),j≠kc:=fun j hj=>by
  obtain⟨x,B,rfl⟩:=x6r.1 hj;exact(I x B).1
 have q:∀j,j≠kc->(β.set kc none) j=β j:=fun j hj=>by simp[Lab.set,hj]
 have m:(β.set kc none) kc=none:=by simp[Lab.set]
 have A:∀i,(getS sl i).free kc=true:=fun i=>by
  have key:∀sl:List (Nat×LV),(∀x∈sl,x.2.free kc=true)->(getS sl i).free kc=true:=fun sl=>by
   induction sl with
   |nil=>exact fun _=>rfl
   | cons x r O=>
     intro B;obtain⟨j,v⟩:=x;simp only[getS];cases j==i with
     |true=>exact B _ x6g
     |false=>exact O fun y M=>B y (x6b _ M)
  exact key _ E
 refine⟨σ,β.set kc none,⟨hr.size,hr.defers,fun i=>(hr.G i).set none (A i),⟨hr.heap.mem,fun j c hj=>?_,?_,fun j hj i t b C=>?_,fun j hj D d i i' t z b C F=>?_⟩⟩,Mem.le_refl σ,Frm.refl _ _,fun _ J E=>absurd J E,fun b ⟨j,hj,i,t,C⟩=>?_,fun j Q U=>q j (by omega)⟩
 .rcases x6m.1 hj with n|hj
  .cases n;exact⟨z2g,fun x B=>by cases B⟩
  .exact (hr.heap.chunks j c hj).set none (u j (x6r.2 ⟨_,hj,rfl⟩)) (I _ hj).2
 .exact x8k.2 ⟨fun L=>u kc L rfl,hr.heap.nodup⟩
 .rcases x6m.1 hj with n|hj
  .have n:j=kc:=n;rw[n,m]at t;cases t
  .rw [q j (u j hj)]at t;exact hr.heap.apart j hj i t b C
 .rcases x6m.1 hj with n|hj
  .have n:j=kc:=n;rw[n,m]at t;cases t
  .rcases x6m.1 d with n|d
   .have n:D=kc:=n;rw[n,m]at z;cases z
   .rw [q j (u j hj)]at t;rw[q D (u D d)]at z;exact hr.heap.inj j hj D d i i' t z b C F
 .rcases x6m.1 hj with n|hj
  .have n:j=kc:=n;rw[n,m]at t;cases t
  .rw [q j (u j hj)]at t;exact .inl ⟨j,hj,i,t,C⟩
end
section
variable {P:Program}{T:Tab}{N:Nat}{o:Oper}{s:St}{hr:Bool}
def GZ{K:LV->Prop}{x:Operand}(m:o.op=.nilCheck x){b:Nat}(t:QR s.sl x=.p (cpA b))(n:K (.p (cpA b))):ValO P hr s o K:=by
 refine⟨fun σ β a w q _=>?_⟩;have h:=QV q x;rw[t]at h;refine⟨_,.pointer (some ⟨b,0,none⟩),n,.p (.raw _),fun w' _ _=>?_⟩;generalize r:a.eval x=v at h;cases h with
 | p h=>cases h with
   |raw=>simp[execOp,m,r]
def Rm(hT:TabOK P T){K:LV->Prop}{t:TypeId}{x:Operand}(r:o.op=.load t x){i:TyI}(I:T.get t=some i)(m:MS i.desc=false){b:Nat}(Q:QR s.sl x=.p (cpA b)){kc:Nat}{l:List (Nat×AV)}(d:getH s.H kc=some (.ext (.cells e l))){c:AV}(J:(b,c)∈l)(G:K (.p c)):ValO P true s o K:=by
 refine⟨fun σ β a w M z=>?_⟩;have h:=QV M x;rw[Q]at h;have n:XC.holds (.cells e l) σ (β kc) w:=z.chunks kc _ (QD d);obtain⟨U,u,A,B,C,D⟩:=n.2 _ J;refine⟨_,u,G,.p D,fun w' _ L=>?_⟩;have q:=(z.apart kc (x6r.2 ⟨_,QD d,rfl⟩) U A b B).2;have E:w'.heap[b]?=some (.cells #[u] e (0,0)):=(L rfl b q).trans C;have F:=(WC (P:=P) hT I E (off:=0)).2 m u (by simp);generalize O:a.eval x=v at h;cases h with
 | p h=>cases h with
   |raw=>simp[execOp,r,O,F]
def Ek{σ:Mem}{β:Lab}{H:Heap}{w:World}(h:HRel σ β H w){q:Nat}{i:BInfo}(D:k∈H.map (·.1))(B:β k=some i)(r:i.has q){vs:Array Value}{H':Heap}(v:H'.map (·.1)=H.map (·.1))(z:∀j c,(j,c)∈H'->j≠k->(j,c)∈H)(x:∀c,(k,c)∈H'->c.holds σ β (w.setRow q vs) k):
  HRel σ β H' (w.setRow q vs)/\Later σ β H w σ β H' (w.setRow q vs):=by
 have d:=h.apart k D i B q r;have u:∀b,b≠q->(w.setRow q vs).heap[b]?=w.heap[b]?:=fun b m=>setRow_other w q b vs m;refine⟨⟨fun b c m=>?_,fun j c hj=>?_,by rw[v];exact h.nodup,fun j hj i' n b m=>?_,fun j hj O C=>h.inj j (v▸hj) O (v▸C)⟩,Mem.le_refl σ,⟨rfl,rfl,rfl,x7u _,by simp,fun b _ M=>u b fun e=>M ⟨k,D,i,B,e.symm▸r⟩⟩,fun b I J=>absurd I J,fun b m=>?_,fun _ _ _=>rfl⟩
 .have E:b≠q:=fun e=>by rw[e,d.1]at m;cases m
  obtain⟨e,G,L⟩:=h.mem b c m;exact⟨e,G,(u b E).trans L⟩
 .by_cases t:j=k
  .subst t;exact x c hj
  .have F:=z j c hj t;refine(h.chunks j c F).mono (Mem.le_refl σ) fun i' n b m=>u _ fun e=>t ?_;exact h.inj j (x6r.2 ⟨_,F,rfl⟩) k D i' i n B b m (e.symm▸r)
 .have:=h.apart j (v▸hj) i' n b m;exact⟨this.1,by simpa using this.2⟩
 .obtain ⟨j,hj,i',n,A⟩:=m;exact .inl ⟨j,v▸hj,i',n,A⟩
def setCell(b:Nat)(c:AV)(l:List (Nat×AV)):List (Nat×AV):=l.map fun x=>if x.1=b then(b,c)else x
end
def Cj{s:St}{q:Nat}{c u:Chunk}(h:PW s k q c u K):∃v,K v/\PW s k q c u fun w=>w=v:=by
 unfold PW at h⊢;obtain⟨sl,z,_⟩:=YG (by rfl) h;have key:∀{f:LV->LV}{l:List (Nat×LV)}{K:List (Nat×LV)->Prop},Ji f l K↔K (l.map fun x=>(x.1,f x.2)):=fun {f} l=>by
  induction l with
  |nil=>intro K;rfl
  |cons x r t=>intro K;simp only[Ji,XH,t,x7l]
 have n:∀{f:LV->LV}{c:Chunk}{H:Heap},∃H',∀K:Heap->Prop,Us k q f c H K↔K H':=fun {f c} H=>by
  induction H with
  |nil=>exact⟨[],fun K=>Iff.rfl⟩
  | cons x r t=>
    obtain⟨H',m⟩:=t;obtain⟨j,d⟩:=x;simp only[Us,NB];cases j==q with
    |true=>exact⟨H',fun K=>by simp only[x7z];exact m _⟩
    | false=>
      cases j==k with
      |true=>exact⟨(j,c)::H',fun K=>by simp only[x7z,x7k];exact m _⟩
      |false=>exact⟨(j,d.mapL f)::H',fun K=>by simp only[x7k];exact m _⟩
 rw[key]at h;simp only[key];obtain⟨H',m⟩:=n (f:=LV.xkill k) (c:=c) (H:=s.H);rw[m]at h;exact⟨_,h,(m _).2 rfl⟩
theorem OpK.focus{T:Tab}(hT:TabOK P T){s:St}{o:Oper}(t k a b:Nat){e c:Nat}{q:List (List AV)}{m:List Nat}{row:List AV}(Y:WW b s=true)(M:getH s.H k=some (.ext (.mat e c sz q m)))(z:q[a]?=some row)(B:a∉m)(x:VB k=false)(V:getS s.sl t=.ext k (.row a row.length))(h:PW s k b (.ext (.mat e c sz q (a::m))) (.own c sz row) fun v=>opW P T N ⟨(t,.hd b 0 row.length)::v.sl,v.H⟩ o K):OpK P N s o K:=by
 obtain⟨v,h,L⟩:=Cj h;refine⟨fun σ β I w hr Q=>?_⟩;obtain⟨β',r,U,F,u⟩:=TD hr Y M z B x L;have C:Rel N σ β' ⟨(t,.hd b 0 row.length)::v.sl,v.H⟩ I w:=⟨r.size,r.defers,fun i=>by
  show RepL σ β' (getS ((t,.hd b 0 row.length)::v.sl) i) _;simp only[getS];cases O:t==i with
  | true=>
    have:t=i:=by simpa using O
    subst this;have E:=hr.G t;rw[V]at E;exact u _ E
  |false=>exact r.G i,r.heap⟩
 exact Oper.wp_mono (fun a' w' ⟨σ',β'',Z,J,D,A⟩=>⟨σ',β'',Z,J,D,U.trans A⟩) (PB hT h C Q)
def Ia{α:Type}{l m:List α}{j:Nat}(h:l.take j=m.take j)(q:j<l.length)(r:j<m.length)(n:l[j]=m[j]):l.take (j+1)=m.take (j+1):=by
 rw[x7x q,x7x r,h,n]
def Ox{α:Type}{l m:List α}{j:Nat}(h:l.take j=m.take j)(n:l.length<=j)(q:m.length<=j):l=m:=by
 rwa[x7w n,x7w q]at h
def ZT(l m:List Str):SpecP Tryz.prog 69 [eStrs l,eStrs m] (fun r=>r=.bool (decide (l=m))):=by
 refine sB BZ Tryz.func69 rfl Tryz.call69 ?_;conv=>whnf
 have t:(l.map AV.str).length=l.length:=x6j _;have u:(m.map AV.str).length=m.length:=x6j _;repeat' (first|(refine iM fun _=>?_;conv=>whnf)|(apply bE<;>intro _<;>first|omega|conv=>whnf))
 all_goals first
  |exact RetK.ff (x8c fun h=>by subst h;omega)
  |skip
 have q:l.length=m.length:=by omega
 refine LoopK.inv QW (fun j:Nat=>⟨[(0,.p (eStrs l)),(1,.p (eStrs m)),(12,.p (.int .i64 (l.map AV.str).length)),(13,.p (.int .i64 j))],[]⟩) (fun j=>j<=l.length/\l.take j=m.take j) (fun j=>l.length-j) 0 (Le.of_eq rfl) ⟨x6t _,rfl⟩ ?_;rintro j ⟨v,n⟩;rcases x6c j l.length with hj|hj
 .conv=>whnf
  repeat' (first|((first|refine dA ?_|(refine iA fun _=>?_)|refine wI ?_);conv=>whnf)|(apply bD<;>intro _<;>first|omega|conv=>whnf)|(apply bN<;>intro _<;>conv=>whnf))
  all_goals first
   |exact RetK.ff (x8c fun h=>by subst h;simp_all)
   |exact⟨j+1,⟨by omega,Ia n hj (by omega) (by simp_all)⟩,by omega,Le.of_eq rfl⟩
 .conv=>whnf
  repeat' (apply bD<;>intro _<;>first|omega|conv=>whnf)
  exact RetK.tt (x8r (Ox n hj (by omega)))
def nxE(h:List (List Int))(t:Int×Int):List (List Int):=h.set t.1.toNat (h.getD t.1.toNat []++[t.2])
def Z5(n:Nat)(l:List (Int×Int)):List (List Int):=l.foldl nxE (List.replicate n [])
def EP(h:List (List Int))(t:Int×Int):(nxE h t).length=h.length:=x8i
theorem M7:∀(l:List (Int×Int))(rows:List (List Int)),(l.foldl nxE rows).length=rows.length
 |[],_=>rfl
 |t::r,rows=>by rw[x9p,M7 r,EP]
def Kx(n:Nat)(l:List (Int×Int)):(Z5 n l).length=n:=by
 unfold Z5;rw[M7,x8j]
theorem M6:∀(l:List (Int×Int))(rows:List (List Int))(a:Nat),((l.foldl nxE rows).getD a []).length<=(rows.getD a []).length+l.length
 |[],_,_=>x7u _
 | t::r,rows,a=>by
   rw[x9p];have n:=M6 r (nxE rows t) a;have q:((nxE rows t).getD a []).length<=(rows.getD a []).length+1:=by
    unfold nxE;simp only[x6h,x9r];by_cases h:t.1.toNat=a
    .subst h;by_cases m:t.1.toNat<rows.length
     .simp [m]
     .simp [m]
    .simp [h]
   rw[x7g];omega
def L1(n:Nat)(l:List (Int×Int))(a:Nat):((Z5 n l).getD a []).length<=l.length:=by
 have:=M6 l (List.replicate n []) a;have e:((List.replicate n ([]:List Int)).getD a []).length=0:=by
  rw[x6h,x7c];split<;>rfl
 unfold Z5;omega
def EY{h:Nat}{sl:List (Nat×LV)}(n:Nat)(m:(sl.all fun x=>x.2.xfree 0)=true):
  Le h ⟨sl,[(0,.own 54 1 (List.replicate n .nils))]⟩ ⟨sl,[(0,.ext (.mat 54 3 1 (List.replicate n []) []))]⟩:=by
 have q:=Dg (N:=h) (sl:=sl) (H:=[(0,.own 54 1 (List.replicate n .nils))])
  (H':=[(0,.ext (.mat 54 3 1 (List.replicate (List.replicate n AV.nils).length []) []))])
  0 3 1 (e:=54) (es:=List.replicate n .nils) rfl (fun x r=>z0q r) rfl m rfl rfl (by simp[DW])
 simpa using q
theorem Wr.u64{n:Int}{K:Int->Prop}(q:0<=n)(r:n<=18446744073709551615)(m:K n):Wr .u64 n K:=
 .fit ⟨by simp[IntKind.min,IntKind.signed];omega,by simp[IntKind.max,IntKind.signed,IntKind.bits];omega⟩ m
def Ah{hr:Bool}{s:St}{o:Oper}{K:LV->Prop}{t u:TypeId}{x y:Operand}(r:o.op=.binOp .shr t x y u)(H:0<=a)(E:QR s.sl x=.p (.int .u64 a))(F:QR s.sl y=.p (.int .u64 1)){m:Int}(C:m=a/2)(A:K (.p (.int .u64 m))):ValO P hr s o K:=by
 subst C;refine⟨fun σ β G w z _=>⟨_,.int .u64 (a/2),A,.p (.int _ _),fun w' _ _=>?_⟩⟩;have h:=QV z x;have q:=QV z y;rw[E]at h;rw[F]at q;cases h with
 | p h=>
   cases q with
   | p q=>
     have key:∀(n:Int)(v:Value),Rep σ (.int .u64 n) v->v=.int .u64 n:=fun n v D=>by
      cases D;rfl
     have b:=key _ _ h;have c:=key _ _ q;have d:a.fdiv (2^1)=a/2:=Int.fdiv_eq_ediv_of_nonneg _ (by decide);have B:(eqGuard .shr t x y (.int .u64 a) (.int .u64 1)).run P w'=.ok () w':=by unfold eqGuard;rfl
     simp only[execOp,r,b,c,Sem.run_bind,B,Result.andThen_ok,binOp,Op.shift];rw[if_neg (by decide)];simp only[show min (1:Int).toNat IntKind.u64.bits=1 by decide,d];rfl
end Go.Ab
