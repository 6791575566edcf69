/- aug: what a procedure's traps are, by its places. -/
import Derived.Test.YtgljdhjopolmcaaGreatInN15
set_option linter.all false
set_option maxRecDepth 100000
set_option maxHeartbeats 16000000
open Nat (beq blt)
namespace Go.Ab
open Go.Proofs
variable {K:St->Prop}{N k sz:Nat}{P:Program}{a y:Int}{e:TypeId}
section
variable {p:Pg}{j:Nat}{f:Pr}
def Yo{i:Int}(h:0<=i/\i<(cntL f.body+2:Nat)):plP p j f (ZN p j (cntL f.body+2:Nat) i)/\ixI p j f (ZN p j (cntL f.body+2:Nat) i)=i:=by
 unfold ZN ixI YW plP loI hiI;constructor
 ·(repeat' split)<;>omega
 ·(repeat' split)<;>omega
def C3{x:Int}(h:plP p j f x):ZN p j (cntL f.body+2:Nat) (ixI p j f x)=x:=by
 have m:=Yo (p:=p) (j:=j) (f:=f) (GP h);exact LL m.1 h m.2
def Ph:prsW (QQ p j f) f=(QQ p j f).real.map (ixP p j f (cntL f.body+2:Nat)):=rfl
def q5z(h:QP p=true)(hj:p.A[j]?=some f):∀t∈prsW (QQ p j f) f,(0<=t.1/\t.1<(cntL f.body+2:Nat))/\0<=t.2/\t.2<(cntL f.body+2:Nat):=fun t m=>by
 rw[Ph]at m;obtain⟨s,r,rfl⟩:=x8c.1 m;obtain⟨n,q⟩:=VE h hj s r;exact⟨GP n,GP q⟩
def wE(p:Pg)(j:Nat)(f:Pr):Int->Int->Prop:=rowE (QI (cntL f.body+2) (prsW (QQ p j f) f)).1
def wR(p:Pg)(j:Nat)(f:Pr):Int->Int->Prop:=stR (QQ p j f).real
def q9w(h:QP p=true)(hj:p.A[j]?=some f){i k:Int}:wE p j f i k ↔ ∃a b,wR p j f a b/\ixI p j f a=i/\ixI p j f b=k:=by
 unfold wE wR;rw[A4];constructor
 .rintro ⟨m,_,_⟩;rw[Ph]at m;obtain⟨s,n,q⟩:=x8c.1 m;exact⟨s.src,s.dst,⟨s,n,rfl,rfl⟩,z0l Prod.fst q,z0l Prod.snd q⟩
 .rintro ⟨a,b,⟨s,n,rfl,rfl⟩,rfl,rfl⟩;obtain⟨m,r⟩:=VE h hj s n;exact⟨x8c.2 ⟨s,n,rfl⟩,P0 (GP m),P0 (GP r)⟩
def x2d(h:QP p=true)(hj:p.A[j]?=some f){b:Int}(hr:wR p j f a b):plP p j f a/\plP p j f b:=by
 obtain⟨s,m,rfl,rfl⟩:=hr;exact VE h hj s m
def q5w(h:QP p=true)(hj:p.A[j]?=some f){b:Int}(ha:plP p j f a)(z:plP p j f b):Rch (wE p j f) (ixI p j f a) (ixI p j f b)↔Rch (wR p j f) a b:=by
 constructor
 .intro hr;obtain⟨c,q,n,m⟩:=hr.closed (S:=fun k=>∃c,plP p j f c/\ixI p j f c=k/\Rch (wR p j f) a c) (by
   rintro i k ⟨c,q,n,m⟩ u;obtain⟨x,y,r,v,w⟩:=(q9w h hj).1 u;have t:=x2d h hj r;have:x=c:=LL t.1 q (by rw[v,n]);subst this;exact⟨y,t.2,w,.tail m r⟩) ⟨a,ha,rfl,.refl⟩
  rw[<-LL q z n];exact m
 .intro hr;exact(hr.closed (S:=fun c=>plP p j f c/\Rch (wE p j f) (ixI p j f a) (ixI p j f c)) (fun x y ⟨q,n⟩ m=>⟨(x2d h hj m).2,.tail n ((q9w h hj).2 ⟨x,y,m,rfl,rfl⟩)⟩) ⟨ha,.refl⟩).2
def x1i(h:QP p=true)(hj:p.A[j]?=some f){b:Int}(ha:plP p j f a)(m:plP p j f b):sccP (wE p j f) (ixI p j f a) (ixI p j f b)↔sccP (wR p j f) a b:=by
 unfold sccP;rw[q5w h hj ha m,q5w h hj m ha]
def NV(p:Pg)(j:Nat)(f:Pr)(i:Int):Int:=(VA (QQ p j f) f).getD i.toNat 0
def Gu:VA (QQ p j f) f=Vc (cntL f.body+2) (QI (cntL f.body+2) (prsW (QQ p j f) f)).1:=rfl
def SI{i:Int}(h:0<=i/\i<(cntL f.body+2:Nat)):MinP (wE p j f) i (NV p j f i):=by
 unfold NV;rw[Gu];exact Va (HS _ _).1 h
def q2m(h:k<cntL f.body+2):0<=(VA (QQ p j f) f).getD k 0/\(VA (QQ p j f) f).getD k 0<(cntL f.body+2:Nat):=by
 rw[Gu];exact SA (HS _ _).1 h
def SE:(VA (QQ p j f) f).length=cntL f.body+2:=by rw[Gu,NU]
theorem MinP.same{E:Int->Int->Prop}{x v:Int}(h:MinP E x v)(m:sccP E x y):MinP E y v:=⟨m.symm.trans h.scc,fun z q=>h.le z (m.trans q)⟩
def q2n{i k:Int}(q:0<=i/\i<(cntL f.body+2:Nat))(r:0<=k/\k<(cntL f.body+2:Nat)):NV p j f i=NV p j f k↔sccP (wE p j f) i k:=by
 have m:=SI (p:=p) (j:=j) q;have h:=SI (p:=p) (j:=j) r;constructor
 .intro n;rw[<-n]at h;exact m.scc.trans h.scc.symm
 .intro t;exact(m.same t).uniq h
def Qo(h:QP p=true)(hj:p.A[j]?=some f){b:Int}(ha:plP p j f a)(m:plP p j f b):NV p j f (ixI p j f a)=NV p j f (ixI p j f b)↔sccP (wR p j f) a b:=by
 rw[q2n (GP ha) (GP m),x1i h hj ha m]
structure TrapP(p:Pg)(j:Nat)(f:Pr)(l:List Int)(r:Int):Prop where
 pl:plP p j f r
 mem:∀b,b∈l↔plP p j f b/\sccP (wR p j f) r b
 cl:∀b c,sccP (wR p j f) r b->wR p j f b c->sccP (wR p j f) r c
 n0:¬sccP (wR p j f) r 0
 nx:¬sccP (wR p j f) r (-1)
def Oa{m:Int->Int}{part:List Int}{i q:Nat}{b:Int}:b∈NB m part i q ↔ ∃k:Nat,k<q/\part.getD k 0=i/\m k=b:=by
 unfold NB;constructor
 .intro h;obtain⟨k,t,rfl⟩:=x8c.1 h;obtain⟨n,r⟩:=z0u.1 t;exact⟨k,z1i.1 n,z2d.1 r,rfl⟩
 .rintro ⟨k,n,r,rfl⟩;exact x8c.2 ⟨k,z0u.2 ⟨z1i.2 n,z2d.2 r⟩,rfl⟩
def ix0:ixI p j f 0=0:=by unfold ixI YW;rw[if_pos rfl]
def ix1:ixI p j f (-1)=((cntL f.body+2:Nat):Int)-1:=by unfold ixI YW;rw[if_neg (by omega),if_pos rfl]
def pl0:plP p j f 0:=.inl rfl
def pl1:plP p j f (-1):=.inr (.inl rfl)
def J3(k:Nat):(VA (QQ p j f) f).getD k 0=NV p j f k:=by
 unfold NV;rw[z1r]
def q7s(h:QP p=true)(hj:p.A[j]?=some f){i:Nat}(d:i<cntL f.body+2):(Pu (cntL f.body+2) (VA (QQ p j f) f) (prsW (QQ p j f) f)).getD i false=true ↔
  NV p j f (ixI p j f 0)=i\/NV p j f (ixI p j f (-1))=i\/∃a b,wR p j f a b/\¬sccP (wR p j f) a b/\NV p j f (ixI p j f a)=i:=by
 rw[q2d (by omega) (fun k B=>q2m B) d fun t n=>(q5z h hj t n).1,ix0,ix1];have z:(VA (QQ p j f) f).getD (cntL f.body+2-1) 0=NV p j f (((cntL f.body+2:Nat):Int)-1):=by
  unfold NV;congr 1;omega
 have x:(VA (QQ p j f) f).getD 0 0=NV p j f 0:=rfl;rw[x,z];refine or_congr Iff.rfl (or_congr Iff.rfl ?_);constructor
 .rintro ⟨t,n,q,r⟩;rw[Ph]at n;obtain⟨s,m,rfl⟩:=x8c.1 n;obtain⟨u,v⟩:=VE h hj s m;exact⟨s.src,s.dst,⟨s,m,rfl,rfl⟩,fun w=>q ((Qo h hj u v).2 w),r⟩
 .rintro ⟨a,b,⟨s,m,rfl,rfl⟩,q,r⟩;obtain⟨u,v⟩:=VE h hj s m;exact⟨ixP p j f (cntL f.body+2:Nat) s,by rw[Ph];exact x8c.2 ⟨s,m,rfl⟩,fun c=>q ((Qo h hj u v).1 c),r⟩
def Rh{l:List Int}:l∈trapsW (QQ p j f) f ↔ ∃i:Nat,i<cntL f.body+2/\NV p j f i=i/\(Pu (cntL f.body+2) (VA (QQ p j f) f) (prsW (QQ p j f) f)).getD i false=false/\l=NB (ZN p j (cntL f.body+2:Nat)) (VA (QQ p j f) f) i (cntL f.body+2):=by
 unfold trapsW U6;rw[SE];constructor
 .intro r;obtain⟨i,q,rfl⟩:=x8c.1 r;obtain⟨m,h⟩:=z0u.1 q;unfold Ge at h;rw[x9g,z2d,z1b,J3]at h;exact⟨i,z1i.1 m,h.1,h.2,rfl⟩
 .rintro ⟨i,m,h,n,rfl⟩;refine x8c.2 ⟨i,z0u.2 ⟨z1i.2 m,?_⟩,rfl⟩;unfold Ge;rw[x9g,z2d,z1b,J3];exact⟨h,n⟩
def q3n(h:QP p=true)(hj:p.A[j]?=some f){i:Nat}(w:i<cntL f.body+2)(u:NV p j f i=i)(b:Int):
  b∈NB (ZN p j (cntL f.body+2:Nat)) (VA (QQ p j f) f) i (cntL f.body+2)↔plP p j f b/\sccP (wR p j f) (ZN p j (cntL f.body+2:Nat) i) b:=by
 obtain⟨r,t⟩:=Yo (p:=p) (j:=j) (f:=f) (i:=i) (by omega);rw[Oa];constructor
 .rintro ⟨k,m,n,rfl⟩;obtain⟨q,v⟩:=Yo (p:=p) (j:=j) (f:=f) (i:=k) (by omega);refine⟨q,(Qo h hj r q).1 ?_⟩;rw[t,v,u,<-J3,n]
 .rintro ⟨m,n⟩;have q:=GP m;refine⟨(ixI p j f b).toNat,by omega,?_,?_⟩
  .rw [J3,show(((ixI p j f b).toNat:Nat):Int)=ixI p j f b by omega,<-(Qo h hj r m).2 n,t,u]
  .rw [show(((ixI p j f b).toNat:Nat):Int)=ixI p j f b by omega,C3 m]
def Oe(h:QP p=true)(hj:p.A[j]?=some f){l:List Int}(C:l∈trapsW (QQ p j f) f):∃r,TrapP p j f l r:=by
 obtain⟨i,x,z,D,rfl⟩:=Rh.1 C;obtain⟨u,d⟩:=Yo (p:=p) (j:=j) (f:=f) (i:=i) (by omega);have m:¬_:=fun E=>by
  have:=(q7s h hj x).2 E;rw[D]at this;cases this
 have n:NV p j f (ixI p j f (ZN p j (cntL f.body+2:Nat) i))=i:=by rw[d,z]
 refine⟨_,u,q3n h hj x z,fun b c w q=>?_,fun v=>m (.inl ?_),fun v=>m (.inr (.inl ?_))⟩
 .have B:=x2d h hj q;by_cases t:sccP (wR p j f) b c
  .exact w.trans t
  .refine absurd (.inr (.inr ⟨b,c,q,t,?_⟩)) m;rw[<-(Qo h hj u B.1).2 w,n]
 .rw [<-(Qo h hj u pl0).2 v,n]
 .rw [<-(Qo h hj u pl1).2 v,n]
end
def C9{p:Pg}{j:Nat}{f:Pr}(hj:p.A[j]?=some f)(q:cntP p.A<=200):(QQ p j f).real.length<=100000:=by
 obtain⟨_,_,_,m,h⟩:=QY p;obtain⟨_,_,r,_⟩:=h j f hj;have t:=Lc (QK p j f);have n:=Y5 p j f;show(WC (QK p j f)).length<=100000;omega
def ST{p:Pg}(h:QP p=true){j:Nat}{f:Pr}(hj:p.A[j]?=some f):∀it∈itsOf p j f,∀s∈fOf it,okSt s:=fun it q s m=>by
 obtain⟨w,_⟩:=QU h;obtain⟨_,_,u⟩:=XQ h;obtain⟨_,_,_,r,n⟩:=QY p;obtain⟨_,_,v,_⟩:=n j f hj;have x:=ZS w hj (YP q);have t:=(Qr q).1;unfold fOf at m;split at m
 .rw [x9q.1 m];unfold okI at t;unfold okSt;constructor
  .show it.s.id≠_;omega
  .show it.next≠_;omega
 .cases m
def Cm{p:Pg}(h:QP p=true){j:Nat}{f:Pr}(hj:p.A[j]?=some f){l:List Int}(u:l∈trapsW (QQ p j f) f):l.length<=cntL f.body+2/\∀id∈l,(offN p.A j:Int)+1<=id/\id<=(offN p.A j+cntL f.body:Nat):=by
 constructor
 .obtain ⟨i,_,_,_,rfl⟩:=Rh.1 u;exact Rg _ _ _ _
 .intro id n;obtain⟨r,q⟩:=Oe h hj u;obtain⟨m,t⟩:=(q.mem id).1 n;rcases m with rfl|rfl|m
  .exact absurd t q.n0
  .exact absurd t q.nx
  .exact m
def x3x{p:Pg}(h:QP p=true){j:Nat}{f:Pr}(hj:p.A[j]?=some f):WayT (QQ p j f) f (cntL f.body+2):=by
 obtain⟨_,_,m⟩:=XQ h;obtain⟨_,_,_,r,q⟩:=QY p;obtain⟨_,_,v,_⟩:=q j f hj;refine⟨rfl,hj,by show cntP p.A<=1000;omega,by omega,by omega,z1q (C9 hj m) (by decide),q5z h hj,?_,fun l u=>?_,fun s w=>(PN h hj).2.2 s (((VN h hj).2 s).1 w),ST h hj⟩
 .have:=Rk (ZN p j (cntL f.body+2:Nat)) (VA (QQ p j f) f) (Pu (cntL f.body+2) (VA (QQ p j f) f) (prsW (QQ p j f) f)) (cntL f.body+2);have e:trapsW (QQ p j f) f=U6 (ZN p j (cntL f.body+2:Nat)) (VA (QQ p j f) f) (Pu (cntL f.body+2) (VA (QQ p j f) f) (prsW (QQ p j f) f)) (cntL f.body+2):=by
   unfold trapsW;rw[SE];rfl
  rw[e];omega
 .obtain ⟨x,t⟩:=Cm h hj u;refine⟨by omega,fun id n=>?_⟩;have:=t id n;show 1<=id/\id<=(sheetOf p).l.length;omega
instance (a b:Step):Decidable (Vb a b):=inferInstanceAs (Decidable (_\/_))
instance:DecidableEq Step:=fun a b=>decidable_of_iff (a.src=b.src/\a.dst=b.dst/\a.kind=b.kind) ⟨fun h=>HG h.1 h.2.1 h.2.2,fun h=>by rw[h];exact⟨rfl,rfl,rfl⟩⟩
def q8j{a b:Step}(ha:okSt a)(m:okSt b)(h:BK b a=false):(a.src=b.src/\a.dst=b.dst/\a.kind<=b.kind)\/Vb a b:=by
 rw[z4m,ne_eq,FJ]at h;unfold Vb;by_cases n:ZB a.src=ZB b.src
 .by_cases q:ZB a.dst=ZB b.dst
  .exact .inl ⟨FQ ha.1 m.1 n,FQ ha.2 m.2 q,by omega⟩
  .exact .inr (by omega)
 .exact .inr (by omega)
theorem Um:∀(l:List Step)(a:Step),okSt a->(∀s∈l,okSt s)->(a::l).Pairwise (fun a b=>BK b a=false)->
  (∀s∈XJ a l,Vb a s)/\(XJ a l).Pairwise Vb/\(∀s∈XJ a l,s∈l)/\∀s∈l,(s.src=a.src/\s.dst=a.dst/\a.kind<=s.kind)\/∃s'∈XJ a l,s'.src=s.src/\s'.dst=s.dst/\s'.kind<=s.kind
 |[],a,_,_,_=>by simp[XJ]
 | b::r,a,ha,hl,h=>by
   have z:=hl b x8l;have hr:∀s∈r,okSt s:=fun s q=>hl s (x8r _ q);rw[z2y]at h;obtain⟨B,C⟩:=h;obtain⟨w,c,d,A⟩:=Um r b z hr C;have u:=q8j ha z (B b x8l);rw[XJ];cases q:ZL b a with
   | true=>
     unfold ZL at q;simp only[x9g,x9o]at q;have D:a.kind<=b.kind:=by
      rcases u with n|n
      .exact n.2.2
      .unfold Vb at n;rw[q.1,q.2]at n;omega
     rw[x9z];refine⟨fun s m=>?_,c,fun s m=>x8r _ (d s m),fun s m=>?_⟩
     .have:=w s m;unfold Vb at this⊢
      rwa[<-q.1,<-q.2]
     .rcases x8s.1 m with rfl|m
      .exact .inl ⟨q.1,q.2,D⟩
      .rcases A s m with⟨n,t,x⟩|n
       .exact .inl ⟨by rw[n,q.1],by rw[t,q.2],by omega⟩
       .exact .inr n
   | false=>
     have v:Vb a b:=by
      rcases u with n|n
      .unfold ZL at q;simp[n.1,n.2.1]at q
      .exact n
     rw[x9k];refine⟨fun s m=>?_,z2y.2 ⟨w,c⟩,fun s m=>?_,fun s m=>?_⟩
     .rcases x8s.1 m with rfl|m
      .exact v
      .exact Vp v (w s m)
     .rcases x8s.1 m with rfl|m
      .exact x8l
      .exact x8r _ (d s m)
     .rcases x8s.1 m with rfl|m
      .exact .inr ⟨s,x8l,rfl,rfl,z0i _⟩
      .rcases A s m with⟨n,t,x⟩|⟨s',n,t⟩
       .exact .inr ⟨b,x8l,n.symm,t.symm,x⟩
       .exact .inr ⟨s',x8r _ n,t⟩
def NZ{l:List Step}(w:∀s∈l,okSt s):(WC l).Pairwise Vb/\(∀s∈WC l,s∈l)/\∀s∈l,∃s'∈WC l,s'.src=s.src/\s'.dst=s.dst/\s'.kind<=s.kind:=by
 have q:∀s,s∈JS l↔s∈l:=fun s=>(Gt l).mem_iff;have t:=W5 l;unfold WC;cases x:JS l with
 | nil=>
   rw[x]at q;refine⟨by simp[Qh],by simp[Qh],fun s t=>?_⟩;have:=(q s).2 t;cases this
 | cons a r=>
   rw[x]at q t;have n:∀s∈a::r,okSt s:=fun s h=>w s ((q s).1 h);obtain⟨z,b,c,d⟩:=Um r a (n a x8l) (fun s h=>n s (x8r _ h)) t;rw[Qh];refine⟨z2y.2 ⟨z,b⟩,fun s m=>?_,fun s m=>?_⟩
   .rcases x8s.1 m with rfl|m
    .exact (q s).1 x8l
    .exact (q s).1 (x8r _ (c s m))
   .rcases x8s.1 ((q s).2 m)with rfl|m
    .exact ⟨s,x8l,rfl,rfl,z0i _⟩
    .rcases d s m with⟨u,v,A⟩|⟨s',u,v⟩
     .exact ⟨a,x8l,u.symm,v.symm,A⟩
     .exact ⟨s',x8r _ u,v⟩
def Ir{l:List Step}(h:l.Pairwise Vb){a b:Step}(ha:a∈l)(z:b∈l)(v:a.src=b.src)(w:a.dst=b.dst):a=b:=by
 have d:∀{x y:Step},x.src=y.src->x.dst=y.dst->¬Vb x y:=fun {x y} u n t=>by
  unfold Vb at t;rw[u,n]at t;omega
 induction h with
 |nil=>cases ha
 | @cons c r hc hr A=>
   rcases x8s.1 ha with u|q
   .rcases x8s.1 z with n|m
    .rw [u,n]
    .exact absurd (hc b m) (by rw[<-u];exact d v w)
   .rcases x8s.1 z with n|m
    .exact absurd (hc a q) (by rw[<-n];exact d v.symm w.symm)
    .exact A q m
def MY{l m:List Step}(v:∀s∈l,okSt s)(z:m.Pairwise Vb)(c:∀s∈m,s∈l)(d:∀s∈l,∃s'∈m,s'.src=s.src/\s'.dst=s.dst/\s'.kind<=s.kind):WC l=m:=by
 obtain⟨g1,w,x⟩:=NZ v;refine Dh g1 z fun s=>⟨fun q=>?_,fun q=>?_⟩
 .obtain ⟨a,ha,h,n,A⟩:=d s (w s q);obtain⟨b,u,r,t,B⟩:=x a (c a ha);have:=Ir g1 u q (r.trans h) (t.trans n);subst this;have:a=b:=HG h n (by omega);rw[<-this];exact ha
 .obtain ⟨a,ha,h,n,A⟩:=x s (c s q);obtain⟨b,u,r,t,B⟩:=d a (w a ha);have:=Ir z u q (r.trans h) (t.trans n);subst this;have:a=b:=HG h n (by omega);rw[<-this];exact ha
def x1r:(QQ someP 1 f1).real=[⟨0,5,1⟩,⟨5,6,1⟩,⟨6,7,1⟩,⟨6,8,1⟩,⟨7,-1,1⟩,⟨8,-1,1⟩]:=x1g
def x1l:(QQ someP 0 f0).real=[⟨0,1,1⟩,⟨1,2,1⟩,⟨2,3,1⟩,⟨3,4,1⟩,⟨4,-1,1⟩]:=x1k
def x2e:prsW (QQ someP 1 f1) f1=[(0,1),(1,2),(2,3),(2,4),(3,5),(4,5)]:=by
 unfold prsW;rw[x1r]
 kernel_rfl
def x2a:prsW (QQ someP 0 f0) f0=[(0,1),(1,2),(2,3),(3,4),(4,5)]:=by
 unfold prsW;rw[x1l]
 kernel_rfl
def x2x:trapsW (QQ someP 1 f1) f1=[]:=by
 unfold trapsW VA;rw[x2e]
 kernel_rfl
def x2q:trapsW (QQ someP 0 f0) f0=[]:=by
 unfold trapsW VA;rw[x2a]
 kernel_rfl
def x3f:PM (QQ someP 1 f1) f1=[⟨0,5,1⟩,⟨5,6,1⟩,⟨6,7,1⟩,⟨6,8,1⟩,⟨7,-1,1⟩,⟨8,-1,1⟩]:=by
 unfold PM UO;rw[x2x,x1r];exact MY (by unfold okSt;decide) (by decide) (by decide) (by decide)
def q2k{p:Pg}(h:QP p=true){j:Nat}{f:Pr}(hj:p.A[j]?=some f):¬wR p j f a 0:=fun⟨s,n,_,q⟩=>by
 have m:=((PN h hj).2.1 s (((VN h hj).2 s).1 n)).2;unfold okI at m;omega
def TH{p:Pg}(h:QP p=true){j:Nat}{f:Pr}(hj:p.A[j]?=some f){t:S}(r:t∈flL f.body):OA p t.id=some t:=by
 have q:=ZS (QU h).1 hj r;obtain⟨u,x,n,v⟩:=J9 h hj q.1 q.2;obtain⟨it,w,rfl⟩:=q7w (p:=p) (j:=j) r;obtain⟨z,m,rfl⟩:=q7w (p:=p) (j:=j) x;rw[Iq (QU h).1 hj m w v]at n;exact n
def W9{p:Pg}(h:QP p=true){j:Nat}{f:Pr}(hj:p.A[j]?=some f){s:Step}:s∈UO (QQ p j f) f ↔ ∃l∈trapsW (QQ p j f) f,∃t∈flL f.body,t.id∈l/\t.kind=10/\s=⟨t.id,-1,3⟩:=by
 unfold UO;constructor
 .intro m;obtain⟨l,q,m⟩:=z0j.1 m;obtain⟨id,n,m⟩:=z0j.1 m;have w:=(Cm h hj q).2 id n;obtain⟨t,u,x,v⟩:=J9 h hj w.1 w.2;have e:(QQ p j f).p=p:=rfl;unfold vOf at m;rw[e,x]at m;simp only at m;split at m
  .rename_i r;exact⟨l,q,t,u,by rw[v];exact n,r,by rw[v];simpa using m⟩
  .cases m
 .rintro ⟨l,q,t,u,n,r,rfl⟩;refine z0j.2 ⟨l,q,z0j.2 ⟨t.id,n,?_⟩⟩;have e:(QQ p j f).p=p:=rfl;unfold vOf;rw[e,TH h hj u];simp[r]
def Bh{p:Pg}(h:QP p=true){j:Nat}{f:Pr}(hj:p.A[j]?=some f):∀s∈UO (QQ p j f) f++(QQ p j f).real,okSt s:=fun s m=>
 (x8e.1 m).elim ((x3x h hj).virt_ok s) ((x3x h hj).hok s)
def Es{p:Pg}(h:QP p=true){j:Nat}{f:Pr}(hj:p.A[j]?=some f){s:Step}(r:s∈UO (QQ p j f) f++(QQ p j f).real):stR (PM (QQ p j f) f) s.src s.dst:=by
 obtain⟨s',m,n,q,_⟩:=(NZ (Bh h hj)).2.2 s r;exact⟨s',m,n,q⟩
def Sy{p:Pg}(h:QP p=true){j:Nat}{f:Pr}(hj:p.A[j]?=some f):(PM (QQ p j f) f).length<=200000:=by
 obtain⟨_,_,q⟩:=XQ h;obtain⟨_,_,_,v,r⟩:=QY p;obtain⟨_,_,c,_⟩:=r j f hj;obtain⟨w,x,_⟩:=NZ (Bh h hj);have z:=NX (l:=PM (QQ p j f) f) (m:=(QQ p j f).real++(JB (offN p.A j) (cntL f.body)).map fun id=>⟨id,-1,3⟩) (q2w w) fun s d=>by
  rcases x8e.1 (x s d)with n|n
  .obtain ⟨l,E,t,B,b,D,rfl⟩:=(W9 h hj).1 n;have u:=ZS (QU h).1 hj B;exact x8e.2 (.inr (x8c.2 ⟨t.id,q1f u.1 u.2,rfl⟩))
  .exact x8e.2 (.inl n)
 rw[x8m,x8b]at z;have n:=C9 hj q;have C:(JB (offN p.A j) (cntL f.body)).length=cntL f.body:=by unfold JB;simp
 omega
theorem D6:∀(l:List Pr){n:Nat}{m:Int},XO n l=some m->∀(j:Nat)(f:Pr),l[j]?=some f->∃q,UA 1 ((n+offN l j:Nat):Int) f.body=some q
 |[],_,_,_,j,f,hj=>by simp at hj
 | g::r,n,m,h,j,f,hj=>by
   rw[XO]at h;cases x:HX g<;>rw[x]at h
   .cases h
   simp only[x9z]at h;split at h
   .rename_i z t;cases j with
    | zero=>
      cases hj;exact⟨z,t⟩
    | succ j=>
      have v:=YC _ _ g.body t;have u:XO ((n+cntL g.body:Nat):Int) r=some m:=by rw[<-h,v];rfl
      obtain⟨q,w⟩:=D6 r u j f (by simpa using hj);exact⟨q,by rw[<-w,offN];congr 1;omega⟩
   .cases h
def Ts{p:Pg}(h:YV p=true){j:Nat}{f:Pr}(hj:p.A[j]?=some f):∃m,UA 1 ((offN p.A j:Nat):Int) f.body=some m:=by
 unfold YV at h;simp only[x9g]at h;obtain⟨m,r⟩:=Option.isSome_iff_exists.1 h.2;obtain⟨t,q⟩:=D6 p.A (n:=0) r j f hj;exact⟨t,by rw[<-q];congr 1;omega⟩
theorem Dj:∀(l:List Int)(b:List Bool)(i:Nat),i<b.length->((BJ l b).getD i false=true↔b.getD i false=true\/∃a∈l,a.toNat=i)
 |[],b,i,hi=>by simp[BJ]
 | a::r,b,i,hi=>by
   have h:=Dj r (b.set a.toNat true) i (by rw[z0h];exact hi);have e:BJ (a::r) b=BJ r (b.set a.toNat true):=rfl;rw[e,h];simp only[x8s,exists_eq_or_imp];by_cases ha:a.toNat=i
   .simp [ha,hi,x8n,z1o]
   .simp [ha,x8n,z1o]
def SH{p:Pg}(h:QP p=true){j:Nat}{f:Pr}(hj:p.A[j]?=some f)(q:plP p j f y):(QQ p j f).live.getD (ixI p j f y).toNat false=true↔Rch (wR p j f) 0 y:=by
 have n:=GP q;have t:(QQ p j f).live=BJ (BV 0 (WX (QI (cntL f.body+2) ((QQ p j f).real.map (ixP p j f (cntL f.body+2:Nat)))).1 [0])) (List.replicate (cntL f.body+2) false):=rfl;rw[t,Dj _ _ _ (by rw[z0b];omega)];have r:(List.replicate (cntL f.body+2) false).getD (ixI p j f y).toNat false=false:=by
  rw[x8n,z0q];split<;>rfl
 rw[r];have u:=Dd (F:=(QQ p j f).real) (VE h hj) q;unfold wR;rw[<-u];constructor
 .rintro (m|⟨a,m,v⟩)
  .cases m
  .have ha:=Pq _ _ _ m
   rwa[show ixI p j f y=a by omega]
 .exact fun m=>.inr ⟨_,m,rfl⟩
section
variable {p:Pg}{k:Nat}{f:Pr}
end
def Al{p:Pg}(h:QP p=true)(n:Int):∃(k:Nat) (f:Pr),p.A[k]?=some f/\OI p (HZ p n)=some (QQ p k f)/\UI p (HZ p n)=(f,true):=by
 have b:0<p.A.length:=by
  obtain⟨_,u,_⟩:=WV (QU h).2.1;cases c:p.A with
  | nil=>
    unfold XI procsN at u;rw[c]at u;simp at u
  |cons a r=>simp
 have hr:=J1 (n:=n) (k:=p.A.length) (by omega);have q:(Ri n p.A.length).toNat<p.A.length:=by omega
 have e:HZ p n=(p.A[(Ri n p.A.length).toNat]).name:=by unfold HZ;rw[x8p q]
 cases t:OI p (HZ p n)with
 | none=>
   exfalso;unfold OI at t;rw[h,x9z]at t;cases x:p.A.find? (fun f=>f.name==HZ p n)with
   | none=>
     have:=z2m.1 x _ (x9w q);simp[e]at this
   |some g=>rw[x]at t;cases t
 | some w=>
   obtain⟨k,f,v,rfl,_,z,m⟩:=Wx t;exact⟨k,f,v,rfl,by unfold UI;rw[m]⟩
def q9h{p:Pg}(h:QP p=true){j:Nat}{f:Pr}(hj:p.A[j]?=some f):∀s∈F8 (QQ p j f) f,okSt s:=fun s m=>by
 unfold F8 at m;rcases x8e.1 m with m|m
 .rcases x8e.1 m with m|m
  .exact Bh h hj s m
  .rw [x9q.1 m];exact⟨by decide,by decide⟩
 .obtain ⟨it,n,m⟩:=z0j.1 m;exact ST h hj it n s m
def q1r{p:Pg}(h:QP p=true){j:Nat}{f:Pr}(hj:p.A[j]?=some f){it:Item}(n:it∈itsOf p j f):(sheetOf p).l[(it.s.id-1).toNat]?=some it:=by
 have u:=ZS (QU h).1 hj (YP n);obtain⟨r,m,q⟩:=W1 hj (k:=(it.s.id-1).toNat) (by omega) (by omega);have t:=Cu h hj (by omega) (by omega) m;rw[m,Iq (QU h).1 hj q n (by omega)]
mutual
def shS(o:Nat):S->S
 |.mk id kind F name D x has args I L=>.mk (id+o) kind F name D x has args (shL o I) (shL o L)
def shL(o:Nat):List S->List S
 |[]=>[]
 |t::r=>shS o t::shL o r
end
def sg(o:Nat)(x:Int):Int:=if 0<x then x+o else x
def shI(o:Nat)(it:Item):Item:=⟨shS o it.s,it.D,sg o it.up,sg o it.next,sg o it.loop⟩
def ZQ(o:Nat)(t:S):shS o t=.mk (t.id+o) t.kind t.F t.name t.D t.x t.has t.args (shL o t.I) (shL o t.L):=by
 cases t;rw[shS];rfl
def FU{o:Nat}{x:Int}(h:0<x):sg o x=x+o:=if_pos h
def Cv{o:Nat}{x:Int}(h:sg o x=sg o y):x=y:=by
 unfold sg at h;split at h<;>split at h<;>omega
mutual
theorem x1j(o:Nat):∀(t:S)(n:Nat),nmS (n+o) t=shS o (nmS n t)
 | .mk id kind F name D x has args I L,n=>by
   rw[nmS,nmS,shS,<-SS o I,<-SS o L];congr 1
   ·omega
   ·congr 1;omega
   ·congr 1;omega
theorem SS(o:Nat):∀(l:List S)(n:Nat),nmL (n+o) l=shL o (nmL n l)
 |[],n=>by rw[nmL,nmL,shL]
 | t::r,n=>by
   rw[nmL,nmL,shL,<-x1j o t,<-SS o r,show n+o+XL t=n+XL t+o by omega]
end
mutual
theorem Et(o:Nat):∀t:S,XL (shS o t)=XL t
 |.mk id kind F name D x has args I L=>by rw[shS,XL,XL,Bg o I,Bg o L]
theorem Bg(o:Nat):∀l:List S,cntL (shL o l)=cntL l
 |[]=>by rw[shL]
 |t::r=>by rw[shL,cntL,cntL,Et o t,Bg o r]
end
def q8h{o:Nat}{l:List S}:(shL o l).isEmpty=l.isEmpty:=by cases l<;>rw[shL]<;>rfl
mutual
theorem x0g(o:Nat):∀t:S,flS (shS o t)=(flS t).map (shS o)
 | .mk id kind F name D x has args I L=>by
   rw[shS,flS,flS,x9c,x8a,Ua o I,Ua o L,shS]
theorem Ua(o:Nat):∀l:List S,flL (shL o l)=(flL l).map (shS o)
 |[]=>by rw[shL,flL];rfl
 |t::r=>by rw[shL,flL,flL,x8a,x0g o t,Ua o r]
end
mutual
theorem x0e(o:Nat):∀(t:S)(pr up nx lp:Int)(n:Nat),itS pr (sg o up) (sg o nx) (sg o lp) (n+o) (shS o t)=(itS pr up nx lp n t).map (shI o)
 | .mk id kind F name D x has args I L,pr,up,nx,lp,n=>by
   have e1:((n+o:Nat):Int)+1=sg o ((n:Int)+1):=by rw[FU (by omega)];omega
   have e2:(if kind=6 then sg o ((n:Int)+1)else sg o nx)=sg o (if kind=6 then(n:Int)+1 else nx):=by split<;>rfl
   have e3:(if kind=6 then sg o ((n:Int)+1)else sg o lp)=sg o (if kind=6 then(n:Int)+1 else lp):=by split<;>rfl
   rw[shS,itS,itS,x9c,x8a,e1,e2,e3,Bg,show n+o+1=n+1+o by omega,show n+1+o+cntL I=n+1+cntL I+o by omega,SZ o I,SZ o L];rfl
theorem SZ(o:Nat):∀(l:List S)(pr up nx lp:Int)(n:Nat),itL pr (sg o up) (sg o nx) (sg o lp) (n+o) (shL o l)=(itL pr up nx lp n l).map (shI o)
 |[],pr,up,nx,lp,n=>by rw[shL,itL,itL];rfl
 | t::r,pr,up,nx,lp,n=>by
   have e1:(if(shL o r).isEmpty then sg o nx else((n+o:Nat):Int)+1+XL t)=sg o (if r.isEmpty then nx else(n:Int)+1+XL t):=by
    rw[q8h];split
    ·rfl
    ·rw[FU (by omega)];omega
   rw[shL,itL,itL,x8a,Et,e1,x0e o t,show n+o+XL t=n+XL t+o by omega,SZ o r]
end
mutual
theorem q7m:∀(s:S)(n:Nat)(t:S),t∈flS (nmS n s)->0<t.id
 | .mk id kind F name D x has args I L,n,t,h=>by
   rw[nmS,flS]at h;rcases x8s.1 h with rfl|h
   ·show(0:Int)<((n+1:Nat):Int);omega
   ·rcases x8e.1 h with h|h
    ·exact Qe I _ t h
    ·exact Qe L _ t h
theorem Qe:∀(l:List S)(n:Nat)(t:S),t∈flL (nmL n l)->0<t.id
 |[],n,t,h=>by rw[nmL,flL]at h;cases h
 | s::r,n,t,h=>by
   rw[nmL,flL]at h;rcases x8e.1 h with h|h
   ·exact q7m s n t h
   ·exact Qe r _ t h
end
def I5{n c:Nat}{l:List Int}(h:a::l=JB n (c+1)):a=((n+1:Nat):Int)/\l=JB (n+1) c:=by
 rw[show c+1=1+c by omega,YT,Ss]at h;exact z1f h
mutual
theorem q2y:∀(t:S)(n:Nat),(flS t).map S.id=JB n (XL t)->nmS n t=t
 | .mk id kind F name D x has args I L,n,h=>by
   rw[flS,XL,x9c,x8a,show 1+cntL I+cntL L=cntL I+cntL L+1 by omega]at h;obtain⟨h1,h2⟩:=I5 h;rw[YT]at h2;obtain⟨h3,h4⟩:=z5x h2 (by rw[x8b,Vq];unfold JB;simp);rw[nmS,J2 I _ h3,J2 L _ h4];have h1:id=((n+1:Nat):Int):=h1;rw[h1]
theorem J2:∀(l:List S)(n:Nat),(flL l).map S.id=JB n (cntL l)->nmL n l=l
 |[],n,_=>by rw[nmL]
 | t::r,n,h=>by
   rw[flL,cntL,x8a,YT]at h;obtain⟨h1,h2⟩:=z5x h (by rw[x8b,EP];unfold JB;simp);rw[nmL,q2y t _ h1,J2 r _ h2]
end
def Be(h:List Item)(f:Pr)(it:Item):List Int:=
 if it.s.kind=5 then [GU it.s.I it.next,GU it.s.L it.next]
 else if it.s.kind=6 then [GU it.s.I it.s.id,it.next]
 else if it.s.kind=7 then [((h[(it.loop-1).toNat]?).map Item.next).getD 0]
 else if it.s.kind=8 then [it.loop]
 else if it.s.kind=9 then [-1]
 else if it.s.kind=10 then [(atB f it.s.name).1]
 else [it.next]
def AS(j:Nat)(B:List S):List Item:=itL j 0 (-1) 0 0 (nmL 0 B)
def AT(B:List S):Int:=if 0<cntL B then 1 else -1
def w0(j:Nat)(f:Pr)(a b:Int):Prop:=(a=0/\b=AT f.body)\/∃it∈AS j f.body,a=it.s.id/\b∈Be (AS j f.body) ⟨f.name,f.C,f.E,nmL 0 f.body,f.fin⟩ it
def P1{o:Nat}{l:List S}{d:Int}(h:∀t∈l,0<t.id):GU (shL o l) (sg o d)=sg o (GU l d):=by
 cases l with
 |nil=>rw[shL];rfl
 | cons t r=>
   rw[shL];show(shS o t).id=sg o t.id;rw[FU (h t x8l),ZQ];rfl
section
variable {p:Pg}{j:Nat}{g:Pr}(hc:QP p=true)(hj:p.A[j]? = some g)
include hc hj
def V5:g.body=shL (offN p.A j) (nmL 0 g.body):=by
 rw[<-SS,z0t];exact(J2 _ _ (Tt (QU hc).1 hj)).symm
def SU:itsOf p j g=(AS j g.body).map (shI (offN p.A j)):=by
 have h:=SZ (offN p.A j) (nmL 0 g.body) j 0 (-1) 0 0;rw[<-V5 hc hj,z0t]at h;exact h
def q1t:(AS j g.body).length=cntL g.body:=by
 have h:=SU hc hj;have m:=z0l List.length h;rw[x8b]at m;rw[<-m];exact ZC _ _ _ _ _ _
theorem q3u{i:Nat}(r:i<cntL g.body):(sheetOf p).l[offN p.A j+i]?=((AS j g.body)[i]?).map (shI (offN p.A j)):=by
 have t:(itsOf p j g).length=cntL g.body:=ZC _ _ _ _ _ _;have m:(itsOf p j g)[i]?=some ((itsOf p j g)[i]'(by omega)):=x8p _;have n:=q1r hc hj (x9y m);have h:((itsOf p j g).map fun it=>it.s.id)[i]?=some (((itsOf p j g)[i]'(by omega)).s.id):=by rw[x9x,m];rfl
 rw[P7 (QU hc).1 hj]at h;unfold JB at h;rw[x9x,z2e r]at h;have q:((offN p.A j+1+1*i:Nat):Int)=((itsOf p j g)[i]'(by omega)).s.id:=z0y h;rw[<-q,show(((offN p.A j+1+1*i:Nat):Int)-1).toNat=offN p.A j+i by omega]at n;rw[n,<-m,SU hc hj,x9x]
theorem I1{it:Item}(b:it∈AS j g.body):UU (sheetOf p) g (shI (offN p.A j) it)=(Be (AS j g.body) ⟨g.name,g.C,g.E,nmL 0 g.body,g.fin⟩ it).map (sg (offN p.A j)):=by
 have q:shI (offN p.A j) it∈itsOf p j g:=by rw[SU hc hj];exact z2f b
 have r:it.s∈flL (nmL 0 g.body):=by
  rw[<-BL j 0 (-1) 0 0 (nmL 0 g.body)];exact z2f b
 have n:=Qe g.body 0;have v:∀t,t∈it.s.I\/t∈it.s.L->0<t.id:=fun t z=>n t (Zj _ it.s t r z);have w:=n it.s r;have c:(shI (offN p.A j) it).s.kind=it.s.kind:=by
  show(shS _ it.s).kind=_;rw[ZQ];rfl
 have z:(shI (offN p.A j) it).s.I=shL (offN p.A j) it.s.I:=by
  show(shS _ it.s).I=_;rw[ZQ];rfl
 have J:(shI (offN p.A j) it).s.L=shL (offN p.A j) it.s.L:=by
  show(shS _ it.s).L=_;rw[ZQ];rfl
 have H:(shI (offN p.A j) it).s.id=sg (offN p.A j) it.s.id:=by
  show(shS _ it.s).id=_;rw[ZQ,FU w];rfl
 have Q:(shI (offN p.A j) it).s.name=it.s.name:=by
  show(shS _ it.s).name=_;rw[ZQ];rfl
 unfold UU Be;rw[c,z,J,H,Q];show(if it.s.kind=5 then [GU (shL _ it.s.I) (sg _ it.next),GU (shL _ it.s.L) (sg _ it.next)]else if it.s.kind=6 then [GU (shL _ it.s.I) (sg _ it.s.id),sg _ it.next]else if it.s.kind=7 then [(((sheetOf p).l[(sg (offN p.A j) it.loop-1).toNat]?).map Item.next).getD 0]else if it.s.kind=8 then [sg _ it.loop]else if it.s.kind=9 then [-1]else if it.s.kind=10 then [(atB g it.s.name).1]else [sg _ it.next])=_;rw[P1 fun t h=>v t (.inl h),P1 fun t h=>v t (.inr h),P1 fun t h=>v t (.inl h)];split
 ·rfl
 split
 ·rfl
 split
 ·rename_i V Y B;have O:=LR (QU hc).2.1 (QU hc).2.2.2.1 hj;have m:=(Qr q).2;have x:(shI (offN p.A j) it).loop=sg (offN p.A j) it.loop:=rfl;have D:=(PN hc hj).1 _ q (by rw[c];exact B);rw[x]at m D;have m:=m.resolve_left (by omega);have G:0<it.loop:=by
   unfold sg at m;split at m
   ·assumption
   ·omega
  rw[FU G]at m⊢;have u:=q3u hc hj (i:=(it.loop-1).toNat) (by omega);rw[show(it.loop+(offN p.A j:Nat)-1).toNat=offN p.A j+(it.loop-1).toNat by omega,u];have M:=q1t hc hj;rw[x8p (show(it.loop-1).toNat<(AS j g.body).length by omega)];rfl
 split
 ·rfl
 split
 ·rfl
 split
 ·unfold atB;have e:flL g.body=(flL (nmL 0 g.body)).map (shS (offN p.A j)):=by
   conv=>lhs;rw[V5 hc hj]
   exact Ua _ _
  rw[e,List.find?_map];have d:((fun t:S=>t.F.any fun s=>it.s.name==s)∘shS (offN p.A j))=fun t:S=>t.F.any fun s=>it.s.name==s:=by
   funext t;show(shS _ t).F.any _=_;rw[ZQ];rfl
  rw[d];show [(match((flL (nmL 0 g.body)).find? fun(t:S)=>t.F.any fun s=>it.s.name==s).map (shS (offN p.A j))with
   |some t=>(t.id,true)
   |none=>bif g.fin.any fun s=>it.s.name==s then(-1,true)else(0,false)).1]=_
  cases U:(flL (nmL 0 g.body)).find? fun(t:S)=>t.F.any fun s=>it.s.name==s with
  | some t=>
    show [(shS _ t).id]=[sg _ t.id];rw[FU (n t (z1a U)),ZQ];rfl
  | none=>
    show [(bif g.fin.any fun s=>it.s.name==s then((-1:Int),true)else(0,false)).1]=[sg _ (bif g.fin.any fun s=>it.s.name==s then((-1:Int),true)else(0,false)).1];cases g.fin.any fun s=>it.s.name==s<;>rfl
 ·rfl
theorem x1p{b:Int}:stR (QK p j g) a b ↔ ∃x y,w0 j g x y/\a=sg (offN p.A j) x/\b=sg (offN p.A j) y:=by
 have w:(if offN p.A j<offN p.A j+cntL g.body then((offN p.A j:Nat)+1:Int)else -1)=sg (offN p.A j) (AT g.body):=by
  unfold AT;by_cases h:0<cntL g.body
  ·rw[if_pos (by omega),if_pos h,FU (by decide)];omega
  ·rw[if_neg (by omega),if_neg h];rfl
 have c:itL j 0 (-1) 0 (offN p.A j) g.body=(AS j g.body).map (shI (offN p.A j)):=SU hc hj;have n:∀it∈AS j g.body,(shI (offN p.A j) it).s.id=sg (offN p.A j) it.s.id:=fun it B=>by
  have u:it.s∈flL (nmL 0 g.body):=by
   rw[<-BL j 0 (-1) 0 0 (nmL 0 g.body)];exact z2f B
  show(shS _ it.s).id=_;rw[ZQ,FU (Qe g.body 0 _ u)];rfl
 unfold stR QK;rw[w,c];constructor
 ·rintro⟨s,t,rfl,rfl⟩;rcases x8s.1 t with rfl|t
  ·exact⟨0,AT g.body,.inl ⟨rfl,rfl⟩,rfl,rfl⟩
  ·obtain⟨C,m,q⟩:=z0j.1 t;obtain⟨it,r,rfl⟩:=x8c.1 m;obtain⟨y,v,rfl⟩:=x8c.1 q;rw[I1 hc hj r]at v;obtain⟨z,d,rfl⟩:=x8c.1 v;exact⟨it.s.id,z,.inr ⟨it,r,rfl,d⟩,n it r,rfl⟩
 ·rintro⟨x,y,(⟨rfl,rfl⟩|⟨it,m,rfl,q⟩),rfl,rfl⟩
  ·exact⟨_,x8l,rfl,rfl⟩
  ·refine⟨⟨sg (offN p.A j) it.s.id,sg (offN p.A j) y,1⟩,x8r _ (z0j.2 ⟨_,z2f m,?_⟩),rfl,rfl⟩;rw[I1 hc hj m];exact x8c.2 ⟨sg (offN p.A j) y,z2f q,by rw[n it m]⟩
def x2g{b:Int}:wR p j g a b ↔ ∃x y,w0 j g x y/\a=sg (offN p.A j) x/\b=sg (offN p.A j) y:=by
 rw[<-x1p hc hj];have q:=(VN hc hj).2;constructor
 .rintro ⟨s,h,m,n⟩;exact⟨s,(q s).1 h,m,n⟩
 .rintro ⟨s,h,m,n⟩;exact⟨s,(q s).2 h,m,n⟩
def q5v:Rch (wR p j g) 0 y ↔ ∃x,Rch (w0 j g) 0 x/\y=sg (offN p.A j) x:=by
 constructor
 .intro h;induction h with
  |refl=>exact⟨0,.refl,rfl⟩
  | tail _ m n=>
    obtain⟨x,q,r⟩:=n;obtain⟨u,v,t,w,z⟩:=(x2g hc hj).1 m;rw[Cv (r.symm.trans w)]at q;exact⟨v,.tail q t,z⟩
 .rintro ⟨x,h,rfl⟩;induction h with
  |refl=>exact .refl
  |tail _ m n=>exact .tail n ((x2g hc hj).2 ⟨_,_,m,rfl,rfl⟩)
end
def q7j{p q:Pg}(F:QP p=true)(G:QP q=true){j:Nat}{g m:Pr}(v:p.A[j]?=some g)(w:q.A[j]?=some m)(B:nmL 0 m.body=nmL 0 g.body)(u:cntL m.body=cntL g.body)(O:m.fin=g.fin){r:S}(H:r∈flL m.body):
  ∃t∈flL g.body,t.kind=r.kind/\t.name=r.name/\t.D=r.D/\t.args=r.args/\(Rch (wR q j m) 0 r.id->Rch (wR p j g) 0 t.id):=by
 have I:flL m.body=(flL (nmL 0 g.body)).map (shS (offN q.A j)):=by
  conv=>lhs;rw[V5 G w,B]
  exact Ua _ _
 have J:flL g.body=(flL (nmL 0 g.body)).map (shS (offN p.A j)):=by
  conv=>lhs;rw[V5 F v]
  exact Ua _ _
 rw[I]at H;obtain⟨t0,z,rfl⟩:=x8c.1 H;have n:=Qe g.body 0 t0 z;refine⟨shS (offN p.A j) t0,by rw[J];exact z2f z,?_,?_,?_,?_,fun h=>?_⟩
 .rw [ZQ,ZQ];rfl
 .rw [ZQ,ZQ];rfl
 .rw [ZQ,ZQ];rfl
 .rw [ZQ,ZQ];rfl
 .have U:w0 j m=w0 j g:=by
   funext a b;unfold w0 AS AT;rw[B,u];have Q:∀it,Be (itL j 0 (-1) 0 0 (nmL 0 g.body)) ⟨m.name,m.C,m.E,nmL 0 g.body,m.fin⟩ it=Be (itL j 0 (-1) 0 0 (nmL 0 g.body)) ⟨g.name,g.C,g.E,nmL 0 g.body,g.fin⟩ it:=fun it=>by
    unfold Be atB;simp only;rw[O]
   simp only[Q]
  obtain⟨x,c,d⟩:=(q5v G w).1 h;have L:(shS (offN q.A j) t0).id=sg (offN q.A j) t0.id:=by rw[ZQ,FU n];rfl
  have M:(shS (offN p.A j) t0).id=sg (offN p.A j) t0.id:=by rw[ZQ,FU n];rfl
  rw[L]at d;rw[M];rw[U,<-Cv d]at c;exact(q5v F v).2 ⟨_,c,rfl⟩
theorem Pd{α:Type}{R:α->α->Prop}(n:∀a,¬R a a)(v:∀a b c,R a b->R b c->R a c):∀{l m:List α},l.Pairwise R->m.Pairwise R->(∀s,s∈l↔s∈m)->l=m
 |[],[],_,_,_=>rfl
 |[],b::m,_,_,h=>by have:=(h b).2 x8l;cases this
 |a::l,[],_,_,h=>by have:=(h a).1 x8l;cases this
 | a::l,b::m,hl,hm,h=>by
   rw[z2y]at hl hm;have u:a=b:=by
    rcases x8s.1 ((h a).1 x8l)with q|q
    .exact q
    rcases x8s.1 ((h b).2 x8l)with t|t
    .exact t.symm
    exact absurd (v _ _ _ (hl.1 b t) (hm.1 a q)) (n a)
   subst u;rw[Pd n v hl.2 hm.2 fun s=>?_];constructor
   .intro r;rcases x8s.1 ((h s).1 (x8r _ r))with rfl|q
    .exact absurd (hl.1 s r) (n s)
    .exact q
   .intro r;rcases x8s.1 ((h s).2 (x8r _ r))with rfl|q
    .exact absurd (hm.1 s r) (n s)
    .exact q
theorem Sq:∀(x y:List UInt8),Op.bytesLess x y=decide (x<y)
 |[],[]=>by simp[Op.bytesLess]
 |_::_,[]=>by simp[Op.bytesLess]
 |[],_::_=>by simp[Op.bytesLess]
 | a::x,b::y=>by
   rw[Op.bytesLess,Sq x y];simp only[List.cons_lt_cons_iff];by_cases h:a<b<;>by_cases m:a=b<;>by_cases n:x<y<;>simp[h,m,n]
def ltT(a b:Str):Prop:=Op.bytesLess a b=true
def PO{a b:Str}:ltT a b↔a<b:=by
 unfold ltT;rw[Sq,x9o]
def Qa(a:Str):¬ltT a a:=fun h=>List.lt_irrefl a (PO.1 h)
theorem ltT.trans(a b c:Str)(m:ltT a b)(q:ltT b c):ltT a c:=PO.2 (List.lt_trans (PO.1 m) (PO.1 q))
def Im{a b:Str}(h:a≠b):ltT a b\/ltT b a:=by
 by_cases n:a<b
 .exact .inl (PO.2 n)
 .rcases List.le_iff_lt_or_eq.1 (List.not_lt.1 n)with m|m
  .exact .inr (PO.2 m)
  .exact absurd m.symm h
def Cg(l:List Str):(YR l).Pairwise fun a b=>a<=b:=by
 have:=List.pairwise_mergeSort (le:=fun x y:Str=>decide (x<=y)) (fun a b c m n=>by
  rw[x9o]at m n⊢;exact List.le_trans m n) (fun a b=>by
  rcases List.le_total a b with h|h
  .rw [z0r h];rfl
  .rw [z0r h];exact Bool.or_true _) l
 exact this.imp fun h=>by simpa using h
def Mn{l:List Str}(h:l.Pairwise fun a b=>a<=b):(Go.Lib.compact l).Pairwise ltT:=by
 unfold Go.Lib.compact Go.Lib.compactUpTo;rw[List.pairwise_map];refine(List.Pairwise.filter _ (List.pairwise_lt_range (n:=l.length))).imp_of_mem fun {i k} d A B=>?_;obtain⟨r,_⟩:=z0u.1 d;obtain⟨m,q⟩:=z0u.1 A;rw[z1i]at r m;have le:∀(a b:Nat)(_:a<=b)(x:b<l.length),l[a]'(by omega)<=l[b]:=fun a b c x=>by
  rcases x8o a b with t|t
  .exact List.pairwise_iff_getElem.1 h a b (by omega) x t
  .obtain rfl:a=b:=by omega
   exact List.le_refl _
 have g:∀(a:Nat)(ha:a<l.length),l.toArray[a]! = l[a]:=fun a ha=>by simp[ha]
 rw[g i r,g k m];unfold Go.Lib.keeps at q;rw[x9o,g k m,g (k-1) (by omega)]at q;have v:l[k]≠l[k-1]'(by omega):=by
  rcases q with w|w
  .omega
  .exact w
 have t:=le i (k-1) (by omega) (by omega);have z:=le (k-1) k (by omega) m;rcases List.le_iff_lt_or_eq.1 z with u|u
 .exact PO.2 (List.lt_of_le_of_lt t u)
 .exact absurd u.symm v
def WB(l:List Str):List Str:=Go.Lib.compact (YR l)
def ZE{l:List Str}{s:Str}:s∈WB l↔s∈l:=by unfold WB;rw[Kc,NF]
def KG(l:List Str):(WB l).Pairwise ltT:=Mn (Cg l)
def Pf{l m:List Str}(h:m.Pairwise ltT)(n:∀s,s∈m↔s∈l):m=WB l:=Pd Qa ltT.trans h (KG l) fun s=>by rw[n,ZE]
def TG{l:List Str}(h:l.Nodup):YR l=WB l:=by
 refine Pf ?_ fun s=>NF;have r:(YR l).Nodup:=by
  unfold YR;exact(List.mergeSort_perm l _).nodup_iff.2 h
 refine(List.pairwise_and_iff.2 ⟨Cg l,r⟩).imp fun⟨n,q⟩=>?_;rcases List.le_iff_lt_or_eq.1 n with m|m
 .exact PO.2 m
 .exact absurd m q
structure RiseI{α:Type}(R:α->α->Prop)(l out:List α)(i:Nat):Prop where
 rise:out.Pairwise R
 sub:∀s∈out,s∈l
 seg:∀s∈l,s∉out->∀o∈out,R o s
 cnt:(∀s∈l,s∈out)\/out.length=i
def LeastI{α:Type}(R:α->α->Prop)(l out:List α)(k:Nat):Option α->Prop
 |none=>∀s∈l.take k,s∈out
 |some m=>m∈l/\m∉out/\∀s∈l.take k,s∉out->s=m\/R m s
section
variable {α:Type}{R:α->α->Prop}{l out:List α}{i k:Nat}
theorem RiseI.zero:RiseI R l [] 0:=⟨.nil,fun _ h=>(by cases h),fun _ _ _ _ h=>(by cases h),.inr rfl⟩
theorem LeastI.zero:LeastI R l out 0 none:=fun s h=>by rw[z3q]at h;cases h
def QS{s:α}(h:k<l.length):s∈l.take (k+1)↔s∈l.take k\/s=l[k]:=by
 rw[x9v h,x8e,x9q]
theorem LeastI.old(t:k<l.length){o:Option α}(h:LeastI R l out k o)(v:l[k]∈out):LeastI R l out (k+1) o:=by
 cases o with
 | none=>
   intro s r;rcases(QS t).1 r with q|rfl
   .exact h s q
   .exact v
 | some m=>
   refine⟨h.1,h.2.1,fun s r u=>?_⟩;rcases(QS t).1 r with q|rfl
   .exact h.2.2 s q u
   .exact absurd v u
theorem LeastI.first(m:k<l.length)(h:LeastI R l out k none)(u:l[k]∉out):LeastI R l out (k+1) (some l[k]):=by
 refine⟨x9w m,u,fun s t r=>?_⟩;rcases(QS m).1 t with q|rfl
 .exact absurd (h s q) r
 .exact .inl rfl
theorem LeastI.less(z:∀a b c,R a b->R b c->R a c)(r:k<l.length){m:α}(h:LeastI R l out k (some m))(x:l[k]∉out)(q:R l[k] m):LeastI R l out (k+1) (some l[k]):=by
 refine⟨x9w r,x,fun s w v=>?_⟩;rcases(QS r).1 w with t|rfl
 .rcases h.2.2 s t v with rfl|u
  .exact .inr q
  .exact .inr (z _ _ _ q u)
 .exact .inl rfl
theorem LeastI.more(tot:∀a b,a≠b->R a b\/R b a)(u:k<l.length){m:α}(h:LeastI R l out k (some m))(t:¬R l[k] m):LeastI R l out (k+1) (some m):=by
 refine⟨h.1,h.2.1,fun s w v=>?_⟩;rcases(QS u).1 w with r|rfl
 .exact h.2.2 s r v
 .by_cases q:l[k]=m
  .exact .inl q
  .exact .inr ((tot _ _ q).resolve_left t)
theorem RiseI.stay(h:RiseI R l out i)(m:LeastI R l out l.length none):RiseI R l out (i+1):=by
 rw[LeastI,z3s]at m;exact⟨h.rise,h.sub,h.seg,.inl m⟩
theorem RiseI.snoc(h:RiseI R l out i){m:α}(z:LeastI R l out l.length (some m)):RiseI R l (out++[m]) (i+1):=by
 obtain⟨u,v,w⟩:=z;rw[z3s]at w;refine⟨?_,fun s t=>?_,fun s t r o c=>?_,?_⟩
 .rw [List.pairwise_append];exact⟨h.rise,List.pairwise_singleton _ _,fun a ha b x=>by rw[x9q.1 x];exact h.seg m u v a ha⟩
 .rcases x8e.1 t with q|q
  .exact h.sub s q
  .rw [x9q.1 q];exact u
 .rw [x8e,not_or,x9q]at r;rcases x8e.1 c with q|q
  .exact h.seg s t r.1 o q
  .rw [x9q.1 q];exact(w s t r.1).resolve_left r.2
 .rcases h.cnt with q|q
  .exact absurd (q m u) v
  .exact .inr (by rw[x8m,q];rfl)
theorem RiseI.nodup(m:∀a,¬R a a)(h:RiseI R l out i):out.Nodup:=by
 unfold List.Nodup;refine h.rise.imp fun {a b} q e=>?_;subst e;exact m _ q
theorem RiseI.all[DecidableEq α](r:∀a,¬R a a)(h:RiseI R l out i)(w:i=l.length):out.Pairwise R/\∀s,s∈out↔s∈l:=by
 refine⟨h.rise,fun s=>⟨h.sub s,fun u=>?_⟩⟩;rcases h.cnt with t|t
 .exact t s u
 .refine z2r fun v=>?_;have hnd:(s::out).Nodup:=z0n.2 ⟨v,h.nodup r⟩;have:=NX hnd (m:=l) fun x q=>by
   rcases x8s.1 q with rfl|q
   .exact u
   .exact h.sub x q
  rw[x9f]at this;omega
theorem RiseI.len[DecidableEq α](m:∀a,¬R a a)(h:RiseI R l out i):out.length<=l.length:=NX (h.nodup m) h.sub
end
def CD(k t:Nat)(cs:List AV):List (Nat×LV)->(List (Nat×LV)->Prop)->Prop
 |[],K=>K []
 |(j,l)::r,K=>bif beq j t then CD k t cs r fun r=>K ((j,.p (.agg cs))::r)else JD (l.kill k) fun l=>CD k t cs r fun r=>K ((j,l)::r)
theorem V2{k t:Nat}{cs:List AV}:∀{sl:List (Nat×LV)}{K:List (Nat×LV)->Prop},CD k t cs sl K->∃sl',K sl'/\∀i,getS sl' i=(getS sl i).kill k\/(i=t/\getS sl' i=.p (.agg cs))
 |[],_,h=>⟨[],h,fun _=>.inl rfl⟩
 | (j,l)::r,K,h=>by
   unfold CD at h;cases n:beq j t with
   | true=>
     rw[n,x9z]at h;have hj:j=t:=Nat.eq_of_beq_eq_true n;obtain⟨sl',m,q⟩:=V2 h;refine⟨_,m,fun i=>?_⟩;simp only[getS];cases u:j==i with
     |true=>exact .inr ⟨by rw[<-hj];exact(by simpa using u:j=i).symm,rfl⟩
     |false=>exact q i
   | false=>
     rw[n,x9k,XH]at h;obtain⟨sl',m,q⟩:=V2 h;refine⟨_,m,fun i=>?_⟩;simp only[getS];cases u:j==i with
     |true=>exact .inl rfl
     |false=>exact q i
def E2{s:St}{es:List AV}{t:Nat}{ls:List LV}{cs:List AV}(hg:getH s.H k=some (.own e sz es))(ht:getS s.sl t=.agg ls)(E:ls.length=cs.length)(U:∀(j:Nat)(l:LV)(c:AV),ls[j]?=some l->cs[j]?=some c->(∃a,l=.p a/\Sub a c)\/(∃n,l=.hd k 0 n/\n=es.length/\c=.sl es))(h:CD k t cs s.sl fun sl=>LU k s.H fun H=>K ⟨sl,H⟩):∃s',K s'/\Le N s s':=by
 obtain⟨sl,h,hsl⟩:=V2 h;obtain⟨H,h,q,hH⟩:=MK h;have agg:∀{σ τ:Mem}{β:Lab}{v:Value},σ.le τ->RepL σ β (.agg ls) v->(∀v,RepL σ β (.hd k 0 es.length) v->Rep τ (.sl es) v)->Rep τ (.agg cs) v:=fun {σ τ β v} z B L=>by
  cases B with
  | agg _ vs u hn hc hrr=>
    refine Rep.agg cs vs u (by rw[hn,E]) (fun j c hj=>?_) fun j c hj=>?_
    .have C:j<ls.length:=by rw[E];exact(x8t.1 hj).1
     exact hc j _ (x8p C)
    .have C:j<ls.length:=by rw[E];exact(x8t.1 hj).1
     have d:=hrr j _ (x8p C);rcases U j _ c (x8p C) hj with⟨a,A,h3⟩|⟨n,A,rfl,rfl⟩
     .rw [A]at d;cases d with
      |p hp=>exact h3 _ _ (hp.mono z)
     .rw [A]at d;exact L _ d
 refine⟨_,h,fun σ β a w hr=>?_⟩;rcases VD.1 (hr.heap.chunks k _ (QF hg))with⟨Q,rfl⟩|⟨i,vs,V,hisz,hh,hn,hle',hmax,hE⟩
 .refine ⟨σ,β,⟨hr.size,hr.defers,fun j=>?_,⟨hr.heap.mem,fun j c' hj=>?_,q.nodup hr.heap.nodup,fun j hj=>hr.heap.apart j (q.subset hj),fun j hj j' Y=>hr.heap.inj j (q.subset hj) j' (q.subset Y)⟩⟩,Mem.le_refl σ,Frm.refl _ _,fun _ h0 d=>absurd h0 d,fun b ⟨j,hj,r⟩=>.inl ⟨j,q.subset hj,r⟩,fun _ _ _=>rfl⟩
  .show RepL σ β (getS sl j) _;have B:=hr.G j;rcases hsl j with I|⟨rfl,A⟩
   .rw [I];exact B.kill k
   .rw [A];rw[ht]at B;refine .p (agg (Mem.le_refl σ) B fun v B=>?_);rcases B.hdI with⟨_,_,_,I⟩|⟨i,_,D,_⟩
    .rw [I];exact .nilsl
    .rw [Q]at D;cases D
  .obtain ⟨_,c,A,rfl⟩:=hH j c' hj;exact(hr.heap.chunks j c A).kill k
 .refine hr.lay V (XU hg) hh (fun τ z hτ j v B=>?_) (fun τ z hτ j c' hj=>?_) (q.nodup hr.heap.nodup)
  .show RepL τ β (getS sl j) v;rcases hsl j with I|⟨rfl,A⟩
   .rw [I];exact(B.kill k).mono z
   .rw [A];rw[ht]at B;refine .p (agg z B fun v B=>?_);rcases B.hdI with⟨D,_⟩|⟨i',oo,D,hl,O,rfl⟩
    .rw [V]at D;cases D
    .rw [V]at D;cases D;have Z:oo=0:=by
      rcases O with O|O
      .simpa using O
      .omega
     subst Z;obtain⟨u,hu⟩ : ∃u:Nat->Nat->Value,∀(m:Nat)(x:AV)(j:Nat)(c:AV),es[m]?=some x->x.cells[j]?=some c->vs[m*sz+j]?=some (u m j)/\Rep σ c (u m j):=by
      refine⟨fun m j=>(vs[m*sz+j]?).getD undef,fun m x j c M hj=>?_⟩;obtain⟨v,d,A⟩:=hE.rep m x j c M hj;rw[z0z]at d;split at d
      .have F:vs[m*sz+j]?=some v:=by simpa using d
       exact⟨by simp[F],by simpa[F]using A⟩
      .cases d
     exact .sl es i.blk 0 _ sz vs u hτ (by omega) (by omega) hE.size (fun m x j c M hj=>by simpa using(hu m x j c M hj).1) fun m x j c M hj=>(hu m x j c M hj).2.mono z
  .obtain ⟨d,c,A,rfl⟩:=hH j c' hj;exact⟨d,c,A,fun J=>(J.kill k).mono z fun _ _ _ _=>rfl⟩
def CK{T:Tab}{o:Oper}{s:St}(hT:TabOK P T){es:List AV}(t:Nat){ls:List LV}(cs:List AV)(d:getH s.H k=some (.own e sz es))(B:getS s.sl t=.agg ls)(u:ls.length=cs.length)(m:∀(j:Nat)(l:LV)(c:AV),ls[j]?=some l->cs[j]?=some c->(∃a,l=.p a/\Sub a c)\/(∃n,l=.hd k 0 n/\n=es.length/\c=.sl es))(h:CD k t cs s.sl fun sl=>LU k s.H fun H=>opW P T N ⟨sl,H⟩ o K):OpK P N s o K:=⟨fun σ β a w hr Q=>by
 obtain⟨E,z,r⟩:=E2 (N:=N) d B u m (K:=fun s'=>opW P T N s' o K) h;obtain⟨σ1,β1,x,q⟩:=r σ β a w hr;exact Oper.wp_mono (fun D w' ⟨σ',β',C,b,v,A⟩=>⟨σ',β',C,b,v,q.trans A⟩) (NW hT z x Q)⟩
def cpA(b:Nat):AV:=.raw (.pointer (some ⟨b,0,none⟩))
def LV.cl(k b:Nat):LV->LV
 |.p a=>.p a
 | .ptr j off=>bif j==k then(match off with
   |0=>.p (cpA b)
   |_+1=>.p .any)else .ptr j off
 |.hd j off n=>bif j==k then .p .any else .hd j off n
 |.agg vs=>.agg (cls k b vs)
 |.tup vs=>.tup (cls k b vs)
 |.ext j d=>bif j==k then .p .any else .ext j d
where cls (k b:Nat):List LV->List LV
 |[]=>[]
 |v::r=>LV.cl k b v::cls k b r
theorem El(k b:Nat):∀ls:List LV,LV.cl.cls k b ls=ls.map (LV.cl k b)
 |[]=>rfl
 |v::r=>by rw[LV.cl.cls,El k b r];rfl
theorem RepL.cl{σ:Mem}{β γ:Lab}{k kc:Nat}{i:BInfo}(z:β k=some i)(t:∀j,j≠k->j≠kc->γ j=β j){l:LV}{v:Value}(hr:RepL σ β l v)(r:l.free kc=true):RepL σ γ (l.cl k i.blk) v:=by
 induction hr with
 |p h=>exact .p h
 | ptr j off i' hj=>
   have m:j≠kc:=by simpa[LV.free]using r
   by_cases h:j=k
   .subst h;rw[z]at hj;cases hj;simp only[LV.cl,z0d,x9z];cases off with
    |zero=>exact .p (.raw _)
    |succ off=>exact .p (.any _)
   .have:(j==k)=false:=by simp[h]
    simp only[LV.cl,this,x9k];exact .ptr j off i' (by rw[t j h m];exact hj)
 | hdn j hj=>
   have m:j≠kc:=by simpa[LV.free]using r
   by_cases h:j=k
   .subst h;simp only[LV.cl,z0d,x9z];exact .p (.any _)
   .have:(j==k)=false:=by simp[h]
    simp only[LV.cl,this,x9k];exact .hdn j (by rw[t j h m];exact hj)
 | hd j off len i' o hj b c=>
   have m:j≠kc:=by simpa[LV.free]using r
   by_cases h:j=k
   .subst h;simp only[LV.cl,z0d,x9z];exact .p (.any _)
   .have:(j==k)=false:=by simp[h]
    simp only[LV.cl,this,x9k];exact .hd j off len i' o (by rw[t j h m];exact hj) b c
 | agg ls vs u w hc _ x=>
   simp only[LV.cl,El];refine .agg _ vs u (by rw[x8b];exact w) (fun j l' hj=>?_) fun j l' hj=>?_
   .rw [x9x]at hj;cases q:ls[j]?with
    |none=>rw[q]at hj;cases hj
    |some l=>exact hc j l q
   .rw [x9x]at hj;cases q:ls[j]?with
    |none=>rw[q]at hj;cases hj
    | some l=>
      rw[q]at hj;cases hj;exact x j l q (QO (by simpa[LV.free]using r) j l q)
 | tup ls vs u w hc _ x=>
   simp only[LV.cl,El];refine .tup _ vs u (by rw[x8b];exact w) (fun j l' hj=>?_) fun j l' hj=>?_
   .rw [x9x]at hj;cases q:ls[j]?with
    |none=>rw[q]at hj;cases hj
    |some l=>exact hc j l q
   .rw [x9x]at hj;cases q:ls[j]?with
    |none=>rw[q]at hj;cases hj
    | some l=>
      rw[q]at hj;cases hj;exact x j l q (QO (by simpa[LV.free]using r) j l q)
 | ext j d i' v hj hd=>
   have m:j≠kc:=by simpa[LV.free]using r
   by_cases h:j=k
   .subst h;simp only[LV.cl,z0d,x9z];exact .p (.any _)
   .have:(j==k)=false:=by simp[h]
    simp only[LV.cl,this,x9k];exact .ext j d i' v (by rw[t j h m];exact hj) hd
def x3w(k kc b:Nat)(c:AV)(j:Nat)(ch:Chunk):Chunk:=bif j==kc then(match ch with
 |.ext (.cells e l)=>.ext (.cells e (l++[(b,c)]))
 |ch=>ch)else ch.mapL (LV.cl k b)
def q5c(k kc b:Nat)(c:AV)(H:Heap):Heap:=(H.filter fun x=> !(x.1==k)).map fun x=>(x.1,x3w k kc b c x.1 x.2)
def RC(k kc b:Nat)(c:AV):Heap->(Heap->Prop)->Prop
 |[],K=>K []
 |(j,ch)::r,K=>bif j==k then RC k kc b c r K else bif j==kc then(match ch with
     |.ext (.cells e l)=>RC k kc b c r fun r=>K ((j,.ext (.cells e (l++[(b,c)])))::r)
     |ch=>RC k kc b c r fun r=>K ((j,ch)::r))else Av (LV.cl k b) ch fun ch=>RC k kc b c r fun r=>K ((j,ch)::r)
theorem S3(k kc b:Nat)(c:AV):∀(H:Heap)(K:Heap->Prop),RC k kc b c H K=K (q5c k kc b c H)
 |[],K=>rfl
 | (j,ch)::r,K=>by
   have n:=S3 k kc b c r;unfold RC q5c;by_cases h:j=k
   .have e:(j==k)=true:=by simp[h]
    rw[e,x9z,n,z1t (by simp[e])];rfl
   .have e:(j==k)=false:=by simp[h]
    rw[e,x9k,z1n (by simp[e]),x9c];simp only[x3w];by_cases q:j=kc
    .have m:(j==kc)=true:=by simp[q]
     rw[m,x9z,x9z];split<;>rw[n]<;>first|rfl|skip
    .have m:(j==kc)=false:=by simp[q]
     rw[m,x9k,x9k,MV,n];rfl
def x1h(k kc:Nat)(s:St):Bool:=(!(k==kc)&&(Nat.ble 2000 kc&&blt k 1000))&&((s.sl.all fun x=>x.2.free kc)&&s.H.all fun x=>x.2.free kc)
def x3v(k kc:Nat)(s:St)(K:St->Prop):Prop:=match getH s.H k,getH s.H kc with
 |some (.obj e [.p c]),some (.ext (.cells e' l))=>(e=e'/\x1h k kc s=true)/\∀b,(∀x∈l,x.1≠b)->Kl (LV.cl k b) s.sl fun sl=>RC k kc b c s.H fun H=>K ⟨sl,H⟩
 |_,_=>False
def E7{σ:Mem}{β:Lab}{s:St}{a:Act}{w:World}{kc:Nat}(h:x3v k kc s K)(hr:Rel N σ β s a w):∃σ' β' s',K s'/\Rel N σ' β' s' a w/\Later σ β s.H w σ' β' s'.H w:=by
 unfold x3v at h;split at h<;>first|exact h.elim|skip
 rename_i e c e' l hgk hgc;obtain⟨⟨rfl,hok⟩,h⟩:=h;simp only[x1h,x9g,z0p,z1b,z2t,ne_eq]at hok;obtain⟨⟨hne,hkc,hk⟩,hf1,hf2⟩:=hok;have hkc:2000<=kc:=z3w hkc;have hk:k<1000:=by simpa[blt,Nat.lt_iff_add_one_le]using hk
 have hmk:=QF hgk;have hmc:=QF hgc;have hlk:k∈s.H.map (·.1):=x8c.2 ⟨_,hmk,rfl⟩;have hlc:kc∈s.H.map (·.1):=x8c.2 ⟨_,hmc,rfl⟩;obtain⟨i,vs,hi,hh,hn,hc⟩:=hr.heap.chunks k _ hmk;have hcc:XC.holds (.cells e l) σ (β kc) w:=hr.heap.chunks kc _ hmc;obtain⟨hnd,hcl⟩:=hcc;have Q:∀x∈l,x.1≠i.blk:=fun x q L=>by
  obtain⟨B,_,n,b,_⟩:=hcl x q;exact hne (hr.heap.inj k hlk kc hlc i B hi n i.blk i.has_blk (L▸b))
 have h:=h i.blk Q;obtain⟨sl,h,hsl⟩:=YN (by rfl) h;rw[S3]at h;obtain⟨C,Z⟩ : ∃C:BInfo,∀x,C.has x↔x=i.blk\/∃B,β kc=some B/\B.has x:=by
  cases hq:β kc with
  | none=>
    refine⟨⟨i.blk,0,1,[],x8i _⟩,fun x=>?_⟩;rw[Xh];exact⟨fun h=>.inl h.symm,fun h=>h.elim (fun h=>h.symm) fun⟨_,h,_⟩=>by cases h⟩
  | some B=>
    refine⟨⟨B.blk,B.cap,B.sz,some (i.blk,0)::B.subs,B.ok⟩,fun x=>?_⟩;constructor
    .rintro (h|⟨c,h⟩)
     .exact .inr ⟨B,rfl,.inl h⟩
     .rcases x8s.1 h with h|h
      .cases h;exact .inl rfl
      .exact .inr ⟨B,rfl,.inr ⟨c,h⟩⟩
    .rintro (rfl|⟨_,h,h'⟩)
     .exact .inr ⟨0,x8l⟩
     .cases h;rcases h' with h'|⟨c,h'⟩
      .exact .inl h'
      .exact .inr ⟨c,x8r _ h'⟩
 let β':Lab:=fun j=>if j=kc then some C else if j=k then none else β j;have hβc:β' kc=some C:=if_pos rfl;have hβ:∀j,j≠k->j≠kc->β' j=β j:=fun j n b=>by
  show(if j=kc then some C else if j=k then none else β j)=β j;rw[if_neg b,if_neg n]
 have Y:∀i,(getS s.sl i).free kc=true:=fun i=>by
  have key:∀sl:List (Nat×LV),(∀x∈sl,x.2.free kc=true)->(getS sl i).free kc=true:=fun sl=>by
   induction sl with
   |nil=>exact fun _=>rfl
   | cons x r ih=>
     intro q;obtain⟨j,v⟩:=x;simp only[getS];cases j==i with
     |true=>exact q _ x8l
     |false=>exact ih fun y hy=>q y (x8r _ hy)
  exact key _ hf1
 have D:∀j∈(q5c k kc i.blk c s.H).map (·.1),j≠k/\j∈s.H.map (·.1):=fun j hj=>by
  obtain⟨x,q,rfl⟩:=x8c.1 hj;obtain⟨y,hy,rfl⟩:=x8c.1 q;obtain⟨n,b⟩:=z0u.1 hy;exact⟨by simpa using b,x8c.2 ⟨y,n,rfl⟩⟩
 have F:∀j∈(q5c k kc i.blk c s.H).map (·.1),∀i',β' j=some i'->∀x,i'.has x->∃m∈s.H.map (·.1),∃U,β m=some U/\U.has x/\(m=j\/(m=k/\j=kc)):=fun j hj i' A x q=>by
  by_cases t:j=kc
  .subst t;rw[hβc]at A;cases A;rcases(Z x).1 q with rfl|⟨B,n,b⟩
   .exact ⟨k,hlk,i,hi,i.has_blk,.inr ⟨rfl,rfl⟩⟩
   .exact ⟨j,hlc,B,n,b,.inl rfl⟩
  .rw [hβ j (D j hj).1 t]at A;exact⟨j,(D j hj).2,i',A,q,.inl rfl⟩
 refine⟨σ,β',⟨sl,q5c k kc i.blk c s.H⟩,h,⟨hr.size,hr.defers,fun m=>?_,⟨hr.heap.mem,fun j ch hj=>?_,?_,fun j hj i' A x q=>?_,fun j hj j' hj' i1 i2 n b x hx1 hx2=>?_⟩⟩,Mem.le_refl σ,Frm.refl _ _,fun _ h0 n=>absurd h0 n,fun x ⟨j,hj,i',A,q⟩=>?_,fun j n b=>hβ j (by omega) (by omega)⟩
 .show RepL σ β' (getS sl m) _;rw[hsl];exact(hr.G m).cl hi hβ (Y m)
 .obtain ⟨y,hy,L⟩:=x8c.1 hj;cases L;obtain⟨n,b⟩:=z0u.1 hy;have hyk:y.1≠k:=by simpa using b
  unfold x3w;by_cases t:y.1=kc
  .have:y.2=.ext (.cells e l):=by
    have M:(kc,y.2)∈s.H:=by rw[<-t];exact n
    have O:=hr.heap.nodup;have key:∀(H:Heap),(H.map (·.1)).Nodup->∀{c1 c2},(kc,c1)∈H->(kc,c2)∈H->c1=c2:=fun H=>by
     induction H with
     |nil=>intro _ c1 c2 h;cases h
     | cons z r ih=>
       intro hn c1 c2 n b;rw[x9c,z0n]at hn;rcases x8s.1 n with e1|n<;>rcases x8s.1 b with e2|b
       .rw [<-e1]at e2;cases e2;rfl
       .exact absurd (x8c.2 ⟨_,b,by rw[<-e1]⟩) hn.1
       .exact absurd (x8c.2 ⟨_,n,by rw[<-e2]⟩) hn.1
       .exact ih hn.2 n b
    exact key _ O M hmc
   rw[this,t];simp only[z0d,x9z];show XC.holds (.cells e (l++[(i.blk,c)])) σ (β' kc) w;rw[hβc];refine⟨?_,fun x q=>?_⟩
   .rw [x8a,z0a];refine⟨hnd,by simp,fun x q y hy L=>?_⟩;obtain⟨z,hz,rfl⟩:=x8c.1 q;rw[x9q.1 hy]at L;exact Q z hz L
   .rcases x8e.1 q with q|q;rotate_left
    .rw [x9q.1 q];obtain⟨u,J,V⟩:=hc 0 (.p c) rfl;refine⟨C,u,rfl,(Z _).2 (.inl rfl),?_,?_⟩
     .have:vs=#[u]:=by
       have h7:vs.size=1:=hn;obtain⟨ls⟩:=vs
       match ls,h7,J with
       |[v],_,J=>simp at J;rw[J]
      rw[<-this];exact hh
     .cases V with
      |p V=>exact V
    .obtain ⟨B,u,J,V,h7,h8⟩:=hcl x q;exact⟨C,u,rfl,(Z _).2 (.inr ⟨B,J,V⟩),h7,h8⟩
  .have e2:(y.1==kc)=false:=by simp[t]
   rw[e2,x9k];have E:=hr.heap.chunks y.1 y.2 n;have hfr:=hf2 y n;obtain⟨j,ch⟩:=y;cases ch with
   | obj e' ls=>
     obtain⟨i',vs',M,O,J,V⟩:=E;refine⟨i',vs',by rw[hβ j hyk t];exact M,O,by rw[x8b];exact J,fun m l' I=>?_⟩;rw[x9x]at I;cases hq:ls[m]?with
     |none=>rw[hq]at I;cases I
     | some lv=>
       rw[hq]at I;cases I;obtain⟨u,h7,h8⟩:=V m lv hq;exact⟨u,h7,h8.cl hi hβ (QO hfr m lv hq)⟩
   | own e' sz es=>
     show Chunk.holds σ β' w j (.own e' sz es);unfold Chunk.holds at E⊢;rw[hβ j hyk t];exact E
   | ext d=>
     show XC.holds d σ (β' j) w;rw[hβ j hyk t];exact E
 .have:((q5c k kc i.blk c s.H).map (·.1)).Sublist (s.H.map (·.1)):=by
   unfold q5c;rw[z4u];exact(List.filter_sublist (l:=s.H)).map _
  exact this.nodup hr.heap.nodup
 .obtain ⟨m,I,U,M,O,_⟩:=F j hj i' A x q;exact hr.heap.apart m I U M x O
 .obtain ⟨m,I,U,M,O,J⟩:=F j hj i1 n x hx1;obtain⟨m',hm',im',h3',h4',h5'⟩:=F j' hj' i2 b x hx2;have L:=hr.heap.inj m I m' hm' U im' M h3' x O h4';have hjk:=(D j hj).1;have hjk':=(D j' hj').1;rcases J with rfl|⟨rfl,rfl⟩<;>rcases h5' with rfl|⟨rfl,rfl⟩
  .exact L
  .exact absurd L hjk
  .exact absurd L.symm hjk'
  .rfl
 .obtain ⟨m,I,U,M,O,_⟩:=F j hj i' A x q;exact .inl ⟨m,I,U,M,O⟩
section
variable {P:Program}{T:Tab}{N:Nat}{o:Oper}{K:St->Prop}{s:St}
def V1(hT:TabOK P T)(k kc:Nat)(h:x3v k kc s fun s'=>opW P T N s' o K):OpK P N s o K:=by
 refine⟨fun σ β a w hr Q=>?_⟩;obtain⟨σ1,β1,z,r,q,m⟩:=E7 h hr;refine Oper.wp_mono (fun x w' u=>?_) (NW hT r q Q);obtain⟨σ',β',s',t,n,v⟩:=u;exact⟨σ',β',s',t,n,m.trans v⟩
def E0{sl:List (Nat×LV)}{H:Heap}(kc:Nat)(e:TypeId)(h:((sl.all fun x=>x.2.free kc)&&H.all fun x=> !(x.1==kc)&&x.2.free kc)=true)(V:2000<=kc):Le N ⟨sl,H⟩ ⟨sl,(kc,.ext (.cells e []))::H⟩:=fun σ β a w hr=>by
 simp only[x9g,z0p,z1b,z2t,ne_eq]at h;obtain⟨E,I⟩:=h;have u:∀j∈H.map (·.1),j≠kc:=fun j hj=>by
  obtain⟨x,B,rfl⟩:=x8c.1 hj;exact(I x B).1
 have q:∀j,j≠kc->(β.set kc none) j=β j:=fun j hj=>by simp[Lab.set,hj]
 have m:(β.set kc none) kc=none:=by simp[Lab.set]
 have A:∀i,(getS sl i).free kc=true:=fun i=>by
  have key:∀sl:List (Nat×LV),(∀x∈sl,x.2.free kc=true)->(getS sl i).free kc=true:=fun sl=>by
   induction sl with
   |nil=>exact fun _=>rfl
   | cons x r O=>
     intro B;obtain⟨j,v⟩:=x;simp only[getS];cases j==i with
     |true=>exact B _ x8l
     |false=>exact O fun y M=>B y (x8r _ M)
  exact key _ E
 refine⟨σ,β.set kc none,⟨hr.size,hr.defers,fun i=>(hr.G i).set none (A i),⟨hr.heap.mem,fun j c hj=>?_,?_,fun j hj i t b C=>?_,fun j hj D d i i' t z b C F=>?_⟩⟩,Mem.le_refl σ,Frm.refl _ _,fun _ J E=>absurd J E,fun b ⟨j,hj,i,t,C⟩=>?_,fun j Q U=>q j (by omega)⟩
 .rcases x8s.1 hj with n|hj
  .cases n;exact⟨z4s,fun x B=>by cases B⟩
  .exact (hr.heap.chunks j c hj).set none (u j (x8c.2 ⟨_,hj,rfl⟩)) (I _ hj).2
 .exact z0n.2 ⟨fun L=>u kc L rfl,hr.heap.nodup⟩
 .rcases x8s.1 hj with n|hj
  .have n:j=kc:=n;rw[n,m]at t;cases t
  .rw [q j (u j hj)]at t;exact hr.heap.apart j hj i t b C
 .rcases x8s.1 hj with n|hj
  .have n:j=kc:=n;rw[n,m]at t;cases t
  .rcases x8s.1 d with n|d
   .have n:D=kc:=n;rw[n,m]at z;cases z
   .rw [q j (u j hj)]at t;rw[q D (u D d)]at z;exact hr.heap.inj j hj D d i i' t z b C F
 .rcases x8s.1 hj with n|hj
  .have n:j=kc:=n;rw[n,m]at t;cases t
  .rw [q j (u j hj)]at t;exact .inl ⟨j,hj,i,t,C⟩
end
section
variable {P:Program}{T:Tab}{N:Nat}{o:Oper}{s:St}{hr:Bool}
def GH{K:LV->Prop}{x:Operand}(m:o.op=.nilCheck x){b:Nat}(t:QR s.sl x=.p (cpA b))(n:K (.p (cpA b))):ValO P hr s o K:=by
 refine⟨fun σ β a w q _=>?_⟩;have h:=QW q x;rw[t]at h;refine⟨_,.pointer (some ⟨b,0,none⟩),n,.p (.raw _),fun w' _ _=>?_⟩;generalize r:a.eval x=v at h;cases h with
 | p h=>cases h with
   |raw=>simp[execOp,m,r]
def RS(hT:TabOK P T){K:LV->Prop}{t:TypeId}{x:Operand}(r:o.op=.load t x){i:TyI}(G:T.get t=some i)(m:LN i.desc=false){b:Nat}(O:QR s.sl x=.p (cpA b)){kc:Nat}{l:List (Nat×AV)}(z:getH s.H kc=some (.ext (.cells e l))){c:AV}(I:(b,c)∈l)(F:K (.p c)):ValO P true s o K:=by
 refine⟨fun σ β a w L hH=>?_⟩;have h:=QW L x;rw[O]at h;have n:XC.holds (.cells e l) σ (β kc) w:=hH.chunks kc _ (QF z);obtain⟨Q,u,d,A,B,C⟩:=n.2 _ I;refine⟨_,u,F,.p C,fun w' _ J=>?_⟩;have q:=(hH.apart kc (x8c.2 ⟨_,QF z,rfl⟩) Q d b A).2;have D:w'.heap[b]?=some (.cells #[u] e (0,0)):=(J rfl b q).trans B;have E:=(WS (P:=P) hT G D (off:=0)).2 m u (by simp);generalize M:a.eval x=v at h;cases h with
 | p h=>cases h with
   |raw=>simp[execOp,r,M,E]
def I2{σ:Mem}{β:Lab}{H:Heap}{w:World}(h:HRel σ β H w){q:Nat}{i:BInfo}(C:k∈H.map (·.1))(A:β k=some i)(r:i.has q){vs:Array Value}{H':Heap}(hH:H'.map (·.1)=H.map (·.1))(x:∀j c,(j,c)∈H'->j≠k->(j,c)∈H)(v:∀c,(k,c)∈H'->c.holds σ β (w.setRow q vs) k):
  HRel σ β H' (w.setRow q vs)/\Later σ β H w σ β H' (w.setRow q vs):=by
 have z:=h.apart k C i A q r;have u:∀b,b≠q->(w.setRow q vs).heap[b]?=w.heap[b]?:=fun b m=>setRow_other w q b vs m;refine⟨⟨fun b c m=>?_,fun j c hj=>?_,by rw[hH];exact h.nodup,fun j hj i' n b m=>?_,fun j hj M B=>h.inj j (hH▸hj) M (hH▸B)⟩,Mem.le_refl σ,⟨rfl,rfl,rfl,x9h _,by simp,fun b _ L=>u b fun e=>L ⟨k,C,i,A,e.symm▸r⟩⟩,fun b G I=>absurd G I,fun b m=>?_,fun _ _ _=>rfl⟩
 .have D:b≠q:=fun e=>by rw[e,z.1]at m;cases m
  obtain⟨e,F,J⟩:=h.mem b c m;exact⟨e,F,(u b D).trans J⟩
 .by_cases t:j=k
  .subst t;exact v c hj
  .have E:=x j c hj t;refine(h.chunks j c E).mono (Mem.le_refl σ) fun i' n b m=>u _ fun e=>t ?_;exact h.inj j (x8c.2 ⟨_,E,rfl⟩) k C i' i n A b m (e.symm▸r)
 .have:=h.apart j (hH▸hj) i' n b m;exact⟨this.1,by simpa using this.2⟩
 .obtain ⟨j,hj,i',n,d⟩:=m;exact .inl ⟨j,hH▸hj,i',n,d⟩
def setCell(b:Nat)(c:AV)(l:List (Nat×AV)):List (Nat×AV):=l.map fun x=>if x.1=b then(b,c)else x
end
def A1{s:St}{q:Nat}{c u:Chunk}(h:PS s k q c u K):∃v,K v/\PS s k q c u fun w=>w=v:=by
 unfold PS at h⊢;obtain⟨sl,z,_⟩:=YN (by rfl) h;have key:∀{f:LV->LV}{l:List (Nat×LV)}{K:List (Nat×LV)->Prop},Kl f l K↔K (l.map fun x=>(x.1,f x.2)):=fun {f} l=>by
  induction l with
  |nil=>intro K;rfl
  |cons x r t=>intro K;simp only[Kl,XH,t,x9c]
 have n:∀{f:LV->LV}{c:Chunk}{H:Heap},∃H',∀K:Heap->Prop,Yh k q f c H K↔K H':=fun {f c} H=>by
  induction H with
  |nil=>exact⟨[],fun K=>Iff.rfl⟩
  | cons x r t=>
    obtain⟨H',m⟩:=t;obtain⟨j,d⟩:=x;simp only[Yh,MV];cases j==q with
    |true=>exact⟨H',fun K=>by simp only[x9z];exact m _⟩
    | false=>
      cases j==k with
      |true=>exact⟨(j,c)::H',fun K=>by simp only[x9z,x9k];exact m _⟩
      |false=>exact⟨(j,d.mapL f)::H',fun K=>by simp only[x9k];exact m _⟩
 rw[key]at h;simp only[key];obtain⟨H',m⟩:=n (f:=LV.xkill k) (c:=c) (H:=s.H);rw[m]at h;exact⟨_,h,(m _).2 rfl⟩
theorem OpK.focus{T:Tab}(hT:TabOK P T){s:St}{o:Oper}(t k a b:Nat){e c:Nat}{q:List (List AV)}{m:List Nat}{row:List AV}(Y:WZ b s=true)(M:getH s.H k=some (.ext (.mat e c sz q m)))(z:q[a]?=some row)(B:a∉m)(x:VB k=false)(V:getS s.sl t=.ext k (.row a row.length))(h:PS s k b (.ext (.mat e c sz q (a::m))) (.own c sz row) fun v=>opW P T N ⟨(t,.hd b 0 row.length)::v.sl,v.H⟩ o K):OpK P N s o K:=by
 obtain⟨v,h,L⟩:=A1 h;refine⟨fun σ β I w hr Q=>?_⟩;obtain⟨β',r,U,F,u⟩:=Sd hr Y M z B x L;have C:Rel N σ β' ⟨(t,.hd b 0 row.length)::v.sl,v.H⟩ I w:=⟨r.size,r.defers,fun i=>by
  show RepL σ β' (getS ((t,.hd b 0 row.length)::v.sl) i) _;simp only[getS];cases O:t==i with
  | true=>
    have:t=i:=by simpa using O
    subst this;have E:=hr.G t;rw[V]at E;exact u _ E
  |false=>exact r.G i,r.heap⟩
 exact Oper.wp_mono (fun a' w' ⟨σ',β'',Z,J,D,A⟩=>⟨σ',β'',Z,J,D,U.trans A⟩) (NW hT h C Q)
def Ob{α:Type}{l m:List α}{j:Nat}(h:l.take j=m.take j)(q:j<l.length)(r:j<m.length)(n:l[j]=m[j]):l.take (j+1)=m.take (j+1):=by
 rw[x9v q,x9v r,h,n]
def q0y{α:Type}{l m:List α}{j:Nat}(h:l.take j=m.take j)(n:l.length<=j)(q:m.length<=j):l=m:=by
 rwa[x9u n,x9u q]at h
def ZR(l m:List Str):aP 41 [eStrs l,eStrs m] (.bool (decide (l=m))):=by
 refine sC BP Tryz.func41 ?_;conv=>whnf
 have r:(l.map AV.str).length=l.length:=x8b _;have t:(m.map AV.str).length=m.length:=x8b _;repeat' ((first|(refine iM fun _=>?_)|(apply bE<;>intro _<;>try omega))<;>conv=>whnf)
 all_goals first
  |exact RetK.ff (z0s fun h=>by subst h;omega)
  |skip
 have q:l.length=m.length:=by omega
 refine lI (fun j:Nat=>⟨[(0,.p (eStrs l)),(1,.p (eStrs m)),(12,.p (.int .i64 (l.map AV.str).length)),(13,.j j)],[]⟩) (fun j=>j<=l.length/\l.take j=m.take j) (fun j=>l.length-j) 0 ⟨x8i _,rfl⟩ ?_;rintro j ⟨u,n⟩;rcases x8o j l.length with hj|hj
 .conv=>whnf
  repeat' ((first|refine dA ?_|(refine gX ?_;intros)|((first|apply bD|apply bN)<;>intro _<;>try omega))<;>conv=>whnf)
  all_goals first
   |exact RetK.ff (z0s fun h=>by subst h;simp_all)
   |exact nX (j+1) ⟨by omega,Ob n hj (by omega) (by simp_all)⟩
 .conv=>whnf
  repeat' (apply bD<;>intro _<;>first|omega|conv=>whnf)
  exact RetK.tt (z0r (q0y n hj (by omega)))
def nxE(h:List (List Int))(t:Int×Int):List (List Int):=h.set t.1.toNat (h.getD t.1.toNat []++[t.2])
def Zs(n:Nat)(l:List (Int×Int)):List (List Int):=l.foldl nxE (List.replicate n [])
def IU(h:List (List Int))(t:Int×Int):(nxE h t).length=h.length:=z0h
theorem Mo:∀(l:List (Int×Int))(rows:List (List Int)),(l.foldl nxE rows).length=rows.length
 |[],_=>rfl
 |t::r,rows=>by rw[z1c,Mo r,IU]
def G8(n:Nat)(l:List (Int×Int)):(Zs n l).length=n:=by
 unfold Zs;rw[Mo,z0b]
theorem Mi:∀(l:List (Int×Int))(rows:List (List Int))(a:Nat),((l.foldl nxE rows).getD a []).length<=(rows.getD a []).length+l.length
 |[],_,_=>x9h _
 | t::r,rows,a=>by
   rw[z1c];have n:=Mi r (nxE rows t) a;have q:((nxE rows t).getD a []).length<=(rows.getD a []).length+1:=by
    unfold nxE;simp only[x8n,z1o];by_cases h:t.1.toNat=a
    .subst h;by_cases m:t.1.toNat<rows.length
     .simp [m]
     .simp [m]
    .simp [h]
   rw[x9f];omega
def Lt(n:Nat)(l:List (Int×Int))(a:Nat):((Zs n l).getD a []).length<=l.length:=by
 have:=Mi l (List.replicate n []) a;have e:((List.replicate n ([]:List Int)).getD a []).length=0:=by
  rw[x8n,z0q];split<;>rfl
 unfold Zs;omega
def It{h:Nat}{sl:List (Nat×LV)}(n:Nat)(m:(sl.all fun x=>x.2.xfree 0)=true):
  Le h ⟨sl,[(0,.own 54 1 (List.replicate n .nils))]⟩ ⟨sl,[(0,.ext (.mat 54 3 1 (List.replicate n []) []))]⟩:=by
 have q:=B8 (N:=h) (sl:=sl) (H:=[(0,.own 54 1 (List.replicate n .nils))])
  (H':=[(0,.ext (.mat 54 3 1 (List.replicate (List.replicate n AV.nils).length []) []))])
  0 3 1 (e:=54) (es:=List.replicate n .nils) rfl (fun x r=>z2g r) rfl m rfl rfl (by simp[HA])
 simpa using q
theorem Wr.u64{n:Int}{K:Int->Prop}(q:0<=n)(r:n<=18446744073709551615)(m:K n):Wr .u64 n K:=
 .fit ⟨by simp[IntKind.min,IntKind.signed];omega,by simp[IntKind.max,IntKind.signed,IntKind.bits];omega⟩ m
def E5{hr:Bool}{s:St}{o:Oper}{K:LV->Prop}{t u:TypeId}{x y:Operand}(r:o.op=.binOp .shr t x y u)(ha:0<=a)(E:QR s.sl x=.p (.int .u64 a))(F:QR s.sl y=.p (.int .u64 1)){m:Int}(C:m=a/2)(A:K (.p (.int .u64 m))):ValO P hr s o K:=by
 subst C;refine⟨fun σ β G w z _=>⟨_,.int .u64 (a/2),A,.p (.int _ _),fun w' _ _=>?_⟩⟩;have h:=QW z x;have q:=QW z y;rw[E]at h;rw[F]at q;cases h with
 | p h=>
   cases q with
   | p q=>
     have key:∀(n:Int)(v:Value),Rep σ (.int .u64 n) v->v=.int .u64 n:=fun n v D=>by
      cases D;rfl
     have b:=key _ _ h;have c:=key _ _ q;have d:a.fdiv (2^1)=a/2:=Int.fdiv_eq_ediv_of_nonneg _ (by decide);have B:(eqGuard .shr t x y (.int .u64 a) (.int .u64 1)).run P w'=.ok () w':=by unfold eqGuard;rfl
     simp only[execOp,r,b,c,Sem.run_bind,B,Result.andThen_ok,binOp,Op.shift];rw[if_neg (by decide)];simp only[show min (1:Int).toNat IntKind.u64.bits=1 by decide,d];rfl
end Go.Ab
