/- aug: what a procedure's traps are, by its places. -/
import Derived.Test.YtonbdgcjnecapaaGreatRchR14
import Derived.Test.YtonbdgcjnecapaaGreatRchR17
set_option linter.all false
set_option maxRecDepth 100000
set_option maxHeartbeats 16000000
namespace Go.Ab
open Go.Proofs.Tryz
open Go.Proofs
variable {a i:Int}
section
variable {p:Pg}{j:Nat}{f:Pr}
def Vz(h:0<=i/\i<(cntL f.body+2:Nat)):plP p j f (QT p j (cntL f.body+2:Nat) i)/\ixI p j f (QT p j (cntL f.body+2:Nat) i)=i:=by
 unfold QT ixI UV plP loI hiI;constructor
 ·(repeat' split)<;>omega
 ·(repeat' split)<;>omega
def BP{x:Int}(h:plP p j f x):QT p j (cntL f.body+2:Nat) (ixI p j f x)=x:=by
 have l:=Vz (p:=p) (j:=j) (f:=f) (WS h);exact PH l.1 h l.2
def Du:prsW (newWay p j f) f=(newWay p j f).real.map (ixP p j f (cntL f.body+2:Nat)):=rfl
def q3l(h:chkB p=true)(o:p.A[j]?=some f):∀t∈prsW (newWay p j f) f,(0<=t.1/\t.1<(cntL f.body+2:Nat))/\0<=t.2/\t.2<(cntL f.body+2:Nat):=fun t l=>by
 rw[Du]at l;obtain⟨s,q,rfl⟩:=x7d.1 l;obtain⟨m,n⟩:=VX h o s q;exact⟨WS m,WS n⟩
def wE(p:Pg)(j:Nat)(f:Pr):Int->Int->Prop:=rowE (QL (cntL f.body+2) (prsW (newWay p j f) f)).1
def wR(p:Pg)(j:Nat)(f:Pr):Int->Int->Prop:=stR (newWay p j f).real
def q8p(h:chkB p=true)(q:p.A[j]?=some f){k:Int}:wE p j f i k ↔ ∃a b,wR p j f a b/\ixI p j f a=i/\ixI p j f b=k:=by
 unfold wE wR;rw[Xh];constructor
 .rintro ⟨l,_,_⟩;rw[Du]at l;obtain⟨s,m,n⟩:=x7d.1 l;exact⟨s.src,s.dst,⟨s,m,rfl,rfl⟩,x9l Prod.fst n,x9l Prod.snd n⟩
 .rintro ⟨a,b,⟨s,m,rfl,rfl⟩,rfl,rfl⟩;obtain⟨l,o⟩:=VX h q s m;exact⟨x7d.2 ⟨s,m,rfl⟩,DW (WS l),DW (WS o)⟩
def x1h(h:chkB p=true)(l:p.A[j]?=some f){b:Int}(m:wR p j f a b):plP p j f a/\plP p j f b:=by
 obtain⟨s,n,rfl,rfl⟩:=m;exact VX h l s n
def q3r(h:chkB p=true)(o:p.A[j]?=some f){b:Int}(ha:plP p j f a)(w:plP p j f b):Rch (wE p j f) (ixI p j f a) (ixI p j f b)↔Rch (wR p j f) a b:=by
 constructor
 .intro q;obtain⟨c,n,m,l⟩:=q.closed (S:=fun k=>∃c,plP p j f c/\ixI p j f c=k/\Rch (wR p j f) a c) (by
   rintro i k ⟨c,n,m,l⟩ t;obtain⟨x,y,r,u,v⟩:=(q8p h o).1 t;have s:=x1h h o r;have:x=c:=PH s.1 n (by rw[u,m]);subst this;exact⟨y,s.2,v,.tail l r⟩) ⟨a,ha,rfl,.refl⟩
  rw[<-PH n w m];exact l
 .intro q;exact(q.closed (S:=fun c=>plP p j f c/\Rch (wE p j f) (ixI p j f a) (ixI p j f c)) (fun x y ⟨n,m⟩ l=>⟨(x1h h o l).2,.tail m ((q8p h o).2 ⟨x,y,l,rfl,rfl⟩)⟩) ⟨ha,.refl⟩).2
def x0e(h:chkB p=true)(m:p.A[j]?=some f){b:Int}(ha:plP p j f a)(l:plP p j f b):sccP (wE p j f) (ixI p j f a) (ixI p j f b)↔sccP (wR p j f) a b:=by
 unfold sccP;rw[q3r h m ha l,q3r h m l ha]
def DH(p:Pg)(j:Nat)(f:Pr)(i:Int):Int:=(VC (newWay p j f) f).getD i.toNat 0
def J0:VC (newWay p j f) f=Xe (cntL f.body+2) (QL (cntL f.body+2) (prsW (newWay p j f) f)).1:=rfl
def TZ(h:0<=i/\i<(cntL f.body+2:Nat)):MinP (wE p j f) i (DH p j f i):=by
 unfold DH;rw[J0];exact Xi (JD _ _).1 h
def q0t{k:Nat}(h:k<cntL f.body+2):0<=(VC (newWay p j f) f).getD k 0/\(VC (newWay p j f) f).getD k 0<(cntL f.body+2:Nat):=by
 rw[J0];exact TQ (JD _ _).1 h
def TX:(VC (newWay p j f) f).length=cntL f.body+2:=by rw[J0,DF]
theorem MinP.same{E:Int->Int->Prop}{x y v:Int}(h:MinP E x v)(l:sccP E x y):MinP E y v:=⟨l.symm.trans h.scc,fun z m=>h.le z (l.trans m)⟩
def q0r{k:Int}(n:0<=i/\i<(cntL f.body+2:Nat))(o:0<=k/\k<(cntL f.body+2:Nat)):DH p j f i=DH p j f k↔sccP (wE p j f) i k:=by
 have l:=TZ (p:=p) (j:=j) n;have h:=TZ (p:=p) (j:=j) o;constructor
 .intro m;rw[<-m]at h;exact l.scc.trans h.scc.symm
 .intro q;exact(l.same q).uniq h
def NE(h:chkB p=true)(m:p.A[j]?=some f){b:Int}(ha:plP p j f a)(l:plP p j f b):DH p j f (ixI p j f a)=DH p j f (ixI p j f b)↔sccP (wR p j f) a b:=by
 rw[q0r (WS ha) (WS l),x0e h m ha l]
structure TrapP(p:Pg)(j:Nat)(f:Pr)(l:List Int)(r:Int):Prop where
 pl:plP p j f r
 mem:∀b,b∈l↔plP p j f b/\sccP (wR p j f) r b
 cl:∀b c,sccP (wR p j f) r b->wR p j f b c->sccP (wR p j f) r c
 n0:¬sccP (wR p j f) r 0
 nx:¬sccP (wR p j f) r (-1)
def Ie{l:Int->Int}{part:List Int}{i q:Nat}{b:Int}:b∈DT l part i q ↔ ∃k:Nat,k<q/\part.getD k 0=i/\l k=b:=by
 unfold DT;constructor
 .intro h;obtain⟨k,o,rfl⟩:=x7d.1 h;obtain⟨m,n⟩:=x8d.1 o;exact⟨k,x8n.1 m,z1e.1 n,rfl⟩
 .rintro ⟨k,m,n,rfl⟩;exact x7d.2 ⟨k,x8d.2 ⟨x8n.2 m,z1e.2 n⟩,rfl⟩
def ix0:ixI p j f 0=0:=by unfold ixI UV;rw[if_pos rfl]
def ix1:ixI p j f (-1)=((cntL f.body+2:Nat):Int)-1:=by unfold ixI UV;rw[if_neg (by omega),if_pos rfl]
def pl0:plP p j f 0:=.inl rfl
def pl1:plP p j f (-1):=.inr (.inl rfl)
def Vv(k:Nat):(VC (newWay p j f) f).getD k 0=DH p j f k:=by
 unfold DH;rw[z0h]
def q6n(h:chkB p=true)(l:p.A[j]?=some f){i:Nat}(z:i<cntL f.body+2):(Dz (cntL f.body+2) (VC (newWay p j f) f) (prsW (newWay p j f) f)).getD i false=true ↔
  DH p j f (ixI p j f 0)=i\/DH p j f (ixI p j f (-1))=i\/∃a b,wR p j f a b/\¬sccP (wR p j f) a b/\DH p j f (ixI p j f a)=i:=by
 rw[q0b (by omega) (fun k c=>q0t c) z fun t n=>(q3l h l t n).1,ix0,ix1];have x:(VC (newWay p j f) f).getD (cntL f.body+2-1) 0=DH p j f (((cntL f.body+2:Nat):Int)-1):=by
  unfold DH;congr 1;omega
 have w:(VC (newWay p j f) f).getD 0 0=DH p j f 0:=rfl;rw[w,x];refine or_congr Iff.rfl (or_congr Iff.rfl ?_);constructor
 .rintro ⟨t,n,o,q⟩;rw[Du]at n;obtain⟨s,m,rfl⟩:=x7d.1 n;obtain⟨r,u⟩:=VX h l s m;exact⟨s.src,s.dst,⟨s,m,rfl,rfl⟩,fun v=>o ((NE h l r u).2 v),q⟩
 .rintro ⟨a,b,⟨s,m,rfl,rfl⟩,o,q⟩;obtain⟨r,u⟩:=VX h l s m;exact⟨ixP p j f (cntL f.body+2:Nat) s,by rw[Du];exact x7d.2 ⟨s,m,rfl⟩,fun y=>o ((NE h l r u).1 y),q⟩
def Ms{l:List Int}:l∈trapsW (newWay p j f) f ↔ ∃i:Nat,i<cntL f.body+2/\DH p j f i=i/\(Dz (cntL f.body+2) (VC (newWay p j f) f) (prsW (newWay p j f) f)).getD i false=false/\l=DT (QT p j (cntL f.body+2:Nat)) (VC (newWay p j f) f) i (cntL f.body+2):=by
 unfold trapsW Z9;rw[TX];constructor
 .intro q;obtain⟨i,o,rfl⟩:=x7d.1 q;obtain⟨m,h⟩:=x8d.1 o;unfold Jg at h;rw[x7i,z1e,x9r,Vv]at h;exact⟨i,x8n.1 m,h.1,h.2,rfl⟩
 .rintro ⟨i,m,h,n,rfl⟩;refine x7d.2 ⟨i,x8d.2 ⟨x8n.2 m,?_⟩,rfl⟩;unfold Jg;rw[x7i,z1e,x9r,Vv];exact⟨h,n⟩
def q2z(h:chkB p=true)(r:p.A[j]?=some f){i:Nat}(u:i<cntL f.body+2)(s:DH p j f i=i)(b:Int):
  b∈DT (QT p j (cntL f.body+2:Nat)) (VC (newWay p j f) f) i (cntL f.body+2)↔plP p j f b/\sccP (wR p j f) (QT p j (cntL f.body+2:Nat) i) b:=by
 obtain⟨o,q⟩:=Vz (p:=p) (j:=j) (f:=f) (i:=i) (by omega);rw[Ie];constructor
 .rintro ⟨k,l,m,rfl⟩;obtain⟨n,t⟩:=Vz (p:=p) (j:=j) (f:=f) (i:=k) (by omega);refine⟨n,(NE h r o n).1 ?_⟩;rw[q,t,s,<-Vv,m]
 .rintro ⟨l,m⟩;have n:=WS l;refine⟨(ixI p j f b).toNat,by omega,?_,?_⟩
  .rw [Vv,show(((ixI p j f b).toNat:Nat):Int)=ixI p j f b by omega,<-(NE h r o l).2 m,q,s]
  .rw [show(((ixI p j f b).toNat:Nat):Int)=ixI p j f b by omega,BP l]
def Ii(h:chkB p=true)(o:p.A[j]?=some f){l:List Int}(d:l∈trapsW (newWay p j f) f):∃r,TrapP p j f l r:=by
 obtain⟨i,w,x,e,rfl⟩:=Ms.1 d;obtain⟨t,y⟩:=Vz (p:=p) (j:=j) (f:=f) (i:=i) (by omega);have m:¬_:=fun g=>by
  have:=(q6n h o w).2 g;rw[e]at this;cases this
 have n:DH p j f (ixI p j f (QT p j (cntL f.body+2:Nat) i))=i:=by rw[y,x]
 refine⟨_,t,q2z h o w x,fun b c v q=>?_,fun u=>m (.inl ?_),fun u=>m (.inr (.inl ?_))⟩
 .have z:=x1h h o q;by_cases s:sccP (wR p j f) b c
  .exact v.trans s
  .refine absurd (.inr (.inr ⟨b,c,q,s,?_⟩)) m;rw[<-(NE h o t z.1).2 v,n]
 .rw [<-(NE h o t pl0).2 u,n]
 .rw [<-(NE h o t pl1).2 u,n]
end
def TB{p:Pg}{j:Nat}{f:Pr}(o:p.A[j]?=some f)(n:cntP p.A<=200):(newWay p j f).real.length<=100000:=by
 obtain⟨_,_,_,l,h⟩:=QU p;obtain⟨_,_,q,_⟩:=h j f o;have r:=Nc (QF p j f);have m:=W4 p j f;show(WC (QF p j f)).length<=100000;omega
def Tr{p:Pg}(h:chkB p=true){j:Nat}{f:Pr}(o:p.A[j]?=some f):∀it∈itsOf p j f,∀s∈fOf it,okSt s:=fun it n s l=>by
 obtain⟨v,_⟩:=QY h;obtain⟨_,_,t⟩:=XQ h;obtain⟨_,_,_,q,m⟩:=QU p;obtain⟨_,_,u,_⟩:=m j f o;have w:=ZS v o (KM n);have r:=(Xb n).1;unfold fOf at l;split at l
 .rw [x7y.1 l];unfold okI at r;unfold okSt;constructor
  .show it.s.id≠_;omega
  .show it.next≠_;omega
 .cases l
def S5{p:Pg}(h:chkB p=true){j:Nat}{f:Pr}(t:p.A[j]?=some f){l:List Int}(s:l∈trapsW (newWay p j f) f):l.length<=cntL f.body+2/\∀id∈l,(QP p.A j:Int)+1<=id/\id<=(QP p.A j+cntL f.body:Nat):=by
 constructor
 .obtain ⟨i,_,_,_,rfl⟩:=Ms.1 s;exact Mt _ _ _ _
 .intro id n;obtain⟨r,o⟩:=Ii h t s;obtain⟨m,q⟩:=(o.mem id).1 n;rcases m with rfl|rfl|m
  .exact absurd q o.n0
  .exact absurd q o.nx
  .exact m
def q8q{p:Pg}(h:chkB p=true){j:Nat}{f:Pr}(m:p.A[j]?=some f):WayT (newWay p j f) f (cntL f.body+2):=by
 obtain⟨_,_,n⟩:=XQ h;obtain⟨_,_,_,r,q⟩:=QU p;obtain⟨_,_,v,_⟩:=q j f m;refine⟨rfl,m,by show cntP p.A<=1000;omega,by omega,by omega,x8m (TB m n) (by decide),q3l h m,?_,fun l u=>?_,fun s w=>(NK h m).2.2 s (((YY h m).2 s).1 w),Tr h m⟩
 .have:=Mr (QT p j (cntL f.body+2:Nat)) (VC (newWay p j f) f) (Dz (cntL f.body+2) (VC (newWay p j f) f) (prsW (newWay p j f) f)) (cntL f.body+2);have e:trapsW (newWay p j f) f=Z9 (QT p j (cntL f.body+2:Nat)) (VC (newWay p j f) f) (Dz (cntL f.body+2) (VC (newWay p j f) f) (prsW (newWay p j f) f)) (cntL f.body+2):=by
   unfold trapsW;rw[TX];rfl
  rw[e];omega
 .obtain ⟨x,t⟩:=S5 h m u;refine⟨by omega,fun id o=>?_⟩;have:=t id o;show 1<=id/\id<=(sheetOf p).l.length;omega
instance (a b:Step):Decidable (Xn a b):=inferInstanceAs (Decidable (_\/_))
instance:DecidableEq Step:=fun a b=>decidable_of_iff (a.src=b.src/\a.dst=b.dst/\a.kind=b.kind) ⟨fun h=>GQ h.1 h.2.1 h.2.2,fun h=>by rw[h];exact⟨rfl,rfl,rfl⟩⟩
def q6o{a b:Step}(ha:okSt a)(l:okSt b)(h:FX b a=false):(a.src=b.src/\a.dst=b.dst/\a.kind<=b.kind)\/Xn a b:=by
 rw[z2a,ne_eq,GN]at h;unfold Xn;by_cases m:QR a.src=QR b.src
 .by_cases n:QR a.dst=QR b.dst
  .exact .inl ⟨YU ha.1 l.1 m,YU ha.2 l.2 n,by omega⟩
  .exact .inr (by omega)
 .exact .inr (by omega)
theorem Zl:∀(l:List Step)(a:Step),okSt a->(∀s∈l,okSt s)->(a::l).Pairwise (fun a b=>FX b a=false)->
  (∀s∈XU a l,Xn a s)/\(XU a l).Pairwise Xn/\(∀s∈XU a l,s∈l)/\∀s∈l,(s.src=a.src/\s.dst=a.dst/\a.kind<=s.kind)\/∃s'∈XU a l,s'.src=s.src/\s'.dst=s.dst/\s'.kind<=s.kind
 |[],a,_,_,_=>by simp[XU]
 | b::r,a,ha,hl,h=>by
   have x:=hl b x7v;have A:∀s∈r,okSt s:=fun s o=>hl s (x7j _ o);rw[z0a]at h;obtain⟨d,e⟩:=h;obtain⟨v,y,z,c⟩:=Zl r b x A e;have t:=q6o ha x (d b x7v);rw[XU];cases o:ZK b a with
   | true=>
     unfold ZK at o;simp only[x7i,x8l]at o;have g:a.kind<=b.kind:=by
      rcases t with n|n
      .exact n.2.2
      .unfold Xn at n;rw[o.1,o.2]at n;omega
     rw[x7c];refine⟨fun s m=>?_,y,fun s m=>x7j _ (z s m),fun s m=>?_⟩
     .have:=v s m;unfold Xn at this⊢
      rwa[<-o.1,<-o.2]
     .rcases x7f.1 m with rfl|m
      .exact .inl ⟨o.1,o.2,g⟩
      .rcases c s m with⟨n,q,w⟩|n
       .exact .inl ⟨by rw[n,o.1],by rw[q,o.2],by omega⟩
       .exact .inr n
   | false=>
     have u:Xn a b:=by
      rcases t with n|n
      .unfold ZK at o;simp[n.1,n.2.1]at o
      .exact n
     rw[x7o];refine⟨fun s m=>?_,z0a.2 ⟨v,y⟩,fun s m=>?_,fun s m=>?_⟩
     .rcases x7f.1 m with rfl|m
      .exact u
      .exact Xm u (v s m)
     .rcases x7f.1 m with rfl|m
      .exact x7v
      .exact x7j _ (z s m)
     .rcases x7f.1 m with rfl|m
      .exact .inr ⟨s,x7v,rfl,rfl,z2l _⟩
      .rcases c s m with⟨n,q,w⟩|⟨s',n,q⟩
       .exact .inr ⟨b,x7v,n.symm,q.symm,w⟩
       .exact .inr ⟨s',x7j _ n,q⟩
def DK{l:List Step}(v:∀s∈l,okSt s):(WC l).Pairwise Xn/\(∀s∈WC l,s∈l)/\∀s∈l,∃s'∈WC l,s'.src=s.src/\s'.dst=s.dst/\s'.kind<=s.kind:=by
 have o:∀s,s∈JZ l↔s∈l:=fun s=>(Jj l).mem_iff;have q:=Qv l;unfold WC;cases w:JZ l with
 | nil=>
   rw[w]at o;refine⟨by simp[NH],by simp[NH],fun s q=>?_⟩;have:=(o s).2 q;cases this
 | cons a r=>
   rw[w]at o q;have n:∀s∈a::r,okSt s:=fun s h=>v s ((o s).1 h);obtain⟨x,y,z,b⟩:=Zl r a (n a x7v) (fun s h=>n s (x7j _ h)) q;rw[NH];refine⟨z0a.2 ⟨x,y⟩,fun s m=>?_,fun s m=>?_⟩
   .rcases x7f.1 m with rfl|m
    .exact (o s).1 x7v
    .exact (o s).1 (x7j _ (z s m))
   .rcases x7f.1 ((o s).2 m)with rfl|m
    .exact ⟨s,x7v,rfl,rfl,z2l _⟩
    .rcases b s m with⟨t,u,c⟩|⟨s',t,u⟩
     .exact ⟨a,x7v,t.symm,u.symm,c⟩
     .exact ⟨s',x7j _ t,u⟩
def Eu{l:List Step}(h:l.Pairwise Xn){a b:Step}(ha:a∈l)(u:b∈l)(s:a.src=b.src)(t:a.dst=b.dst):a=b:=by
 have w:∀{x y:Step},x.src=y.src->x.dst=y.dst->¬Xn x y:=fun {x y} q e2 o=>by
  unfold Xn at o;rw[q,e2]at o;omega
 induction h with
 |nil=>cases ha
 | @cons c r v d z=>
   rcases x7f.1 ha with q|n
   .rcases x7f.1 u with e2|m
    .rw [q,e2]
    .exact absurd (v b m) (by rw[<-q];exact w s t)
   .rcases x7f.1 u with e2|m
    .exact absurd (v a n) (by rw[<-e2];exact w s.symm t.symm)
    .exact z n m
def Tt{l m:List Step}(u:∀s∈l,okSt s)(x:m.Pairwise Xn)(y:∀s∈m,s∈l)(z:∀s∈l,∃s'∈m,s'.src=s.src/\s'.dst=s.dst/\s'.kind<=s.kind):WC l=m:=by
 obtain⟨g1,v,w⟩:=DK u;refine Hv g1 x fun s=>⟨fun o=>?_,fun o=>?_⟩
 .obtain ⟨a,ha,h,n,c⟩:=z s (v s o);obtain⟨b,t,q,r,d⟩:=w a (y a ha);have:=Eu g1 t o (q.trans h) (r.trans n);subst this;have:a=b:=GQ h n (by omega);rw[<-this];exact ha
 .obtain ⟨a,ha,h,n,c⟩:=w s (y s o);obtain⟨b,t,q,r,d⟩:=z a (v a ha);have:=Eu x t o (q.trans h) (r.trans n);subst this;have:a=b:=GQ h n (by omega);rw[<-this];exact ha
def x0s:(newWay someP 1 f1).real=[⟨0,5,1⟩,⟨5,6,1⟩,⟨6,7,1⟩,⟨6,8,1⟩,⟨7,-1,1⟩,⟨8,-1,1⟩]:=x0k
def x0t:(newWay someP 0 f0).real=[⟨0,1,1⟩,⟨1,2,1⟩,⟨2,3,1⟩,⟨3,4,1⟩,⟨4,-1,1⟩]:=x0j
def x1t:prsW (newWay someP 1 f1) f1=[(0,1),(1,2),(2,3),(2,4),(3,5),(4,5)]:=by
 unfold prsW;rw[x0s]
 kernel_rfl
def x1r:prsW (newWay someP 0 f0) f0=[(0,1),(1,2),(2,3),(3,4),(4,5)]:=by
 unfold prsW;rw[x0t]
 kernel_rfl
def x1z:trapsW (newWay someP 1 f1) f1=[]:=by
 unfold trapsW VC;rw[x1t]
 kernel_rfl
def x1x:trapsW (newWay someP 0 f0) f0=[]:=by
 unfold trapsW VC;rw[x1r]
 kernel_rfl
def x2w:LK (newWay someP 1 f1) f1=[⟨0,5,1⟩,⟨5,6,1⟩,⟨6,7,1⟩,⟨6,8,1⟩,⟨7,-1,1⟩,⟨8,-1,1⟩]:=by
 unfold LK YG;rw[x1z,x0s];exact Tt (by unfold okSt;decide) (by decide) (by decide) (by decide)
def q0h{p:Pg}(h:chkB p=true){j:Nat}{f:Pr}(l:p.A[j]?=some f):¬wR p j f a 0:=fun⟨s,n,_,o⟩=>by
 have m:=((NK h l).2.1 s (((YY h l).2 s).1 n)).2;unfold okI at m;omega
def RQ{p:Pg}(h:chkB p=true){j:Nat}{f:Pr}(m:p.A[j]?=some f){t:S}(q:t∈flL f.body):IT p t.id=some t:=by
 have o:=ZS (QY h).1 m q;obtain⟨u,v,n,r⟩:=Vd h m o.1 o.2;obtain⟨it,s,rfl⟩:=q9o (p:=p) (j:=j) q;obtain⟨w,l,rfl⟩:=q9o (p:=p) (j:=j) v;rw[q3u (QY h).1 m l s r]at n;exact n
def Qg{p:Pg}(h:chkB p=true){j:Nat}{f:Pr}(q:p.A[j]?=some f){s:Step}:s∈YG (newWay p j f) f ↔ ∃l∈trapsW (newWay p j f) f,∃t∈flL f.body,t.id∈l/\t.kind=10/\s=⟨t.id,-1,3⟩:=by
 unfold YG;constructor
 .intro m;obtain⟨l,o,m⟩:=x8h.1 m;obtain⟨id,n,m⟩:=x8h.1 m;have w:=(S5 h q o).2 id n;obtain⟨t,u,x,v⟩:=Vd h q w.1 w.2;have e:(newWay p j f).p=p:=rfl;unfold vOf at m;rw[e,x]at m;simp only at m;split at m
  .rename_i r;exact⟨l,o,t,u,by rw[v];exact n,r,by rw[v];simpa using m⟩
  .cases m
 .rintro ⟨l,o,t,u,n,r,rfl⟩;refine x8h.2 ⟨l,o,x8h.2 ⟨t.id,n,?_⟩⟩;have e:(newWay p j f).p=p:=rfl;unfold vOf;rw[e,RQ h q u];simp[r]
def Fu{p:Pg}(h:chkB p=true){j:Nat}{f:Pr}(l:p.A[j]?=some f):∀s∈YG (newWay p j f) f++(newWay p j f).real,okSt s:=fun s m=>
 (x7b.1 m).elim ((q8q h l).virt_ok s) ((q8q h l).hok s)
def Ak{p:Pg}(h:chkB p=true){j:Nat}{f:Pr}(o:p.A[j]?=some f){s:Step}(q:s∈YG (newWay p j f) f++(newWay p j f).real):stR (LK (newWay p j f) f) s.src s.dst:=by
 obtain⟨s',l,m,n,_⟩:=(DK (Fu h o)).2.2 s q;exact⟨s',l,m,n⟩
def Fv{p:Pg}(h:chkB p=true){j:Nat}{f:Pr}(n:p.A[j]?=some f):(LK (newWay p j f) f).length<=200000:=by
 obtain⟨_,_,q⟩:=XQ h;obtain⟨_,_,_,v,r⟩:=QU p;obtain⟨_,_,b,_⟩:=r j f n;obtain⟨w,x,_⟩:=DK (Fu h n);have y:=Ye (l:=LK (newWay p j f) f) (m:=(newWay p j f).real++(V6 (QP p.A j) (cntL f.body)).map fun id=>⟨id,-1,3⟩) (q0z w) fun s c=>by
  rcases x7b.1 (x s c)with o|o
  .obtain ⟨l,B,t,d,z,g,rfl⟩:=(Qg h n).1 o;have u:=ZS (QY h).1 n d;exact x7b.2 (.inr (x7d.2 ⟨t.id,Tq u.1 u.2,rfl⟩))
  .exact x7b.2 (.inl o)
 rw[x7u,x7z]at y;have o:=TB n q;have e:(V6 (QP p.A j) (cntL f.body)).length=cntL f.body:=by unfold V6;simp
 omega
def q5k{p:Pg}(h:chkB p=true){j:Nat}{f:Pr}(m:p.A[j]?=some f){x:RI}(l:x∈Xw f):x.s∈flL f.body:=by
 rw[V5 (QY h).1 (x7t m)]at l;rw[<-show(flatU f).map RI.s=flL f.body from R4 1 0 false f.body];exact x7d.2 ⟨x,l,rfl⟩
def RI0:RI:=⟨.mk 0 0 [] [] [] (.mk 0 0 [] []) false [] [] [],0,0,false⟩
def Oc(id:Int)(f:Pr):Option (RI×Str):=((Xw f).find? fun x=>decide (x.s.id=id)).map fun x=>(x,f.name)
def SZ(p:Pg)(id:Int):Option (RI×Str):=p.A.findSome? (Oc id)
def Ff(p:Pg)(id:Int):RI×Str×Bool:=match SZ p id with
 |some (x,n)=>(x,n,true)
 |none=>(RI0,[],false)
theorem Wr.u64{n:Int}{K:Int->Prop}(m:0<=n)(o:n<=18446744073709551615)(l:K n):Wr .u64 n K:=
 .fit ⟨by simp[IntKind.min,IntKind.signed];omega,by simp[IntKind.max,IntKind.signed,IntKind.bits];omega⟩ l
def CN{P:Program}{g:Bool}{s:St}{o:Oper}{K:LV->Prop}{t u:TypeId}{x y:Operand}(q:o.op=.binOp .shr t x y u)(ha:0<=a)(B:QN s.sl x=.p (.int .u64 a))(C:QN s.sl y=.p (.int .u64 1)){m:Int}(e:m=a/2)(c:K (.p (.int .u64 m))):ValO P g s o K:=by
 subst e;refine⟨fun σ β D w r _=>⟨_,.int .u64 (a/2),c,.p (.int _ _),fun w' _ _=>?_⟩⟩;have h:=QQ r x;have l:=QQ r y;rw[B]at h;rw[C]at l;cases h with
 | p h=>
   cases l with
   | p l=>
     have key:∀(n:Int)(v:Value),Rep σ (.int .u64 n) v->v=.int .u64 n:=fun n v A=>by
      cases A;rfl
     have z:=key _ _ h;have e2:=key _ _ l;have b:a.fdiv (2^1)=a/2:=Int.fdiv_eq_ediv_of_nonneg _ (by decide);have d:(eqGuard .shr t x y (.int .u64 a) (.int .u64 1)).run P w'=.ok () w':=by unfold eqGuard;rfl
     simp only[execOp,q,z,e2,Sem.run_bind,d,Result.andThen_ok,binOp,Op.shift];rw[if_neg (by decide)];simp only[show min (1:Int).toNat IntKind.u64.bits=1 by decide,b];rfl
def WZ(l m:List Str):SpecP prog 97 [eStrs l,eStrs m] (fun r=>r=.bool (decide (l=m))):=by
 refine sB YP func97 rfl call97 ?_;conv=>whnf
 have z:(l.map AV.str).length=l.length:=x7z _;have b:(m.map AV.str).length=m.length:=x7z _;repeat' (first|(refine iM fun _=>?_;conv=>whnf)|(apply bE<;>intro _<;>first|omega|conv=>whnf))
 all_goals first
  |exact RetK.ff (x9m fun h=>by subst h;omega)
  |skip
 have x:l.length=m.length:=by omega
 refine LoopK.inv QV (fun j:Nat=>⟨[(0,.p (eStrs l)),(1,.p (eStrs m)),(12,.p (.int .i64 (l.map AV.str).length)),(13,.j j)],[]⟩) (fun j=>j<=l.length/\l.take j=m.take j) (fun j=>l.length-j) 0 (Le.of_eq rfl) ⟨x7p _,rfl⟩ ?_;rintro j ⟨c,o⟩;rcases x7m j l.length with n|n
 .have t:j<m.length:=by omega
  have w:l[j]=m[j]->l.take (j+1)=m.take (j+1):=fun s=>by rw[x7r n,x7r t,o,s]
  have v:l[j]≠m[j]->¬l=m:=fun u s=>u (by subst s;rfl);conv=>whnf
  repeat' (first|((first|refine dA ?_|(refine iA fun _=>?_)|refine wI ?_);conv=>whnf)|(apply bD<;>intro _<;>first|omega|conv=>whnf)|(apply bN<;>intro _<;>conv=>whnf))
  all_goals first
   | (have q:l[j]=m[j]:=eq_of_beq (by assumption)
      exact⟨j+1,⟨n,w q⟩,by omega,Le.of_eq rfl⟩)
   | (have q:¬l[j]=m[j]:=by
       have y:(l[j]==m[j])=false:=by assumption
       simpa using y
      exact RetK.ff (x9m (v q)))
 .rw [x7a n,x7a (by omega)]at o;conv=>whnf
  repeat' (apply bD<;>intro _<;>first|omega|conv=>whnf)
  all_goals exact RetK.tt (z0y o)
def UD(a:Str):SpecP prog 189 [.str a] (fun r=>r=.bool false):=by
 refine sB PN func189 rfl call189 ?_;conv=>whnf
 skip
 all_goals exact RetK.bool (by simp)
def PW(a:Str):SpecP prog 236 [.str a] (fun r=>r=.bool false):=by
 refine sB FW func236 rfl call236 ?_;conv=>whnf
 skip
 all_goals exact RetK.bool (by simp)
def Wj(a b:Str):SpecP prog 235 [.str a,.str b] (fun r=>r=.bool (Op.bytesLess a b)):=by
 refine sB MK func235 rfl call235 ?_;conv=>whnf
 repeat' (first|(refine cP (UD a) ?_;conv=>whnf)|(apply bB<;>intro _<;>conv=>whnf))
 all_goals first
  |contradiction
  |exact RetK.p rfl
def VH(l:List Str)(x:Str)(K:l.Pairwise ltT)(G:l.length<=1000000000):SpecP prog 185 [eStrs l,.str x] (fun r=>∃k:Int,r=.tup [.int .i64 k,.bool (inS l x)]):=by
 refine sB WL func185 rfl call185 ?_;conv=>whnf
 have C:(l.map AV.str).length=l.length:=x7z _;repeat' (refine iM fun _=>?_;conv=>whnf)
 refine LoopK.inv QV (fun y:Nat×Nat=>⟨[(0,.p (eStrs l)),(1,.p (.str x)),(6,.p (.int .i64 (l.map AV.str).length)),(7,.j y.1),(8,.j y.2)],[]⟩) (fun y=>y.1<=y.2/\y.2<=l.length/\(∀(k:Nat)(h:k<l.length),k<y.1->ltT l[k] x)/\∀(k:Nat)(h:k<l.length),y.2<=k->¬ltT l[k] x) (fun y=>y.2-y.1) (0,l.length) (Le.of_eq (by rw[C];rfl)) ⟨x7p _,x7s _,fun k h w=>by simp only at w;omega,fun k h w=>by simp only at w;omega⟩ ?_;rintro⟨i,j⟩ ⟨w,D,d,g⟩;simp only at w D d g⊢;have v:∀(a b:Nat)(ha:a<l.length)(E:b<l.length),a<b->ltT l[a] l[b]:=fun a b ha E A=>List.pairwise_iff_getElem.1 K a b ha E A;rcases x7m i j with B|B
 .have F:(i+j)/2<l.length:=by omega
  have I:=Wj l[(i+j)/2] x;conv=>whnf
  repeat' (first|((first|(refine iA fun _=>?_)|refine wI ?_|refine Wr.u64 (by omega) (by omega) ?_|refine CN rfl (by omega) rfl rfl (m:=(((i+j)/2:Nat):Int)) (by omega) ?_|refine cP I ?_);conv=>whnf)|(apply bD<;>intro _<;>first|omega|conv=>whnf)|(apply bB<;>intro _<;>conv=>whnf))
  all_goals first
   | (have s:Op.bytesLess l[(i+j)/2] x=true:=by assumption
      refine⟨((i+j)/2+1,j),⟨by simp only;omega,D,fun k t u=>?_,g⟩,by simp only;omega,Le.of_eq rfl⟩;simp only at u;rcases x7m k ((i+j)/2)with n|n
      .exact ltT.trans _ _ _ (v _ _ t F n) s
      .have:k=(i+j)/2:=by omega
       subst this;exact s)
   | (have s:Op.bytesLess l[(i+j)/2] x=false:=by assumption
      have z:¬ltT l[(i+j)/2] x:=fun h=>by unfold ltT at h;rw[s]at h;cases h
      refine⟨(i,(i+j)/2),⟨by simp only;omega,by simp only;omega,d,fun k t u c=>?_⟩,by simp only;omega,Le.of_eq rfl⟩;simp only at u;rcases x7m ((i+j)/2) k with n|n
      .exact z (ltT.trans _ _ _ (v _ _ F t n) c)
      .have:k=(i+j)/2:=by omega
       subst this;exact z c)
 .obtain rfl:i=j:=by omega
  rcases x7m i l.length with e|e
  .have o:inS l x=(l[i]==x):=by
    rw[z3j,UN,z1e];constructor
    .intro L;obtain⟨k,t,rfl⟩:=x9s.1 L;rcases Nat.lt_trichotomy k i with q|q|q
     .exact absurd (d k t q) (ltT.irr _)
     .subst q;rfl
     .exact absurd (v i k e t q) (g i e (x7s _))
    .intro q;rw[<-q];exact x7l e
   have J:=PW l[i];conv=>whnf
   repeat' (first|((first|(refine iA fun _=>?_)|refine cP J ?_);conv=>whnf)|(apply bD<;>intro _<;>first|omega|conv=>whnf)|(apply bB<;>intro _<;>conv=>whnf))
   all_goals first
    |(exfalso;omega)
    |(exfalso;simp_all;done)
    | (have s:inS l x=true:=by rw[o];assumption
       exact⟨_,.p (Sub.tup (.cons (Sub.refl _) (.cons (Sub.tt s) .nil))),_,rfl⟩)
    | (have s:inS l x=false:=by rw[o];assumption
       exact⟨_,.p (Sub.tup (.cons (Sub.refl _) (.cons (Sub.ff s) .nil))),_,rfl⟩)
  .have o:inS l x=false:=by
    cases q:inS l x with
    |false=>rfl
    | true=>
      obtain⟨k,t,H⟩:=x9s.1 (UN.1 q);exact absurd (d k t (by omega)) (by rw[H];exact ltT.irr _)
   conv=>whnf
   repeat' (apply bD<;>intro _<;>first|omega|conv=>whnf)
   all_goals first
    |(exfalso;omega)
    |exact⟨_,.p (Sub.tup (.cons (Sub.refl _) (.cons (Sub.ff o) .nil))),_,rfl⟩
    |exact⟨_,.p (Sub.refl _),_,by rw[o];rfl⟩
def LM(l:List Str)(x:Str)(n:l.Pairwise ltT)(h:l.length<=1000000000):SpecP prog 114 [eStrs l,.str x] (fun r=>r=.bool (inS l x)):=by
 refine sB Sw func114 rfl call114 ?_;conv=>whnf
 have m:=VH l x n h;repeat' (refine CallK.pure m (.cons (Sub.refl _) (.cons (Sub.refl _) .nil)) ?_;rintro _ ⟨k,rfl⟩;conv=>whnf)
 all_goals first
  |exact RetK.p rfl
def M5{σ:Mem}{a:Param}{v:Value}(h:Rep σ (.agg a.cells) v):v=.agg #[.string ⟨a.name.toArray⟩,.bool a.ref]:=by
 cases h with
 | agg cs vs u q n o=>
   have r:vs.size=2:=q;have g0:vs[0]?=some (.string ⟨a.name.toArray⟩):=by
    have l:=n 0 (.str a.name) rfl;have m:=o 0 (.str a.name) rfl;generalize u 0=w at l m;cases m;exact l
   have g1:vs[1]?=some (.bool a.ref):=by
    have l:=n 1 (.bool a.ref) rfl;have m:=o 1 (.bool a.ref) rfl;generalize u 1=w at l m;cases m;exact l
   congr 1;apply Array.ext_getElem?;intro i
   match i with
   |0=>exact g0
   |1=>exact g1
   |i+2=>rw[z3b (by omega),z3b (by simp)]
instance:DecidableEq Param:=fun a b=>decidable_of_iff (a.name=b.name/\a.ref=b.ref) (by cases a;cases b;simp)
theorem ValO.C{D:Bool}{s:St}{o:Oper}{K:LV->Prop}{x y:Operand}{u:TypeId}(m:o.op=.binOp .eql 48 x y u){a b:Param}(F:QN s.sl x=.p (.agg a.cells))(G:QN s.sl y=.p (.agg b.cells))(g:K (.p (.bool (decide (a=b))))):ValO prog D s o K:=by
 refine⟨fun σ β r w t _=>⟨_,.bool (decide (a=b)),g,.p (.bool _),fun w' _ _=>?_⟩⟩;have z:r.eval x=.agg #[.string ⟨a.name.toArray⟩,.bool a.ref]:=by
  have:=QQ t x;rw[F]at this;cases this with
  |p h=>exact M5 h
 have c:r.eval y=.agg #[.string ⟨b.name.toArray⟩,.bool b.ref]:=by
  have:=QQ t y;rw[G]at this;cases this with
  |p h=>exact M5 h
 have E:prog.underlying 48=some (.struct (prog.fieldsOf 48)):=by kernel_rfl
 have q:prog.underlying 9=some .string:=by kernel_rfl
 have l:prog.underlying 4=some .bool:=by kernel_rfl
 have B:(prog.fieldsOf 48).toList=(match ty48.desc with |.struct fs=>fs.toList|_=>[]):=by kernel_rfl
 have A:(Op.equalIn 10000 48 (.agg #[.string ⟨a.name.toArray⟩,.bool a.ref]) (.agg #[.string ⟨b.name.toArray⟩,.bool b.ref])).run prog w'=.ok (decide (a=b)) w':=by
  rw[run_equalIn_struct w' 9999 _ _ _ E (by kernel_rfl),B];simp only[ty48,Op.eqFields];have H:∀(x:ByteArray)(y:Bool),(part 9 #[.string x,.bool y] 0).run prog w'=.ok (.string x) w':=fun x y=>run_part_plain w' (by kernel_rfl) rfl;have I:∀(x:ByteArray)(y:Bool),(part 4 #[.string x,.bool y] 1).run prog w'=.ok (.bool y) w':=fun x y=>run_part_plain w' (by kernel_rfl) rfl;have es:∀x y:ByteArray,(Op.equalIn 9999 9 (.string x) (.string y)).run prog w'=.ok (x.toList==y.toList) w':=fun x y=>run_equalIn_string (P:=prog) w' 9998 9 x y q;have v:∀x y:Bool,(Op.equalIn 9999 4 (.bool x) (.bool y)).run prog w'=.ok (x==y) w':=fun x y=>run_equalIn_bool (P:=prog) w' 9998 4 x y l;have e:decide (a=b)=(((⟨a.name.toArray⟩:ByteArray).toList==(⟨b.name.toArray⟩:ByteArray).toList)&&(a.ref==b.ref)):=by
   rw[ByteArray.toList_eq,ByteArray.toList_eq,z3j,z2v,x7i,z1e,z1e];cases a;cases b;simp
  simp only[ne_eq,show ¬("Name" = "_") by decide,show ¬("Ref" = "_") by decide,not_false_eq_true,if_true,Sem.run_bind,H,I,Result.andThen_ok,es,v,Sem.run_ite,Sem.run_pure,e];cases((⟨a.name.toArray⟩:ByteArray).toList==(⟨b.name.toArray⟩:ByteArray).toList)<;>cases(a.ref==b.ref)<;>simp
 simp only[execOp,m,z,c,Sem.run_bind,run_eqGuard_agg _ _ _ _ _ _ _ (show prog.eqGuardType prog.depth 48=false by kernel_rfl),Result.andThen_ok,run_eql_struct,A,Sem.run_pure]
def VO(l:List Param)(x:Param):SpecP prog 221 [.sl (l.map fun a=>.agg a.cells),.agg x.cells] (fun r=>∃k:Int,r=.int .i64 k/\(0<=k↔x∈l)):=by
 refine sB VQ func221 rfl call221 ?_;conv=>whnf
 have s:(l.map fun a=>AV.agg a.cells).length=l.length:=x7z _;repeat' (refine iM fun _=>?_;conv=>whnf)
 refine LoopK.inv QV (fun j:Nat=>⟨[(0,.p (.sl (l.map fun a=>.agg a.cells))),(3,.p (.ip x.cells)),(7,.p (.int .i64 (l.map fun a=>AV.agg a.cells).length)),(8,.j j)],[]⟩) (fun j=>j<=l.length/\x∉l.take j) (fun j=>l.length-j) 0 (Le.of_eq rfl) ⟨x7p _,by simp⟩ ?_;rintro j ⟨t,m⟩;rcases x7m j l.length with h|h
 .have o:x∈l.take (j+1)↔x∈l.take j\/x=l[j]:=HF h;conv=>whnf
  repeat' (first|((first|refine dA ?_|(refine iA fun _=>?_)|refine wI ?_|refine ValO.C (a:=x) (b:=l[j]) rfl rfl rfl ?_);conv=>whnf)|(apply bD<;>intro _<;>first|omega|conv=>whnf))
  all_goals first
   | (have n:x=l[j]:=by assumption
      exact⟨_,.p (Sub.refl _),j,rfl,⟨fun _=>by rw[n];exact x7l h,fun _=>by omega⟩⟩)
   | (have n:¬x=l[j]:=by assumption
      exact⟨j+1,⟨h,fun q=>(o.1 q).elim m n⟩,by omega,Le.of_eq rfl⟩)
 .rw [x7a h]at m;conv=>whnf
  repeat' (apply bD<;>intro _<;>first|omega|conv=>whnf)
  all_goals exact⟨_,.p (Sub.refl _),-1,rfl,by simp[m]⟩
def WE(l:List Param)(x:Param):SpecP prog 166 [.sl (l.map fun a=>.agg a.cells),.agg x.cells] (fun r=>r=.bool (decide (x∈l))):=by
 refine sB WU func166 rfl call166 ?_;conv=>whnf
 have h:=VO l x;repeat' (refine CallK.pure h (.cons (Sub.refl _) (.cons (Sub.refl _) .nil)) ?_;rintro _ ⟨k,rfl,m⟩;conv=>whnf)
 all_goals first
  |exact RetK.bool (by rw[z3j,z2v,z2v];exact m)
def q8t{p:Pg}(h:chkB p=true){j:Nat}{f:Pr}(m:p.A[j]?=some f):∀s∈Kd (newWay p j f) f,okSt s:=fun s l=>by
 unfold Kd at l;rcases x7b.1 l with l|l
 .rcases x7b.1 l with l|l
  .exact Fu h m s l
  .rw [x7y.1 l];exact⟨by decide,by decide⟩
 .obtain ⟨it,n,l⟩:=x8h.1 l;exact Tr h m it n s l
def q5i{p:Pg}(h:chkB p=true){j:Nat}{f:Pr}(m:p.A[j]?=some f){it:Item}(o:it∈itsOf p j f):(sheetOf p).l[(it.s.id-1).toNat]?=some it:=by
 have u:=ZS (QY h).1 m (KM o);obtain⟨r,n,q⟩:=GD m (k:=(it.s.id-1).toNat) (by omega) (by omega);have t:=Dn h m (by omega) (by omega) n;rw[n,q3u (QY h).1 m q o (by omega)]
mutual
def onS(b:Bool):S->S
 |.mk id kind G name D x has args L M=>if kind=4\/(7<=kind/\b=false)then .mk 0 3 (if b then G else []) [] [] (.mk 1 7 [] []) false [] (onL b L) (onL b M)else .mk id kind (if b then G else []) name D x has args (onL b L) (onL b M)
def onL(b:Bool):List S->List S
 |[]=>[]
 |t::r=>onS b t::onL b r
end
def PD(b:Bool)(t:S):onS b t=if t.kind=4\/(7<=t.kind/\b=false)then .mk 0 3 (if b then t.G else []) [] [] (.mk 1 7 [] []) false [] (onL b t.L) (onL b t.M)else .mk t.id t.kind (if b then t.G else []) t.name t.D t.x t.has t.args (onL b t.L) (onL b t.M):=by
 cases t;rw[onS];rfl
theorem NA(b:Bool):∀l:List S,onL b l=l.map (onS b)
 |[]=>by rw[onL];rfl
 |t::r=>by rw[onL,NA b r];rfl
def Zj(b:Bool):∀(k:Nat)(l:List S)(_:cntL l<k)(_:cntL l<=1000000)(_:∀t∈flL l,okC t),SpecP prog 84 [eSs l,.bool b] (fun r=>r=eSs (onL b l)):=by
 intro k;induction k with
 |zero=>intro l h;omega
 | succ k c=>
   intro l K N z;have H:(S.avs l).length=l.length:=by rw[S.avs_eq,x7z]
   have E:=Wi l;refine sB NU func84 rfl call84 ?_;conv=>whnf
   repeat' (refine iM fun _=>?_;conv=>whnf)
   refine LoopK.inv QV (fun j:Nat=>⟨[(1,.p (.bool b)),(5,.hd 0 0 j),(9,.p (eSs l)),(10,.p (.int .i64 (S.avs l).length)),(11,.j j)],[(0,.own 117 13 (S.avs ((onL b l).take j)))]⟩) (fun j=>j<=l.length) (fun j=>l.length-j) 0
    (Le.mk [(0,.own 117 13 [])] (by simp[Chunk.new0];rfl) (by simp) (by simp) (.r (.cons (.nil x7v) (.r (.r (.r .nil))))) (.new x7v .nil)) (x7p _) ?_
   intro j J;rcases x7m j l.length with u|u
   .have I:=Wo (x7l u);have F:=WQ l[j];have o:=z _ (BK l _ (x7l u));have v:∀t,t∈flL l[j].L\/t∈flL l[j].M->okC t:=fun t w=>z t (by
     have:t∈flS l[j]:=by
      rw[G2];exact x7j _ (x7b.2 w)
     have key:∀(m:List S)(i:Nat)(h:i<m.length),t∈flS m[i]->t∈flL m:=fun m=>by
      induction m with
      |nil=>intro i h;simp at h
      | cons a r c=>
        intro i h w;rw[flL];cases i with
        |zero=>exact x7b.2 (.inl w)
        |succ i=>exact x7b.2 (.inr (c i (by simpa using h) w))
     exact key l j u this)
    have A:=WM l[j] o.1 o.2.1 o.2.2.1 o.2.2.2;have B:=c l[j].L (by omega) (by omega) fun t w=>v t (.inl w);have C:=c l[j].M (by omega) (by omega) fun t w=>v t (.inr w);have q:j=(S.avs ((onL b l).take j)).length:=by rw[S.avs_eq,x7z,x8q,NA,x7z];omega
    have s:S.avs ((onL b l).take (j+1))=S.avs ((onL b l).take j)++[.agg (onS b l[j]).cells]:=by
     rw[S.avs_eq,S.avs_eq,NA,List.take_add_one,x7k,x7x u,x7n];rfl
    generalize S.avs ((onL b l).take j)=acc at q s⊢;cases b with
    | true=>
      conv=>whnf
      repeat' (first|((first|refine dA ?_|refine x7g rfl ?_|refine aD ?_|refine bP ?_|refine UK (by omega) ?_|refine wI ?_|refine cP (XW l[j].G o.2.1) ?_|refine cP (YC 7) ?_|refine cP A ?_|(refine CallK.pure B (.cons (Sub.refl _) (.cons (by first|exact Sub.refl _|exact Sub.tt rfl|exact Sub.ff rfl) .nil)) ?_;rintro _ rfl)|(refine CallK.pure C (.cons (Sub.refl _) (.cons (by first|exact Sub.refl _|exact Sub.tt rfl|exact Sub.ff rfl) .nil)) ?_;rintro _ rfl)|refine z0w q rfl (by show(j+1)*208<=140737488355328;omega) (by show j+1<=9223372036854775807;omega) (fun x g=>by rcases x7y.1 g with rfl;exact⟨rfl,rfl⟩) ?_);conv=>whnf)|(apply bD<;>intro _<;>first|omega|conv=>whnf)|(apply bN<;>intro _<;>conv=>whnf))
      all_goals try contradiction
      all_goals first
       | (have e:=(PD true l[j]).trans (if_pos (by first|exact .inl (by assumption)|exact .inr ⟨by omega,rfl⟩))
          exact⟨j+1,u,by omega,(Le.M (.M (BQ (ElS.refl acc) (x':=.agg (onS true l[j]).cells) (by rw[e];rfl) (fun i c' n=>by
          rw[e]at n
          match i,n with
          |0,n=>cases n;exact⟨_,rfl,by first|exact Sub.refl _|exact Sub.nils|exact Sub.ff rfl⟩
          |1,n=>cases n;exact⟨_,rfl,by first|exact Sub.refl _|exact Sub.nils|exact Sub.ff rfl⟩
          |2,n=>cases n;exact⟨_,rfl,by first|exact Sub.refl _|exact Sub.nils|exact Sub.ff rfl⟩
          |3,n=>cases n;exact⟨_,rfl,by first|exact Sub.refl _|exact Sub.nils|exact Sub.ff rfl⟩
          |4,n=>cases n;exact⟨_,rfl,by first|exact Sub.refl _|exact Sub.nils|exact Sub.ff rfl⟩
          |5,n=>cases n;exact⟨_,rfl,by first|exact Sub.refl _|exact Sub.nils|exact Sub.ff rfl⟩
          |6,n=>cases n;exact⟨_,rfl,by first|exact Sub.refl _|exact Sub.nils|exact Sub.ff rfl⟩
          |7,n=>cases n;exact⟨_,rfl,by first|exact Sub.refl _|exact Sub.nils|exact Sub.ff rfl⟩
          |8,n=>cases n;exact⟨_,rfl,by first|exact Sub.refl _|exact Sub.nils|exact Sub.ff rfl⟩
          |9,n=>cases n;exact⟨_,rfl,by first|exact Sub.refl _|exact Sub.nils|exact Sub.ff rfl⟩
          |10,n=>cases n;exact⟨_,rfl,by first|exact Sub.refl _|exact Sub.nils|exact Sub.ff rfl⟩
          |11,n=>cases n;exact⟨_,rfl,by first|exact Sub.refl _|exact Sub.nils|exact Sub.ff rfl⟩
          |12,n=>cases n;exact⟨_,rfl,by first|exact Sub.refl _|exact Sub.nils|exact Sub.ff rfl⟩
          |i+13,n=>simp[AV.cells,S.cells]at n)) .nil)).trans (Le.of_eq (by rw[s];rfl))⟩)
       | (have e:=(PD true l[j]).trans (if_neg (by rintro(h|⟨h,D⟩)<;>first|contradiction|omega))
          exact⟨j+1,u,by omega,(Le.M (.M (BQ (ElS.refl acc) (x':=.agg (onS true l[j]).cells) (by rw[e];rfl) (fun i c' n=>by
          rw[e]at n
          match i,n with
          |0,n=>cases n;exact⟨_,rfl,by first|exact Sub.refl _|exact Sub.nils|exact Sub.ff rfl⟩
          |1,n=>cases n;exact⟨_,rfl,by first|exact Sub.refl _|exact Sub.nils|exact Sub.ff rfl⟩
          |2,n=>cases n;exact⟨_,rfl,by first|exact Sub.refl _|exact Sub.nils|exact Sub.ff rfl⟩
          |3,n=>cases n;exact⟨_,rfl,by first|exact Sub.refl _|exact Sub.nils|exact Sub.ff rfl⟩
          |4,n=>cases n;exact⟨_,rfl,by first|exact Sub.refl _|exact Sub.nils|exact Sub.ff rfl⟩
          |5,n=>cases n;exact⟨_,rfl,by first|exact Sub.refl _|exact Sub.nils|exact Sub.ff rfl⟩
          |6,n=>cases n;exact⟨_,rfl,by first|exact Sub.refl _|exact Sub.nils|exact Sub.ff rfl⟩
          |7,n=>cases n;exact⟨_,rfl,by first|exact Sub.refl _|exact Sub.nils|exact Sub.ff rfl⟩
          |8,n=>cases n;exact⟨_,rfl,by first|exact Sub.refl _|exact Sub.nils|exact Sub.ff rfl⟩
          |9,n=>cases n;exact⟨_,rfl,by first|exact Sub.refl _|exact Sub.nils|exact Sub.ff rfl⟩
          |10,n=>cases n;exact⟨_,rfl,by first|exact Sub.refl _|exact Sub.nils|exact Sub.ff rfl⟩
          |11,n=>cases n;exact⟨_,rfl,by first|exact Sub.refl _|exact Sub.nils|exact Sub.ff rfl⟩
          |12,n=>cases n;exact⟨_,rfl,by first|exact Sub.refl _|exact Sub.nils|exact Sub.ff rfl⟩
          |i+13,n=>simp[AV.cells,S.cells]at n)) .nil)).trans (Le.of_eq (by rw[s];rfl))⟩)
    | false=>
      conv=>whnf
      repeat' (first|((first|refine dA ?_|refine x7g rfl ?_|refine aD ?_|refine bP ?_|refine UK (by omega) ?_|refine wI ?_|refine cP (XW l[j].G o.2.1) ?_|refine cP (YC 7) ?_|refine cP A ?_|(refine CallK.pure B (.cons (Sub.refl _) (.cons (by first|exact Sub.refl _|exact Sub.tt rfl|exact Sub.ff rfl) .nil)) ?_;rintro _ rfl)|(refine CallK.pure C (.cons (Sub.refl _) (.cons (by first|exact Sub.refl _|exact Sub.tt rfl|exact Sub.ff rfl) .nil)) ?_;rintro _ rfl)|refine z0w q rfl (by show(j+1)*208<=140737488355328;omega) (by show j+1<=9223372036854775807;omega) (fun x g=>by rcases x7y.1 g with rfl;exact⟨rfl,rfl⟩) ?_);conv=>whnf)|(apply bD<;>intro _<;>first|omega|conv=>whnf)|(apply bN<;>intro _<;>conv=>whnf))
      all_goals try contradiction
      all_goals first
       | (have e:=(PD false l[j]).trans (if_pos (by first|exact .inl (by assumption)|exact .inr ⟨by omega,rfl⟩))
          exact⟨j+1,u,by omega,(Le.M (.M (BQ (ElS.refl acc) (x':=.agg (onS false l[j]).cells) (by rw[e];rfl) (fun i c' n=>by
          rw[e]at n
          match i,n with
          |0,n=>cases n;exact⟨_,rfl,by first|exact Sub.refl _|exact Sub.nils|exact Sub.ff rfl⟩
          |1,n=>cases n;exact⟨_,rfl,by first|exact Sub.refl _|exact Sub.nils|exact Sub.ff rfl⟩
          |2,n=>cases n;exact⟨_,rfl,by first|exact Sub.refl _|exact Sub.nils|exact Sub.ff rfl⟩
          |3,n=>cases n;exact⟨_,rfl,by first|exact Sub.refl _|exact Sub.nils|exact Sub.ff rfl⟩
          |4,n=>cases n;exact⟨_,rfl,by first|exact Sub.refl _|exact Sub.nils|exact Sub.ff rfl⟩
          |5,n=>cases n;exact⟨_,rfl,by first|exact Sub.refl _|exact Sub.nils|exact Sub.ff rfl⟩
          |6,n=>cases n;exact⟨_,rfl,by first|exact Sub.refl _|exact Sub.nils|exact Sub.ff rfl⟩
          |7,n=>cases n;exact⟨_,rfl,by first|exact Sub.refl _|exact Sub.nils|exact Sub.ff rfl⟩
          |8,n=>cases n;exact⟨_,rfl,by first|exact Sub.refl _|exact Sub.nils|exact Sub.ff rfl⟩
          |9,n=>cases n;exact⟨_,rfl,by first|exact Sub.refl _|exact Sub.nils|exact Sub.ff rfl⟩
          |10,n=>cases n;exact⟨_,rfl,by first|exact Sub.refl _|exact Sub.nils|exact Sub.ff rfl⟩
          |11,n=>cases n;exact⟨_,rfl,by first|exact Sub.refl _|exact Sub.nils|exact Sub.ff rfl⟩
          |12,n=>cases n;exact⟨_,rfl,by first|exact Sub.refl _|exact Sub.nils|exact Sub.ff rfl⟩
          |i+13,n=>simp[AV.cells,S.cells]at n)) .nil)).trans (Le.of_eq (by rw[s];rfl))⟩)
       | (have e:=(PD false l[j]).trans (if_neg (by rintro(h|⟨h,D⟩)<;>first|contradiction|omega))
          exact⟨j+1,u,by omega,(Le.M (.M (BQ (ElS.refl acc) (x':=.agg (onS false l[j]).cells) (by rw[e];rfl) (fun i c' n=>by
          rw[e]at n
          match i,n with
          |0,n=>cases n;exact⟨_,rfl,by first|exact Sub.refl _|exact Sub.nils|exact Sub.ff rfl⟩
          |1,n=>cases n;exact⟨_,rfl,by first|exact Sub.refl _|exact Sub.nils|exact Sub.ff rfl⟩
          |2,n=>cases n;exact⟨_,rfl,by first|exact Sub.refl _|exact Sub.nils|exact Sub.ff rfl⟩
          |3,n=>cases n;exact⟨_,rfl,by first|exact Sub.refl _|exact Sub.nils|exact Sub.ff rfl⟩
          |4,n=>cases n;exact⟨_,rfl,by first|exact Sub.refl _|exact Sub.nils|exact Sub.ff rfl⟩
          |5,n=>cases n;exact⟨_,rfl,by first|exact Sub.refl _|exact Sub.nils|exact Sub.ff rfl⟩
          |6,n=>cases n;exact⟨_,rfl,by first|exact Sub.refl _|exact Sub.nils|exact Sub.ff rfl⟩
          |7,n=>cases n;exact⟨_,rfl,by first|exact Sub.refl _|exact Sub.nils|exact Sub.ff rfl⟩
          |8,n=>cases n;exact⟨_,rfl,by first|exact Sub.refl _|exact Sub.nils|exact Sub.ff rfl⟩
          |9,n=>cases n;exact⟨_,rfl,by first|exact Sub.refl _|exact Sub.nils|exact Sub.ff rfl⟩
          |10,n=>cases n;exact⟨_,rfl,by first|exact Sub.refl _|exact Sub.nils|exact Sub.ff rfl⟩
          |11,n=>cases n;exact⟨_,rfl,by first|exact Sub.refl _|exact Sub.nils|exact Sub.ff rfl⟩
          |12,n=>cases n;exact⟨_,rfl,by first|exact Sub.refl _|exact Sub.nils|exact Sub.ff rfl⟩
          |i+13,n=>simp[AV.cells,S.cells]at n)) .nil)).trans (Le.of_eq (by rw[s];rfl))⟩)
   .have y:(onL b l).take j=onL b l:=x7a (by rw[NA,x7z];exact u);have d:j=(S.avs (onL b l)).length:=by rw[S.avs_eq,x7z,NA,x7z];omega
    rw[y];conv=>whnf
    repeat' (apply bD<;>intro _<;>first|omega|conv=>whnf)
    exact⟨_,.hd rfl d,rfl⟩
def q8k(b:Bool)(f:Pr):Pr:=⟨f.name,f.C,f.F,onL b f.body,if b then f.fin else []⟩
def Dq(n:Nat):List Pr->List Pr
 |[]=>[]
 |f::r=>⟨f.name,f.C,f.F,nmL n f.body,f.fin⟩::Dq (n+cntL f.body) r
def q6g(p:Pg):Pg:=⟨p.B,Dq 0 p.A⟩
def onlyRaw(b:Bool)(p:Pg):Pg:=⟨p.B,(p.A.filter fun f=>f.name==mainS).map (q8k b)⟩
def onlyPg(b:Bool)(p:Pg):Pg:=q6g (onlyRaw b p)
def gOf(b:Bool)(f:Pr):Pr:=⟨f.name,f.C,f.F,nmL 0 (onL b f.body),if b then f.fin else []⟩
def D6{p:Pg}(h:chkB p=true):∃(k:Nat) (f:Pr),p.A[k]?=some f/\p.A.filter (fun f=>f.name==mainS)=[f]/\f.name=mainS/\f.C=[]:=by
 obtain⟨D,d,_⟩:=QY h;obtain⟨_,q,_⟩:=KK d;unfold XI at q;simp only[z1l,Bool.not_eq_false']at q;obtain⟨_,x,y,t⟩:=q;have m:=Do x;obtain⟨k,v,B,u⟩:=Tm y;have z:=z1j u;have w:p.A[k].name=mainS:=by
  have:mainS=p.A[k].name:=by simpa using z
  exact this.symm
 rw [u]at t;have c:p.A[k].C=[]:=x9y (by simpa using t);refine⟨k,p.A[k],x7x v,?_,w,c⟩;have key:∀(l:List Pr),(l.map Pr.name).Nodup->∀f∈l,f.name=mainS->l.filter (fun f=>f.name==mainS)=[f]:=fun l=>by
  induction l with
  |nil=>intro _ f o;cases o
  | cons g r e=>
    intro m f o n;rw[x8v,x8i]at m;rcases x7f.1 o with rfl|o
    .rw [z0x (by simp[n])];congr 1;rw[List.filter_eq_nil_iff];intro g b s;exact m.1 (by rw[n,<-show g.name=mainS by simpa using s];exact z1q b)
    .rw [z0j (by
      intro s;exact m.1 (by rw[show g.name=mainS by simpa using s,<-n];exact z1q o))]
     exact e m.2 f o n
 exact key p.A m _ (x7l v) w
def q6d{p:Pg}{b:Bool}{f:Pr}(h:p.A.filter (fun f=>f.name==mainS)=[f]):onlyPg b p=⟨p.B,[gOf b f]⟩:=by
 unfold onlyPg q6g onlyRaw;simp only;rw[h];rfl
mutual
theorem Lc(b:Bool):∀t:S,ZU (onS b t)=ZU t
 | .mk id kind G name D x has args L M=>by
   rw[onS];split
   ·rw[ZU,ZU,HX b L,HX b M]
   ·rw[ZU,ZU,HX b L,HX b M]
theorem HX(b:Bool):∀l:List S,cntL (onL b l)=cntL l
 |[]=>by rw[onL]
 |t::r=>by rw[onL,cntL,cntL,Lc b t,HX b r]
end
mutual
theorem q4c:∀(t:S)(n:Nat),ZU (nmS n t)=ZU t
 |.mk id kind G name D x has args L M,n=>by rw[nmS,ZU,ZU,Fx L,Fx M]
theorem Fx:∀(l:List S)(n:Nat),cntL (nmL n l)=cntL l
 |[],n=>by rw[nmL]
 |t::r,n=>by rw[nmL,cntL,cntL,q4c t,Fx r]
end
section
variable {p:Pg}{k:Nat}{f:Pr}
end
theorem Gn:∀(l:List Pr){n:Nat}{m:Int},XL n l=some m->∀(j:Nat)(f:Pr),l[j]?=some f->∃o,UR 1 ((n+QP l j:Nat):Int) f.body=some o
 |[],_,_,_,j,f,hj=>by simp at hj
 | g::r,n,m,h,j,f,hj=>by
   rw[XL]at h;cases v:DJ g<;>rw[v]at h
   .cases h
   simp only[x7c]at h;split at h
   .rename_i w q;cases j with
    | zero=>
      cases hj;exact⟨w,q⟩
    | succ j=>
      have t:=KJ _ _ g.body q;have s:XL ((n+cntL g.body:Nat):Int) r=some m:=by rw[<-h,t];rfl
      obtain⟨o,u⟩:=Gn r s j f (by simpa using hj);exact⟨o,by rw[<-u,QP];congr 1;omega⟩
   .cases h
def q6u{p:Pg}(h:KR p=true){j:Nat}{f:Pr}(o:p.A[j]?=some f):∃m,UR 1 ((QP p.A j:Nat):Int) f.body=some m:=by
 unfold KR at h;simp only[x7i]at h;obtain⟨m,q⟩:=Option.isSome_iff_exists.1 h.2;obtain⟨r,l⟩:=Gn p.A (n:=0) q j f o;exact⟨r,by rw[<-l];congr 1;omega⟩
theorem H8:∀(l:List Int)(b:List Bool)(i:Nat),i<b.length->((KH l b).getD i false=true↔b.getD i false=true\/∃a∈l,a.toNat=i)
 |[],b,i,hi=>by simp[KH]
 | a::r,b,i,hi=>by
   have h:=H8 r (b.set a.toNat true) i (by rw[x9d];exact hi);have e:KH (a::r) b=KH r (b.set a.toNat true):=rfl;rw[e,h];simp only[x7f,exists_eq_or_imp];by_cases ha:a.toNat=i
   .simp [ha,hi,x7w,z1n]
   .simp [ha,x7w,z1n]
def Tb{p:Pg}(h:chkB p=true){j:Nat}{f:Pr}(q:p.A[j]?=some f){y:Int}(n:plP p j f y):(newWay p j f).live.getD (ixI p j f y).toNat false=true↔Rch (wR p j f) 0 y:=by
 have m:=WS n;have r:(newWay p j f).live=KH (HI 0 (ZN (QL (cntL f.body+2) ((newWay p j f).real.map (ixP p j f (cntL f.body+2:Nat)))).1 [0])) (List.replicate (cntL f.body+2) false):=rfl;rw[r,H8 _ _ _ (by rw[x9w];omega)];have o:(List.replicate (cntL f.body+2) false).getD (ixI p j f y).toNat false=false:=by
  rw[x7w,x8g];split<;>rfl
 rw[o];have s:=Hy (F:=(newWay p j f).real) (VX h q) n;unfold wR;rw[<-s];constructor
 .rintro (l|⟨a,l,t⟩)
  .cases l
  .have ha:=D5 _ _ _ l
   rwa[show ixI p j f y=a by omega]
 .exact fun l=>.inr ⟨_,l,rfl⟩
section
variable {p:Pg}{k:Nat}{f:Pr}
end
theorem N1:∀(l:List (Int×Int))(rows:List (List Int)),(∀t∈l,0<=t.1/\t.1<rows.length)->∀(a:Nat)(x:Int),x∈(l.foldl nxE rows).getD a []↔x∈rows.getD a []\/∃t∈l,t.1=a/\t.2=x
 |[],rows,_,a,x=>by simp
 | t::r,rows,h,a,x=>by
   obtain⟨s,v⟩:=h t x7v;rw[z0b,N1 r (nxE rows t) (fun u q=>by rw[En];exact h u (x7j _ q))];have e:x∈(nxE rows t).getD a []↔x∈rows.getD a []\/(t.1=a/\t.2=x):=by
    unfold nxE;simp only[x7w,z1n];by_cases n:t.1.toNat=a
    .subst n;have o:t.1=(t.1.toNat:Int):=by omega
     rw[if_pos rfl,if_pos (by omega)];simp only[x9u,x7b,x7y];constructor
     .rintro (m|m)
      .exact .inl m
      .exact .inr ⟨o,m.symm⟩
     .rintro (m|⟨_,m⟩)
      .exact .inl m
      .exact .inr m.symm
    .rw [if_neg n];constructor
     .exact .inl
     .rintro (m|⟨m,_⟩)
      .exact m
      .omega
   rw[e];simp only[x7f,exists_eq_or_imp,or_assoc]
def Yc{n:Nat}{l:List (Int×Int)}(h:∀t∈l,0<=t.1/\t.1<n){a:Nat}{x:Int}:x∈(Q2 n l).getD a [] ↔ ∃t∈l,t.1=a/\t.2=x:=by
 unfold Q2;rw[N1 l _ (by simpa using h)];have:(List.replicate n ([]:List Int)).getD a []=[]:=by
  rw[x7w,x8g];split<;>rfl
 rw[this];simp
mutual
theorem q1g:∀(t:S){nest seen m:Int},Df nest seen t=some m->∀u∈flS t,oneOk u=true
 | .mk id kind G name pr x has args L M,nest,seen,m,h,u,hu=>by
   obtain⟨h1,_,m1,h3,h4⟩:=BM h;rw[flS]at hu;rcases x7f.1 hu with rfl|hu
   ·exact h1
   ·rcases x7b.1 hu with hu|hu
    ·exact Vj L h3 u hu
    ·exact Vj M h4 u hu
theorem Vj:∀(l:List S){nest seen m:Int},UR nest seen l=some m->∀u∈flL l,oneOk u=true
 |[],_,_,_,_,u,hu=>by rw[flL]at hu;cases hu
 | t::r,nest,seen,m,h,u,hu=>by
   obtain⟨_,m1,h1,h2⟩:=GF h;rw[flL]at hu;rcases x7b.1 hu with hu|hu
   ·exact q1g t h1 u hu
   ·exact Vj r h2 u hu
end
def RR{p:Pg}{j:Nat}{f:Pr}(h:chkB p=true)(l:p.A[j]?=some f){t:S}(o:t∈flL f.body):OneF t:=by
 obtain⟨m,n⟩:=q6u (QY h).1 l;exact Yi (Vj _ n t o)
section
variable {p:Pg}{j:Nat}{f:Pr}
def x1d(p:Pg)(j:Nat)(f:Pr):Int->Int->Prop:=stR (x5c (newWay p j f) f)
def CL(h:chkB p=true)(v:p.A[j]?=some f){b:Int}:x1d p j f a b↔wR p j f a b\/(a=0/\b = -1)\/(∃l∈trapsW (newWay p j f) f,∃t∈flL f.body,t.id∈l/\t.kind=10/\a=t.id/\b = -1)\/∃it∈itsOf p j f,7<=it.s.kind/\a=it.s.id/\b=it.next:=by
 have z:=DK (q8t h v);have m:∀s,s∈Kd (newWay p j f) f↔s∈YG (newWay p j f) f\/s∈(newWay p j f).real\/s=⟨0,-1,2⟩\/s∈(itsOf p j f).flatMap fOf:=fun s=>by
  have e:Kd (newWay p j f) f=YG (newWay p j f) f++(newWay p j f).real++[⟨0,-1,2⟩]++(itsOf p j f).flatMap fOf:=rfl;rw[e];simp only[x7b,x7y,or_assoc]
 have q:∀s∈Kd (newWay p j f) f,x1d p j f s.src s.dst:=fun s n=>by
  obtain⟨s',o,c,d,_⟩:=z.2.2 s n;exact⟨s',o,c,d⟩
 constructor
 .rintro ⟨s,n,rfl,rfl⟩;rcases(m s).1 (z.2.1 s n)with o|o|o|o
  .obtain ⟨l,x,t,y,r,w,rfl⟩:=(Qg h v).1 o;exact .inr (.inr (.inl ⟨l,x,t,y,r,w,rfl,rfl⟩))
  .exact .inl ⟨s,o,rfl,rfl⟩
  .rw [o];exact .inr (.inl ⟨rfl,rfl⟩)
  .obtain ⟨it,u,n⟩:=x8h.1 o;unfold fOf at n;split at n
   .rw [x7y.1 n];exact .inr (.inr (.inr ⟨it,u,by omega,rfl,rfl⟩))
   .cases n
 .rintro (⟨s,n,rfl,rfl⟩|⟨rfl,rfl⟩|⟨l,x,t,y,r,w,rfl,rfl⟩|⟨it,u,w,rfl,rfl⟩)
  .exact q s ((m s).2 (.inr (.inl n)))
  .exact q ⟨0,-1,2⟩ ((m _).2 (.inr (.inr (.inl rfl))))
  .exact q ⟨t.id,-1,3⟩ ((m _).2 (.inl ((Qg h v).2 ⟨l,x,t,y,r,w,rfl⟩)))
  .refine q ⟨it.s.id,it.next,2⟩ ((m _).2 (.inr (.inr (.inr (x8h.2 ⟨it,u,?_⟩)))));have g:=(RR h v (KM u)).hi;unfold fOf;rw[if_pos (by omega)];exact x7y.2 rfl
def q8m(h:chkB p=true)(o:p.A[j]?=some f){b:Int}(c:x1d p j f a b):plP p j f a/\plP p j f b/\a ≠ -1/\b≠0:=by
 have n:∀t∈flL f.body,plP p j f t.id/\t.id ≠ -1:=fun t q=>by
  have x:=ZS (QY h).1 o q;exact⟨.inr (.inr x),by omega⟩
 rcases(CL h o).1 c with m|⟨rfl,rfl⟩|⟨l,g,t,q,y,z,rfl,rfl⟩|⟨it,r,z,rfl,rfl⟩
 .obtain ⟨v,w⟩:=x1h h o m;refine⟨v,w,?_,fun e=>q0h h o (e▸m)⟩;obtain⟨s,d,rfl,rfl⟩:=m;rcases q1x h o (((YY h o).2 s).1 d)with u|u
  .rw [u];show(0:Int) ≠ -1;decide
  .omega
 .exact ⟨.inl rfl,.inr (.inl rfl),by decide,by decide⟩
 .exact ⟨(n t q).1,.inr (.inl rfl),(n t q).2,by decide⟩
 .have m:=(Xb r).1;unfold okI at m;refine⟨(n _ (KM r)).1,?_,(n _ (KM r)).2,by omega⟩;rcases m with m|m
  .exact .inr (.inl m)
  .exact .inr (.inr m)
def ix_exit:ixI p j f (-1)=(cntL f.body+2:Nat)-1:=by
 unfold ixI UV;rw[if_neg (by decide),if_pos rfl]
end
def ST(k:Int)(x:RI):Bool:=decide (k=0)||decide (x.s.kind=k)
def Xf(p:Pg)(k:Int):List Int:=((allR p).filter (ST k)).map fun x=>x.s.id
def Wa(p:Pg)(k:Int)(u:(allR p).length<=1000):SpecP prog 29 [.agg p.cells,.int .i64 k] (fun r=>r=QB (Xf p k)):=by
 refine sB MA func29 rfl call29 ?_;conv=>whnf
 have m:=Mx (allR p);repeat' ((first|(refine iM fun _=>?_)|refine cP (Wt _) ?_);conv=>whnf)
 refine LoopK.inv QV (fun x:Nat×List Int=>⟨[(1,.j k),(5,.hd 0 0 x.2.length),(9,.p (x1n (allR p))),(10,.p (.int .i64 ((allR p).map fun i=>AV.agg i.cells).length)),(11,.j x.1)],[(0,.own 3 1 (x.2.map (.int .i64)))]⟩) (fun x=>x.1<=(allR p).length/\x.2.length<=x.1/\x.2++(((allR p).drop x.1).filter (ST k)).map (fun y=>y.s.id)=Xf p k) (fun x=>(allR p).length-x.1) (0,[])
  (Le.mk [(0,.own 3 1 [])] (by simp[Chunk.new0];rfl) (by simp) (by simp) (.r (.cons (.nil x7v) (.r (.r (.r .nil))))) (.new x7v .nil)) ⟨x7p _,x7s _,rfl⟩ ?_
 rintro⟨j,o⟩ ⟨n,t,h⟩;simp only at n h t⊢;generalize v:allR p=L at n h m u⊢;rcases x7m j L.length with l|l
 .rw [x8b l]at h;conv=>whnf
  repeat' (first|((first|refine x7g rfl ?_|refine aD ?_|refine bP ?_|(refine iA fun _=>?_)|refine wI ?_|refine XX (by simp) (by simp;omega) ?_);conv=>whnf)|(apply bD<;>intro _<;>first|omega|conv=>whnf))
  all_goals first
   | (have e:ST k L[j]=true:=by unfold ST;simp[*];done
      rw[z0x e,x8v]at h;exact⟨(j+1,o++[L[j].s.id]),⟨l,by simp;omega,by rw[x8w];exact h⟩,by simp only;omega,Le.of_eq (by simp only[x7u,x7n,x7z];rfl)⟩)
   | (have e:ST k L[j]=false:=by unfold ST;simp[*];done
      rw[z0j (fun q=>by rw[e]at q;cases q)]at h;exact⟨(j+1,o),⟨l,by simp only;omega,h⟩,by simp only;omega,Le.of_eq rfl⟩)
 .rw [x7e l]at h;simp only[List.filter_nil,z2q,x9q]at h;conv=>whnf
  repeat' (apply bD<;>intro _<;>first|omega|conv=>whnf)
  all_goals first
   |exact⟨_,.hd rfl (by simp),by rw[<-h];rfl⟩
theorem TU:∀(l:List Pr)(k:Nat),k<cntP l->∃j f,l[j]?=some f/\QP l j<=k/\k<QP l j+cntL f.body
 |[],k,h=>by rw[cntP]at h;omega
 | g::r,k,h=>by
   rw[cntP]at h;rcases x7m k (cntL g.body)with n|n
   .exact ⟨0,g,rfl,by rw[QP];omega,by rw[QP];omega⟩
   .obtain ⟨j,f,m,o,q⟩:=TU r (k-cntL g.body) (by omega);exact⟨j+1,f,by simpa using m,by rw[QP];omega,by rw[QP];omega⟩
namespace Own
end Own
open Go.Proofs
def rng(a b:Int)(v:Int):Prop:=a<=v/\v<=b
def x5g(l:List Int)(i:Nat):Int:=l.getD i 0
def srt(K:Int->Int)(l:List Int)(a b:Nat):Prop:=∀i k,a<=i->i<k->k<b->K (x5g l k)<=K (x5g l i)
def blk(K:Int->Int)(l:List Int)(bs n:Nat):Prop:=∀q,srt K l (q*bs) (min (q*bs+bs) n)
def q1i:List AV:=[.int .i64 (-1),.int .i64 0,.nils,.str [],.str [],.int .i64 0,.int .i64 0,.str [],.nils,.ff,.nils,.nils,.nils]
def Wc:∀(k:Nat)(l:List S)(_:cntL l<k)(_:cntL l<=1000000)(_:∀t∈flL l,okC t/\t.id ≠ -1),SpecP prog 201 [eSs l,.agg q1i] (fun r=>r=eSs l):=by
 intro k;induction k with
 |zero=>intro l h;omega
 | succ k z=>
   intro l J K y;have E:(S.avs l).length=l.length:=by rw[S.avs_eq,x7z]
   have A:=Wi l;refine sB MS func201 rfl call201 ?_;conv=>whnf
   repeat' (refine iM fun _=>?_;conv=>whnf)
   refine LoopK.inv QV (fun j:Nat=>⟨[(3,.p (.ip q1i)),(5,.hd 0 0 j),(9,.p (eSs l)),(10,.p (.int .i64 (S.avs l).length)),(11,.j j)],[(0,.own 117 13 (S.avs (l.take j)))]⟩) (fun j=>j<=l.length) (fun j=>l.length-j) 0
    (Le.mk [(0,.own 117 13 [])] (by simp[Chunk.new0];rfl) (by simp) (by simp) (.r (.cons (.nil x7v) (.r (.r (.r .nil))))) (.new x7v .nil)) (x7p _) ?_
   intro j I;rcases x7m j l.length with u|u
   .have F:=Wo (x7l u);have B:=WQ l[j];have n:=y _ (BK l _ (x7l u));have q:∀t,t∈flL l[j].L\/t∈flL l[j].M->okC t/\t.id ≠ -1:=fun t s=>y t (by
     have:t∈flS l[j]:=by
      rw[G2];exact x7j _ (x7b.2 s)
     have key:∀(m:List S)(i:Nat)(h:i<m.length),t∈flS m[i]->t∈flL m:=fun m=>by
      induction m with
      |nil=>intro i h;simp at h
      | cons a r z=>
        intro i h s;rw[flL];cases i with
        |zero=>exact x7b.2 (.inl s)
        |succ i=>exact x7b.2 (.inr (z i (by simpa using h) s))
     exact key l j u this)
    have c:=WM l[j] n.1.1 n.1.2.1 n.1.2.2.1 n.1.2.2.2;have C:=n.2;have d:=z l[j].L (by omega) (by omega) fun t s=>q t (.inl s);have g:=z l[j].M (by omega) (by omega) fun t s=>q t (.inr s);have o:j=(S.avs (l.take j)).length:=by rw[S.avs_eq,x7z,x8q];omega
    have w:S.avs (l.take (j+1))=S.avs (l.take j)++[.agg l[j].cells]:=by
     rw[S.avs_eq,S.avs_eq,x7r u,x7n];rfl
    generalize S.avs (l.take j)=acc at o w⊢;have e:l[j]=.mk l[j].id l[j].kind l[j].G l[j].name l[j].D l[j].x l[j].has l[j].args l[j].L l[j].M:=by cases l[j];rfl
    conv=>whnf
    repeat' (first|((first|refine dA ?_|refine x7g rfl ?_|refine aD ?_|refine bP ?_|refine UK (by omega) ?_|refine wI ?_|refine cP c ?_|refine cP d ?_|refine cP g ?_|refine z0w o rfl (by show(j+1)*208<=140737488355328;omega) (by show j+1<=9223372036854775807;omega) (fun x H=>by rcases x7y.1 H with rfl;exact⟨rfl,rfl⟩) ?_);conv=>whnf)|(apply bD<;>intro _<;>first|omega|conv=>whnf))
    all_goals first
     |exact⟨j+1,u,by omega,Le.of_eq (by rw[w];rfl)⟩
     |contradiction
   .have v:l.take j=l:=x7a u;have b:j=(S.avs l).length:=by rw[S.avs_eq,x7z];omega
    rw[v];conv=>whnf
    repeat' (apply bD<;>intro _<;>first|omega|conv=>whnf)
    exact⟨_,.hd rfl b,rfl⟩
theorem Rh:∀(l:List Pr)(j:Nat),QP l j<=cntP l
 |_,0=>by rw[QP];omega
 |[],j+1=>by rw[QP];omega
 |g::r,j+1=>by rw[QP,cntP];have:=Rh r j;omega
structure CopyF(p:Pg):Prop where
 A:p.A.length<=1000
 B:p.B.length<=1000000
 pr:∀f∈p.A,f.F.length<=1000000/\f.fin.length<=1000000/\f.C.length<=1000000/\cntL f.body<=100000/\∀t∈flL f.body,okC t/\t.id ≠ -1
def x5i(p:Pg):Heap:=[(2,.obj 25 [.p (eStrs p.B),.hd 1 0 p.A.length]),(1,.own 44 5 (p.A.map fun f=>.agg f.cells))]
def x2x(p:Pg):Heap:=[(6,.own 44 5 (p.A.map fun f=>.agg f.cells)),(1,.obj 25 [.p (eStrs p.B),.hd 6 0 p.A.length])]
def Ws(p:Pg)(h:CopyF p):SpecH prog 131 [.p (.agg p.cells),.p (.agg q1i)] [] (fun r H=>r=.agg [.p (eStrs p.B),.hd 1 0 p.A.length]/\H=x5i p):=by
 refine sH MR func131 rfl call131 ?_;conv=>whnf
 have w:=XW p.B h.B;have K:(p.A.map fun f=>AV.agg f.cells).length=p.A.length:=x7z _;have J:=h.A;repeat' ((first|(refine iM fun _=>?_)|refine x7g rfl ?_|refine cP w ?_);conv=>whnf)
 refine LoopK.inv QV (fun j:Nat=>⟨[(3,.p (.ip q1i)),(4,.ptr 2 0),(5,.ptr 0 0),(14,.p (.sl (p.A.map fun f=>AV.agg f.cells))),(15,.p (.int .i64 (p.A.map fun f=>AV.agg f.cells).length)),(16,.j j)],[(0,.obj 25 [.p (eStrs p.B),.hd 1 0 j]),(2,.obj 25 [.p .nils,.p .nils]),(1,.own 44 5 ((p.A.take j).map fun f=>.agg f.cells))]⟩) (fun j=>j<=p.A.length) (fun j=>p.A.length-j) 0
  (Le.mk [(1,.own 44 5 [])] (by simp[Chunk.new0];rfl) (by simp) (by simp) (.r (.r (.r (.r (.r (.r .nil)))))) (.cons rfl (.obj (.r (.cons (.nil x7v) .nil))) (.cons rfl (.refl _) (.new x7v .nil)))) (x7p _) ?_
 intro j m;rcases x7m j p.A.length with o|o
 .obtain ⟨L,n,e,I,b⟩:=h.pr _ (x7l o);have g:=XW p.A[j].F L;have D:=XW p.A[j].fin n;have E:=Wc (cntL p.A[j].body+1) p.A[j].body (by omega) (by omega) b;have v:((p.A.take j).map fun f=>AV.agg f.cells).length=j:=by rw[x7z,x8q];omega
  have t:((p.A.take (j+1)).map fun f=>AV.agg f.cells)=((p.A.take j).map fun f=>AV.agg f.cells)++[.agg p.A[j].cells]:=by
   rw[x7r o,x7n];rfl
  generalize((p.A.take j).map fun f=>AV.agg f.cells)=acc at v t⊢;have s:(p.A[j].C.map fun x=>AV.agg x.cells).length=p.A[j].C.length:=x7z _;conv=>whnf
  repeat' (first|((first|refine dA ?_|refine x7g rfl ?_|refine aD ?_|(refine iA fun _=>?_)|refine cP g ?_|refine cP D ?_|refine cP E ?_|refine z0w rfl rfl (by rw[s];show(0+p.A[j].C.length)*24<=140737488355328;omega) (by rw[s];show 0+p.A[j].C.length<=9223372036854775807;omega) (fun x d=>by obtain⟨y,_,rfl⟩:=x7d.1 d;exact⟨rfl,rfl⟩) ?_);conv=>whnf)|(apply bD<;>intro _<;>first|omega|conv=>whnf)|(refine x7g ?_ ?_<;>conv=>whnf))
  all_goals
   refine Sn QV (k:=4) 41 p.A[j].cells rfl rfl rfl (fun q u c l m=>?_) ?_
   .match q,l,m with
    |0,l,m=>cases l;cases m;exact .inl ⟨_,rfl,Sub.refl _⟩
    |1,l,m=>cases l;cases m;exact .inr ⟨_,rfl,by simp,rfl⟩
    |2,l,m=>cases l;cases m;exact .inl ⟨_,rfl,Sub.refl _⟩
    |3,l,m=>cases l;cases m;exact .inl ⟨_,rfl,Sub.refl _⟩
    |4,l,m=>cases l;cases m;exact .inl ⟨_,rfl,Sub.refl _⟩
    |q+5,l,m=>simp at l
   conv=>whnf
   repeat' ((first|refine x7g rfl ?_|refine aD ?_|refine bP ?_|refine wI ?_|refine z0w v.symm rfl (by show(j+1)*112<=140737488355328;omega) (by show j+1<=9223372036854775807;omega) (fun x d=>by rcases x7y.1 d with rfl;exact⟨rfl,rfl⟩) ?_);conv=>whnf)
   exact⟨j+1,o,by omega,Le.of_eq (by rw[t];rfl)⟩
 .have G:((p.A.take j).map fun f=>AV.agg f.cells)=p.A.map fun f=>.agg f.cells:=by
   rw[x7a o]
  have z:j=p.A.length:=by omega
  subst z;rw[G];conv=>whnf
  repeat' (first|(refine x7g rfl ?_;conv=>whnf)|(apply bD<;>intro _<;>first|omega|conv=>whnf))
  exact⟨_,x8z _,rfl,rfl⟩
def GL(p:Pg)(h:CopyF p):SpecH prog 72 [.p (.agg p.cells)] [] (fun r H=>r=.agg [.p (eStrs p.B),.hd 6 0 p.A.length]/\H=x2x p):=by
 refine sH PO func72 rfl call72 ?_;conv=>whnf
 repeat' ((first|refine x7g rfl ?_|(refine cH [] 5 (Ws p h) ?_ (hH:=z0z)));conv=>whnf)
 exact⟨_,x8z _,rfl,rfl⟩
def NC(p:Pg)(j:Nat):List Pr:=(Dq 0 p.A).take j++p.A.drop j
theorem Ns:∀(l:List Pr)(n j:Nat)(f:Pr),l[j]?=some f->(Dq n l)[j]?=some ⟨f.name,f.C,f.F,nmL (n+QP l j) f.body,f.fin⟩
 |g::r,n,0,f,h=>by cases h;rw[Dq];rfl
 | g::r,n,j+1,f,h=>by
   rw[Dq,z3w,Ns r (n+cntL g.body) j f (by simpa using h),QP,z0l]
theorem GJ:∀(l:List Pr)(n:Nat),(Dq n l).length=l.length
 |[],n=>rfl
 |g::r,n=>by rw[Dq,x8j,x8j,GJ r]
def Ep(p:Pg){j:Nat}(h:j<=p.A.length):(NC p j).length=p.A.length:=by
 unfold NC;rw[x7u,x8q,x9i,GJ];omega
def Eb(p:Pg){j:Nat}(h:j<p.A.length):(NC p j)[j]?=some p.A[j]:=by
 unfold NC;rw[x8f (by rw[x8q,GJ];omega),x8q,GJ,x9f];rw[show j+(j-min j p.A.length)=j by omega,x7x h]
def C3(p:Pg){j:Nat}(l:j<p.A.length):NC p (j+1)=(NC p j).set j ⟨p.A[j].name,p.A[j].C,p.A[j].F,nmL (QP p.A j) p.A[j].body,p.A[j].fin⟩:=by
 have h:=Ns p.A 0 j _ (x7x l);rw[z0q]at h;unfold NC;have m:((Dq 0 p.A).take j).length=j:=by rw[x8q,GJ];omega
 rw[z1x _ _ (by omega),m,z1a,x8b l,z1g,List.take_add_one,h];simp
def El{l:List Pr}{j:Nat}(h:j<l.length):QP l (j+1)=QP l j+cntL l[j].body:=by
 induction l generalizing j with
 |nil=>simp at h
 | cons g r m=>
   cases j with
   |zero=>rw[QP,QP,QP];simp
   | succ j=>
     rw[QP,QP,m (by simpa using h)];simp only[List.getElem_cons_succ];omega
def MV(p:Pg)(h:CopyF p)(J:cntP p.A<=100000):SpecP prog 73 [.agg p.cells] (fun r=>r=.agg (q6g p).cells):=by
 refine sB FM func73 rfl call73 ?_;conv=>whnf
 have H:(p.A.map fun f=>AV.agg f.cells).length=p.A.length:=x7z _;have G:=h.A;repeat' ((first|(refine iM fun _=>?_)|refine x7g rfl ?_|(refine cH [] 20 (GL p h) ?_ (hH:=z0z)));conv=>whnf)
 refine LoopK.inv QV (fun j:Nat=>⟨[(1,.p (.ip p.cells)),(2,.ptr 1 0),(3,.ptr 0 0),(4,.j (QP p.A j)),(10,.j p.A.length),(11,.j j)],[(0,.obj 25 [.p (eStrs p.B),.hd 26 0 p.A.length]),(26,.own 44 5 ((NC p j).map fun f=>.agg f.cells)),(1,.obj 25 [.p .nils,.p .nils])]⟩) (fun j=>j<=p.A.length) (fun j=>p.A.length-j) 0
  (Le.of_eq (by rw[show NC p 0=p.A from rfl,show QP p.A 0=0 by rw[QP]];rfl)) (x7p _) ?_
 intro j e;have x:=Ep p e;rcases x7m j p.A.length with q|q
 .obtain ⟨K,b,d,D,w⟩:=h.pr _ (x7l q);have E:=Rh p.A j;have g:=DE (cntL p.A[j].body+1) p.A[j].body (by omega) (QP p.A j) (by omega) fun t I=>(w t I).1;have m:((NC p j).map fun f=>AV.agg f.cells)[j]?=some (.agg p.A[j].cells):=by rw[x7k,Eb p q];rfl
  have n:((NC p j).map fun f=>AV.agg f.cells).set j (.agg (Pr.mk p.A[j].name p.A[j].C p.A[j].F (nmL (QP p.A j) p.A[j].body) p.A[j].fin).cells)=(NC p (j+1)).map fun f=>AV.agg f.cells:=by
   rw[C3 p q,<-x8o]
  have y:=El q;generalize((NC p j).map fun f=>AV.agg f.cells)=row at m n⊢;conv=>whnf
  repeat' (first|((first|refine x7g rfl ?_|(refine iA fun _=>?_)|refine wI ?_|refine DrawK.of QV mixed (.cons 3 false (.cons 4 false (.cons 5 false (.cons 6 false (.cons 7 false (.cons 8 false (.cons 9 false (.cons 0 false (.cons 2 false (.fork 1 (.cons 10 true (.cons 11 false (.cons 12 false (.cons 14 true (.cons 15 true (.cons 13 false (.cons 16 true (.cons 17 true .nil)))))))) 10 (.cons 1 true (.cons 11 false (.cons 12 false (.cons 14 true (.cons 15 true (.cons 13 false (.cons 16 true (.cons 17 true .nil)))))))))))))))))) (by kernel_rfl) ?_|refine cP g ?_|refine x8p j rfl q ?_|refine z0d j 3 (.agg p.A[j].cells) (.agg (Pr.mk p.A[j].name p.A[j].C p.A[j].F (nmL (QP p.A j) p.A[j].body) p.A[j].fin).cells) (by show(0+j)*5+3=j*5+3;omega) m (z2w rfl) rfl ?_);conv=>whnf)|(apply bD<;>intro _<;>first|omega|conv=>whnf)|(refine x7g ?_ ?_<;>conv=>whnf))
  all_goals exact⟨j+1,q,by omega,Le.of_eq (by rw[<-n,y];rfl)⟩
 .have v:j=p.A.length:=by omega
  subst v;have z:NC p p.A.length=(q6g p).A:=by
   unfold NC q6g;rw[x7a (by rw[GJ];exact x7s _),x7e (x7s _),x9q]
  have u:p.A.length=((q6g p).A.map fun f=>AV.agg f.cells).length:=by rw[x7z,<-z,x]
  rw[z];conv=>whnf
  repeat' (first|(refine x7g rfl ?_;conv=>whnf)|(apply bD<;>intro _<;>first|omega|conv=>whnf))
  refine⟨_,.agg (cs:=(q6g p).cells) rfl fun i l c o s=>?_,rfl⟩
  match i,o,s with
  |0,o,s=>cases o;cases s;exact .p (Sub.refl _)
  | 1,o,s=>
    cases o;cases s;exact .hd rfl u
  |i+2,o,s=>simp at o
theorem N7{k:Nat}:∀{sl:List (Nat×LV)},(∀x∈sl,x.2.kill k=x.2)->∀j,(getS sl j).kill k=getS sl j
 |[],_,_=>rfl
 | (i,l)::r,h,j=>by
   simp only[getS];cases i==j with
   |true=>exact h _ x7v
   |false=>exact N7 (fun x m=>h x (x7j _ m)) j
def CD{N:Nat}{sl:List (Nat×LV)}{H H':Heap}{k q:Nat}{e J:TypeId}{sz:Nat}{es:List AV}{ls:List LV}{cs:List AV}(hg:getH H k=some (.own e sz es))(hq:getH H q=some (.obj J ls))(B:ls.length=cs.length)(U:∀(j:Nat)(l:LV)(c:AV),ls[j]?=some l->cs[j]?=some c->(∃a,l=.p a/\Sub a c)\/(∃n,l=.hd k 0 n/\n=es.length/\c=.sl es))(hsl:∀j,(getS sl j).kill k=getS sl j)(o:(H'.map (·.1)).Sublist (H.map (·.1)))(hH:∀j c',(j,c')∈H'->j≠k/\((j=q/\c'=.obj J (cs.map .p))\/((j,c')∈H/\c'.kill k=c'))):Le N ⟨sl,H⟩ ⟨sl,H'⟩:=fun σ β a w t=>by
 have I:∀{τ:Mem},σ.le τ->(∀v,RepL σ β (.hd k 0 es.length) v->Rep τ (.sl es) v)->(Chunk.obj J ls).holds σ β w q->(Chunk.obj J (cs.map .p)).holds τ β w q:=fun {τ} s D z=>by
  obtain⟨i',vs',Z,V,hn',R⟩:=z;refine⟨i',vs',Z,V,by simpa[B]using hn',fun j l h=>?_⟩;rw[x7k]at h;cases L:cs[j]?with
  |none=>rw[L]at h;cases h
  | some c=>
    rw[L]at h;cases h;have C:j<ls.length:=by rw[B];exact(x7h.1 L).1
    obtain⟨u,O,K⟩:=R j _ (x7x C);refine⟨u,O,?_⟩;rcases U j _ c (x7x C) L with⟨a',P,h6⟩|⟨n,P,rfl,rfl⟩
    .rw [P]at K;cases K with
     |p hp=>exact .p (h6 _ _ (hp.mono s))
    .rw [P]at K;exact .p (D _ K)
 have T:=t.heap.chunks q _ (QJ hq);rcases ZG.1 (t.heap.chunks k _ (QJ hg))with⟨Q,rfl⟩|⟨i,vs,Y,hisz,hh,hn,hle',hmax,hE⟩
 .refine ⟨σ,β,⟨t.size,t.defers,t.E,⟨t.heap.mem,fun j c' h=>?_,o.nodup t.heap.nodup,fun j h=>t.heap.apart j (o.subset h),fun j h j' hj'=>t.heap.inj j (o.subset h) j' (o.subset hj')⟩⟩,Mem.le_refl σ,Frm.refl _ _,fun _ h0 y=>absurd h0 y,fun b ⟨j,h,r⟩=>.inl ⟨j,o.subset h,r⟩,fun _ _ _=>rfl⟩;rcases(hH j c' h).2 with⟨rfl,rfl⟩|⟨y,_⟩
  .refine I (Mem.le_refl σ) (fun v F=>?_) T;rcases F.hdI with⟨_,_,_,he⟩|⟨i,_,d,_⟩
   .rw [he];exact .nilsl
   .rw [Q]at d;cases d
  .exact t.heap.chunks j _ y
 .refine t.lay Y (QD hg) hh (fun τ s hτ j v F=>?_) (fun τ s hτ j c' h=>?_) (o.nodup t.heap.nodup)
  .show RepL τ β (getS sl j) v;rw[<-hsl j];exact(F.kill k).mono s
  .obtain ⟨y,A⟩:=hH j c' h;rcases A with⟨rfl,rfl⟩|⟨A,O⟩
   .refine ⟨y,_,QJ hq,I s fun v F=>?_⟩;rcases F.hdI with⟨d,_⟩|⟨i',oo,d,hl,M,rfl⟩
    .rw [Y]at d;cases d
    .rw [Y]at d;cases d;have hoo:oo=0:=by
      rcases M with M|M
      .simpa using M
      .omega
     subst hoo;obtain⟨u,hu⟩ : ∃u:Nat->Nat->Value,∀(m:Nat)(x:AV)(j:Nat)(c:AV),es[m]?=some x->x.cells[j]?=some c->vs[m*sz+j]?=some (u m j)/\Rep σ c (u m j):=by
      refine⟨fun m j=>(vs[m*sz+j]?).getD undef,fun m x j c G h=>?_⟩;obtain⟨v,y,A⟩:=hE.rep m x j c G h;rw[x8r]at y;split at y
      .have g:vs[m*sz+j]?=some v:=by simpa using y
       exact⟨by simp[g],by simpa[g]using A⟩
      .cases y
     exact .sl es i.blk 0 _ sz vs u hτ (by omega) (by omega) hE.size (fun m x j c G h=>by simpa using(hu m x j c G h).1) fun m x j c G h=>(hu m x j c G h).2.mono s
   .refine ⟨y,c',A,fun z=>?_⟩;have:=(z.kill k).mono s fun _ _ _ _=>rfl
    rwa[O]at this
end Go.Ab
