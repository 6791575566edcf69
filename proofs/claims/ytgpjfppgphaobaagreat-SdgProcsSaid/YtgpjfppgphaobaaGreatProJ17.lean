/- aug: what a procedure's traps are, by its places. -/
import Derived.Test.YtgpjfppgphaobaaGreatProJ16
set_option linter.all false
set_option maxRecDepth 100000
set_option maxHeartbeats 16000000
namespace Go.Ab
open Go.Proofs.Tryz
open Go.Proofs
variable {a i:Int}
section
variable {p:Pg}{j:Nat}{f:Pr}
def Ue(h:0<=i/\i<(QY f.body+2:Nat)):plP p j f (QB p j (QY f.body+2:Nat) i)/\ixI p j f (QB p j (QY f.body+2:Nat) i)=i:=by
 unfold QB ixI KU plP loI hiI;constructor
 ·(repeat' split)<;>omega
 ·(repeat' split)<;>omega
def q4u{x:Int}(h:plP p j f x):QB p j (QY f.body+2:Nat) (ixI p j f x)=x:=by
 have k:=Ue (p:=p) (j:=j) (f:=f) (KY h);exact Ms k.1 h k.2
def P8:prsW (QQ p j f) f=(QQ p j f).real.map (ixP p j f (QY f.body+2:Nat)):=rfl
def q6r(h:QL p=true)(n:p.A[j]?=some f):∀t∈prsW (QQ p j f) f,(0<=t.1/\t.1<(QY f.body+2:Nat))/\0<=t.2/\t.2<(QY f.body+2:Nat):=fun t k=>by
 rw[P8]at k;obtain⟨s,o,rfl⟩:=x8s.1 k;obtain⟨l,m⟩:=VE h n s o;exact⟨KY l,KY m⟩
def wE(p:Pg)(j:Nat)(f:Pr):Int->Int->Prop:=rowE (QA (QY f.body+2) (prsW (QQ p j f) f)).1
def wR(p:Pg)(j:Nat)(f:Pr):Int->Int->Prop:=stR (QQ p j f).real
def x0m(h:QL p=true)(q:p.A[j]?=some f){k:Int}:wE p j f i k ↔ ∃a b,wR p j f a b/\ixI p j f a=i/\ixI p j f b=k:=by
 unfold wE wR;rw[A1];constructor
 .rintro ⟨l,_,_⟩;rw[P8]at l;obtain⟨s,m,n⟩:=x8s.1 l;exact⟨s.src,s.dst,⟨s,m,rfl,rfl⟩,z0o Prod.fst n,z0o Prod.snd n⟩
 .rintro ⟨a,b,⟨s,m,rfl,rfl⟩,rfl,rfl⟩;obtain⟨l,o⟩:=VE h q s m;exact⟨x8s.2 ⟨s,m,rfl⟩,Bn (KY l),Bn (KY o)⟩
def x2s(h:QL p=true)(k:p.A[j]?=some f){b:Int}(l:wR p j f a b):plP p j f a/\plP p j f b:=by
 obtain⟨s,m,rfl,rfl⟩:=l;exact VE h k s m
def q6s(h:QL p=true)(o:p.A[j]?=some f){b:Int}(ha:plP p j f a)(w:plP p j f b):Rch (wE p j f) (ixI p j f a) (ixI p j f b)↔Rch (wR p j f) a b:=by
 constructor
 .intro q;obtain⟨c,n,m,l⟩:=q.closed (S:=fun k=>∃c,plP p j f c/\ixI p j f c=k/\Rch (wR p j f) a c) (by
   rintro i k ⟨c,n,m,l⟩ t;obtain⟨x,y,r,u,v⟩:=(x0m h o).1 t;have s:=x2s h o r;have:x=c:=Ms s.1 n (by rw[u,m]);subst this;exact⟨y,s.2,v,.tail l r⟩) ⟨a,ha,rfl,.refl⟩
  rw[<-Ms n w m];exact l
 .intro q;exact(q.closed (S:=fun c=>plP p j f c/\Rch (wE p j f) (ixI p j f a) (ixI p j f c)) (fun x y ⟨n,m⟩ l=>⟨(x2s h o l).2,.tail m ((x0m h o).2 ⟨x,y,l,rfl,rfl⟩)⟩) ⟨ha,.refl⟩).2
def x2w(h:QL p=true)(l:p.A[j]?=some f){b:Int}(ha:plP p j f a)(k:plP p j f b):sccP (wE p j f) (ixI p j f a) (ixI p j f b)↔sccP (wR p j f) a b:=by
 unfold sccP;rw[q6s h l ha k,q6s h l k ha]
def BB(p:Pg)(j:Nat)(f:Pr)(i:Int):Int:=(UR (QQ p j f) f).getD i.toNat 0
def Kk:UR (QQ p j f) f=Wq (QY f.body+2) (QA (QY f.body+2) (prsW (QQ p j f) f)).1:=rfl
def SC(h:0<=i/\i<(QY f.body+2:Nat)):MinP (wE p j f) i (BB p j f i):=by
 unfold BB;rw[Kk];exact Wx (KW _ _).1 h
def q4z{k:Nat}(h:k<QY f.body+2):0<=(UR (QQ p j f) f).getD k 0/\(UR (QQ p j f) f).getD k 0<(QY f.body+2:Nat):=by
 rw[Kk];exact ST (KW _ _).1 h
def SS:(UR (QQ p j f) f).length=QY f.body+2:=by rw[Kk,BP]
theorem MinP.same{E:Int->Int->Prop}{x y v:Int}(h:MinP E x v)(l:sccP E x y):MinP E y v:=⟨l.symm.trans h.scc,fun z m=>h.le z (l.trans m)⟩
def q4x{k:Int}(n:0<=i/\i<(QY f.body+2:Nat))(o:0<=k/\k<(QY f.body+2:Nat)):BB p j f i=BB p j f k↔sccP (wE p j f) i k:=by
 have l:=SC (p:=p) (j:=j) n;have h:=SC (p:=p) (j:=j) o;constructor
 .intro m;rw[<-m]at h;exact l.scc.trans h.scc.symm
 .intro q;exact(l.same q).uniq h
def LY(h:QL p=true)(l:p.A[j]?=some f){b:Int}(ha:plP p j f a)(k:plP p j f b):BB p j f (ixI p j f a)=BB p j f (ixI p j f b)↔sccP (wR p j f) a b:=by
 rw[q4x (KY ha) (KY k),x2w h l ha k]
structure TrapP(p:Pg)(j:Nat)(f:Pr)(l:List Int)(r:Int):Prop where
 pl:plP p j f r
 mem:∀b,b∈l↔plP p j f b/\sccP (wR p j f) r b
 cl:∀b c,sccP (wR p j f) r b->wR p j f b c->sccP (wR p j f) r c
 n0:¬sccP (wR p j f) r 0
 nx:¬sccP (wR p j f) r (-1)
def OT{l:Int->Int}{part:List Int}{i q:Nat}{b:Int}:b∈BO l part i q ↔ ∃k:Nat,k<q/\part.getD k 0=i/\l k=b:=by
 unfold BO;constructor
 .intro h;obtain⟨k,o,rfl⟩:=x8s.1 h;obtain⟨m,n⟩:=z0v.1 o;exact⟨k,z0t.1 m,z2k.1 n,rfl⟩
 .rintro ⟨k,m,n,rfl⟩;exact x8s.2 ⟨k,z0v.2 ⟨z0t.2 m,z2k.2 n⟩,rfl⟩
def ix0:ixI p j f 0=0:=by unfold ixI KU;rw[if_pos rfl]
def ix1:ixI p j f (-1)=((QY f.body+2:Nat):Int)-1:=by unfold ixI KU;rw[if_neg (by omega),if_pos rfl]
def pl0:plP p j f 0:=.inl rfl
def pl1:plP p j f (-1):=.inr (.inl rfl)
def Uo(k:Nat):(UR (QQ p j f) f).getD k 0=BB p j f k:=by
 unfold BB;rw[z0x]
def q8o(h:QL p=true)(l:p.A[j]?=some f){i:Nat}(y:i<QY f.body+2):(P3 (QY f.body+2) (UR (QQ p j f) f) (prsW (QQ p j f) f)).getD i false=true ↔
  BB p j f (ixI p j f 0)=i\/BB p j f (ixI p j f (-1))=i\/∃a b,wR p j f a b/\¬sccP (wR p j f) a b/\BB p j f (ixI p j f a)=i:=by
 rw[q3c (by omega) (fun k z=>q4z z) y fun t n=>(q6r h l t n).1,ix0,ix1];have w:(UR (QQ p j f) f).getD (QY f.body+2-1) 0=BB p j f (((QY f.body+2:Nat):Int)-1):=by
  unfold BB;congr 1;omega
 have e0:(UR (QQ p j f) f).getD 0 0=BB p j f 0:=rfl;rw[e0,w];refine or_congr z4r (or_congr z4r ?_);constructor
 .rintro ⟨t,n,o,q⟩;rw[P8]at n;obtain⟨s,m,rfl⟩:=x8s.1 n;obtain⟨r,u⟩:=VE h l s m;exact⟨s.src,s.dst,⟨s,m,rfl,rfl⟩,fun v=>o ((LY h l r u).2 v),q⟩
 .rintro ⟨a,b,⟨s,m,rfl,rfl⟩,o,q⟩;obtain⟨r,u⟩:=VE h l s m;exact⟨ixP p j f (QY f.body+2:Nat) s,by rw[P8];exact x8s.2 ⟨s,m,rfl⟩,fun x=>o ((LY h l r u).1 x),q⟩
def Rf{l:List Int}:l∈trapsW (QQ p j f) f ↔ ∃i:Nat,i<QY f.body+2/\BB p j f i=i/\(P3 (QY f.body+2) (UR (QQ p j f) f) (prsW (QQ p j f) f)).getD i false=false/\l=BO (QB p j (QY f.body+2:Nat)) (UR (QQ p j f) f) i (QY f.body+2):=by
 unfold trapsW Wn;rw[SS];constructor
 .intro o;obtain⟨i,n,rfl⟩:=x8s.1 o;obtain⟨k,h⟩:=z0v.1 n;unfold Gv at h;rw[x9w,z2k,z2v,Uo]at h;exact⟨i,z0t.1 k,h.1,h.2,rfl⟩
 .rintro ⟨i,k,h,m,rfl⟩;refine x8s.2 ⟨i,z0v.2 ⟨z0t.2 k,?_⟩,rfl⟩;unfold Gv;rw[x9w,z2k,z2v,Uo];exact⟨h,m⟩
def q5d(h:QL p=true)(r:p.A[j]?=some f){i:Nat}(u:i<QY f.body+2)(s:BB p j f i=i)(b:Int):
  b∈BO (QB p j (QY f.body+2:Nat)) (UR (QQ p j f) f) i (QY f.body+2)↔plP p j f b/\sccP (wR p j f) (QB p j (QY f.body+2:Nat) i) b:=by
 obtain⟨o,q⟩:=Ue (p:=p) (j:=j) (f:=f) (i:=i) (by omega);rw[OT];constructor
 .rintro ⟨k,l,m,rfl⟩;obtain⟨n,t⟩:=Ue (p:=p) (j:=j) (f:=f) (i:=k) (by omega);refine⟨n,(LY h r o n).1 ?_⟩;rw[q,t,s,<-Uo,m]
 .rintro ⟨l,m⟩;have n:=KY l;refine⟨(ixI p j f b).toNat,by omega,?_,?_⟩
  .rw [Uo,show(((ixI p j f b).toNat:Nat):Int)=ixI p j f b by omega,<-(LY h r o l).2 m,q,s]
  .rw [show(((ixI p j f b).toNat:Nat):Int)=ixI p j f b by omega,q4u l]
def OS(h:QL p=true)(n:p.A[j]?=some f){l:List Int}(z:l∈trapsW (QQ p j f) f):∃r,TrapP p j f l r:=by
 obtain⟨i,v,w,d,rfl⟩:=Rf.1 z;obtain⟨s,x⟩:=Ue (p:=p) (j:=j) (f:=f) (i:=i) (by omega);have k:¬_:=fun e=>by
  have:=(q8o h n v).2 e;rw[d]at this;cases this
 have m:BB p j f (ixI p j f (QB p j (QY f.body+2:Nat) i))=i:=by rw[x,w]
 refine⟨_,s,q5d h n v w,fun b c u o=>?_,fun t=>k (.inl ?_),fun t=>k (.inr (.inl ?_))⟩
 .have y:=x2s h n o;by_cases q:sccP (wR p j f) b c
  .exact u.trans q
  .refine absurd (.inr (.inr ⟨b,c,o,q,?_⟩)) k;rw[<-(LY h n s y.1).2 u,m]
 .rw [<-(LY h n s pl0).2 t,m]
 .rw [<-(LY h n s pl1).2 t,m]
end
def P9{p:Pg}{j:Nat}{f:Pr}(n:p.A[j]?=some f)(m:cntP p.A<=200):(QQ p j f).real.length<=100000:=by
 obtain⟨_,_,_,k,h⟩:=QU p;obtain⟨_,_,o,_⟩:=h j f n;have q:=Lx (QM p j f);have l:=Vt p j f;show(VD (QM p j f)).length<=100000;omega
def SB{p:Pg}(h:QL p=true){j:Nat}{f:Pr}(o:p.A[j]?=some f):∀l∈itsOf p j f,∀s∈fOf l,okSt s:=fun l n s k=>by
 obtain⟨v,_⟩:=QG h;obtain⟨_,_,t⟩:=XZ h;obtain⟨_,_,_,q,m⟩:=QU p;obtain⟨_,_,u,_⟩:=m j f o;have w:=VS v o (BU n);have r:=(Jc n).1;unfold fOf at k;split at k
 .rw [x8l.1 k];unfold okI at r;unfold okSt;constructor
  .show l.s.id≠_;omega
  .show l.next≠_;omega
 .cases k
def Ck{p:Pg}(h:QL p=true){j:Nat}{f:Pr}(s:p.A[j]?=some f){l:List Int}(q:l∈trapsW (QQ p j f) f):l.length<=QY f.body+2/\∀id∈l,(QC p.A j:Int)+1<=id/\id<=(QC p.A j+QY f.body:Nat):=by
 constructor
 .obtain ⟨i,_,_,_,rfl⟩:=Rf.1 q;exact Rh _ _ _ _
 .intro id m;obtain⟨r,n⟩:=OS h s q;obtain⟨k,o⟩:=(n.mem id).1 m;rcases k with rfl|rfl|k
  .exact absurd o n.n0
  .exact absurd o n.nx
  .exact k
def q7x{p:Pg}(h:QL p=true){j:Nat}{f:Pr}(k:p.A[j]?=some f):WayT (QQ p j f) f (QY f.body+2):=by
 obtain⟨_,_,m⟩:=XZ h;obtain⟨_,_,_,q,o⟩:=QU p;obtain⟨_,_,u,_⟩:=o j f k;refine⟨rfl,k,by show cntP p.A<=1000;omega,by omega,by omega,x9r (P9 k m) (by decide),q6r h k,?_,fun l t=>?_,fun s v=>(Zc h k).2.2 s (((Xf h k).2 s).1 v),SB h k⟩
 .have:=Rg (QB p j (QY f.body+2:Nat)) (UR (QQ p j f) f) (P3 (QY f.body+2) (UR (QQ p j f) f) (prsW (QQ p j f) f)) (QY f.body+2);have e:trapsW (QQ p j f) f=Wn (QB p j (QY f.body+2:Nat)) (UR (QQ p j f) f) (P3 (QY f.body+2) (UR (QQ p j f) f) (prsW (QQ p j f) f)) (QY f.body+2):=by
   unfold trapsW;rw[SS];rfl
  rw[e];omega
 .obtain ⟨w,r⟩:=Ck h k t;refine⟨by omega,fun id n=>?_⟩;have:=r id n;show 1<=id/\id<=(sheetOf p).l.length;omega
instance (a b:Step):Decidable (W4 a b):=inferInstanceAs (Decidable (_\/_))
instance:DecidableEq Step:=fun a b=>decidable_of_iff (a.src=b.src/\a.dst=b.dst/\a.kind=b.kind) ⟨fun h=>GO h.1 h.2.1 h.2.2,fun h=>by rw[h];exact⟨rfl,rfl,rfl⟩⟩
def q9g{a b:Step}(ha:okSt a)(k:okSt b)(h:BI b a=false):(a.src=b.src/\a.dst=b.dst/\a.kind<=b.kind)\/W4 a b:=by
 rw[z4e,ne_eq,HN]at h;unfold W4;by_cases l:XG a.src=XG b.src
 .by_cases m:XG a.dst=XG b.dst
  .exact .inl ⟨YC ha.1 k.1 l,YC ha.2 k.2 m,by omega⟩
  .exact .inr (by omega)
 .exact .inr (by omega)
theorem Vw:∀(l:List Step)(a:Step),okSt a->(∀s∈l,okSt s)->(a::l).Pairwise (fun a b=>BI b a=false)->
  (∀s∈XW a l,W4 a s)/\(XW a l).Pairwise W4/\(∀s∈XW a l,s∈l)/\∀s∈l,(s.src=a.src/\s.dst=a.dst/\a.kind<=s.kind)\/∃s'∈XW a l,s'.src=s.src/\s'.dst=s.dst/\s'.kind<=s.kind
 |[],a,_,_,_=>by simp[XW]
 | b::r,a,ha,hl,h=>by
   have w:=hl b x8p;have g:∀s∈r,okSt s:=fun s n=>hl s (x8b _ n);rw[z1p]at h;obtain⟨c,d⟩:=h;obtain⟨u,x,y,z⟩:=Vw r b w g d;have q:=q9g ha w (c b x8p);rw[XW];cases n:ZN b a with
   | true=>
     unfold ZN at n;simp only[x9w,z0w]at n;have e:a.kind<=b.kind:=by
      rcases q with m|m
      .exact m.2.2
      .unfold W4 at m;rw[n.1,n.2]at m;omega
     rw[x9y];refine⟨fun s k=>?_,x,fun s k=>x8b _ (y s k),fun s k=>?_⟩
     .have:=u s k;unfold W4 at this⊢
      rwa[<-n.1,<-n.2]
     .rcases x8r.1 k with rfl|k
      .exact .inl ⟨n.1,n.2,e⟩
      .rcases z s k with⟨m,o,v⟩|m
       .exact .inl ⟨by rw[m,n.1],by rw[o,n.2],by omega⟩
       .exact .inr m
   | false=>
     have t:W4 a b:=by
      rcases q with m|m
      .unfold ZN at n;simp[m.1,m.2.1]at n
      .exact m
     rw[x9p];refine⟨fun s k=>?_,z1p.2 ⟨u,x⟩,fun s k=>?_,fun s k=>?_⟩
     .rcases x8r.1 k with rfl|k
      .exact t
      .exact W5 t (u s k)
     .rcases x8r.1 k with rfl|k
      .exact x8p
      .exact x8b _ (y s k)
     .rcases x8r.1 k with rfl|k
      .exact .inr ⟨s,x8p,rfl,rfl,Int.le_refl _⟩
      .rcases z s k with⟨m,o,v⟩|⟨s',m,o⟩
       .exact .inr ⟨b,x8p,m.symm,o.symm,v⟩
       .exact .inr ⟨s',x8b _ m,o⟩
def HH{l:List Step}(u:∀s∈l,okSt s):(VD l).Pairwise W4/\(∀s∈VD l,s∈l)/\∀s∈l,∃s'∈VD l,s'.src=s.src/\s'.dst=s.dst/\s'.kind<=s.kind:=by
 have n:∀s,s∈GY l↔s∈l:=fun s=>(G9 l).mem_iff;have o:=Xe l;unfold VD;cases v:GY l with
 | nil=>
   rw[v]at n;refine⟨by simp[MR],by simp[MR],fun s o=>?_⟩;have:=(n s).2 o;cases this
 | cons a r=>
   rw[v]at n o;have m:∀s∈a::r,okSt s:=fun s h=>u s ((n s).1 h);obtain⟨w,x,y,z⟩:=Vw r a (m a x8p) (fun s h=>m s (x8b _ h)) o;rw[MR];refine⟨z1p.2 ⟨w,x⟩,fun s k=>?_,fun s k=>?_⟩
   .rcases x8r.1 k with rfl|k
    .exact (n s).1 x8p
    .exact (n s).1 (x8b _ (y s k))
   .rcases x8r.1 ((n s).2 k)with rfl|k
    .exact ⟨s,x8p,rfl,rfl,Int.le_refl _⟩
    .rcases z s k with⟨q,t,b⟩|⟨s',q,t⟩
     .exact ⟨a,x8p,q.symm,t.symm,b⟩
     .exact ⟨s',x8b _ q,t⟩
def IG{l:List Step}(h:l.Pairwise W4){a b:Step}(ha:a∈l)(t:b∈l)(q:a.src=b.src)(s:a.dst=b.dst):a=b:=by
 have v:∀{x y:Step},x.src=y.src->x.dst=y.dst->¬W4 x y:=fun {x y} o e2 n=>by
  unfold W4 at n;rw[o,e2]at n;omega
 induction h with
 |nil=>cases ha
 | @cons c r u z w=>
   rcases x8r.1 ha with o|m
   .rcases x8r.1 t with e2|k
    .rw [o,e2]
    .exact absurd (u b k) (by rw[<-o];exact v q s)
   .rcases x8r.1 t with e2|k
    .exact absurd (u a m) (by rw[<-e2];exact v q.symm s.symm)
    .exact w m k
def SN{l m:List Step}(t:∀s∈l,okSt s)(w:m.Pairwise W4)(x:∀s∈m,s∈l)(y:∀s∈l,∃s'∈m,s'.src=s.src/\s'.dst=s.dst/\s'.kind<=s.kind):VD l=m:=by
 obtain⟨g1,u,v⟩:=HH t;refine Dx g1 w fun s=>⟨fun n=>?_,fun n=>?_⟩
 .obtain ⟨a,ha,h,k,z⟩:=y s (u s n);obtain⟨b,r,o,q,c⟩:=v a (x a ha);have:=IG g1 r n (o.trans h) (q.trans k);subst this;have:a=b:=GO h k (by omega);rw[<-this];exact ha
 .obtain ⟨a,ha,h,k,z⟩:=v s (x s n);obtain⟨b,r,o,q,c⟩:=y a (u a ha);have:=IG w r n (o.trans h) (q.trans k);subst this;have:a=b:=GO h k (by omega);rw[<-this];exact ha
def x2z:(QQ someP 1 f1).real=[⟨0,5,1⟩,⟨5,6,1⟩,⟨6,7,1⟩,⟨6,8,1⟩,⟨7,-1,1⟩,⟨8,-1,1⟩]:=x1e
def x2x:(QQ someP 0 f0).real=[⟨0,1,1⟩,⟨1,2,1⟩,⟨2,3,1⟩,⟨3,4,1⟩,⟨4,-1,1⟩]:=x1a
def x3w:prsW (QQ someP 1 f1) f1=[(0,1),(1,2),(2,3),(2,4),(3,5),(4,5)]:=by
 unfold prsW;rw[x2z]
 kernel_rfl
def x3z:prsW (QQ someP 0 f0) f0=[(0,1),(1,2),(2,3),(3,4),(4,5)]:=by
 unfold prsW;rw[x2x]
 kernel_rfl
def x2g:trapsW (QQ someP 1 f1) f1=[]:=by
 unfold trapsW UR;rw[x3w]
 kernel_rfl
def x2k:trapsW (QQ someP 0 f0) f0=[]:=by
 unfold trapsW UR;rw[x3z]
 kernel_rfl
def x3b:Ql (QQ someP 1 f1) f1=[⟨0,5,1⟩,⟨5,6,1⟩,⟨6,7,1⟩,⟨6,8,1⟩,⟨7,-1,1⟩,⟨8,-1,1⟩]:=by
 unfold Ql WW;rw[x2g,x2z];exact SN (by unfold okSt;decide) (by decide) (by decide) (by decide)
def q3m{p:Pg}(h:QL p=true){j:Nat}{f:Pr}(k:p.A[j]?=some f):¬wR p j f a 0:=fun⟨s,m,_,n⟩=>by
 have l:=((Zc h k).2.1 s (((Xf h k).2 s).1 m)).2;unfold okI at l;omega
def TV{p:Pg}(h:QL p=true){j:Nat}{f:Pr}(l:p.A[j]?=some f){t:S}(o:t∈flL f.body):AD p t.id=some t:=by
 have n:=VS (QG h).1 l o;obtain⟨u,s,m,q⟩:=Pp h l n.1 n.2;obtain⟨v,r,rfl⟩:=q8n (p:=p) (j:=j) o;obtain⟨w,k,rfl⟩:=q8n (p:=p) (j:=j) s;rw[Ic (QG h).1 l k r q]at m;exact m
def PA{p:Pg}(h:QL p=true){j:Nat}{f:Pr}(o:p.A[j]?=some f){s:Step}:s∈WW (QQ p j f) f ↔ ∃l∈trapsW (QQ p j f) f,∃t∈flL f.body,t.id∈l/\t.kind=10/\s=⟨t.id,-1,3⟩:=by
 unfold WW;constructor
 .intro k;obtain⟨l,n,k⟩:=x9m.1 k;obtain⟨id,m,k⟩:=x9m.1 k;have v:=(Ck h o n).2 id m;obtain⟨t,r,w,u⟩:=Pp h o v.1 v.2;have e:(QQ p j f).p=p:=rfl;unfold vOf at k;rw[e,w]at k;simp only at k;split at k
  .rename_i q;exact⟨l,n,t,r,by rw[u];exact m,q,by rw[u];simpa using k⟩
  .cases k
 .rintro ⟨l,n,t,r,m,q,rfl⟩;refine x9m.2 ⟨l,n,x9m.2 ⟨t.id,m,?_⟩⟩;have e:(QQ p j f).p=p:=rfl;unfold vOf;rw[e,TV h o r];simp[q]
def Bv{p:Pg}(h:QL p=true){j:Nat}{f:Pr}(k:p.A[j]?=some f):∀s∈WW (QQ p j f) f++(QQ p j f).real,okSt s:=fun s l=>
 (x8e.1 l).elim ((q7x h k).virt_ok s) ((q7x h k).hok s)
def EH{p:Pg}(h:QL p=true){j:Nat}{f:Pr}(n:p.A[j]?=some f){s:Step}(o:s∈WW (QQ p j f) f++(QQ p j f).real):stR (Ql (QQ p j f) f) s.src s.dst:=by
 obtain⟨s',k,l,m,_⟩:=(HH (Bv h n)).2.2 s o;exact⟨s',k,l,m⟩
def Bw{p:Pg}(h:QL p=true){j:Nat}{f:Pr}(k:p.A[j]?=some f):(Ql (QQ p j f) f).length<=200000:=by
 obtain⟨_,_,o⟩:=XZ h;obtain⟨_,_,_,u,q⟩:=QU p;obtain⟨_,_,z,_⟩:=q j f k;obtain⟨v,w,_⟩:=HH (Bv h k);have x:=HG (l:=Ql (QQ p j f) f) (m:=(QQ p j f).real++(KO (QC p.A j) (QY f.body)).map fun id=>⟨id,-1,3⟩) (SG v) fun s b=>by
  rcases x8e.1 (w s b)with n|n
  .obtain ⟨l,g,t,c,y,e,rfl⟩:=(PA h k).1 n;have r:=VS (QG h).1 k c;exact x8e.2 (.inr (x8s.2 ⟨t.id,Sr r.1 r.2,rfl⟩))
  .exact x8e.2 (.inl n)
 rw[x8d,x8g]at x;have n:=P9 k o;have d:(KO (QC p.A j) (QY f.body)).length=QY f.body:=by unfold KO;simp
 omega
def q8z{p:Pg}(h:QL p=true){j:Nat}{f:Pr}(l:p.A[j]?=some f){x:RI}(k:x∈ZR f):x.s∈flL f.body:=by
 rw[Ut (QG h).1 (x9x l)]at k;rw[<-show(flatU f).map RI.s=flL f.body from T4 1 0 false f.body];exact x8s.2 ⟨x,k,rfl⟩
def RI0:RI:=⟨.mk 0 0 [] [] [] (.mk 0 0 [] []) false [] [] [],0,0,false⟩
def I0(id:Int)(f:Pr):Option (RI×Str):=((ZR f).find? fun x=>decide (x.s.id=id)).map fun x=>(x,f.name)
def I1(p:Pg)(id:Int):Option (RI×Str):=p.A.findSome? (I0 id)
def Bg(p:Pg)(id:Int):RI×Str×Bool:=match I1 p id with
 |some (x,n)=>(x,n,true)
 |none=>(RI0,[],false)
def q9l:Sub (.agg [.int .i64 0,.int .i64 0,.nils,.str [],.str [],.int .i64 0,.int .i64 0,.str [],.nils,.ff,.nils,.nils,.nils,.int .i64 0,.int .i64 0,.ff]) (.agg RI0.cells):=
 Sub.agg (by repeat' (first|exact SubL.nil|refine SubL.cons ?_ ?_|exact Sub.nils|exact Sub.ff rfl|exact Sub.refl _))
def ER{l:List RI}{q:RI->Bool}{k:Nat}(h:k<l.length):(l.drop k).find? q=if q l[k]then some l[k]else(l.drop (k+1)).find? q:=by
 rw[QD h,z3t];cases q l[k]<;>rfl
def V0(p:Pg)(id:Int):aP 44 [.agg p.cells,.int .i64 id] (.tup [.agg (Bg p id).1.cells,.str (Bg p id).2.1,.bool (Bg p id).2.2]):=by
 refine sC MG func44 ?_;conv=>whnf
 have v:(p.A.map fun f=>AV.agg f.cells).length=p.A.length:=x8g _;repeat' ((refine iM fun _=>?_)<;>conv=>whnf)
 refine lI (fun j:Nat=>⟨[(1,.j id),(4,.ptr 1 0),(12,.p (.sl (p.A.map fun f=>.agg f.cells))),(13,.p (.int .i64 (p.A.map fun f=>AV.agg f.cells).length)),(14,.j j)],[(1,.obj 67 [.p (.int .i64 0),.j 0,.p .nils,.p (.str []),.p (.str []),.j 0,.j 0,.p (.str []),.p .nils,.p .ff,.p .nils,.p .nils,.p .nils,.j 0,.j 0,.p .ff])]⟩) (fun j=>j<=p.A.length/\(p.A.drop j).findSome? (I0 id)=I1 p id) (fun j=>p.A.length-j) 0 ⟨x8m _,rfl⟩ ?_;rintro j ⟨w,h⟩;rcases x8a j p.A.length with n|n;rotate_left 1
 .rw [x9v n,List.findSome?_nil]at h;have q:Bg p id=(RI0,[],false):=by unfold Bg;rw[<-h]
  rw[q];conv=>whnf
  repeat' ((first|refine x9g rfl ?_|(apply bD<;>intro _<;>try omega))<;>conv=>whnf)
  exact⟨_,.p (Sub.tup (SubL.cons q9l (SubL.cons (Sub.refl _) (SubL.cons (Sub.ff rfl) SubL.nil)))),rfl⟩
 rw[QD n,List.findSome?_cons]at h;conv=>whnf
 repeat' ((first|(refine gX ?_;intros)|refine cP (YB _) ?_|(apply bD<;>intro _<;>try omega))<;>conv=>whnf)
 have u:((ZR p.A[j]).map fun i=>AV.agg i.cells).length=(ZR p.A[j]).length:=x8g _;have r:I0 id p.A[j]=((ZR p.A[j]).find? fun x=>decide (x.s.id=id)).map fun x=>(x,p.A[j].name):=rfl;rw[r]at h;have t:=Qc p.A[j];generalize ZR p.A[j]=F at u t h⊢;refine lI (fun k:Nat=>⟨[(1,.j id),(4,.ptr 1 0),(8,.p (.ip p.A[j].cells)),(12,.p (.sl (p.A.map fun f=>.agg f.cells))),(13,.p (.int .i64 (p.A.map fun f=>AV.agg f.cells).length)),(14,.j j),(19,.p (x0f F)),(20,.p (.int .i64 (F.map fun i=>AV.agg i.cells).length)),(21,.j k)],[(1,.obj 67 [.p (.int .i64 0),.j 0,.p .nils,.p (.str []),.p (.str []),.j 0,.j 0,.p (.str []),.p .nils,.p .ff,.p .nils,.p .nils,.p .nils,.j 0,.j 0,.p .ff])]⟩) (fun k=>k<=F.length/\(F.drop k).find? (fun x=>decide (x.s.id=id))=F.find? fun x=>decide (x.s.id=id)) (fun k=>F.length-k) 0 ⟨x8m _,rfl⟩ ?_;rintro k ⟨y,l⟩;rcases x8a k F.length with o|o;rotate_left 1
 .rw [x9v o,List.find?_nil]at l;rw[<-l]at h;conv=>whnf
  repeat' ((first|refine wI ?_|(apply bD<;>intro _<;>try omega))<;>conv=>whnf)
  exact nX (j+1) ⟨n,h⟩
 rw[ER o]at l;conv=>whnf
 repeat' ((first|refine dA ?_|(refine gX ?_;intros)|(apply bD<;>intro _<;>try omega))<;>conv=>whnf)
 .have m:F[k].s.id=id:=by assumption
  rw[if_pos (x9e m)]at l;rw[<-l]at h;have q:Bg p id=(F[k],p.A[j].name,true):=by unfold Bg;rw[<-h];rfl
  rw[q];exact⟨_,.p (Sub.tup (SubL.cons (Sub.refl _) (SubL.cons (Sub.refl _) (SubL.cons (Sub.tt rfl) SubL.nil)))),rfl⟩
 .have m:¬F[k].s.id=id:=by assumption
  rw[if_neg (by simpa using m)]at l;exact nX (k+1) ⟨o,l⟩
def stmtR(p:Pg)(id:Int):S:=(Bg p id).1.s
def V1(p:Pg)(id:Int):aP 22 [.agg p.cells,.int .i64 id] (.agg (stmtR p id).cells):=by
 refine sC MF func22 ?_;conv=>whnf
 repeat' ((first|refine cP (V0 _ _) ?_|refine x9g rfl ?_)<;>conv=>whnf)
 exact RetK.p rfl
def HL(l:List Int)(x:Int):aP 23 [QE l,.int .i64 x] (.bool (Bm l x)):=by
 refine sC NO func23 ?_;conv=>whnf
 repeat' (refine cP (Wt _ _) ?_;conv=>whnf)
 exact RetK.bool rfl
theorem Wr.u64{n:Int}{K:Int->Prop}(m:0<=n)(o:n<=18446744073709551615)(l:K n):Wr .u64 n K:=
 .fit ⟨by simp[IntKind.min,IntKind.signed];omega,by simp[IntKind.max,IntKind.signed,IntKind.bits];omega⟩ l
def Ek{P:Program}{e:Bool}{s:St}{o:Oper}{K:LV->Prop}{t u:TypeId}{x y:Operand}(l:o.op=.binOp .shr t x y u)(ha:0<=a)(A:QP s.sl x=.p (.int .u64 a))(B:QP s.sl y=.p (.int .u64 1)){m:Int}(d:m=a/2)(b:K (.p (.int .u64 m))):ValO P e s o K:=by
 subst d;refine⟨fun σ β C w q _=>⟨_,.int .u64 (a/2),b,.p (.int _ _),fun w' _ _=>?_⟩⟩;have h:=QX q x;have k:=QX q y;rw[A]at h;rw[B]at k;cases h with
 | p h=>
   cases k with
   | p k=>
     have key:∀(n:Int)(v:Value),Rep σ (.int .u64 n) v->v=.int .u64 n:=fun n v g=>by
      cases g;rfl
     have r:=key _ _ h;have e2:=key _ _ k;have z:a.fdiv (2^1)=a/2:=Int.fdiv_eq_ediv_of_nonneg _ (by decide);have c:(eqGuard .shr t x y (.int .u64 a) (.int .u64 1)).run P w'=.ok () w':=by unfold eqGuard;rfl
     simp only[execOp,l,r,e2,Sem.run_bind,c,Result.andThen_ok,binOp,Op.shift];rw[if_neg (by decide)];simp only[show min (1:Int).toNat IntKind.u64.bits=1 by decide,z];rfl
def WN(l m:List Str):aP 107 [eStrs l,eStrs m] (.bool (decide (l=m))):=by
 refine sC JW func107 ?_;conv=>whnf
 have x:(l.map AV.str).length=l.length:=x8g _;have y:(m.map AV.str).length=m.length:=x8g _;repeat' ((first|(refine iM fun _=>?_)|(apply bE<;>intro _<;>try omega))<;>conv=>whnf)
 all_goals first
  |exact RetK.ff (x9o fun h=>by subst h;omega)
  |skip
 have v:l.length=m.length:=by omega
 refine lI (fun j:Nat=>⟨[(0,.p (eStrs l)),(1,.p (eStrs m)),(12,.p (.int .i64 (l.map AV.str).length)),(13,.j j)],[]⟩) (fun j=>j<=l.length/\l.take j=m.take j) (fun j=>l.length-j) 0 ⟨x8m _,rfl⟩ ?_;rintro j ⟨z,n⟩;rcases x8a j l.length with k|k
 .have r:j<m.length:=by omega
  have u:l[j]=m[j]->l.take (j+1)=m.take (j+1):=fun q=>by rw[x8c k,x8c r,n,q]
  have t:l[j]≠m[j]->¬l=m:=fun s q=>s (by subst q;rfl);conv=>whnf
  repeat' ((first|refine dA ?_|(refine gX ?_;intros)|((first|apply bD|apply bN)<;>intro _<;>try omega))<;>conv=>whnf)
  all_goals first
   | (have o:l[j]=m[j]:=eq_of_beq (by assumption)
      exact nX (j+1) ⟨k,u o⟩)
   | (have o:¬l[j]=m[j]:=by
       have w:(l[j]==m[j])=false:=by assumption
       simpa using w
      exact RetK.ff (x9o (t o)))
 .rw [x9q k,x9q (by omega)]at n;conv=>whnf
  repeat' (apply bD<;>intro _<;>first|omega|conv=>whnf)
  all_goals exact RetK.tt (x9e n)
def YV(a:Str):aP 181 [.str a] (.bool false):=by
 refine sC NS func181 ?_;conv=>whnf
 skip
 all_goals exact RetK.bool (by simp)
def NH(a:Str):aP 232 [.str a] (.bool false):=by
 refine sC FE func232 ?_;conv=>whnf
 skip
 all_goals exact RetK.bool (by simp)
def U7(a b:Str):aP 197 [.str a,.str b] (.bool (Op.bytesLess a b)):=by
 refine sC LO func197 ?_;conv=>whnf
 repeat' ((first|refine cP (YV a) ?_|(apply bB<;>intro _))<;>conv=>whnf)
 all_goals first
  |contradiction
  |exact RetK.p rfl
def UG(l:List Str)(x:Str)(K:l.Pairwise ltT)(G:l.length<=1000000000):SpecP prog 179 [eStrs l,.str x] (fun r=>∃k:Int,r=.tup [.int .i64 k,.bool (inS l x)]):=by
 refine sC VK func179 ?_;conv=>whnf
 have C:(l.map AV.str).length=l.length:=x8g _;repeat' ((refine iM fun _=>?_)<;>conv=>whnf)
 refine lJ (fun y:Nat×Nat=>⟨[(0,.p (eStrs l)),(1,.p (.str x)),(6,.p (.int .i64 (l.map AV.str).length)),(7,.j y.1),(8,.j y.2)],[]⟩) (fun y=>y.1<=y.2/\y.2<=l.length/\(∀(k:Nat)(h:k<l.length),k<y.1->ltT l[k] x)/\∀(k:Nat)(h:k<l.length),y.2<=k->¬ltT l[k] x) (fun y=>y.2-y.1) (0,l.length) (Le.of_eq (by rw[C];rfl)) ⟨x8m _,x9z _,fun k h w=>by simp only at w;omega,fun k h w=>by simp only at w;omega⟩ ?_;rintro⟨i,j⟩ ⟨w,D,d,g⟩;simp only at w D d g⊢;have v:∀(a b:Nat)(ha:a<l.length)(E:b<l.length),a<b->ltT l[a] l[b]:=fun a b ha E A=>z3r.1 K a b ha E A;rcases x8a i j with B|B
 .have F:(i+j)/2<l.length:=by omega
  have I:=U7 l[(i+j)/2] x;conv=>whnf
  repeat' ((first|(refine gX ?_;intros)|refine Wr.u64 (by omega) (by omega) ?_|refine Ek rfl (by omega) rfl rfl (m:=(((i+j)/2:Nat):Int)) (by omega) ?_|refine cP I ?_|((first|apply bD|apply bB)<;>intro _<;>try omega))<;>conv=>whnf)
  all_goals first
   | (have s:Op.bytesLess l[(i+j)/2] x=true:=by assumption
      refine nX ((i+j)/2+1,j) ⟨by simp only;omega,D,fun k t u=>?_,g⟩;simp only at u;rcases x8a k ((i+j)/2)with n|n
      .exact ltT.trans _ _ _ (v _ _ t F n) s
      .have:k=(i+j)/2:=by omega
       subst this;exact s)
   | (have s:Op.bytesLess l[(i+j)/2] x=false:=by assumption
      have z:¬ltT l[(i+j)/2] x:=fun h=>by unfold ltT at h;rw[s]at h;cases h
      refine nX (i,(i+j)/2) ⟨by simp only;omega,by simp only;omega,d,fun k t u c=>?_⟩;simp only at u;rcases x8a ((i+j)/2) k with n|n
      .exact z (ltT.trans _ _ _ (v _ _ F t n) c)
      .have:k=(i+j)/2:=by omega
       subst this;exact z c)
 .obtain rfl:i=j:=by omega
  rcases x8a i l.length with e|e
  .have o:inS l x=(l[i]==x):=by
    rw[z2t,KV,z2k];constructor
    .intro L;obtain⟨k,t,rfl⟩:=z0l.1 L;rcases Nat.lt_trichotomy k i with q|q|q
     .exact absurd (d k t q) (ltT.irr _)
     .subst q;rfl
     .exact absurd (v i k e t q) (g i e (x9z _))
    .intro q;rw[<-q];exact x8o e
   have J:=NH l[i];conv=>whnf
   repeat' ((first|(refine iA fun _=>?_)|refine cP J ?_|((first|apply bD|apply bB)<;>intro _<;>try omega))<;>conv=>whnf)
   all_goals first
    |(exfalso;omega)
    |(exfalso;simp_all;done)
    | (have s:inS l x=true:=by rw[o];assumption
       exact⟨_,.p (Sub.tup (.cons (Sub.refl _) (.cons (Sub.tt s) .nil))),_,rfl⟩)
    | (have s:inS l x=false:=by rw[o];assumption
       exact⟨_,.p (Sub.tup (.cons (Sub.refl _) (.cons (Sub.ff s) .nil))),_,rfl⟩)
  .have o:inS l x=false:=by
    cases q:inS l x with
    |false=>rfl
    | true=>
      obtain⟨k,t,H⟩:=z0l.1 (KV.1 q);exact absurd (d k t (by omega)) (by rw[H];exact ltT.irr _)
   conv=>whnf
   repeat' (apply bD<;>intro _<;>first|omega|conv=>whnf)
   all_goals first
    |(exfalso;omega)
    |exact⟨_,.p (Sub.tup (.cons (Sub.refl _) (.cons (Sub.ff o) .nil))),_,rfl⟩
    |exact⟨_,.p (Sub.refl _),_,by rw[o];rfl⟩
def PD(l:List Str)(x:Str)(n:l.Pairwise ltT)(h:l.length<=1000000000):aP 131 [eStrs l,.str x] (.bool (inS l x)):=by
 refine sC Ca func131 ?_;conv=>whnf
 have m:=UG l x n h;repeat' ((refine CallK.pure m (.cons (Sub.refl _) (.cons (Sub.refl _) .nil)) ?_;rintro _ ⟨k,rfl⟩)<;>conv=>whnf)
 all_goals first
  |exact RetK.p rfl
end Go.Ab
