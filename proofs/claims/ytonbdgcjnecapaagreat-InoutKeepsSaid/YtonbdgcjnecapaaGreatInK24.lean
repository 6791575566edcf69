/- LAW: what a run does is alive, and what a run that is done has done leads to the exit. -/
import Derived.Test.YtonbdgcjnecapaaGreatInK14
import Derived.Test.YtonbdgcjnecapaaGreatInK19
import Derived.Test.YtonbdgcjnecapaaGreatInK21
import Derived.Test.YtonbdgcjnecapaaGreatInK23
set_option linter.all false
set_option maxRecDepth 100000
set_option maxHeartbeats 16000000
namespace Go.Ab
open Go.Proofs
variable {M':Mc}{b fuel:Int}{watch:List Int}
def eR(p:Pg)(k:Nat)(g:Pr):Int->Int->Prop:=stR ((QQ p k g).real.filter (Ml p (endsR p)))
inductive Pos:List Fm->Int->Nat->Int->Prop
 |top {st:List Fm} {f:Fm} {x:Int}:Pos (st++[f]) x f.D x
 |low {st:List Fm} {f:Fm} {x:Int} {k:Nat} {y:Int} (h:Pos st f.call k y):Pos (st++[f]) x k y
theorem Pos.inv{st:List Fm}{f:Fm}{x:Int}{k:Nat}{y:Int}(h:Pos (st++[f]) x k y):(k=f.D/\y=x)\/Pos st f.call k y:=by
 generalize j:st++[f]=l at h;cases h with
 | top=>
   obtain⟨_,i⟩:=z1h j rfl;cases i;exact .inl ⟨rfl,rfl⟩
 | low h=>
   obtain⟨rfl,i⟩:=z1h j rfl;cases i;exact .inr h
def EvP(p:Pg)(P:Nat->Int->Prop)(e:Int×List Int):Prop:=∃k g t,p.A[k]?=some g/\t∈flL g.body/\t.id=e.1/\Rch (eR p k g) 0 e.1/\(Rch (eR p k g) e.1 (-1)\/∃y,P k y/\Rch (eR p k g) e.1 y)
structure InvM(p:Pg)(M:Mc)(x:Int):Prop where
 pos:∀k y,Pos M.stack x k y->∃g,p.A[k]?=some g/\Rch (eR p k g) 0 y
 ev:∀e∈M.trace,EvP p (Pos M.stack x) e
 fr:∀f∈M.stack,(f.call=0/\f.D=mainN p)\/(f.call≠0/\∃g it,p.A[f.D]?=some g/\(sheetOf p).l[(f.call-1).toNat]?=some it/\g.name=it.s.D)
def closedE(p:Pg)(e:Int×List Int):Prop:=∃k g t,p.A[k]?=some g/\t∈flL g.body/\t.id=e.1/\Rch (eR p k g) 0 e.1/\Rch (eR p k g) e.1 (-1)
def liveE(p:Pg)(e:Int×List Int):Prop:=∃k g t,p.A[k]?=some g/\t∈flL g.body/\t.id=e.1/\Rch (eR p k g) 0 e.1
structure InvF(p:Pg)(M:Mc):Prop where
 live:∀e∈M.trace,liveE p e
 done:M.fin=1->mainS∈endsR p/\∀e∈M.trace,closedE p e
def q1c(p:Pg):Cf->Prop
 |.next a M=>InvM p M a
 |.back _ M=>InvM p M (-1)
 |.fin M=>InvF p M
theorem InvM.fin{p:Pg}{M:Mc}{x:Int}(h:InvM p M x)(r:M'.trace=M.trace)(q:M'.fin≠1):InvF p M':=
 ⟨fun e o=>by
   obtain⟨k,g,t,i,j,l,m,_⟩:=h.ev e (r▸o);exact⟨k,g,t,i,j,l,m⟩,fun h=>absurd h q⟩
def Jv{w:List Int}{M:Mc}{id:Int}{v:List Int}{e:Int×List Int}(h:e∈(QK w M id v).trace):e∈M.trace\/e.1=id:=by
 unfold QK at h;cases i:w.any (fun x=>decide (id=x))<;>rw[i]at h
 .exact .inl h
 .rcases x6s.1 h with h|h
  .exact .inl h
  .rw [x6p.1 h];exact .inr rfl
section
variable {p:Pg}(hc:QS p=true)
include hc
def q4h{k:Nat}{g:Pr}(hk:p.A[k]?=some g){it:Item}(j:it∈itsOf p k g)(m:b∈UC (sheetOf p) g it)(h:it.s.kind=4->it.s.D∈endsR p):eR p k g it.s.id b:=by
 refine⟨⟨it.s.id,b,1⟩,x7o.2 ⟨((KF hc hk).2 _).2 (q2a j m),?_⟩,rfl,rfl⟩;unfold Ml;rw[z1q];refine .inr ?_;show(match O1 p it.s.id with|some s=>_|none=>_)=true;rw[Tz hc hk (JC j)];show(!(decide (it.s.kind=4) && !((endsR p).any fun x=>it.s.D==x)))=true;by_cases i:it.s.kind=4
 .have l:((endsR p).any fun x=>it.s.D==x)=true:=x8z.2 ⟨_,h i,by simp⟩;rw[l];simp
 .simp [i]
def TJ{k:Nat}{g:Pr}(hk:p.A[k]?=some g):eR p k g 0 (Um p k g):=by
 refine⟨⟨0,x1r p k g,1⟩,x7o.2 ⟨((KF hc hk).2 _).2 (by unfold QG x1r;exact x6g),?_⟩,rfl,rfl⟩;unfold Ml;simp
def q8j{k:Nat}{g:Pr}(hk:p.A[k]?=some g)(h:Rch (eR p k g) 0 (-1)):g.name∈endsR p:=(Of hc hk).2 h
omit hc in
theorem InvM.on{M M':Mc}{a b:Int}{st:List Fm}{f:Fm}(h:InvM p M a)(m:M.stack=st++[f])(i:M'.stack=M.stack){g:Pr}(hk:p.A[f.D]?=some g){it:Item}(G:it∈itsOf p f.D g)(q:it.s.id=a)(u:eR p f.D g a b)(H:∀e∈M'.trace,e∈M.trace\/e.1=it.s.id):InvM p M' b:=by
 have x:Rch (eR p f.D g) 0 a:=by
  obtain⟨v,o,r⟩:=h.pos f.D a (by rw[m];exact .top);rw[hk]at o;cases o;exact r
 refine⟨fun k y hp=>?_,fun e l=>?_,fun B F=>h.fr B (i▸F)⟩
 .rw [i,m]at hp;rcases hp.inv with⟨rfl,rfl⟩|hp
  .exact ⟨g,hk,.tail x u⟩
  .exact h.pos k y (by rw[m];exact .low hp)
 .rcases H e l with l|l
  .obtain ⟨k,v,t,o,r,C,E,j⟩:=h.ev e l;refine⟨k,v,t,o,r,C,E,?_⟩;rcases j with j|⟨y,j,z⟩
   .exact .inl j
   .rw [m]at j;rcases j.inv with⟨rfl,rfl⟩|j
    .rw [hk]at o;cases o;exact .inr ⟨b,by rw[i,m];exact .top,.tail z u⟩
    .exact .inr ⟨y,by rw[i,m];exact .low j,z⟩
  .rw [q]at l;exact⟨f.D,g,it.s,hk,JC G,by rw[l,q],by rw[l];exact x,.inr ⟨b,by rw[i,m];exact .top,by rw[l];exact .tail .refl u⟩⟩
theorem InvM.push{M:Mc}{a:Int}{st:List Fm}{f n:Fm}(h:InvM p M a)(C:M.stack=st++[f])(l:M'.stack=M.stack++[n])(x:n.call=a){g:Pr}(hk:p.A[f.D]?=some g){it:Item}(v:it∈itsOf p f.D g)(j:it.s.id=a){q:Pr}(hq:p.A[n.D]?=some q)(z:q.name=it.s.D)(L:∀e∈M'.trace,e∈M.trace\/e.1=it.s.id):InvM p M' (Um p n.D q):=by
 have F:Rch (eR p f.D g) 0 a:=by
  obtain⟨B,r,u⟩:=h.pos f.D a (by rw[C];exact .top);rw[hk]at r;cases r;exact u
 have o:∀k y,Pos M.stack a k y->Pos M'.stack (Um p n.D q) k y:=fun k y hp=>by
  rw[l];exact .low (by rw[x];exact hp)
 refine⟨fun k y hp=>?_,fun e i=>?_,fun E m=>?_⟩
 .rw [l]at hp;rcases hp.inv with⟨rfl,rfl⟩|hp
  .exact ⟨q,hq,.tail .refl (TJ hc hq)⟩
  .rw [x]at hp;exact h.pos k y hp
 .rcases L e i with i|i
  .obtain ⟨k,B,t,r,u,G,H,I⟩:=h.ev e i;exact⟨k,B,t,r,u,G,H,I.imp id fun⟨y,J,K⟩=>⟨y,o _ _ J,K⟩⟩
  .rw [j]at i;exact⟨f.D,g,it.s,hk,JC v,by rw[i,j],by rw[i];exact F,.inr ⟨a,o _ _ (by rw[C];exact .top),by rw[i];exact .refl⟩⟩
 .rw [l]at m;rcases x6s.1 m with m|m
  .exact h.fr E m
  .rw [x6p.1 m];have:=WD (QJ hc).1 hk (JC v);refine .inr ⟨by omega,q,it,hq,?_,z⟩;rw[x,<-j];exact OF hc hk v
def Eb:q1c p (PA p):=by
 obtain⟨o,h,q⟩:=Fq hc;have j:(GL p (mainN p) (prA p (mainN p)) [] 0 (M00 p)).stack=[]++[⟨mainN p,varsS p (prA p (mainN p)),List.range p.B.length++[]++List.range' (M00 p).mem.length (prA p (mainN p)).E.length,0⟩]:=rfl;refine InvM.mk (fun k y hp=>?_) (fun e m=>(by cases m)) (fun f i=>?_)
 .rw [j]at hp;rcases hp.inv with⟨rfl,rfl⟩|hp
  .exact ⟨_,h,.tail .refl (TJ hc h)⟩
  .generalize n:([]:List Fm)=l at hp;cases hp<;>simp at n
 .rw [j]at i;rw[x6p.1 i];exact .inl ⟨rfl,rfl⟩
def Mt:(prA p (mainN p)).name=mainS:=by
 obtain⟨q,r,_⟩:=Fq hc;obtain⟨k,f,i,_,j,_⟩:=Sz hc;obtain⟨o,h,l,_,_,m⟩:=Wa (p:=p) (n:=mainS) (x6r.2 ⟨f,x7j i,j⟩);have e:mainN p=o:=by unfold mainN;rw[l];rfl
 rw[e,WP (x6k h)];exact m
omit hc in
def x1u(tape watch:List Int){M:Mc}{f:Fm}{g:Pr}{it:Item}{r:Int×Mc}(z:r=doM p tape watch M f g it)(i:M.fin=0):(∀e∈r.2.trace,e∈M.trace\/e.1=it.s.id)/\(r.2.fin≠0->r.2.trace=M.trace/\r.2.fin≠1):=by
 subst z;have key:∀(l j:Mc)(v:List Int),l.trace=M.trace->l.fin=0->j.trace=(QK watch l it.s.id v).trace->j.fin=(QK watch l it.s.id v).fin->(∀e∈j.trace,e∈M.trace\/e.1=it.s.id)/\(j.fin≠0->j.trace=M.trace/\j.fin≠1):=fun l j v q t u y=>by
  refine⟨fun e o=>?_,fun h=>?_⟩
  .rw [u]at o;rcases Jv o with h|h
   .exact .inl (q▸h)
   .exact .inr h
  .rw [y,(XO watch l it.s.id v).2.2.1,t]at h;exact absurd rfl h
 have m:∀c:Int,c≠1->(∀e∈(endM M c).trace,e∈M.trace\/e.1=it.s.id)/\((endM M c).fin≠0->(endM M c).trace=M.trace/\(endM M c).fin≠1):=fun c hc=>⟨fun e o=>.inl o,fun _=>⟨rfl,hc⟩⟩;unfold doM;split
 .exact key M _ [] rfl i rfl rfl
 split
 .exact key M _ [] rfl i rfl rfl
 split
 .exact key M _ [] rfl i rfl rfl
 split
 .split
  .exact m 3 (by decide)
  .exact key (setM {M with reads:=M.reads+1} (varM f it.s.name) (tape.getD M.reads.toNat 0)) _ [tape.getD M.reads.toNat 0] rfl i rfl rfl
 cases(QM M f it.s.x).2 with
 |false=>exact m 4 (by decide)
 | true=>
   rw[x7z];generalize(QM M f it.s.x).1=n;split
   .exact key M _ [n] rfl i rfl rfl
   split
   .exact key M _ [n] rfl i rfl rfl
   split
   .exact key M _ [n] rfl i rfl rfl
   split
   .exact key M _ [n] rfl i rfl rfl
   .exact key M _ [n] rfl i rfl rfl
def OJ{M:Mc}(R:Good p M b)(h:InvM p M (-1))(z:Int):q1c p (JD p z M):=by
 obtain⟨st,n⟩:=R.top;have P:M.stack.dropLast=st:=by rw[n,z1l]
 have r:=R.ch;rw[n]at r;have d:=h.fr (XM M) (by rw[n];simp);obtain⟨q',m,a⟩:=h.pos _ _ (by rw[n];exact .top);have u:=q8j hc m a;generalize hF:XM M=F at*
 unfold JD;rw[P,hF];generalize T:st++[F]=L at r;cases r with
 | one J=>
   rename_i f;obtain⟨rfl,o⟩:=z1h (show st++[F]=[]++[f]from T) rfl;have o:F=f:=by simpa using o
   subst o;rw[if_pos J];refine InvF.mk (fun e x=>?_) fun _=>⟨?_,fun e x=>?_⟩
   .obtain ⟨k,g,t,v,B,C,E,_⟩:=h.ev e x;exact⟨k,g,t,v,B,C,E⟩
   .rcases d with⟨_,hm⟩|⟨N,_⟩
    .rw [hm,(Fq hc).2.1]at m;cases m;rw[Mt hc]at u;exact u
    .exact absurd J N
   .obtain ⟨k,g,t,v,B,C,E,i⟩:=h.ev e x;refine⟨k,g,t,v,B,C,E,?_⟩;rcases i with i|⟨y,i,G⟩
    .exact i
    .rw [n]at i;rcases i.inv with⟨_,rfl⟩|i
     .exact G
     .generalize V:([]:List Fm)=l at i;cases i<;>simp at V
 | push V h1 hle A hk hp hi K=>
   rename_i l g f q it;obtain⟨rfl,o⟩:=z1h T rfl;have o:F=f:=by simpa using o
   subst o;rw[if_neg (by omega),A];have O:it.s.D∈endsR p:=by
    rcases d with⟨J,_⟩|⟨_,Q,it',Y,Z,v3⟩
    .omega
    .rw [A]at Z;cases Z;rw[m]at Y;cases Y;rw[<-v3];exact u
   have j:eR p g.D q F.call it.next:=by
    rw[<-K];refine q4h hc hp hi ?_ fun _=>O;unfold UC;rw[if_neg (by omega),if_neg (by omega),if_neg (by omega),if_neg (by omega),if_neg (by omega),if_neg (by omega)];exact x6g
   have key:∀M':Mc,M'.stack=l++[g]->M'.trace=M.trace->InvM p M' it.next:=fun M' H e2=>by
    refine⟨fun k y I=>?_,fun e x=>?_,fun f' U=>h.fr f' (by rw[n];rw[H]at U;exact x7e _ U)⟩
    .rw [H]at I;rcases I.inv with⟨rfl,rfl⟩|I
     .obtain ⟨q2,w1,w2⟩:=h.pos g.D F.call (by rw[n];exact .low .top);rw[hp]at w1;cases w1;exact⟨q,hp,.tail w2 j⟩
     .exact h.pos k y (by rw[n];exact .low (.low I))
    .rw [e2]at x;obtain⟨k,Q,t,v,B,C,E,i⟩:=h.ev e x;refine⟨k,Q,t,v,B,C,E,?_⟩;rcases i with i|⟨y,i,G⟩
     .exact .inl i
     .rw [n]at i;rcases i.inv with⟨_,rfl⟩|i
      .exact .inl G
      .rcases i.inv with⟨rfl,rfl⟩|i
       .rw [hp]at v;cases v;exact .inr ⟨it.next,by rw[H];exact .top,.tail G j⟩
       .exact .inr ⟨y,by rw[H];exact .low i,G⟩
   show InvM p (if it.s.name=[]then _ else _) it.next;split
   .exact key _ rfl rfl
   .exact key _ rfl rfl
omit hc in
def q9m(watch:List Int){M:Mc}{f:Fm}{t:S}{r:Int×Mc}(l:r=Pn watch M f t)(j:M.fin=0):(∀e∈r.2.trace,e∈M.trace\/e.1=t.id)/\(r.2.fin≠0->r.2.trace=M.trace/\r.2.fin≠1):=by
 subst l;have key:∀v,(∀e∈(QK watch M t.id v).trace,e∈M.trace\/e.1=t.id)/\((QK watch M t.id v).fin≠0->(QK watch M t.id v).trace=M.trace/\(QK watch M t.id v).fin≠1):=fun v=>⟨fun e i=>Jv i,fun h=>by
  rw[(XO watch M t.id v).2.2.1,j]at h;exact absurd rfl h⟩
 unfold Pn;cases t.has with
 |false=>exact key []
 | true=>
   rw[x7z];cases(QM M f t.x).2 with
   |false=>exact⟨fun e i=>.inl i,fun _=>⟨rfl,by show(4:Int)≠1;decide⟩⟩
   |true=>exact key _
def OK(watch:List Int){M:Mc}(m:Good p M b){g:Pr}(hk:p.A[(XM M).D]?=some g){it:Item}(C:it∈itsOf p (XM M).D g)(d:it.s.kind=4)(h:InvM p M it.s.id):q1c p (Mv (HY p watch M (XM M) it.s (HU p it.s) (prA p (HU p it.s)))):=by
 have t:=JC C;obtain⟨Y,Q,Z⟩:=TX hc hk t d;obtain⟨st,r⟩:=m.top;have q:(prA p (HU p it.s)).name=it.s.D:=by
  obtain⟨F,_,T,_,U,_⟩:=FL hc (x8w.2 ⟨g,x7j hk,t⟩) d;have e:HU p it.s=F:=by
   unfold HU;show(caI p it.s).toNat=F;rw[T];rfl
  rw[e];exact U
 obtain⟨u,G,H,I,J,j,x,y⟩:=Ww (f:=XM M) it.s.args [] M (fun a N O=>(G9 hc m hk t (Ac N O)).2) (fun v P=>by cases P);unfold HY;generalize argsM (XM M) it.s.args [] M=ar at*
 obtain⟨ps,i,R⟩:=ar;simp only at u G H I J j x y⊢;unfold Mv;cases R with
 | false=>
   have V:i.fin=4:=y rfl;rw[x7k,if_neg (by show ¬i.fin=0;omega)];exact h.fin j (by show i.fin≠1;omega)
 | true=>
   obtain⟨K,_,_⟩:=x rfl;rw[x7z];split
   .exact h.fin (M':=endM i 5) j (by show(5:Int)≠1;decide)
   .have z:=XO watch i it.s.id [];have L:(GL p (HU p it.s) (prA p (HU p it.s)) ps it.s.id (QK watch i it.s.id [])).fin=0:=by
     show(QK watch i it.s.id []).fin=0;rw[z.2.2.1,K];exact m.fin
    rw[if_pos L];refine InvM.push hc (n:=⟨HU p it.s,varsS p (prA p (HU p it.s)),List.range p.B.length++ps++List.range' (QK watch i it.s.id []).mem.length (prA p (HU p it.s)).E.length,it.s.id⟩) h r ?_ rfl hk C rfl Q q ?_
    .show (QK watch i it.s.id []).stack++_=M.stack++_;rw[z.1,u]
    .intro e o;have o:e∈(QK watch i it.s.id []).trace:=o;rcases Jv o with l|l
     .exact .inl (j▸l)
     .exact .inr l
def q8r(tape watch:List Int){c:Cf}(F:Qt p fuel c)(h:q1c p c):q1c p (goC p tape watch fuel c):=by
 cases c with
 |fin M=>exact h
 |back g M=>exact OJ hc F.1 h g
 | next a M=>
   obtain⟨i,L,N,z⟩:=F;have h:InvM p M a:=h;simp only[goC];by_cases y:a = -1
   .rw [if_pos y];show InvM p M (-1);rw[<-y];exact h
   rw[if_neg y];by_cases G:M.steps=fuel
   .rw [if_pos G];exact h.fin (M':=endM M 2) rfl (by show(2:Int)≠1;decide)
   rw[if_neg G];rcases z with H|⟨g,it,I,_,B,J,e⟩
   .exact absurd H y
   rw[B];simp only;have o:Good p (XS M) M.steps:=i.same rfl (x7u _) i.fin i.r0 i.rd i.tr i.ou;have j:p.A[(XM (XS M)).D]?=some g:=I;have l:it∈itsOf p (XM (XS M)).D g:=J;have n:InvM p (XS M) it.s.id:=by
    rw[e];exact⟨h.pos,h.ev,h.fr⟩
   obtain⟨st,v⟩:=o.top;unfold stI;by_cases q:it.s.kind=4
   .rw [if_pos q];exact OK hc watch o j l q n
   rw[if_neg q];by_cases u:it.s.kind=9
   .rw [if_pos u];obtain⟨K,C⟩:=I8 watch o it.s rfl;obtain⟨E,x⟩:=q9m watch (M:=XS M) (f:=XM (XS M)) (t:=it.s) rfl i.fin;generalize Pn watch (XS M) (XM (XS M)) it.s=r at*
    unfold Nh;by_cases m:r.2.fin=0
    .rw [if_pos m];refine n.on v (C m).2 j l rfl (q4h hc j l ?_ fun h=>absurd h q) E;unfold UC;rw[if_neg (by omega),if_neg (by omega),if_neg (by omega),if_neg (by omega),if_pos u];exact x6g
    .rw [if_neg m];exact n.fin (x m).1 (x m).2
   rw[if_neg u,WP j];obtain⟨K,C⟩:=q4z hc tape watch o j l q u rfl;obtain⟨E,x⟩:=x1u (M:=XS M) (f:=XM (XS M)) (g:=g) (it:=it) tape watch rfl i.fin;have d:=AM (p:=p) tape watch (M:=XS M) (f:=XM (XS M)) (g:=g) q u rfl;generalize doM p tape watch (XS M) (XM (XS M)) g it=r at*
   unfold Mv;by_cases m:r.2.fin=0
   .rw [if_pos m];exact n.on v (C m).2.2 j l rfl (q4h hc j l (d m) fun h=>absurd h q) E
   .rw [if_neg m];exact n.fin (x m).1 (x m).2
def q6w(tape watch:List Int)(j:0<=fuel)(n:Nat):Qt p fuel (Ut p tape watch fuel n (PA p))/\q1c p (Ut p tape watch fuel n (PA p)):=by
 induction n with
 |zero=>exact⟨SZ hc j,Eb hc⟩
 | succ n i=>
   rw[PK];refine⟨?_,q8r hc tape watch i.1 i.2⟩;generalize Ut p tape watch fuel n (PA p)=c at*
   cases c with
   |fin M=>exact trivial
   |next a M=>exact(B6 hc tape watch i.1 (fun _ h=>by cases h)).1
   |back g M=>exact(B6 hc tape watch i.1 (fun _ h=>by cases h)).1
end
def x4g{p:Pg}{k:Nat}{g:Pr}{a:Int}(h:Rch (eR p k g) a b):Rch (wR p k g) a b:=h.mono fun _ _ ⟨s,l,i,j⟩=>⟨s,(x7o.1 l).1,i,j⟩
structure KpF(p:Pg)(c:Nat)(fr:Fm):Prop where
 nm:∀(i:Nat)(n:Str),fr.names[i]?=some n->fr.E[i]?=some c->outB p (prA p fr.D) n=true/\n∉(bookOf p).N.getD fr.D []
 gl:∀i,i<p.B.length->fr.E[i]?=some i
def IB{f:Fm}(q:f.E.length=f.names.length){n:Str}(h:n∈f.names):∃i:Nat,f.names[i]?=some n/\f.E[i]?=some (varM f n):=by
 have j:=Wc (Bq h);refine⟨(idxF (fun y=>n==y) f.names).toNat,?_,?_⟩
 .have l:f.names.any (fun y=>n==y)=true:=x8z.2 ⟨n,h,by simp⟩;have m:(idxF (fun y=>n==y) f.names).toNat=f.names.findIdx (fun y=>n==y):=by
   unfold idxF;rw[l,x7z];rfl
  rw[m]at j⊢;have o:=z2d (w:=j);rw[x6k j];congr 1;exact(by simpa using o:n=_).symm
 .unfold varM;rw[x6h,x6k (by omega)];rfl
theorem BA{f:Fm}:∀(l:List Arg)(ps:List Nat)(M:Mc),(argsM f l ps M).2.2=true->(argsM f l ps M).1.length=ps.length+l.length/\(∀j,j<ps.length->(argsM f l ps M).1[j]?=ps[j]?)/\
  (∀(j:Nat)(a:Arg)(v:Nat),l[j]?=some a->(argsM f l ps M).1[ps.length+j]?=some v->(a.ref=true/\v=varM f a.name)\/(a.ref=false/\M.mem.length<=v))/\∀c,c<M.mem.length->(argsM f l ps M).2.1.mem[c]?=M.mem[c]?
 |[],ps,M,_=>⟨rfl,fun _ _=>rfl,fun j a v h=>by simp at h,fun _ _=>rfl⟩
 | a::r,ps,M,h=>by
   rw[argsM]at h⊢;cases t:a.ref with
   | true=>
     rw[t,x7z]at h;rw[x7z];obtain⟨q,i,n,s⟩:=BA r _ M h;rw[x6f]at q i n;simp only[x7g,x9y]at q i n⊢;refine⟨by omega,fun j y=>by rw[i j (by omega),x7b y],fun j b v o m=>?_,s⟩;cases j with
     | zero=>
       cases o;rw[z0r,i ps.length (by omega),x7d (x7u _),z1d]at m;cases m;exact .inl ⟨t,rfl⟩
     |succ j=>exact n j b v (by simpa using o) (by rw[<-m];congr 1;omega)
   | false=>
     rw[t,x7k]at h;rw[x7k];cases z:(QM M f a.x).2 with
     |false=>rw[z]at h;cases h
     | true=>
       rw[z,x7z]at h;rw[x7z];obtain⟨q,i,n,s⟩:=BA r _ _ h;simp only[x6f,x7g,x9y]at q i n s⊢;refine⟨by omega,fun j y=>by rw[i j (by omega),x7b y],fun j b v o m=>?_,fun c hc=>by rw[s c (by omega)];exact x7b hc⟩;cases j with
       | zero=>
         cases o;rw[z0r,i ps.length (by omega),x7d (x7u _),z1d]at m;cases m;exact .inr ⟨t,x7u _⟩
       | succ j=>
         rcases n j b v (by simpa using o) (by rw[<-m];congr 1;omega)with u|u
         .exact .inl u
         .exact .inr ⟨u.1,by omega⟩
section
variable {p:Pg}(hc:QS p=true)
include hc
def q8c{h:Fm}{c:Nat}(r:KpF p c h)(u:h.E.length=h.names.length){g:Pr}(hk:p.A[h.D]?=some g){t:S}(x:t∈flL g.body)(j:Rch (eR p h.D g) 0 t.id){n:Str}(v:n∈h.names)(s:n∈PQ (bkO p (bookOf p).N) t):varM h n≠c:=fun e=>by
 obtain⟨i,o,l⟩:=IB u v;rw[e]at l;obtain⟨m,q⟩:=r.nm i n o l;rw[WP hk]at m;exact q (EI hc (FN hc).fixO hk x (x4g j) s m)
omit hc in
def Ee{k:Nat}{g:Pr}(hk:p.A[k]?=some g){c m0:Nat}(z:c<m0){ps:List Nat}(y:ps.length=g.C.length){call:Int}(u:∀n,p.B[c]?=some n->n∉(bookOf p).N.getD k [])(v:∀(j:Nat)(x:Param),g.C[j]?=some x->ps[j]?=some c->x.ref=true/\x.name∉(bookOf p).N.getD k []):KpF p c ⟨k,varsS p g,List.range p.B.length++ps++List.range' m0 g.E.length,call⟩:=by
 refine⟨fun i n h l=>?_,fun i t=>?_⟩
 .have h:(p.B++(g.C.map Param.name++g.E))[i]?=some n:=h;have l:(List.range p.B.length++ps++List.range' m0 g.E.length)[i]?=some c:=l;show outB p (prA p k) n=true/\n∉(bookOf p).N.getD k [];rw[WP hk];rcases x6c i p.B.length with m|m
  .rw [x7b m]at h;rw[x7n,x7b (by simpa using m),x9b m]at l;cases l;exact⟨Bn.2 (.inl (.inr (x7j h))),u n h⟩
  .rw [x7d m]at h;rw[x7n,x7d (by simpa using m),x9c]at l;rcases x6c (i-p.B.length) ps.length with q|q
   .rw [x7b q]at l;rw[x7b (by rw[x6j];omega),x6a]at h;cases o:g.C[i-p.B.length]?with
    |none=>rw[o]at h;cases h
    | some x=>
      rw[o]at h;have h:x.name=n:=x8l h;subst h;obtain⟨r,s⟩:=v _ x o l;refine⟨Bn.2 (.inr ?_),s⟩;have e:x=⟨x.name,true⟩:=by cases x;simp only at r⊢;rw[r]
      rw[<-e];exact x7j o
   .exfalso;rw[x7d q]at l;obtain⟨r,s⟩:=x6n.1 l;rw[List.getElem_range']at s;omega
 .show (List.range p.B.length++ps++List.range' m0 g.E.length)[i]?=some i;rw[x7n,x7b (by simpa using t),x9b t]
def q5x{l:Fm}{c:Nat}(F:KpF p c l)(hF:l.E.length=l.names.length){g:Pr}(hk:p.A[l.D]?=some g)(s:l.names=varsS p g){t:S}(y:t∈flL g.body)(d:t.kind=4)(G:Rch (eR p l.D g) 0 t.id){M:Mc}(hcm:c<M.mem.length)(J:(argsM l t.args [] M).2.2=true){m0:Nat}(hm0:M.mem.length<=m0){call:Int}:
  KpF p c ⟨HU p t,varsS p (prA p (HU p t)),List.range p.B.length++(argsM l t.args [] M).1++List.range' m0 (prA p (HU p t)).E.length,call⟩:=by
 obtain⟨k0,k1,k2⟩:=TX hc hk y d;obtain⟨V,_,Y,_⟩:=BA t.args [] M J;have L:t∈VJ p:=x8w.2 ⟨g,x7j hk,y⟩;obtain⟨T,u1,U,u3,_,u5⟩:=FL hc L d;have P:HU p t=T:=by
  unfold HU;show(caI p t).toNat=T;rw[U];rfl
 have r:∀n,n∈Rs p t (prA p (HU p t)) ((bookOf p).N.getD (HU p t) [])->n∈PQ (bkO p (bookOf p).N) t:=fun n h=>by
  unfold PQ;rw[if_neg (by omega),if_neg (by omega),if_neg (by omega),if_pos d];show n∈Rs p t (caP p t) (caO (bkO p (bookOf p).N) t);rw[AX,U,u3];rw[P]at h;exact h
 have key:∀n,outB p (prA p l.D) n=true->n∉(bookOf p).N.getD l.D []->n∉Rs p t (prA p (HU p t)) ((bookOf p).N.getD (HU p t) []):=fun n Q Z h3=>by
  rw[WP hk]at Q;exact Z (EI hc (FN hc).fixO hk y (x4g G) (r n h3) Q)
 refine Ee k1 (by omega) (by rw[V,k2];simp) (fun n H q=>?_) fun j x O hv=>?_
 .obtain ⟨R,o⟩:=x6n.1 H;have u:l.names[c]?=some n:=by
   rw[s];show(p.B++_)[c]?=some n;rw[x7b R,H]
  obtain⟨e,v⟩:=F.nm c n u (F.gl c R);refine key n e v ?_;unfold Rs;exact x8u _ (x7o.2 ⟨q,Y1.2 (.inr (x7j H))⟩)
 .obtain ⟨hjl,_⟩:=x6n.1 O;have m:j<t.args.length:=by omega
  have K:x.ref=t.args[j].ref:=by
   have o:((prA p (HU p t)).C.map Param.ref)[j]?=(t.args.map Arg.ref)[j]?:=by rw[P,u5]
   rw[x6a,O,x6a,x6k m]at o;exact x8l o
  rcases Y j t.args[j] c (x6k m) (by simpa using hv)with⟨o,u⟩|⟨_,u⟩
  .refine ⟨K.trans o,fun q=>?_⟩;have I:t.args[j].name∈l.names:=by
    rw[s];exact Xi hc hk y (Ac (x6o m) o)
   obtain⟨i,e,v⟩:=IB hF I;rw[<-u]at v;obtain⟨z,a⟩:=F.nm i _ e v;refine key _ z a ?_;unfold Rs;refine x7e _ (x8u _ (Zq.2 ⟨(t.args[j],x),?_,⟨o,q⟩,rfl⟩));have hz:(t.args.zip (prA p (HU p t)).C)[j]?=some (t.args[j],x):=by
    rw[List.getElem?_zip_eq_some];exact⟨x6k m,O⟩
   rw[x7w (by rw[List.length_zip];omega)];exact x7j hz
  .omega
end
structure KpM(p:Pg)(c:Nat)(w:Int)(base:Fm)(id0:Int)(M:Mc):Prop where
 st:∃up,M.stack=base::up/\(∃f1,up.head?=some f1/\f1.call=id0)/\∀fr∈up,KpF p c fr
 mem:M.mem[c]?=some w
def KpR(p:Pg)(c:Nat)(w:Int)(h:Fm)(i:Int):Cf->Prop
 |.next a M=>KpM p c w h i M\/(M.stack=[h]/\((∀it,(sheetOf p).l[(i-1).toNat]?=some it->it.s.name≠[]->varM h it.s.name≠c)->M.mem[c]?=some w)/\∃it,(sheetOf p).l[(i-1).toNat]?=some it/\a=it.next)
 |.back _ M=>KpM p c w h i M
 |.fin M=>M.fin≠1
theorem KpM.same{p:Pg}{c:Nat}{w:Int}{i:Fm}{j:Int}{M:Mc}(h:KpM p c w i j M)(m:M'.stack=M.stack)(l:M'.mem[c]?=M.mem[c]?):KpM p c w i j M':=
 ⟨by rw[m];exact h.st,by rw[l];exact h.mem⟩
theorem KpM.top{p:Pg}{c:Nat}{w:Int}{i:Fm}{j:Int}{M:Mc}(h:KpM p c w i j M):KpF p c (XM M):=by
 obtain⟨q,l,⟨f1,m,_⟩,o⟩:=h.st;refine o _ ?_;cases q with
 |nil=>simp at m
 | cons a r=>
   unfold XM;rw[l,List.getLast?_cons_cons,List.getLast?_eq_some_getLast (List.cons_ne_nil _ _)];exact List.getLast_mem _
def q4x{p:Pg}{tape:List Int}{M:Mc}{f:Fm}{g:Pr}{it:Item}:(doM p tape watch M f g it).2.mem=M.mem\/((it.s.kind=1\/it.s.kind=2)/\∃n,(doM p tape watch M f g it).2.mem=M.mem.set (varM f it.s.name) n):=by
 have h:∀v,(QK watch M it.s.id v).mem=M.mem:=fun v=>ML;unfold doM;split
 .exact .inl (h [])
 split
 .exact .inl (h [])
 split
 .exact .inl (h [])
 split
 .rename_i j;split
  .exact .inl rfl
  .exact .inr ⟨.inr j,_,ML⟩
 cases(QM M f it.s.x).2 with
 |false=>exact .inl rfl
 | true=>
   rw[x7z];split
   .rename_i i;refine .inr ⟨.inl i,(QM M f it.s.x).1,?_⟩;show(QK watch M it.s.id [(QM M f it.s.x).1]).mem.set _ _=_;rw[h]
   split
   .exact .inl (h _)
   split
   .exact .inl (h _)
   split
   .exact .inl (h _)
   .exact .inl (h _)
def q4q{p:Pg}{tape:List Int}{M:Mc}{f:Fm}{g:Pr}{it:Item}(h:M.fin=0):(doM p tape watch M f g it).2.fin≠1:=by
 have key:∀v,(QK watch M it.s.id v).fin≠1:=fun v=>by
  rw[(XO watch M it.s.id v).2.2.1,h];decide
 unfold doM;split
 .exact key []
 split
 .exact key []
 split
 .exact key []
 split
 .split
  .show (3:Int)≠1;decide
  .show (QK watch (setM _ _ _) _ _).fin≠1;rw[(XO watch _ it.s.id _).2.2.1];show M.fin≠1;omega
 cases(QM M f it.s.x).2 with
 |false=>show(4:Int)≠1;decide
 | true=>
   rw[x7z];split
   .exact key _
   split
   .exact key _
   split
   .exact key _
   split
   .exact key _
   .exact key _
def q0r{M:Mc}{f:Fm}{t:S}(h:M.fin=0):(Pn watch M f t).2.fin≠1/\(Pn watch M f t).2.mem=M.mem:=by
 have key:∀v,(QK watch M t.id v).fin≠1:=fun v=>by
  rw[(XO watch M t.id v).2.2.1,h];decide
 unfold Pn;cases t.has with
 |false=>exact⟨key [],ML⟩
 | true=>
   rw[x7z];cases(QM M f t.x).2 with
   |false=>exact⟨by show(4:Int)≠1;decide,rfl⟩
   |true=>exact⟨key _,ML⟩
section
variable {p:Pg}(hc:QS p=true)
include hc
def q5q{M:Mc}(H:Good p M b)(h:InvM p M (-1)){c:Nat}{w:Int}{i:Fm}{m:Int}(y:KpM p c w i m M)(j:Int):KpR p c w i m (JD p j M):=by
 obtain⟨U,z,⟨f1,d,O⟩,P⟩:=y.st;have hcm:c<M.mem.length:=(x6n.1 y.mem).1;have A:=H.ch;obtain⟨st,T⟩:=H.top;generalize Q:XM M=F at*
 unfold JD;rw[Q];generalize e:M.stack=L at A;cases A with
 | one h0=>
   rw[e]at z;obtain⟨_,n⟩:=z2b z;rw[<-n]at d;cases d
 | push hl h1 hle o hk hp R K=>
   rename_i l g f q it;have G:F=f:=by
    have:=YL (M:=M) (st:=l++[g]) (f:=f) (by rw[e]);rw[<-Q];exact this
   subst G;rw[if_neg (by omega),o];have hd:M.stack.dropLast=l++[g]:=by rw[e,z1l]
   rw[e]at z;have B:=H.fr g (by rw[e];simp);have C:st=l++[g]:=by rw[<-hd,T,z1l]
   rw[z1l];cases l with
   | nil=>
     obtain⟨n,t⟩:=z2b z;have n:g=i:=n;subst n;have t:U=[F]:=t.symm;subst t;have h7:F=f1:=by simpa using d
     subst h7;rw[O]at o;show KpR p c w g m (.next it.next _);refine .inr ⟨?_,fun hz=>?_,it,o,rfl⟩
     .split<;>rfl
     .split
      .exact y.mem
      .rename_i E;show(M.mem.set _ j)[c]?=some w;have v:XM (popM M ([]++[g]))=g:=YL (st:=[]) rfl;rw[v,x9v (hz it o E)];exact y.mem
   | cons x l=>
     obtain⟨n,t⟩:=z2b z;have n:x=i:=n;subst n;have t:U=l++[g]++[F]:=t.symm;subst t;have I:KpF p c g:=P g (by simp);have u:(l++[g]).head?=some f1:=by
      cases l with
      |nil=>simpa using d
      |cons a r=>simpa using d
     have key:∀M':Mc,M'.stack=x::l++[g]->M'.mem[c]?=some w->KpM p c w x m M':=fun M' u1 u2=>⟨⟨l++[g],by rw[u1];rfl,⟨f1,u,O⟩,fun Z J=>P Z (x7e _ J)⟩,u2⟩;show KpR p c w x m (.next it.next _);refine .inl ?_;split
     .exact key _ rfl y.mem
     .rename_i E;refine key _ rfl ?_;show(M.mem.set _ j)[c]?=some w;have v:XM (popM M (x::l++[g]))=g:=YL (st:=x::l) rfl;obtain⟨q2,Y,w2⟩:=h.pos g.D F.call (by rw[T,C];exact .low .top);rw[hp]at Y;cases Y;obtain⟨g',V,v2⟩:=B.pr;rw[hp]at V;cases V;have N:varM g it.s.name≠c:=q8c hc I B.len hp (JC R) (by rw[K];exact w2) (by rw[v2];exact Xi hc hp (JC R) (Sw (by omega) E)) (by
       unfold PQ;rw[if_neg (by omega),if_neg (by omega),if_neg (by omega),if_pos hk];unfold Rs;rw[if_neg E];exact x7e _ (x7e _ (x6p.2 rfl)))
      rw[v,x9v N];exact y.mem
def x1e(tape watch:List Int){a:Int}{M:Mc}(hG:Qt p fuel (.next a M))(Z:q1c p (.next a M)){c:Nat}{w:Int}{l:Fm}{G:Int}(T:KpM p c w l G M):KpR p c w l G (goC p tape watch fuel (.next a M)):=by
 obtain⟨i,h0,h1,hat⟩:=hG;have Z:InvM p M a:=Z;have C:c<M.mem.length:=(x6n.1 T.mem).1;simp only[goC];by_cases I:a = -1
 .rw [if_pos I];exact T
 rw[if_neg I];by_cases hf:M.steps=fuel
 .rw [if_pos hf];show(2:Int)≠1;decide
 rw[if_neg hf];rcases hat with h2|⟨g,it,hg,_,hit,hi,hid⟩
 .exact absurd h2 I
 rw[hit];simp only;have m:Good p (XS M) M.steps:=i.same rfl (x7u _) i.fin i.r0 i.rd i.tr i.ou;have u:KpM p c w l G (XS M):=T.same rfl rfl;have j:p.A[(XM (XS M)).D]?=some g:=hg;have K:it∈itsOf p (XM (XS M)).D g:=hi;obtain⟨st,hst⟩:=m.top;obtain⟨g',h3,z⟩:=Z.pos (XM M).D a (by obtain⟨st,hs⟩:=i.top;rw[hs];exact .top);rw[hg]at h3;cases h3;rw[<-hid]at z;have L:Rch (eR p (XM (XS M)).D g) 0 it.s.id:=z;have d:=m.fr (XM (XS M)) (by
  have e:=hst;generalize XM (XS M)=F at e;rw[e];simp)
 obtain⟨g',v1,v2⟩:=d.pr;rw[j]at v1;cases v1;have hT:=u.top;have P:=JC K;have o:(XS M).fin=0:=i.fin;unfold stI;by_cases z:it.s.kind=4
 .rw [if_pos z];obtain⟨a1,V,a3,a4,a5,a6,a7,a8⟩:=Ww (f:=XM (XS M)) it.s.args [] (XS M) (fun a I hr=>(G9 hc m j P (Ac I hr)).2) (fun v hv=>by cases hv);have J:=fun h=>BA (f:=XM (XS M)) it.s.args [] (XS M) h;have O:=fun h m0 hm0=>q5x hc hT d.len j v2 P z L (M:=XS M) C h (m0:=m0) hm0 (call:=it.s.id);unfold HY;generalize argsM (XM (XS M)) it.s.args [] (XS M)=ar at*
  obtain⟨ps,y,ok⟩:=ar;simp only at a1 V a3 a4 a5 a6 a7 a8 J O⊢;unfold Mv;cases ok with
  | false=>
    have h8:y.fin=4:=a8 rfl;rw[x7k,if_neg (by show ¬y.fin=0;omega)];show y.fin≠1;omega
  | true=>
    rw[x7z];split
    .show (5:Int)≠1;decide
    .have R:=XO watch y it.s.id [];split
     .refine .inl ⟨?_,?_⟩
      .obtain ⟨up,u1,⟨f1,H,Q⟩,x⟩:=u.st;have N:up≠[]:=fun e=>by rw[e]at H;cases H
       refine⟨up++[⟨HU p it.s,varsS p (prA p (HU p it.s)),List.range p.B.length++ps++List.range' (QK watch y it.s.id []).mem.length (prA p (HU p it.s)).E.length,it.s.id⟩],?_,⟨f1,by rw[List.head?_append,H];rfl,Q⟩,fun fr q=>?_⟩
       .show (QK watch y it.s.id []).stack++_=_;rw[R.1,a1,u1];rfl
       .rcases x6s.1 q with q|q
        .exact x fr q
        .rw [x6p.1 q];exact O rfl _ (by rw[R.2.1];exact V)
      .show ((QK watch y it.s.id []).mem++_)[c]?=some w;rw[R.2.1,x7b (by exact x9o C V),(J rfl).2.2.2 c C];exact T.mem
     .rename_i U;show(QK watch y it.s.id []).fin≠1;rw[R.2.2.1,(a7 rfl).1];show M.fin≠1;have:=i.fin;omega
 rw[if_neg z];by_cases Y:it.s.kind=9
 .rw [if_pos Y];obtain⟨u1,H⟩:=I8 watch m it.s rfl;obtain⟨Q,x⟩:=q0r (watch:=watch) (M:=XS M) (f:=XM (XS M)) (t:=it.s) o;generalize Pn watch (XS M) (XM (XS M)) it.s=r at*
  unfold Nh;split
  .rename_i U;exact u.same (H U).2 (by rw[x])
  .exact Q
 rw[if_neg Y,WP j];obtain⟨u1,H⟩:=q4z hc tape watch m j K z Y rfl;have Q:=q4q (p:=p) (tape:=tape) (watch:=watch) (f:=XM (XS M)) (g:=g) (it:=it) o;have x:=q4x (p:=p) (tape:=tape) (watch:=watch) (M:=XS M) (f:=XM (XS M)) (g:=g) (it:=it);have N:(it.s.kind=1\/it.s.kind=2)->varM (XM (XS M)) it.s.name≠c:=fun hk=>by
  have hn:it.s.name∈varsS p g:=by
   have hO:=Dr hc j P;have hn:=HP (hO.name (by omega));exact Xi hc j P (Sw (by omega) (by simpa using hn))
  refine q8c hc hT d.len j P L (by rw[v2];exact hn) ?_;unfold PQ;rcases hk with hk|hk
  .rw [if_pos hk];exact x6p.2 rfl
  .rw [if_neg (by omega),if_pos hk];exact x6g
 generalize doM p tape watch (XS M) (XM (XS M)) g it=r at*
 unfold Mv;split
 .rename_i U;refine .inl (u.same (H U).2.2 ?_);rcases x with x|⟨hk,n,x⟩
  .rw [x]
  .rw [x,x9v (N hk)]
 .exact Q
end
theorem S2:∀(l:List S)(pr up nx lp:Int)(n:Nat),(∀s∈l,s.I=[]/\s.L=[])->∀(i:Nat)(h:i<l.length),(itL pr up nx lp n l)[i]?=some ⟨l[i],pr,up,if i+1=l.length then nx else(n:Int)+i+2,lp⟩
 |[],_,_,_,_,_,_,i,h=>absurd h (z1o _)
 | t::r,pr,up,nx,lp,n,hf,i,h=>by
   obtain⟨j,m⟩:=hf t x6g;have o:itS pr up (if r.isEmpty then nx else(n:Int)+1+XT t) lp n t=[⟨t,pr,up,if r.isEmpty then nx else(n:Int)+1+XT t,lp⟩]:=by
    rw[q8t,j,m,itL,itL];rfl
   have q:XT t=1:=by
    cases t;simp only[S.I,S.L]at j m;rw[XT,j,m,cntL]
   rw[itL,o,q];cases i with
   | zero=>
     cases r with
     |nil=>rfl
     |cons a r=>simp;omega
   | succ i=>
     have v:=S2 r pr up nx lp (n+1) (fun s u=>hf s (x6b _ u)) i (by simpa using h);rw[List.singleton_append,z0w,v];simp only[x7g,Nat.add_right_cancel_iff,List.getElem_cons_succ];congr 2;split
     .rfl
     .omega
section
variable {p:Pg}{f:Pr}
def AR:∀s∈KT p f,s.I=[]/\s.L=[]:=fun s h=>by
 unfold KT at h;rcases x6s.1 h with h|h
 .obtain ⟨n,_,rfl⟩:=x6r.1 h;exact⟨rfl,rfl⟩
 .rcases x6m.1 h with rfl|h
  .exact ⟨rfl,rfl⟩
  .obtain ⟨n,_,rfl⟩:=x6r.1 h;exact⟨rfl,rfl⟩
def manyD(p:Pg)(f:Pr):Nat:=p.B.length+f.C.length
def KR(f:Pr):(zvL f).length=f.C.length:=by unfold zvL;simp
def Y2:(KT p f).length=2*manyD p f+2:=by
 unfold KT manyD;simp only[x6f,x6j,x7g,KR];omega
def q4w{i:Nat}(h:i<manyD p f):(KT p f)[i]?=some (rdT ((p.B++zvL f).getD i [])):=by
 have j:i<(p.B++zvL f).length:=by rw[x6f,KR];exact h
 unfold KT;rw[x7b (by rw[x6j];exact j),x6a,x6h,x6k j];rfl
def Ns:(KT p f)[manyD p f]?=some (Cx f):=by
 have h:((p.B++zvL f).map rdT).length=manyD p f:=by rw[x6j,x6f,KR];rfl
 unfold KT;rw[x7d (by omega),h,z1d];rfl
def AT{t:Nat}(h:t<manyD p f+1):(KT p f)[manyD p f+1+t]?=some (prT ((zrS::(zvL f++p.B)).getD t [])):=by
 have j:((p.B++zvL f).map rdT).length=manyD p f:=by rw[x6j,x6f,KR];rfl
 have i:t<(zrS::(zvL f++p.B)).length:=by
  simp only[x7g,x6f,KR];unfold manyD at h;omega
 unfold KT;rw[x7d (by omega),j,show manyD p f+1+t-manyD p f=t+1 by omega,z0w,x6a,x6h,x6k i];rfl
def Cv(p:Pg)(f:Pr)(m:Nat):Pr:=⟨mainS,[],zrS::zvL f,nmL m (KT p f),[]⟩
def Xb(hp:QS p=true):∃m,(ZE p f).A[mainN p]?=some (Cv p f m):=by
 obtain⟨_,i,_⟩:=Fq hp;obtain⟨n,h⟩:=Nc (f:=f) i;have j:UU p f (prA p (mainN p))=IA p f:=if_pos (by rw[Mt hp];exact x8f _);rw[j]at h;exact⟨n,h⟩
def AA:mainN (ZE p f)=mainN p:=by
 unfold mainN;rw[RX]
def Y3(hp:QS p=true)(hq:QS (ZE p f)=true){m:Nat}(d:(ZE p f).A[mainN p]?=some (Cv p f m)){i:Nat}{s:S}(y:(KT p f)[i]?=some s):∃it,(sheetOf (ZE p f)).l[QH (ZE p f).A (mainN p)+i]?=some it/\it∈itsOf (ZE p f) (mainN p) (Cv p f m)/\it.s.kind=s.kind/\it.s.name=s.name/\it.s.x=s.x/\it.s.D=s.D/\it.s.args=s.args/\
  it.s.id=QH (ZE p f).A (mainN p)+i+1/\it.next=if i+1=(KT p f).length then -1 else(QH (ZE p f).A (mainN p)+i+2:Int):=by
 obtain⟨g,z⟩:=x6n.1 y;have a:=Bf (KT p f) m i g;have C:=V1 m (KT p f);have u:∀s∈nmL m (KT p f),s.I=[]/\s.L=[]:=fun s y=>by
  obtain⟨j,B,rfl⟩:=x8v.1 y;have r:=Bf (KT p f) m j (by omega);rw[x6k B]at r;rw[x8l r,Kv];obtain⟨n,e⟩:=AR (p:=p) (f:=f) _ (x6o (show j<(KT p f).length by omega));simp only[S.I,S.L];refine⟨?_,?_⟩
  .show nmL _ (S.I _)=[];rw[n,nmL]
  .show nmL _ (S.L _)=[];rw[e,nmL]
 have o:=S2 (nmL m (KT p f)) (mainN p:Nat) 0 (-1) 0 (QH (ZE p f).A (mainN p)) u i (by omega);have o:(itsOf (ZE p f) (mainN p) (Cv p f m))[i]?=_:=o;have r:=OF hq d (x7j o);have q:=Bu (QJ hq).1 d;have n:=x8m (fun l:List Int=>l[i]?) q;simp only[x6a,o,x9m]at n;have t:i<cntL (Cv p f m).body:=by
  show i<cntL (nmL m (KT p f));have:=Xk (nmL m (KT p f));omega
 unfold JK at n;rw[x6a,z0m t]at n;have n:=x8l n;have v:((nmL m (KT p f))[i]'(by omega)).id=(QH (ZE p f).A (mainN p):Int)+i+1:=by
  have n:((nmL m (KT p f))[i]'(by omega)).id=((QH (ZE p f).A (mainN p)+1+1*i:Nat):Int):=n;rw[n];omega
 have h:(nmL m (KT p f))[i]'(by omega)=nmS (m+cntL ((KT p f).take i)) s:=by
  rw[x6k (by omega)]at a;rw[x8l a,z]
 refine⟨_,?_,x7j o,?_,?_,?_,?_,?_,v,?_⟩
 .rw [<-r];congr 1;simp only;omega
 .simp only;rw[h,Kv];rfl
 .simp only;rw[h,Kv];rfl
 .simp only;rw[h,Kv];rfl
 .simp only;rw[h,Kv];rfl
 .simp only;rw[h,Kv];rfl
 .simp only;rw[C]
def baseD(p:Pg)(f:Pr):Fm:=⟨mainN p,p.B++(zrS::zvL f),List.range p.B.length++[]++List.range' p.B.length (zrS::zvL f).length,0⟩
def Ti(i:Nat)(h:i<manyD p f+1):(baseD p f).E[i]?=some i:=by
 show(List.range p.B.length++[]++List.range' p.B.length (zrS::zvL f).length)[i]?=some i;rw[x8x];rcases x6c i p.B.length with j|j
 .rw [x7b (by simpa using j),x9b j]
 .rw [x7d (by simpa using j),x9c,z0m (by rw[x7g,KR];unfold manyD at h;omega)];congr 1;omega
def Dm(hq:QS (ZE p f)=true){m:Nat}(h:(ZE p f).A[mainN p]?=some (Cv p f m)):(baseD p f).names.Nodup:=
 (((Lv (QJ hq).1).1 (QJ hq).2.1).2 _ (x7j h)).nd
def Dn(q:(baseD p f).names.Nodup){i:Nat}{n:Str}(h:(baseD p f).names[i]?=some n):idxF (fun y=>n==y) (baseD p f).names=(i:Nat)/\varM (baseD p f) n=i:=by
 obtain⟨t,s⟩:=x6n.1 h;have u:(baseD p f).names.length=manyD p f+1:=by
  show(p.B++(zrS::zvL f)).length=_;rw[x6f,x7g,KR];rfl
 have j:(baseD p f).names.any (fun y=>n==y)=true:=x8z.2 ⟨n,x7j h,by simp⟩;have m:(baseD p f).names.findIdx (fun y=>n==y)=i:=by
  have o:=List.findIdx_lt_length_of_exists (p:=fun y=>n==y) (xs:=(baseD p f).names) (by simpa using j);have l:=z2d (w:=o);have l:n=(baseD p f).names[(baseD p f).names.findIdx (fun y=>n==y)]:=by simpa using l
  exact(List.getElem_inj q).1 (l.symm.trans s.symm)
 have r:idxF (fun y=>n==y) (baseD p f).names=(i:Nat):=by
  unfold idxF;rw[j,x7z,m]
 refine⟨r,?_⟩;unfold varM;rw[r,z0d,x6h,Ti i (by omega)];rfl
def rdC(p:Pg)(i:Nat):Nat:=if i<p.B.length then i else i+1
def tlC(p:Pg)(f:Pr)(t:Nat):Nat:=if t<f.C.length then p.B.length+1+t else t-f.C.length
def q5e{i:Nat}(h:i<manyD p f):(baseD p f).names[rdC p i]?=some ((p.B++zvL f).getD i []):=by
 show(p.B++(zrS::zvL f))[rdC p i]?=_;have l:i<(p.B++zvL f).length:=by rw[x6f,KR];exact h
 rw[x6h,x6k l];unfold rdC;split
 .rename_i j;rw[x7b j,List.getElem_append_left j,x6k j];rfl
 .rename_i j;rw[x7d (by omega),show i+1-p.B.length=i-p.B.length+1 by omega,z0w,List.getElem_append_right (by omega),x6k (by rw[KR];unfold manyD at h;omega)];rfl
def q6o:(baseD p f).names[p.B.length]?=some zrS:=by
 show(p.B++(zrS::zvL f))[p.B.length]?=_;rw[x7d (x7u _),z1d];rfl
def IC{j:Nat}(h:j<f.C.length):(baseD p f).names[p.B.length+1+j]?=some (zvS j):=by
 show(p.B++(zrS::zvL f))[p.B.length+1+j]?=_;rw[x7d (by omega),show p.B.length+1+j-p.B.length=j+1 by omega,z0w];unfold zvL;rw[x6a,x9b h];rfl
def q6f{t:Nat}(h:t<manyD p f):(baseD p f).names[tlC p f t]?=some ((zvL f++p.B).getD t []):=by
 unfold tlC;have l:=KR f;split
 .rename_i i;rw[IC i,x6h,x7b (by omega)];unfold zvL;rw[x6a,x9b i];rfl
 .rename_i i;have j:t-f.C.length<p.B.length:=by unfold manyD at h;omega
  show(p.B++(zrS::zvL f))[t-f.C.length]?=_;rw[x7b j,x6h,x7d (by omega),l,x6k j];rfl
def Aa{j:Nat}{x:Param}(h:f.C[j]?=some x):(KA f.C)[j]?=some (A8 x j):=by
 obtain⟨i,_⟩:=x6n.1 h;unfold KA;rw[x6a,x9b i];simp only[x9m,x6h,h,x9h]
def Nj:(KA f.C).length=f.C.length:=by unfold KA;simp
end
section
variable (p:Pg)(f:Pr)(c:Nat)(w:Int)(tape:List Int)
def offD:Nat:=QH (ZE p f).A (mainN p)
structure PhA(i:Nat)(a:Int)(M:Mc):Prop where
 st:M.stack=[baseD p f]
 at_:a=offD p f+i+1
 le:i<=manyD p f
 rd:M.reads=i
 tp:i<=tape.length
 ml:M.mem.length=manyD p f+1
 mem:∀i',i'<i->M.mem[rdC p i']?=some (tape.getD i' 0)
 zr:M.mem[p.B.length]?=some 0
def PhB(M:Mc):Prop:=manyD p f<=tape.length/\KpM (ZE p f) c w (baseD p f) (offD p f+manyD p f+1) M
structure PhC(i:Nat)(a:Int)(M:Mc):Prop where
 tp:manyD p f<=tape.length
 st:M.stack=[baseD p f]
 lo:manyD p f+1<=i
 hi:i<=2*manyD p f+2
 at_:a=if i=2*manyD p f+2 then -1 else(offD p f+i+1:Int)
 mem:c≠p.B.length->M.mem[c]?=some w
 out:manyD p f+2<=i->∃L0,1<=L0/\M.out.length=L0+(i-(manyD p f+2))/\∀t,t<i-(manyD p f+2)->tlC p f t=c->c≠p.B.length->M.out[L0+t]?=some w
def PhF(M:Mc):Prop:=M.fin=1->manyD p f<=tape.length/\manyD p f+1<=M.out.length/\∀t,t<manyD p f->tlC p f t=c->c≠p.B.length->M.out[M.out.length-manyD p f+t]?=some w
def PhK:Cf->Prop
 |.next a M=>(∃i,PhA p f tape i a M)\/PhB p f c w tape M\/∃i,PhC p f c w tape i a M
 |.back _ M=>PhB p f c w tape M\/PhC p f c w tape (2*manyD p f+2) (-1) M
 |.fin M=>PhF p f c w tape M
end
def q5a{p:Pg}{i j:Nat}(h:rdC p i=rdC p j):i=j:=by
 unfold rdC at h;split at h<;>split at h<;>omega
def q2o{p:Pg}{i:Nat}:rdC p i≠p.B.length:=by
 unfold rdC;split<;>omega
def q9f{p:Pg}{f:Pr}{c:Nat}(h:c<manyD p f+1)(l:c≠p.B.length):∃i,i<manyD p f/\rdC p i=c:=by
 unfold manyD at*
 unfold rdC;rcases x6c c p.B.length with j|j
 .exact ⟨c,by omega,if_pos j⟩
 .exact ⟨c-1,by omega,by rw[if_neg (by omega)];omega⟩
def q1s{M:Mc}{f:Fm}{n:Str}(h:(QM M f (nmX n)).2=true):(QM M f (nmX n)).1=x1n M f n:=by
 unfold QM evX at h⊢;cases i:R5 (nmX n)with
 |false=>rw[i]at h;cases h
 |true=>rfl
section
variable {p:Pg}{f:Pr}(hp:QS p=true)(hq:QS (ZE p f)=true){k:Nat}(hk:p.A[k]? = some f)(hfm:f.name≠mainS){c:Nat}{w:Int}{tape:List Int}(hc:c<manyD p f+1)(hw:(c=p.B.length->w=0) /\ ∀ i,i<manyD p f->rdC p i=c->tape.getD i 0=w)(hG : ∀ n,p.B[c]? = some n->n∉(bookOf p).N.getD k [])(hP : ∀ (j:Nat) (x:Param),f.C[j]? = some x->c=p.B.length+1+j->x.ref=true->x.name∉(bookOf p).N.getD k [])
include hp
theorem q0f:PhA p f tape 0 (Um (ZE p f) (mainN (ZE p f)) (prA (ZE p f) (mainN (ZE p f)))) (GL (ZE p f) (mainN (ZE p f)) (prA (ZE p f) (mainN (ZE p f))) [] 0 (M00 (ZE p f))):=by
 obtain⟨m,l⟩:=Xb (f:=f) hp;rw[AA,WP l];have n:=KR f;refine⟨?_,?_,x6t _,rfl,x6t _,?_,fun i h=>absurd h (z1o _),?_⟩
 .show []++[(⟨mainN p,p.B++(zrS::zvL f),List.range p.B.length++[]++List.range' (List.replicate p.B.length (0:Int)).length (zrS::zvL f).length,0⟩:Fm)]=[baseD p f];rw[x8j];rfl
 .unfold Um;have j:=Xk (nmL m (KT p f));rw[V1,Y2]at j;rw[if_pos (by show _<_+cntL (nmL m (KT p f));omega)];unfold offD;omega
 .show (List.replicate p.B.length (0:Int)++List.replicate (zrS::zvL f).length 0).length=_;rw[x6f,x8j,x8j,x7g,n];unfold manyD;omega
 .show (List.replicate p.B.length (0:Int)++List.replicate (zrS::zvL f).length 0)[p.B.length]?=some 0;rw[x7d (by simp),x8j,z1d];rfl
include hq
def q5t(watch:List Int){i:Nat}{a:Int}{M:Mc}(u:Good (ZE p f) M M.steps)(j:PhA p f tape i a M)(v:i<manyD p f):PhK p f c w tape (goC (ZE p f) tape watch fuel (.next a M)):=by
 obtain⟨m,B⟩:=Xb (f:=f) hp;have x:=Dm hq B;obtain⟨it,F,O,q,G,P,Q,R,T,H⟩:=Y3 hp hq B (q4w (p:=p) (f:=f) v);have r:=j.at_;simp only[goC];rw[if_neg (by omega)];by_cases g:M.steps=fuel
 .rw [if_pos g];intro h;have h:(2:Int)=1:=h;omega
 rw[if_neg g,show(a-1).toNat=QH (ZE p f).A (mainN p)+i by rw[r];unfold offD;omega,F];simp only;have q:it.s.kind=2:=q;unfold stI;rw[if_neg (by omega),if_neg (by omega)];have n:XM (XS M)=baseD p f:=YL (M:=XS M) (st:=[]) j.st;rw[n];unfold doM;rw[if_neg (by omega),if_neg (by omega),if_neg (by omega),if_pos q];have y:(XS M).reads=i:=j.rd;have d:varM (baseD p f) it.s.name=rdC p i:=by
  rw[G];exact(Dn x (q5e v)).2
 split
 .unfold Mv;rw[if_neg (by show ¬(3:Int)=0;decide)];intro h;have h:(3:Int)=1:=h;omega
 .rename_i J;rw[d,y,z0d];obtain⟨C,o,D,K,E,L,N⟩:=XO watch (setM {XS M with reads:=(i:Int)+1} (rdC p i) (tape.getD i 0)) it.s.id [tape.getD i 0];unfold Mv;rw[if_pos (by show(QK watch _ _ _).fin=0;rw[D];exact u.fin)];refine .inl ⟨i+1,?_⟩;have l:=j.ml;have z:rdC p i<M.mem.length:=by
   rw[l];unfold rdC;split<;>omega
  refine⟨C.trans j.st,?_,v,by show(QK watch _ _ _).reads=_;rw[E];show(i:Int)+1=_;omega,by omega,?_,fun i' I=>?_,?_⟩
  .show it.next=_;have U:=Y2 (p:=p) (f:=f);rw[H,if_neg (by omega)];unfold offD;omega
  .show (QK watch _ _ _).mem.length=_;rw[o];show(M.mem.set _ _).length=_;rw[x8i];exact l
  .show (QK watch _ _ _).mem[_]?=_;rw[o];show(M.mem.set _ _)[_]?=_;rw[x9r];by_cases t:rdC p i=rdC p i'
   .have:=q5a t;subst this;rw[if_pos rfl,if_pos z]
   .rw [if_neg t];refine j.mem i' ?_;refine Nat.lt_of_le_of_ne (by omega) fun e=>t (by rw[e])
  .show (QK watch _ _ _).mem[_]?=_;rw[o];show(M.mem.set _ _)[_]?=_;rw[x9v q2o];exact j.zr
def q5s(watch:List Int){i:Nat}{a:Int}{M:Mc}(F:Good (ZE p f) M M.steps)(o:PhC p f c w tape i a M):PhK p f c w tape (goC (ZE p f) tape watch fuel (.next a M)):=by
 obtain⟨m,Q⟩:=Xb (f:=f) hp;have H:=Dm hq Q;have hlo:=o.lo;have hhi:=o.hi;have l:=o.at_;simp only[goC];by_cases G:i=2*manyD p f+2
 .rw [if_pos G]at l;rw[if_pos l];refine .inr ?_;rw[<-G,<-l];exact o
 rw[if_neg G]at l;rw[if_neg (by omega)];by_cases P:M.steps=fuel
 .rw [if_pos P];intro h;have h:(2:Int)=1:=h;omega
 obtain⟨t,rfl⟩ : ∃t,i=manyD p f+1+t:=⟨i-(manyD p f+1),by omega⟩;have ht:t<manyD p f+1:=by omega
 obtain⟨it,h1,h2,C,h4,D,h6,h7,h8,h9⟩:=Y3 hp hq Q (AT (p:=p) (f:=f) ht);rw[if_neg P,show(a-1).toNat=QH (ZE p f).A (mainN p)+(manyD p f+1+t) by rw[l];unfold offD;omega,h1];simp only;have C:it.s.kind=3:=C;have D:it.s.x=nmX ((zrS::(zvL f++p.B)).getD t []):=D;unfold stI;rw[if_neg (by omega),if_neg (by omega)];have e:XM (XS M)=baseD p f:=YL (M:=XS M) (st:=[]) o.st;rw[e];unfold doM;rw[if_neg (by omega),if_neg (by omega),if_neg (by omega),if_neg (by omega),D];have L:=q1s (M:=XS M) (f:=baseD p f) (n:=(zrS::(zvL f++p.B)).getD t []);cases O:(QM (XS M) (baseD p f) (nmX ((zrS::(zvL f++p.B)).getD t []))).2 with
 | false=>
   rw[x7k];unfold Mv;rw[if_neg (by show ¬(4:Int)=0;decide)];intro h;have h:(4:Int)=1:=h;omega
 | true =>
   have L:=L O;rw[x7z,if_neg (by omega),if_pos C,L];generalize N:x1n (XS M) (baseD p f) ((zrS::(zvL f++p.B)).getD t [])=v;obtain⟨T,U,V,e4,e5,Y,e7⟩:=XO watch (XS M) it.s.id [v];unfold Mv;rw[if_pos (by show(QK watch _ _ _).fin=0;rw[V];exact F.fin)];refine .inr (.inr ⟨manyD p f+1+t+1,?_⟩);have r:∀x,x∈[()]->((QK watch (XS M) it.s.id [v]).out++[v])=M.out++[v]:=fun _ _=>by rw[Y];rfl
   have r:=r () (by simp);refine⟨o.tp,T.trans o.st,by omega,by omega,?_,fun q=>?_,fun _=>?_⟩
   .show it.next=_;have hl:=Y2 (p:=p) (f:=f);rw[h9];by_cases y:manyD p f+1+t+1=2*manyD p f+2
    .rw [if_pos (by omega),if_pos y]
    .rw [if_neg (by omega),if_neg y];unfold offD;omega
   .show (QK watch _ _ _).mem[_]?=_;rw[U];exact o.mem q
   .show ∃u,1<=u/\((QK watch (XS M) it.s.id [v]).out++[v]).length=_/\∀j,_->_->_->((QK watch (XS M) it.s.id [v]).out++[v])[u+j]?=some w;rw[r];cases t with
    |zero=>exact⟨M.out.length+1,by omega,by rw[x6f];simp only[x7g,x9y];omega,fun j I=>by omega⟩
    | succ t=>
      obtain⟨u,g1,g2,Z⟩:=o.out (by omega);refine⟨u,g1,by rw[x6f];simp only[x7g,x9y];omega,fun j I d q=>?_⟩;rcases x6c j t with g|g
      .rw [x7b (by omega)];exact Z j (by omega) d q
      .obtain rfl:j=t:=by omega
       rw[x7d (by omega),show u+j-M.out.length=0 by omega,z1k];refine x8m some ?_;have K:=q6f (p:=p) (f:=f) (t:=j) (by omega);obtain⟨R,b2⟩:=Dn H K;rw[<-N];show Y4 (baseD p f).names ((baseD p f).E.map fun v=>M.mem.getD v 0) ((zvL f++p.B).getD j [])=w;have J:tlC p f j<manyD p f+1:=by
        unfold tlC;unfold manyD at*
        split<;>omega
       have z:=Ti (p:=p) (f:=f) (tlC p f j) J;have hbl:=(x6n.1 z).1;unfold Y4;rw[R,if_pos ⟨by omega,by rw[x6j];omega⟩,z0d,x6h,x6a,z];show M.mem.getD (tlC p f j) 0=w;rw[x6h,d,o.mem q];rfl
omit hq in
include hk hfm in
def x1y:∃n,(ZE p f).A[k]?=some ⟨f.name,f.C,f.E,nmL n f.body,f.fin⟩/\idxF (fun g:Pr=>g.name==f.name) (ZE p f).A=(k:Nat):=by
 obtain⟨n,i⟩:=Nc (f:=f) hk;rw[show UU p f f=f from if_neg (by simpa using hfm)]at i;refine⟨n,i,?_⟩;rw[RX];obtain⟨m,h,j,_,_,l⟩:=Wa (p:=p) (n:=f.name) (x6r.2 ⟨f,x7j hk,rfl⟩);obtain⟨rfl,_⟩:=NN hp hk (x6k h) l.symm;exact j
include hk hfm hc hw hG hP
def q5r(watch:List Int){a:Int}{M:Mc}(V:Good (ZE p f) M M.steps)(z:PhA p f tape (manyD p f) a M):PhK p f c w tape (goC (ZE p f) tape watch fuel (.next a M)):=by
 obtain⟨m,hm⟩:=Xb (f:=f) hp;have hnd:=Dm hq hm;obtain⟨it,h1,h2,O,h4,h5,P,Q,h8,h9⟩:=Y3 hp hq hm (Ns (p:=p) (f:=f));obtain⟨n,J,Y⟩:=x1y hp hk hfm;have R:=z.at_;simp only[goC];rw[if_neg (by omega)];by_cases hf:M.steps=fuel
 .rw [if_pos hf];intro h;have h:(2:Int)=1:=h;omega
 rw[if_neg hf,show(a-1).toNat=QH (ZE p f).A (mainN p)+manyD p f by rw[R];unfold offD;omega,h1];simp only;have O:it.s.kind=4:=O;have Q:it.s.args=KA f.C:=Q;have P:it.s.D=f.name:=P;unfold stI;rw[if_pos O];have K:XM (XS M)=baseD p f:=YL (M:=XS M) (st:=[]) z.st;have T:HU (ZE p f) it.s=k:=by
  unfold HU;rw[P,Y];rfl
 rw[K,T,WP J];have hml:(XS M).mem.length=manyD p f+1:=z.ml;have t:∀(j:Nat)(b:Arg),(KA f.C)[j]?=some b->b.ref=true->j<f.C.length/\varM (baseD p f) b.name=p.B.length+1+j:=fun j b d F=>by
  obtain⟨q,_⟩:=x6n.1 d;rw[Nj]at q;rw[Aa (x6k q)]at d;have d:=x8l d;refine⟨q,?_⟩;rw[<-d]at F⊢;unfold A8 at F⊢;split at F
  .rename_i G;rw[if_pos G];exact(Dn hnd (IC q)).2
  .cases F
 obtain⟨a1,a2,a3,a4,a5,a6,a7,a8⟩:=Ww (f:=baseD p f) (KA f.C) [] (XS M) (fun b d F=>by
  obtain⟨j,hj,rfl⟩:=x8v.1 d;obtain⟨l,o⟩:=t j _ (x6k hj) F;rw[o,hml];unfold manyD;omega) (fun v hv=>by cases hv)
 have H:=BA (f:=baseD p f) (KA f.C) [] (XS M);have Z:(XS M).mem[c]?=some w:=by
  by_cases e:c=p.B.length
  .rw [e,hw.1 e];exact z.zr
  .obtain ⟨i,l,o⟩:=q9f hc e;have y:=z.mem i l;rw[o]at y;rw[<-hw.2 i l o];exact y
 unfold HY;rw[Q];generalize argsM (baseD p f) (KA f.C) [] (XS M)=ar at*
 obtain⟨ps,r,ok⟩:=ar;simp only at a1 a2 a3 a4 a5 a6 a7 a8 H⊢;unfold Mv;cases ok with
 | false=>
   have l:r.fin=4:=a8 rfl;rw[x7k,if_neg (by show ¬r.fin=0;omega)];intro h;have h:r.fin=1:=h;omega
 | true =>
   rw[x7z];obtain⟨c1,c2,c3,c4⟩:=H rfl;have N:=XO watch r it.s.id [];split
   .rw [if_neg (by show ¬(5:Int)=0;decide)];intro h;have h:(5:Int)=1:=h;omega
   .rw [if_pos (by show(QK watch r it.s.id []).fin=0;rw[N.2.2.1,(a7 rfl).1];exact V.fin)];refine .inr (.inl ⟨z.tp,⟨[⟨k,varsS (ZE p f) ⟨f.name,f.C,f.E,nmL n f.body,f.fin⟩,List.range (ZE p f).B.length++ps++List.range' (QK watch r it.s.id []).mem.length f.E.length,it.s.id⟩],?_,⟨_,rfl,?_⟩,fun fr U=>?_⟩,?_⟩)
    .show (QK watch r it.s.id []).stack++_=_;rw[N.1,a1];show M.stack++_=_;rw[z.st];rfl
    .show it.s.id=_;rw[h8];unfold offD;rfl
    .rw [x6p.1 U];have u:=Og hp hq hk hfm;refine Ee J (c:=c) ?_ ?_ (fun nn hnn g=>hG nn hnn (u nn g)) fun j x G hv=>?_
     .rw [N.2.1];have:=a2;omega
     .rw [c1];simp[Nj]
     .have G:f.C[j]?=some x:=G;have I:=Aa G;rcases c3 j (A8 x j) c I (by simpa using hv)with⟨l,o⟩|⟨_,o⟩
      .obtain ⟨y,h13⟩:=t j _ I l;have L:x.ref=true:=by
        unfold A8 at l;split at l
        .assumption
        .cases l
       exact⟨L,fun g=>hP j x G (by omega) L (u _ g)⟩
      .omega
    .show ((QK watch r it.s.id []).mem++_)[c]?=some w;rw[N.2.1,x7b (by omega),c4 c (by omega)];exact Z
def x2u(watch:List Int){s:Cf}(n:Qt (ZE p f) fuel s)(C:q1c (ZE p f) s)(h:PhK p f c w tape s):PhK p f c w tape (goC (ZE p f) tape watch fuel s):=by
 obtain⟨m,E⟩:=Xb (f:=f) hp;have z:=Dm hq E;obtain⟨it,I,O,P,J,Q,R,T,U,K⟩:=Y3 hp hq E (Ns (p:=p) (f:=f));have l:manyD p f<=tape.length->∀(a:Int)(M:Mc),KpR (ZE p f) c w (baseD p f) (offD p f+manyD p f+1) (.next a M)->PhK p f c w tape (.next a M):=fun j a M o=>by
  rcases o with o|⟨g1,y,L,x,H⟩
  .exact .inr (.inl ⟨j,o⟩)
  .rw [show((offD p f:Int)+manyD p f+1-1).toNat=QH (ZE p f).A (mainN p)+manyD p f by unfold offD;omega,I]at y x;cases x;refine .inr (.inr ⟨manyD p f+1,j,g1,x7u _,by omega,?_,fun q=>y fun N u Y=>?_,fun h=>by omega⟩)
   .have V:=Y2 (p:=p) (f:=f);rw[H,K,if_neg (by omega),if_neg (by omega)];unfold offD;omega
   .cases u;rw[J];show varM (baseD p f) zrS≠c;rw[(Dn z q6o).2];exact fun e=>q e.symm
 cases s with
 |fin M=>exact h
 | back g M=>
   rcases h with⟨j,h⟩|h
   .have o:=q5q hq n.1 C h g;show PhK p f c w tape (JD (ZE p f) g M);generalize JD (ZE p f) g M=r at*
    cases r with
    |next a M'=>exact l j a M' o
    |back G M'=>exact .inl ⟨j,o⟩
    |fin M'=>exact fun e=>absurd e o
   .show PhK p f c w tape (JD (ZE p f) g M);unfold JD;have v:XM M=baseD p f:=YL (st:=[]) h.st;rw[v,if_pos (show(baseD p f).call=0 from rfl)];intro _;obtain⟨F,g1,y,x⟩:=h.out (by omega);have d:(endM (popM M M.stack.dropLast) 1).out=M.out:=rfl;rw[d];refine⟨h.tp,by omega,fun t Z B q=>?_⟩;rw[show M.out.length-manyD p f+t=F+t by omega];exact x t (by omega) B q
 | next a M=>
   rcases h with⟨i,h⟩|⟨j,h⟩|⟨i,h⟩
   .rcases x6c i (manyD p f)with D|D
    .exact q5t hp hq watch n.1 h D
    .obtain rfl:i=manyD p f:=by have:=h.le;omega
     exact q5r hp hq hk hfm hc hw hG hP watch n.1 h
   .have o:=x1e hq tape watch n C h;generalize goC (ZE p f) tape watch fuel (.next a M)=r at*
    cases r with
    |next a M'=>exact l j a M' o
    |back G M'=>exact .inl ⟨j,o⟩
    |fin M'=>exact fun e=>absurd e o
   .exact q5s hp hq watch n.1 h
def I0(watch:List Int)(h:0<=fuel)(n:Nat):PhK p f c w tape (Ut (ZE p f) tape watch fuel n (PA (ZE p f))):=by
 induction n with
 |zero=>exact .inl ⟨0,q0f hp⟩
 | succ n l=>
   rw[PK];obtain⟨i,j⟩:=q6w hq tape watch h n;exact x2u hp hq hk hfm hc hw hG hP watch i j l
end
structure KeepF(p:Pg)(f:Pr)(tape out:List Int):Prop where
 tp:manyD p f<=tape.length
 ou:manyD p f+1<=out.length
 par:∀(j:Nat)(x:Param),f.C[j]?=some x->¬(x.ref=true/\x.name∈outsN p f.name)->out.getD (out.length-manyD p f+j) 0=tape.getD (p.B.length+j) 0
 gl:∀(i:Nat)(g:Str),p.B[i]?=some g->g∉outsN p f.name->out.getD (out.length-manyD p f+(f.C.length+i)) 0=tape.getD i 0
def OL{p:Pg}{f:Pr}(hp:QS p=true)(hq:QS (ZE p f)=true){k:Nat}(hk:p.A[k]?=some f)(hfm:f.name≠mainS){tape:List Int}(r:0<=fuel){n:Nat}{M:Mc}(h:Ut (ZE p f) tape watch fuel n (PA (ZE p f))=.fin M)(s:M.fin=1):KeepF p f tape M.out:=by
 have v:=(q5l hp hk).2.1;have z:=I0 hp hq hk hfm (c:=p.B.length) (w:=0) (tape:=tape) (by unfold manyD;omega) ⟨fun _=>rfl,fun i _ h=>absurd h q2o⟩ (fun n l=>by rw[x7a (x7u _)]at l;cases l) (fun j x _ h=>by omega) watch r n;rw[h]at z;obtain⟨F,G,_⟩:=z s;refine⟨F,G,fun j x y o=>?_,fun i g u o=>?_⟩
 .have t:=(x6n.1 y).1;have m:=I0 hp hq hk hfm (c:=p.B.length+1+j) (w:=tape.getD (p.B.length+j) 0) (tape:=tape) (by unfold manyD;omega) ⟨fun e=>by omega,fun i _ e=>by
   unfold rdC at e;split at e
   .omega
   .rw [show i=p.B.length+j by omega]⟩ (fun n l=>by rw[x7a (by omega)]at l;cases l) (fun a E q e m=>by
   obtain rfl:a=j:=by omega
   rw[y]at q;cases q;rw[<-v];exact fun D=>o ⟨m,D⟩) watch r n
  rw[h]at m;have:=(m s).2.2 j (by unfold manyD;omega) (by unfold tlC;rw[if_pos t]) (by omega);rw[x6h,this];rfl
 .have d:=(x6n.1 u).1;have m:=I0 hp hq hk hfm (c:=i) (w:=tape.getD i 0) (tape:=tape) (by unfold manyD;omega) ⟨fun e=>by omega,fun i' _ e=>by
   unfold rdC at e;split at e
   .rw [e]
   .omega⟩ (fun n l=>by
   rw[u]at l;cases l;rw[<-v];exact o) (fun a E q e m=>by omega) watch r n
  rw[h]at m;have:=(m s).2.2 (f.C.length+i) (by unfold manyD;omega) (by unfold tlC;rw[if_neg (by omega)];omega) (by omega);rw[x6h,this];rfl
def x6z{D:Prop}{G R:Nat->Mc->Prop}(h:(∀m M,R m M->G m M)->D)(i:∀m M,R m M->G m M):D:=h i
def I3{p:Pg}(hc:QS p=true)(n:Int):∃(k:Nat) (f:Pr),p.A[k]?=some f/\f.name=GR p n/\O3 p f.name=some (QQ p k f):=by
 obtain⟨k,f,hk,m,_⟩:=CK hc n;obtain⟨o,q,h,r,_,l,_⟩:=Zp m;have i:k=o:=by
  have:(QQ p k f).j=(QQ p o q).j:=by rw[r]
  exact this
 subst i;rw[hk]at h;cases h;exact⟨k,f,hk,l,by rw[l];exact m⟩
def Oj{l:List Int}{d i:Nat}(h:d+i<l.length):((l.map (AV.int .i64)).drop d)[i]?=some (.int .i64 (l.getD (d+i) 0)):=by
 rw[x8t,x6a,x6h,x6k h];rfl
def q4n(l:List Int){a b:Nat}(h:b=a)(i:a<l.length):l.getD b 0=l[a]:=by
 subst h;rw[x6h,x6k i,x9h]
def q5j{l:List Int}{i:Nat}(h:i<l.length):(l.map (AV.int .i64))[i]?=some (.int .i64 (l.getD i 0)):=by
 rw[x6a,x6h,x6k h];rfl
def FQ(p:Pg)(n:Int)(tape:List Int)(fuel:Int):SpecP Tryz.prog 7 [.agg p.cells,.int .i64 n,XL tape,.int .i64 fuel] (fun r=>r=.tt):=by
 refine sB KC Tryz.func7 rfl Tryz.call7 ?_;conv=>whnf
 cases s:q2h p with
 | false=>
   have hno:¬gPg p<=20000:=by unfold q2h at s;simpa using s
   repeat' (first|((first|(refine iM fun _=>?_)|refine cP (ZA _) ?_|refine dA ?_|refine x6d rfl ?_|refine aD ?_|refine aR ?_|refine bP ?_|(refine iA fun _=>?_)|refine IdxK.xs (by omega) ?_|refine QI (by omega) ?_|(refine ByteK.at (by omega) ?_)|refine wI ?_|refine cP XP ?_);conv=>whnf)|(apply bD<;>intro _<;>first|omega|conv=>whnf)|(apply bE<;>intro _<;>first|omega|conv=>whnf)|(apply bN<;>intro _<;>conv=>whnf)|(apply bB<;>intro _<;>conv=>whnf))
   all_goals first
    |exact⟨_,.p (Sub.refl _),rfl⟩
    |(exfalso;simp_all;done)
 | true =>
   have hf:Fit p:=q8g s;have z:gPg p<=20000:=by unfold q2h at s;simpa using s
   have D:=Qg p hf 60;have htm:(tape.map (AV.int .i64)).length=tape.length:=x6j _;by_cases A:Fs p 60=true/\0<=fuel/\fuel<=300/\tape.length<=100
   .obtain ⟨U,L,hf1,htl⟩:=A;rw[U]at D;have hc:=Ij U;have G:=Qb p n (E3 hc);obtain⟨k,f,hk,hn,hw⟩:=I3 hc n;rw[<-hn]at G;by_cases hm:f.name=mainS
    .have e:=GS p;rw[hm]at G;repeat' (first|((first|(refine iM fun _=>?_)|refine cP (ZA _) ?_|refine dA ?_|refine x6d rfl ?_|refine aD ?_|refine aR ?_|refine bP ?_|(refine iA fun _=>?_)|refine IdxK.xs (by omega) ?_|refine QI (by omega) ?_|(refine ByteK.at (by omega) ?_)|refine wI ?_|refine cP XP ?_|refine cP D ?_|refine cP G ?_|refine cP e ?_);conv=>whnf)|(apply bD<;>intro _<;>first|omega|conv=>whnf)|(apply bE<;>intro _<;>first|omega|conv=>whnf)|(apply bN<;>intro _<;>conv=>whnf)|(apply bB<;>intro _<;>conv=>whnf))
     all_goals first
      |contradiction
      |(exfalso;omega)
      |exact⟨_,.p (Sub.refl _),rfl⟩
    have N:=AS hc hk z;have e:=MN p hf hc z k f hk hm;have u:=VK p f.name;rw[(L9 hw hk).2]at u;simp only at u;have hO:=He p hf f.name;have E:=fun v=>XX (outsN p f.name) v;have hpl:f.C.length<=8:=((ZG (QJ hc).1).pr f (x7j hk)).1;have hgl:=(XZ hc).1;cases hq:QS (ZE p f)with
    | false=>
      rw[hq]at e;repeat' (first|((first|(refine iM fun _=>?_)|refine cP (ZA _) ?_|refine dA ?_|refine x6d rfl ?_|refine aD ?_|refine aR ?_|refine bP ?_|(refine iA fun _=>?_)|refine IdxK.xs (by omega) ?_|refine QI (by omega) ?_|(refine ByteK.at (by omega) ?_)|refine wI ?_|refine cP XP ?_|refine cP D ?_|refine cP G ?_|refine cP e ?_);conv=>whnf)|(apply bD<;>intro _<;>first|omega|conv=>whnf)|(apply bE<;>intro _<;>first|omega|conv=>whnf)|(apply bN<;>intro _<;>conv=>whnf)|(apply bB<;>intro _<;>conv=>whnf))
      all_goals first
       |contradiction
       |(exfalso;omega)
       |exact⟨_,.p (Sub.refl _),rfl⟩
    | true =>
      rw[hq]at e;have hR:=(q9l (ZE p f) N tape [] (by omega) fuel).mono (R':=x4v (ZE p f) tape [] fuel) fun r h=>h.1 ⟨hq,L,by omega⟩;have F:=fun m M o Z=>OL hc hq hk hm (tape:=tape) (watch:=[]) L (n:=m) (M:=M) o Z;have hmd:manyD p f=p.B.length+f.C.length:=rfl;apply x6z (R:=fun m M=>Ut (ZE p f) tape [] fuel m (PA (ZE p f))=.fin M)
      .intro key;repeat' (first|((first|(refine iM fun _=>?_)|refine cP (ZA _) ?_|refine dA ?_|refine x6d rfl ?_|refine aD ?_|refine aR ?_|refine bP ?_|(refine iA fun _=>?_)|refine IdxK.xs (by omega) ?_|refine QI (by omega) ?_|(refine ByteK.at (by omega) ?_)|refine wI ?_|refine cP XP ?_|refine cP D ?_|refine cP G ?_|refine cP e ?_);conv=>whnf)|(apply bD<;>intro _<;>first|omega|conv=>whnf)|(apply bE<;>intro _<;>first|omega|conv=>whnf)|(apply bN<;>intro _<;>conv=>whnf)|(apply bB<;>intro _<;>conv=>whnf)|(refine CallK.pure hR (.cons (Sub.refl _) (.cons (Sub.refl _) (.cons (Sub.refl _) (.cons Sub.nils .nil)))) ?_;rintro _ ⟨m,M,o,rfl⟩))
       all_goals try contradiction
       all_goals try (exfalso;omega)
       all_goals exact key _ _ o
      intro m M o;have hom:(M.out.map (AV.int .i64)).length=M.out.length:=x6j _;have g:(p.B.map AV.str).length=p.B.length:=x6j _;have hpm:(f.C.map fun x=>AV.agg x.cells).length=f.C.length:=x6j _;by_cases Z:M.fin=1;rotate_left
      .skip
       repeat' (first|((first|(refine iM fun _=>?_)|refine dA ?_|refine x6d rfl ?_|refine aD ?_|refine aR ?_|refine bP ?_|(refine iA fun _=>?_)|refine IdxK.xs (by omega) ?_|refine QI (by omega) ?_|(refine ByteK.at (by omega) ?_)|refine wI ?_|refine cP u ?_);conv=>whnf)|(apply bD<;>intro _<;>first|omega|conv=>whnf)|(apply bE<;>intro _<;>first|omega|conv=>whnf)|(apply bN<;>intro _<;>conv=>whnf)|(apply bB<;>intro _<;>conv=>whnf))
       all_goals first
        |contradiction
        |(exfalso;omega)
        |exact⟨_,.p (Sub.refl _),rfl⟩
        |(exfalso;simp_all;done)
      obtain⟨K1,K2,V,Y⟩:=F m M o Z;rw[hmd]at K1 K2 V Y;clear o F hR e N hq;obtain⟨d,hd⟩ : ∃d,d=M.out.length-(p.B.length+f.C.length):=⟨_,rfl⟩;rw[<-hd]at V Y;have K:=fun i (h:i<p.B.length+f.C.length)=>Oj (l:=M.out) (d:=d) (i:=i) (by omega);have T:=fun i (h:i<p.B.length+f.C.length)=>q5j (l:=tape) (i:=i) (by omega);have hsz:∀x∈M.out.map (AV.int .i64),x.cells.length=1:=fun x hx=>by obtain⟨y,_,rfl⟩:=x6r.1 hx;rfl
      have Q:(M.out.map (AV.int .i64)).take (M.out.map (AV.int .i64)).length=M.out.map (AV.int .i64):=z1z;have hdl:((M.out.map (AV.int .i64)).drop d).length=p.B.length+f.C.length:=by rw[x9x];omega
      repeat' (first|((first|(refine iM fun _=>?_)|refine dA ?_|refine x6d rfl ?_|refine aD ?_|refine aR ?_|refine bP ?_|(refine iA fun _=>?_)|refine IdxK.xs (by omega) ?_|refine QI (by omega) ?_|(refine ByteK.at (by omega) ?_)|refine wI ?_|refine cP u ?_|refine cP hO ?_|refine x6d hsz ?_|refine z2f d (M.out.map (AV.int .i64)).length (by rw[x9h,hom,g,hpm];omega) rfl (by omega) (by omega) ?_);conv=>whnf)|(apply bD<;>intro _<;>first|omega|conv=>whnf)|(apply bE<;>intro _<;>first|omega|conv=>whnf)|(apply bN<;>intro _<;>conv=>whnf)|(apply bB<;>intro _<;>conv=>whnf))
      all_goals try contradiction
      all_goals try (exfalso;omega)
      all_goals
       refine LoopK.inv QW (fun j:Nat=>⟨[(2,.p (XL tape)),(4,.p (.ip p.cells)),(14,.p (.ip f.cells)),(17,.p (.sl (((M.out.map (AV.int .i64)).take (M.out.map (AV.int .i64)).length).drop d))),(18,.p (eStrs (outsN p f.name))),(102,.p (.sl (f.C.map fun a=>.agg a.cells))),(103,.p (.int .i64 (f.C.map fun a=>AV.agg a.cells).length)),(104,.p (.int .i64 j))],[]⟩) (fun j=>j<=f.C.length) (fun j=>f.C.length-j) 0 (Le.of_eq rfl) (x6t _) ?_;intro j hj;rcases x6c j f.C.length with q|q
       .have hx:(f.C.map fun a=>AV.agg a.cells)[j]?=some (.agg f.C[j].cells):=by rw[x6a,x6k q];rfl
        have P:=V j f.C[j] (x6k q);have I:=K j (by omega);rw[<-Q]at I;have ht3:=T (p.B.length+j) (by omega);have hI:=E f.C[j].name;have t:inS (outsN p f.name) f.C[j].name=true↔f.C[j].name∈outsN p f.name:=JG;generalize outsN p f.name=O at*
        generalize inS O f.C[j].name=b at*
        cases b;all_goals
         conv=>whnf
         repeat' (first|((first|(refine iM fun _=>?_)|refine dA ?_|refine x6d rfl ?_|refine aD ?_|refine aR ?_|refine bP ?_|(refine iA fun _=>?_)|refine IdxK.xs (by omega) ?_|refine QI (by omega) ?_|(refine ByteK.at (by omega) ?_)|refine wI ?_|(refine IdxK.at (k:=j) rfl I rfl ?_)|(refine IdxK.at (k:=p.B.length+j) (by omega) ht3 rfl ?_)|refine cP hI ?_);conv=>whnf)|(apply bD<;>intro _<;>first|omega|conv=>whnf)|(apply bE<;>intro _<;>first|omega|conv=>whnf)|(apply bN<;>intro _<;>conv=>whnf)|(apply bB<;>intro _<;>conv=>whnf))
         all_goals first
          |contradiction
          |exact⟨j+1,q,by omega,Le.of_eq rfl⟩
          |(rename_i H;exact absurd ((P fun h=>Bool.noConfusion (t.2 h.2)).trans (q4n tape (by rw[g]) _)) H)
          |(rename_i H;exact absurd ((P fun h=>Bool.noConfusion (h.1.symm.trans ‹f.C[j].ref=false›)).trans (q4n tape (by rw[g]) _)) H)
       .conv=>whnf
        repeat' (first|((first|(refine iM fun _=>?_)|refine dA ?_|refine x6d rfl ?_|refine aD ?_|refine aR ?_|refine bP ?_|(refine iA fun _=>?_)|refine IdxK.xs (by omega) ?_|refine QI (by omega) ?_|(refine ByteK.at (by omega) ?_)|refine wI ?_);conv=>whnf)|(apply bD<;>intro _<;>first|omega|conv=>whnf)|(apply bE<;>intro _<;>first|omega|conv=>whnf)|(apply bN<;>intro _<;>conv=>whnf)|(apply bB<;>intro _<;>conv=>whnf))
        all_goals try contradiction
        all_goals try (exfalso;omega)
        clear hj q;refine LoopK.inv QW (fun j:Nat=>⟨[(2,.p (XL tape)),(14,.p (.ip f.cells)),(17,.p (.sl (((M.out.map (AV.int .i64)).take (M.out.map (AV.int .i64)).length).drop d))),(18,.p (eStrs (outsN p f.name))),(135,.p (eStrs p.B)),(136,.p (.int .i64 (p.B.map AV.str).length)),(137,.p (.int .i64 j))],[]⟩) (fun j=>j<=p.B.length) (fun j=>p.B.length-j) 0 (Le.of_eq rfl) (x6t _) ?_;intro j hj;rcases x6c j p.B.length with q|q
        .have hk4:=Y j p.B[j] (x6k q);have J:=K (f.C.length+j) (by omega);rw[<-Q]at J;have ht4:=T j (by omega);have hI:=E p.B[j];have t:inS (outsN p f.name) p.B[j]=true↔p.B[j]∈outsN p f.name:=JG;generalize outsN p f.name=O at*
         generalize inS O p.B[j]=b at*
         cases b;all_goals
          conv=>whnf
          repeat' (first|((first|(refine iM fun _=>?_)|refine dA ?_|refine x6d rfl ?_|refine aD ?_|refine aR ?_|refine bP ?_|(refine iA fun _=>?_)|refine IdxK.xs (by omega) ?_|refine QI (by omega) ?_|(refine ByteK.at (by omega) ?_)|refine wI ?_|(refine IdxK.at (k:=f.C.length+j) (by omega) J rfl ?_)|refine cP hI ?_);conv=>whnf)|(apply bD<;>intro _<;>first|omega|conv=>whnf)|(apply bE<;>intro _<;>first|omega|conv=>whnf)|(apply bN<;>intro _<;>conv=>whnf)|(apply bB<;>intro _<;>conv=>whnf))
          all_goals first
           |contradiction
           |exact⟨j+1,q,by omega,Le.of_eq rfl⟩
           |(rename_i H;exact absurd ((hk4 fun h=>Bool.noConfusion (t.2 h)).trans (q4n tape rfl _)) H)
        .conv=>whnf
         repeat' (first|((first|(refine iM fun _=>?_)|refine dA ?_|refine x6d rfl ?_|refine aD ?_|refine aR ?_|refine bP ?_|(refine iA fun _=>?_)|refine IdxK.xs (by omega) ?_|refine QI (by omega) ?_|(refine ByteK.at (by omega) ?_)|refine wI ?_);conv=>whnf)|(apply bD<;>intro _<;>first|omega|conv=>whnf)|(apply bE<;>intro _<;>first|omega|conv=>whnf)|(apply bN<;>intro _<;>conv=>whnf)|(apply bB<;>intro _<;>conv=>whnf))
         all_goals first
          |contradiction
          |(exfalso;omega)
          |exact⟨_,.p (Sub.refl _),rfl⟩
   .cases U:Fs p 60;all_goals
     rw[U]at D A;repeat' (first|((first|(refine iM fun _=>?_)|refine cP (ZA _) ?_|refine dA ?_|refine x6d rfl ?_|refine aD ?_|refine aR ?_|refine bP ?_|(refine iA fun _=>?_)|refine IdxK.xs (by omega) ?_|refine QI (by omega) ?_|(refine ByteK.at (by omega) ?_)|refine wI ?_|refine cP XP ?_|refine cP D ?_);conv=>whnf)|(apply bD<;>intro _<;>first|omega|conv=>whnf)|(apply bE<;>intro _<;>first|omega|conv=>whnf)|(apply bN<;>intro _<;>conv=>whnf)|(apply bB<;>intro _<;>conv=>whnf))
     all_goals first
      |contradiction
      |exact⟨_,.p (Sub.refl _),rfl⟩
      |exact absurd ⟨rfl,by omega,by omega,by omega⟩ A
end Go.Ab
