/- SdgHas: a vertex is there just if it is one of them all; of what is not right none is. Conditions: none. -/
import Derived.Test.YtgpjfppgphaobaaGreatProJ26
set_option linter.all false
set_option maxRecDepth 100000
set_option maxHeartbeats 16000000
namespace Go.Ab
open Go.Proofs
def C4{p:Pg}(h:QL p=true):(PE p (QF p)).length<=1000000:=by
 have i:=Cp h (QF p) (WK h).2;have j:=BM h;omega
def q4w{l:List Vx}(j:l≠[])(n:Int):An l n∈l:=by
 have k:0<l.length:=z4q.2 j;have h:=P1 (n:=n) (show(0:Int)<(l.length:Int) by omega);have i:(SF n l.length).toNat<l.length:=by omega
 unfold An;rw[x8h i];exact x8o i
def GK(l:List Eg)(r:l.length<=1000000000)(v:Vx)(k:Int):aP 25 [.sl (avE l),.agg v.cells,.int .i64 k,.ff] (.sl (avV ((l.filter fun e=>decide (e.kind=k)&&decide (e.G=v)).map Eg.to))):=by
 refine sC KA Tryz.func25 ?_;conv=>whnf
 repeat' ((first|(refine gX ?_;intros)|refine dA ?_|((first|apply bD|apply bE|apply bN|apply bB)<;>intro _<;>try omega))<;>conv=>whnf)
 have u:(avE l).length=l.length:=x8g _;refine lJ (fun x:Nat×List Vx=>⟨[(2,.j k),(3,.p .ff),(5,.p (.ip v.cells)),(9,.hd 0 0 x.2.length),(12,.p (.sl (avE l))),(13,.p (.int .i64 (avE l).length)),(14,.j x.1)],[(0,.own 27 4 (avV x.2))]⟩) (fun x=>x.1<=l.length/\x.2=((l.take x.1).filter fun e=>decide (e.kind=k)&&decide (e.G=v)).map Eg.to/\x.2.length<=x.1) (fun x=>l.length-x.1) (0,[]) (lM [(0,.own 27 4 [])]) ⟨x8m _,rfl,x9z _⟩ ?_;rintro⟨j,h⟩ ⟨s,o,t⟩;simp only at s o t⊢;have n:(avV h).length=h.length:=x8g _;rcases x8a j l.length with m|m
 .have i:((l.take (j+1)).filter fun e=>decide (e.kind=k)&&decide (e.G=v)).map Eg.to=h++if(decide (l[j].kind=k)&&decide (l[j].G=v))=true then [l[j].to]else []:=by
   rw[x8c m,z0b,x8i,<-o,z2a];split<;>rfl
  have q:(avE l)[j]?=some (.agg l[j].cells):=by simp[avE,m]
  generalize l[j]=e at q i;conv=>whnf
  repeat' ((first|(refine gX ?_;intros)|refine dA ?_|refine iT q ?_|refine HX rfl (a:=e.G) (b:=v) rfl rfl ?_|refine pA 1 48 n.symm ?_|((first|apply bD|apply bE|apply bN|apply bB)<;>intro _<;>try omega))<;>conv=>whnf)
  all_goals first
   |contradiction
   | (rw[if_pos (by simp[*];done)]at i
      exact⟨(j+1,h++[e.to]),⟨m,i.symm,by simp;omega⟩,by simp only;omega,Le.of_eq (by simp only[avV,x8i,x8d];rfl)⟩)
   | (rw[if_neg (by simp[*];done),x9c]at i
      exact nX (j+1,h) ⟨m,i.symm,by simp only;omega⟩)
 rw[x9q m]at o;rw[<-o];conv=>whnf
 repeat' ((first|(refine gX ?_;intros)|refine dA ?_|((first|apply bD|apply bE|apply bN|apply bB)<;>intro _<;>try omega))<;>conv=>whnf)
 exact⟨_,.hd rfl n.symm,rfl⟩
def Z7(l:List Eg)(r:l.length<=1000000000)(v:Vx)(k:Int):aP 25 [.sl (avE l),.agg v.cells,.int .i64 k,.tt] (.sl (avV ((l.filter fun e=>decide (e.kind=k)&&decide (e.to=v)).map Eg.G))):=by
 refine sC KA Tryz.func25 ?_;conv=>whnf
 repeat' ((first|(refine gX ?_;intros)|refine dA ?_|((first|apply bD|apply bE|apply bN|apply bB)<;>intro _<;>try omega))<;>conv=>whnf)
 have u:(avE l).length=l.length:=x8g _;refine lJ (fun x:Nat×List Vx=>⟨[(2,.j k),(3,.p .tt),(5,.p (.ip v.cells)),(9,.hd 0 0 x.2.length),(12,.p (.sl (avE l))),(13,.p (.int .i64 (avE l).length)),(14,.j x.1)],[(0,.own 27 4 (avV x.2))]⟩) (fun x=>x.1<=l.length/\x.2=((l.take x.1).filter fun e=>decide (e.kind=k)&&decide (e.to=v)).map Eg.G/\x.2.length<=x.1) (fun x=>l.length-x.1) (0,[]) (lM [(0,.own 27 4 [])]) ⟨x8m _,rfl,x9z _⟩ ?_;rintro⟨j,h⟩ ⟨s,o,t⟩;simp only at s o t⊢;have n:(avV h).length=h.length:=x8g _;rcases x8a j l.length with m|m
 .have i:((l.take (j+1)).filter fun e=>decide (e.kind=k)&&decide (e.to=v)).map Eg.G=h++if(decide (l[j].kind=k)&&decide (l[j].to=v))=true then [l[j].G]else []:=by
   rw[x8c m,z0b,x8i,<-o,z2a];split<;>rfl
  have q:(avE l)[j]?=some (.agg l[j].cells):=by simp[avE,m]
  generalize l[j]=e at q i;conv=>whnf
  repeat' ((first|(refine gX ?_;intros)|refine dA ?_|refine iT q ?_|refine HX rfl (a:=e.to) (b:=v) rfl rfl ?_|refine pA 1 48 n.symm ?_|((first|apply bD|apply bE|apply bN|apply bB)<;>intro _<;>try omega))<;>conv=>whnf)
  all_goals first
   |contradiction
   | (rw[if_pos (by simp[*];done)]at i
      exact⟨(j+1,h++[e.G]),⟨m,i.symm,by simp;omega⟩,by simp only;omega,Le.of_eq (by simp only[avV,x8i,x8d];rfl)⟩)
   | (rw[if_neg (by simp[*];done),x9c]at i
      exact nX (j+1,h) ⟨m,i.symm,by simp only;omega⟩)
 rw[x9q m]at o;rw[<-o];conv=>whnf
 repeat' ((first|(refine gX ?_;intros)|refine dA ?_|((first|apply bD|apply bE|apply bN|apply bB)<;>intro _<;>try omega))<;>conv=>whnf)
 exact⟨_,.hd rfl n.symm,rfl⟩
def T0{l:List Eg}(j:l.Nodup){q:Eg->Bool}{e0:Eg}{b:Bool}(h:∀e,e∈l/\q e=true↔b=true/\e=e0):l.filter q=if b=true then [e0]else []:=by
 cases b with
 | false=>
   rw[if_neg (by decide),List.filter_eq_nil_iff];exact fun e i k=>absurd ((h e).1 ⟨i,k⟩).1 (by decide)
 | true=>
   rw[if_pos rfl];refine List.perm_singleton.1 ((List.perm_ext_iff_of_nodup (j.filter _) (by simp)).2 fun e=>?_);rw[z0v,h e,x8l];exact and_iff_right rfl
def T1{l:List Eg}{q:Eg->Bool}(h:∀e∈l,¬q e=true):l.filter q=[]:=List.filter_eq_nil_iff.2 h
def toF(l:List Eg)(v:Vx)(k:Int):List Vx:=(l.filter fun e=>decide (e.kind=k)&&decide (e.G=v)).map Eg.to
def toB(l:List Eg)(v:Vx)(k:Int):List Vx:=(l.filter fun e=>decide (e.kind=k)&&decide (e.to=v)).map Eg.G
def aliveB(p:Pg)(v:Vx):Bool:=decide ((stmtR p v.id).kind=4)&&Bm (JY p v.C) v.id
def HU{p:Pg}(m:QL p=true){e:Eg}(l:3<=e.kind)(h:e∈egsA p):∃(k:Nat) (f:Pr) (i:Item),p.A[k]?=some f/\i∈itsOf p k f/\ZC p k i=true/\jnI p f.name (bI p) (bO p) i e:=by
 obtain⟨n,_,k,f,q,_,_,i,o,j,h⟩:=(J4 m l).1 h;exact⟨k,f,i,q,o,j,h⟩
def Tz{p:Pg}(o:QL p=true){k n:Nat}{f i:Pr}(q:p.A[k]?=some f)(l:p.A[n]?=some i){m h:Item}(t:m∈itsOf p k f)(j:h∈itsOf p n i)(u:i.name=f.name)(r:h.s.id=m.s.id):n=k/\i=f/\h=m:=by
 obtain⟨rfl,rfl⟩:=SI o l q u;exact⟨rfl,rfl,Ic (QG o).1 q j t r⟩
def RO(p:Pg):(egsA p).Nodup:=SP _
structure JoinF(p:Pg)(v:Vx):Prop where
 none:v.kind≠2->v.kind≠5->v.kind≠6->toF (egsA p) v 4=[]/\toF (egsA p) v 5=[]/\toB (egsA p) v 6=[]
 stmt:v.kind=2->toF (egsA p) v 4=(if aliveB p v=true then [⟨(stmtR p v.id).C,1,0,[]⟩]else [])/\toF (egsA p) v 5=[]/\toB (egsA p) v 6=[]
 ain:v.kind=5->toF (egsA p) v 4=[]/\toF (egsA p) v 5=(if aliveB p v=true then [⟨(stmtR p v.id).C,3,0,v.slot⟩]else [])/\toB (egsA p) v 6=[]
 aout:v.kind=6->toF (egsA p) v 4=[]/\toF (egsA p) v 5=[]/\toB (egsA p) v 6=(if aliveB p v=true then [⟨(stmtR p v.id).C,4,0,v.slot⟩]else [])
def x3i{p:Pg}(q:QL p=true){v:Vx}(E:v∈PE p (QF p)):JoinF p v:=by
 obtain⟨n,N,E⟩:=PI.1 E;obtain⟨k,x,L,M⟩:=GM ((WK q).2 n N);rw[L,z0x]at E;have z:=VB x;generalize prA p k=f at E z M;have R:∀e∈egsA p,e.kind=4->e.G.kind=2:=fun e l x=>by
  obtain⟨_,_,_,_,_,_,rfl|⟨_,_,rfl⟩|⟨_,_,rfl⟩⟩:=HU q (by omega) l
  .rfl
  .exact absurd x (by simp)
  .exact absurd x (by simp)
 have T:∀e∈egsA p,e.kind=5->e.G.kind=5:=fun e l x=>by
  obtain⟨_,_,_,_,_,_,rfl|⟨_,_,rfl⟩|⟨_,_,rfl⟩⟩:=HU q (by omega) l
  .exact absurd x (by simp)
  .rfl
  .exact absurd x (by simp)
 have U:∀e∈egsA p,e.kind=6->e.to.kind=6:=fun e l x=>by
  obtain⟨_,_,_,_,_,_,rfl|⟨_,_,rfl⟩|⟨_,_,rfl⟩⟩:=HU q (by omega) l
  .exact absurd x (by simp)
  .exact absurd x (by simp)
  .rfl
 have H:v.kind≠2->toF (egsA p) v 4=[]:=fun h=>by
  unfold toF;rw[T1 fun e l w=>?_]
  .rfl
  .rw [x9w]at w;exact h (z1j w.2▸R e l (z1j w.1))
 have I:v.kind≠5->toF (egsA p) v 5=[]:=fun h=>by
  unfold toF;rw[T1 fun e l w=>?_]
  .rfl
  .rw [x9w]at w;exact h (z1j w.2▸T e l (z1j w.1))
 have J:v.kind≠6->toB (egsA p) v 6=[]:=fun h=>by
  unfold toB;rw[T1 fun e l w=>?_]
  .rfl
  .rw [x9w]at w;exact h (z1j w.2▸U e l (z1j w.1))
 have y:∀i∈itsOf p k f,∀(P:Int)(s:Str),aliveB p ⟨f.name,P,i.s.id,s⟩=ZC p k i/\stmtR p i.s.id=i.s:=fun i o P s=>by
  have e:=q5j q z (BU o);unfold aliveB ZC;rw[e,Bi q z o];exact⟨rfl,rfl⟩
 have a:∀i∈itsOf p k f,ZC p k i=true->∀e,3<=e.kind->jnI p f.name (bI p) (bO p) i e->e∈egsA p:=fun i o m e Q h=>(J4 q Q).2 ⟨n,N,k,f,z,L,M,i,o,m,h⟩;rcases UA.1 E with rfl|⟨s,D,rfl⟩|⟨s,D,rfl⟩|⟨i,o,rfl|⟨V,⟨s,D,rfl⟩|⟨s,D,rfl⟩⟩⟩
 .exact ⟨fun _ _ _=>⟨H (by simp),I (by simp),J (by simp)⟩,fun h=>absurd h (by simp),fun h=>absurd h (by simp),fun h=>absurd h (by simp)⟩
 .exact ⟨fun _ _ _=>⟨H (by simp),I (by simp),J (by simp)⟩,fun h=>absurd h (by simp),fun h=>absurd h (by simp),fun h=>absurd h (by simp)⟩
 .exact ⟨fun _ _ _=>⟨H (by simp),I (by simp),J (by simp)⟩,fun h=>absurd h (by simp),fun h=>absurd h (by simp),fun h=>absurd h (by simp)⟩
 .obtain ⟨c,d⟩:=y i o 2 [];refine⟨fun h=>absurd rfl h,fun _=>⟨?_,I (by simp),J (by simp)⟩,fun h=>absurd h (by simp),fun h=>absurd h (by simp)⟩;unfold toF;rw[T0 (RO p) (e0:=⟨⟨f.name,2,i.s.id,[]⟩,⟨i.s.C,1,0,[]⟩,4⟩) (b:=ZC p k i) fun e=>?_,c,d]
  .split<;>rfl
  .rw [x9w,z1o,z1o];constructor
   .rintro ⟨l,g,r⟩;obtain⟨O,K,F,u,t,j,rfl|⟨_,_,rfl⟩|⟨_,_,rfl⟩⟩:=HU q (by omega) l
    .simp only[Vx.mk.injEq]at r;obtain⟨rfl,rfl,rfl⟩:=Tz q z u o t r.1 r.2.2.1;exact⟨j,rfl⟩
    .exact absurd g (by simp)
    .exact absurd g (by simp)
   .rintro ⟨m,rfl⟩;exact⟨a i o m _ (by simp) (.inl rfl),rfl,rfl⟩
 .obtain ⟨c,d⟩:=y i o 5 s;refine⟨fun _ h=>absurd rfl h,fun h=>absurd h (by simp),fun _=>⟨H (by simp),?_,J (by simp)⟩,fun h=>absurd h (by simp)⟩;unfold toF;rw[T0 (RO p) (e0:=⟨⟨f.name,5,i.s.id,s⟩,⟨i.s.C,3,0,s⟩,5⟩) (b:=ZC p k i) fun e=>?_,c,d]
  .split<;>rfl
  .rw [x9w,z1o,z1o];constructor
   .rintro ⟨l,A,r⟩;obtain⟨O,K,F,u,t,j,rfl|⟨s',_,rfl⟩|⟨_,_,rfl⟩⟩:=HU q (by omega) l
    .exact absurd A (by simp)
    .simp only[Vx.mk.injEq]at r;obtain⟨rfl,rfl,rfl⟩:=Tz q z u o t r.1 r.2.2.1;obtain rfl:=r.2.2.2;exact⟨j,rfl⟩
    .exact absurd A (by simp)
   .rintro ⟨m,rfl⟩;exact⟨a i o m _ (by simp) (.inr (.inl ⟨s,D,rfl⟩)),rfl,rfl⟩
 .obtain ⟨c,d⟩:=y i o 6 s;refine⟨fun _ _ h=>absurd rfl h,fun h=>absurd h (by simp),fun h=>absurd h (by simp),fun _=>⟨H (by simp),I (by simp),?_⟩⟩;unfold toB;rw[T0 (RO p) (e0:=⟨⟨i.s.C,4,0,s⟩,⟨f.name,6,i.s.id,s⟩,6⟩) (b:=ZC p k i) fun e=>?_,c,d]
  .split<;>rfl
  .rw [x9w,z1o,z1o];constructor
   .rintro ⟨l,B,r⟩;obtain⟨O,K,F,u,t,j,rfl|⟨_,_,rfl⟩|⟨s',_,rfl⟩⟩:=HU q (by omega) l
    .exact absurd B (by simp)
    .exact absurd B (by simp)
    .simp only[Vx.mk.injEq]at r;obtain⟨rfl,rfl,rfl⟩:=Tz q z u o t r.1 r.2.2.1;obtain rfl:=r.2.2.2;exact⟨j,rfl⟩
   .rintro ⟨m,rfl⟩;exact⟨a i o m _ (by simp) (.inr (.inr ⟨s,D,rfl⟩)),rfl,rfl⟩
def q1a{p:Pg}(h:QL p=true):(egsA p).length<=1000000000:=by
 refine x9r (Xw _) ?_;rw[x8d];have i:=Bk h (QF p) (WK h).2;have j:=XK (Tu p) (PE p (QF p));have k:=BM h;have l:=C4 h;omega
def DW(p:Pg)(n:Int):aP 5 [.agg p.cells,.int .i64 n] .tt:=by
 refine sC GC Tryz.func5 ?_;conv=>whnf
 cases m:I3 p with
 | false=>
   have N:¬gPg p<=20000:=by unfold I3 at m;simpa using m
   repeat' ((first|(refine gX ?_;intros)|refine cP (XE _) ?_|refine dA ?_|refine cP XX ?_|((first|apply bD|apply bE|apply bN|apply bB)<;>intro _<;>try omega))<;>conv=>whnf)
   all_goals first
    |exact⟨_,.p (Sub.refl _),rfl⟩
    |(exfalso;simp_all;done)
 | true=>
   have f:Fit p:=q6v m;have d:gPg p<=20000:=by unfold I3 at m;simpa using m
   have u:=KM p f 40;cases g:D9 p 40 with
   | false=>
     rw[g]at u;repeat' ((first|(refine gX ?_;intros)|refine cP (XE _) ?_|refine dA ?_|refine cP XX ?_|refine cP u ?_|((first|apply bD|apply bE|apply bN|apply bB)<;>intro _<;>try omega))<;>conv=>whnf)
     all_goals first
      |exact⟨_,.p (Sub.refl _),rfl⟩
      |(exfalso;simp_all;done)
   | true =>
     rw[g]at u;have z:QL p=true:=R9 g;have G:=Vr p f;have A:=R0 p f;have K:Ro p=PE p (QF p):=by unfold Ro;rw[if_pos z]
     have J:La p=egsA p:=by unfold La;rw[if_pos z]
     rw[K]at G;rw[J]at A;have o:=q1a z;have M:=Z6 (PE p (QF p)) (C4 z) n;have w:=x3i z (q4w (Cn p) n);generalize An (PE p (QF p)) n=v at*
     have x:=V1 p v.id;have L:=S3 p f v.C;have hH:=HL (JY p v.C) v.id;have B:aP 25 [.sl (avE (egsA p)),.agg v.cells,.int .i64 4,.ff] (.sl (avV (toF (egsA p) v 4))):=GK (egsA p) o v 4;have D:aP 25 [.sl (avE (egsA p)),.agg v.cells,.int .i64 5,.ff] (.sl (avV (toF (egsA p) v 5))):=GK (egsA p) o v 5;have F:aP 25 [.sl (avE (egsA p)),.agg v.cells,.int .i64 6,.tt] (.sl (avV (toB (egsA p) v 6))):=Z7 (egsA p) o v 6;have y:aliveB p v=(decide ((stmtR p v.id).kind=4)&&Bm (JY p v.C) v.id):=rfl;have e:v.kind=2\/v.kind=5\/v.kind=6\/(v.kind≠2/\v.kind≠5/\v.kind≠6):=by omega
     have c:(toF (egsA p) v 4=[]/\toF (egsA p) v 5=[]/\toB (egsA p) v 6=[]/\(aliveB p v=false\/v.kind≠2/\v.kind≠5/\v.kind≠6))\/aliveB p v=true/\((v.kind=2/\toF (egsA p) v 4=[⟨(stmtR p v.id).C,1,0,[]⟩]/\toF (egsA p) v 5=[]/\toB (egsA p) v 6=[])\/(v.kind=5/\toF (egsA p) v 4=[]/\toF (egsA p) v 5=[⟨(stmtR p v.id).C,3,0,v.slot⟩]/\toB (egsA p) v 6=[])\/(v.kind=6/\toF (egsA p) v 4=[]/\toF (egsA p) v 5=[]/\toB (egsA p) v 6=[⟨(stmtR p v.id).C,4,0,v.slot⟩])):=by
      rcases e with k|k|k|⟨k,I,s⟩
      .obtain ⟨i,j,l⟩:=w.stmt k;cases q:aliveB p v with
       |true=>rw[q]at i;exact .inr ⟨rfl,.inl ⟨k,i,j,l⟩⟩
       |false=>rw[q]at i;exact .inl ⟨i,j,l,.inl rfl⟩
      .obtain ⟨i,j,l⟩:=w.ain k;cases q:aliveB p v with
       |true=>rw[q]at j;exact .inr ⟨rfl,.inr (.inl ⟨k,i,j,l⟩)⟩
       |false=>rw[q]at j;exact .inl ⟨i,j,l,.inl rfl⟩
      .obtain ⟨i,j,l⟩:=w.aout k;cases q:aliveB p v with
       |true=>rw[q]at l;exact .inr ⟨rfl,.inr (.inr ⟨k,i,j,l⟩)⟩
       |false=>rw[q]at l;exact .inl ⟨i,j,l,.inl rfl⟩
      .obtain ⟨i,j,l⟩:=w.none k I s;exact .inl ⟨i,j,l,.inr ⟨k,I,s⟩⟩
     rw[y]at c;clear y w e K J o;generalize toF (egsA p) v 4=L4 at*
     generalize toF (egsA p) v 5=L5 at*
     generalize toB (egsA p) v 6=L6 at*
     generalize Bm (JY p v.C) v.id=h at*
     generalize JY p v.C=Li at*
     generalize stmtR p v.id=t at*
     generalize egsA p=E at*
     generalize PE p (QF p)=V at*
     repeat' ((first|(refine gX ?_;intros)|refine cP (XE _) ?_|refine cP XX ?_|refine cP u ?_|refine cP G ?_|refine cP A ?_|refine cP M ?_|refine cP x ?_|((first|apply bD|apply bE|apply bN|apply bB)<;>intro _<;>try omega))<;>conv=>whnf)
     all_goals try exact⟨_,.p (Sub.refl _),rfl⟩
     refine ZW ⟨[(5,.p (.sl (avE E))),(6,.p (.ip v.cells)),(7,.p (.ip t.cells)),(8,.p (.bool (decide (t.kind=4)&&h)))],[]⟩ ?_ ?_
     .skip
      repeat' ((first|(refine gX ?_;intros)|refine dA ?_|refine cP L ?_|refine cP hH ?_|((first|apply bD|apply bE|apply bN|apply bB)<;>intro _<;>try omega))<;>conv=>whnf)
      all_goals refine Le.mk [] ?_ ?_ ?_ (.r (.r (.r (.cons ?_ .nil)))) .nil
      all_goals first
       |(simp;done)
       | (have H:t.kind=4:=by assumption
          exact .of_eq (z0o (fun b=>LV.p (AV.bool b)) (show h=(decide (t.kind=4)&&h)from by rw[x9e H,z5h])))
       | (have H:¬t.kind=4:=by assumption
          exact .p (Sub.ff (by rw[x9o H,Bool.false_and])))
     clear L hH x M G A u g d;generalize(decide (t.kind=4)&&h)=a at*
     have O:(avV []).length=0:=rfl;rcases c with⟨rfl,rfl,rfl,rfl|⟨k,I,s⟩⟩|⟨rfl,⟨k,rfl,rfl,rfl⟩|⟨k,rfl,rfl,rfl⟩|⟨k,rfl,rfl,rfl⟩⟩;all_goals try cases a
     all_goals
      have P:(avV [(⟨t.C,1,0,[]⟩:Vx)]).length=1:=rfl;have Q:(avV [(⟨t.C,3,0,v.slot⟩:Vx)]).length=1:=rfl;have R:(avV [(⟨t.C,4,0,v.slot⟩:Vx)]).length=1:=rfl
     all_goals
      conv=>whnf
      repeat' ((first|(refine gX ?_;intros)|refine dA ?_|refine cP B ?_|refine cP D ?_|refine cP F ?_|refine IdxK.at (k:=0) rfl (show(avV [(⟨t.C,1,0,[]⟩:Vx)])[0]?=some (.agg (Vx.cells ⟨t.C,1,0,[]⟩))from rfl) rfl ?_|refine HX rfl (a:=⟨t.C,1,0,[]⟩) (b:=⟨t.C,1,0,[]⟩) rfl rfl ?_|refine IdxK.at (k:=0) rfl (show(avV [(⟨t.C,3,0,v.slot⟩:Vx)])[0]?=some (.agg (Vx.cells ⟨t.C,3,0,v.slot⟩))from rfl) rfl ?_|refine HX rfl (a:=⟨t.C,3,0,v.slot⟩) (b:=⟨t.C,3,0,v.slot⟩) rfl rfl ?_|refine IdxK.at (k:=0) rfl (show(avV [(⟨t.C,4,0,v.slot⟩:Vx)])[0]?=some (.agg (Vx.cells ⟨t.C,4,0,v.slot⟩))from rfl) rfl ?_|refine HX rfl (a:=⟨t.C,4,0,v.slot⟩) (b:=⟨t.C,4,0,v.slot⟩) rfl rfl ?_|((first|apply bD|apply bE|apply bN|apply bB)<;>intro _<;>try omega))<;>conv=>whnf)
     all_goals first
      |contradiction
      |exact⟨_,.p (Sub.refl _),rfl⟩
      |exact⟨_,.p (MP rfl),rfl⟩
      |exact⟨_,.p (MP (by simp)),rfl⟩
      |(exfalso;omega)
      |(exfalso;simp_all;done)
end Go.Ab
