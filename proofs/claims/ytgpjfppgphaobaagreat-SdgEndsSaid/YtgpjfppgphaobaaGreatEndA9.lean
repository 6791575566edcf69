/- tree, flat, scope: the names of an expression, of a statement; what a name is. -/
import Derived.Test.YtgpjfppgphaobaaGreatEndA8
set_option linter.all false
set_option maxRecDepth 100000
set_option maxHeartbeats 16000000
open List (drop_zero)
namespace Go.Ab
open Go.Proofs.Tryz
open Go.Proofs
variable {α β:Type}{K:Prop}{a c d:Int}{b:Bool}{es:List AV}{f:Pr}{its:List Item}{j k:Nat}{l seen:List Str}{p:Pg}
def FJ{n:Nat}(xs:List Str)(h:n=es.length)(o:es.length+xs.length<=8796093022208)(i:K):AppK es (xs.map .str) n (xs.map AV.str).length 1 16 K:=
 .mk h rfl (by rw[h];simp;omega) (by rw[h];simp[maxLen];omega) (fun x m=>by obtain⟨y,_,rfl⟩:=x4y.1 m;exact⟨rfl,rfl⟩) i
def WK{n:Nat}{s:Str}(i:n=es.length)(o:es.length<=8796093022000)(h:K):AppK es [.str s] n 1 1 16 K:=
 .mk i rfl (by omega) (by simp only[maxLen];omega) (fun x m=>by rcases x4w.1 m with rfl;exact⟨rfl,rfl⟩) h
def MQ{n:Nat}{s:Int}(i:n=es.length)(o:es.length<=8796093022000)(h:K):AppK es [.int .i64 s] n 1 1 8 K:=
 .mk i rfl (by omega) (by simp only[maxLen];omega) (fun x m=>by rcases x4w.1 m with rfl;exact⟨rfl,rfl⟩) h
mutual
def Ba:X->List Str->List Str
 |.mk op _ name kids,out=>DQ kids (if op=2/\(out.any fun s=>name==s)=false then out++[name]else out)
def DQ:List X->List Str->List Str
 |[],out=>out
 |x::r,out=>DQ r (Ba x out)
end
def L1(x:X)(out:List Str):Ba x out=DQ x.kids (if x.op=2/\(out.any fun s=>x.name==s)=false then out++[x.name]else out):=by
 cases x;rw[Ba];rfl
def Sv{l:List X}{out:List Str}(h:j<l.length):DQ (l.drop j) out=DQ (l.drop (j+1)) (Ba l[j] out):=by
 rw[QM h,DQ]
def A9{l:List X}{out:List Str}(h:l.length<=j):DQ (l.drop j) out=out:=by
 rw[x4l h,DQ]
def Kh{n:Nat}{x:X}(h:YQ (n+1) x=true):x.kids.length<=2/\(x.op=2->x.kids.length=0)/\∀k∈x.kids,YQ n k=true:=by
 rw[YQ]at h;simp only[x4n,x5k]at h;obtain⟨i,m⟩:=h;refine⟨?_,fun r=>?_,?_⟩
 .unfold Jo at i;(repeat' split at i)<;>omega
 .unfold Jo at i;rw[if_pos (by omega)]at i;omega
 .by_cases o:x.op=1
  .have:x.kids.length=0:=by unfold Jo at i;rw[if_pos (by omega)]at i;omega
   rw[x6k this];simp
  .by_cases q:x.op=2
   .have:x.kids.length=0:=by unfold Jo at i;rw[if_pos (by omega)]at i;omega
    rw[x6k this];simp
   .rw [if_neg o,if_neg q]at m;simp only[x4n]at m;exact x6w.1 m.2
def Ax:∀(n:Nat)(x:X)(out:List Str),YQ n x=true->out.length<=(Ba x out).length/\(Ba x out).length<=out.length+2^n:=by
 intro n;induction n with
 |zero=>intro x out h;rw[YQ]at h;cases h
 | succ n g=>
   intro x out h;obtain⟨w,y,z⟩:=Kh h;have key:∀(l:List X)(o:List Str),(∀k∈l,YQ n k=true)->o.length<=(DQ l o).length/\(DQ l o).length<=o.length+l.length*2^n:=by
    intro l;induction l with
    |nil=>intro o _;simp[DQ]
    | cons k r t=>
      intro o u;rw[DQ];have e:=g k o (u k (by simp));have A:=t (Ba k o) fun k q=>u k (by simp[q]);simp only[x5g,x6r,z1u];omega
   rw[L1];have B:2^(n+1)=2*2^n:=by rw[Nat.pow_succ];omega
   have v:0<2^n:=Nat.pow_pos (by decide);have m:=key x.kids (if x.op=2/\(out.any fun s=>x.name==s)=false then out++[x.name]else out) z;have e:x.kids.length*2^n<=2*2^n:=x5l _ w;split at m
   .rename_i i;have:=y i.1;rw[this]at m;rw[if_pos i];simp only[x3o,x4i]at m;omega
   .rename_i i;rw[if_neg i];omega
def Cx(t:Nat)(out:List Str):Heap:=[(2000,.own t 1 (out.map .str))]
def J3:∀(n:Nat)(_:n<=20)(x:X)(_:YQ n x=true)(out:List Str)(_:out.length+2^n<=1073741824),
  aH 208 [.p (.agg x.cells),.hd 2000 0 out.length] (Cx 9 out) (.hd 2000 0 (Ba x out).length) (Cx 9 (Ba x out)):=by
 intro n;induction n with
 |zero=>intro _ x h;rw[YQ]at h;cases h
 | succ n A=>
   intro D x e out E;have F:2^(n+1)=2*2^n:=by rw[Nat.pow_succ];omega
   have w:0<2^n:=Nat.pow_pos (by decide);obtain⟨t,u,q⟩:=Kh e;have g:=X.avs_len x.kids;refine sK Hz func208 ?_;conv=>whnf
   repeat' ((first|(refine gX ?_;intros)|(refine QC (QZ out x.name) (.cons (.hd rfl (by simp)) (.cons (.p (Sub.refl _)) .nil)) (by rintro _ rfl;rfl) ?_;rintro _ rfl)|refine pA 1 16 (by simp) ?_|((first|apply bD|apply bN)<;>intro _<;>try omega))<;>conv=>whnf)
   all_goals
    have r:∀j,j<x.kids.length->(x.kids.length-j)*2^n=(x.kids.length-(j+1))*2^n+2^n:=fun j o=>by
     rw[show x.kids.length-j=(x.kids.length-(j+1))+1 by omega,x6r,z1u]
    have v:x.kids.length*2^n<=2*2^n:=x5l _ t;first
    |refine lJ (fun i:Nat×List Str=>⟨[(1,.hd 2000 0 i.2.length),(23,.p (.sl (X.avs x.kids))),(24,.p (.int .i64 (X.avs x.kids).length)),(25,.j i.1)],Cx 9 i.2⟩) (fun i=>i.1<=x.kids.length/\DQ (x.kids.drop i.1) i.2=Ba x out/\i.2.length+(x.kids.length-i.1)*2^n<=1073741824) (fun i=>x.kids.length-i.1) (0,out++[x.name]) (Le.of_eq (by simp[Cx];exact⟨rfl,rfl⟩)) ⟨x4j _,by simp only[drop_zero];rw[L1,if_pos ⟨by assumption,by assumption⟩],by have:=u (by assumption);simp[this];omega⟩ ?_
    |refine lI (fun i:Nat×List Str=>⟨[(1,.hd 2000 0 i.2.length),(23,.p (.sl (X.avs x.kids))),(24,.p (.int .i64 (X.avs x.kids).length)),(25,.j i.1)],Cx 9 i.2⟩) (fun i=>i.1<=x.kids.length/\DQ (x.kids.drop i.1) i.2=Ba x out/\i.2.length+(x.kids.length-i.1)*2^n<=1073741824) (fun i=>x.kids.length-i.1) (0,out) ⟨x4j _,by simp only[drop_zero];rw[L1,if_neg (by simp[*])],by simp only[Nat.sub_zero];omega⟩ ?_
    rintro⟨j,m⟩ ⟨y,s,z⟩;simp only at y s z⊢;conv=>whnf
    repeat' ((first|(refine gX ?_;intros)|(apply bD<;>intro _<;>try omega))<;>conv=>whnf)
    all_goals first
     | (rw[A9 (by omega)]at s
        exact⟨_,.refl _,by rw[s];exact⟨rfl,rfl⟩⟩)
     | (have o:j<x.kids.length:=by omega
        have C:=r j o;have B:=Ax n x.kids[j] m (q _ (x4h o));refine cJ [(2000,2000)] 0 (A (by omega) x.kids[j] (q _ (x4h o)) m (by omega)) ?_;rintro l' H' ⟨rfl,rfl⟩;conv=>whnf
        refine wI ?_;conv=>whnf
        exact nX (j+1,Ba x.kids[j] m) ⟨by simp only;omega,by simp only;rw[<-s,Sv o],by simp only;omega⟩)
def XL(x:X):List Str:=bif Ij x then Ba x []else []
def VE(x:X):(XL x).length<=1048576:=by
 unfold XL;cases h:Ij x with
 |false=>simp
 | true=>
   have:=(Ax 20 x [] h).2;simpa using this
def PQ(x:X):aP 163 [.agg x.cells] (eStrs (XL x)):=by
 refine sC Zq func163 ?_;conv=>whnf
 repeat' ((first|refine cP (BX _) ?_|(apply bN<;>intro _))<;>conv=>whnf)
 .refine CallK.nil 5 9 1 rfl (.cons rfl (.row .nil)) ?_;refine cJ [(2000,5)] 0 (J3 20 (by omega) x (by assumption) [] (by simp)) ?_;rintro l' H' ⟨rfl,rfl⟩;conv=>whnf
  refine⟨_,.hd rfl (by simp),?_⟩;unfold XL;rw[show Ij x=true by assumption];rfl
 .refine ⟨_,.p Sub.nils,?_⟩;unfold XL;rw[show Ij x=false by assumption];rfl
def JR(a:Arg):List Str:=(bif a.ref then [a.name]else [])++XL a.x
def DF(t:S):List Str:=(bif t.kind≠10 && !(t.name==[])then [t.name]else [])++XL t.x
def ZP(t:S):List Str:=DF t++t.args.flatMap JR
def Se(a:Arg):(JR a).length<=1048577:=by
 have:=VE a.x;unfold JR;cases a.ref<;>simp<;>omega
def Si(t:S):(DF t).length<=1048577:=by
 have:=VE t.x;unfold DF;cases(t.kind≠10 && !(t.name==[]):Bool)<;>simp<;>omega
theorem XP{α β:Type}{f:α->List β}{c:Nat}(h:∀a,(f a).length<=c):∀l:List α,(l.flatMap f).length<=l.length*c
 |[]=>by simp
 | x::r=>by
   have:=XP h r;have:=h x;simp only[x6d,x3o,x5g,x6r,z1u];omega
def S3(t:S)(j:Nat):List Str:=DF t++(t.args.take j).flatMap JR
def Il(t:S)(h:j<=t.args.length)(ha:t.args.length<=21000):(S3 t j).length<=23000000000:=by
 have i:=Si t;have m:=XP Se (t.args.take j);have n:(t.args.take j).length*1048577<=21000*1048577:=x5l _ (by simp;omega);unfold S3;simp only[x3o];omega
def Cm{t:S}(h:j<t.args.length):S3 t (j+1)=S3 t j++JR t.args[j]:=by
 unfold S3;rw[x4k h,x6m,x4r];simp
def Gx(t:S)(h:Nat)(j:Nat):St:=⟨[(3,.hd 0 0 (S3 t j).length),(25,.p (.sl (t.args.map fun a=>.agg a.cells))),(26,.p (.int .i64 (t.args.map fun a=>AV.agg a.cells).length)),(27,.j j)],[(0,.own h 1 ((S3 t j).map .str))]⟩
def Km(t:S)(ha:t.args.length<=21000):aP 157 [.agg t.cells] (eStrs (ZP t)):=by
 refine sC Dn func157 ?_;conv=>whnf
 repeat' ((first|(refine gX ?_;intros)|refine cP (PQ _) ?_|refine FJ _ (by simp) (by have:=VE t.x;simp;omega) ?_|refine WK (by simp) (by simp) ?_|((first|apply bE|apply bN)<;>intro _<;>try omega))<;>conv=>whnf)
 all_goals
  have q:(t.args.map fun a=>AV.agg a.cells).length=t.args.length:=x3a _;refine lJ (Gx t 9) (fun j=>j<=t.args.length) (fun j=>t.args.length-j) 0 (Le.of_eq ?_) (x4j _) ?_
  .first
    | (have e:S3 t 0=XL t.x:=by simp[S3,DF,show t.kind=10 by assumption]
       rw[Gx,e];simp only[x6i,x3a,x3o,x4d,x9k];rfl)
    | (have e:S3 t 0=XL t.x:=by simp[S3,DF,show t.name=[] by simpa using(show(t.name==[])=true by assumption)]
       rw[Gx,e];simp only[x6i,x3a,x3o,x4d,x9k];rfl)
    | (have e:S3 t 0=[t.name]++XL t.x:=by
        have:(t.name==[])=false:=by assumption
        simp[S3,DF,show ¬t.kind=10 by assumption,this]
       rw[Gx,e];simp only[x6i,x3a,x3o,x4d,x9k];rfl)
  intro j n;have m:=Il t n ha;conv=>whnf
  repeat' ((first|refine cP (PQ _) ?_|(refine gX ?_;intros)|refine FJ _ (by simp) (by have:=VE (t.args[j]'(by omega)).x;simp;omega) ?_|refine pS ?_|((first|apply bD|apply bB)<;>intro _<;>try omega))<;>conv=>whnf)
  all_goals first
   |exact⟨_,.hd rfl (by simp),by
      have:t.args.take j=t.args:=x4b (by omega);rw[ZP,<-this];rfl⟩
   | (have o:j<t.args.length:=by omega
      have h:=Cm o;refine⟨j+1,by show j+1<=_;omega,by show t.args.length-(j+1)<t.args.length-j;omega,Le.of_eq ?_⟩;first
       | (have i:JR t.args[j]=[t.args[j].name]++XL t.args[j].x:=by rw[JR,show t.args[j].ref=true by assumption];rfl
          rw[Gx,h,i];simp only[x3o,x4d,x3a,<-x4r,<-x8j];rfl)
       | (have i:JR t.args[j]=XL t.args[j].x:=by rw[JR,show t.args[j].ref=false by assumption];rfl
          rw[Gx,h,i];simp only[x3o,x4d,x3a];rfl))
def Ih:List Str->Nat
 |[]=>0
 |s::r=>1+Ih r
mutual
def wX:X->Nat
 |.mk _ _ name kids=>1+wXs kids
def wXs:List X->Nat
 |[]=>0
 |x::r=>wX x+wXs r
end
def Z4:List Arg->Nat
 |[]=>0
 |a::r=>wX a.x+1+Z4 r
mutual
def wS:S->Nat
 |.mk _ _ Y name C x _ args V Z=>wX x+Ih Y+1+1+Z4 args+wL V+wL Z
def wL:List S->Nat
 |[]=>0
 |s::r=>wS s+wL r
end
def q9q:List Param->Nat
 |[]=>0
 |a::r=>1+q9q r
def wPr(f:Pr):Nat:=1+Ih f.zd+Ih f.fin+q9q f.B+wL f.body
def q6j:List Pr->Nat
 |[]=>0
 |f::r=>wPr f+q6j r
def wPg(p:Pg):Nat:=Ih p.F+q6j p.A
def Fit(p:Pg):Prop:=wPg p<=21000
theorem Dz:∀l:List Str,l.length<=Ih l
 |[]=>x4j _
 |s::r=>by have:=Dz r;simp only[x5g,Ih];omega
theorem BW:∀l:List Arg,l.length<=Z4 l
 |[]=>x4j _
 |s::r=>by have:=BW r;simp only[x5g,Z4];omega
def C4(s:S):wS s=wX s.x+Ih s.Y+1+1+Z4 s.args+wL s.V+wL s.Z:=by
 cases s;rw[wS];rfl
mutual
theorem q6l:∀s:S,UZ s<=wS s
 | .mk id kind Y name C x has args V Z=>by
   have:=Rm V;have:=Rm Z;rw[UZ,wS];omega
theorem Rm:∀l:List S,QJ l<=wL l
 |[]=>by rw[QJ,wL];exact x4m _
 | s::r=>by
   have:=q6l s;have:=Rm r;rw[QJ,wL];omega
end
theorem I6:∀{l:List Pr}{f:Pr},f∈l->wPr f<=q6j l
 | g::r,f,h=>by
   simp only[q6j];rcases x4v.1 h with rfl|h
   .omega
   .have:=I6 h;omega
theorem Fit.pr(h:Fit p)(i:f∈p.A):wPr f<=21000:=by
 have:=I6 i;unfold Fit wPg at h;omega
mutual
def flS:S->List S
 |.mk id kind Y name C x has args V Z=>.mk id kind Y name C x has args V Z::(flL V++flL Z)
def flL:List S->List S
 |[]=>[]
 |s::r=>flS s++flL r
end
def q7x(s:S):flS s=s::(flL s.V++flL s.Z):=by
 cases s;rw[flS];rfl
mutual
theorem q3s:∀s:S,(flS s).length=UZ s
 | .mk id kind Y name C x has args V Z=>by
   rw[flS,UZ,x5g,x3o,U8 V,U8 Z];omega
theorem U8:∀l:List S,(flL l).length=QJ l
 |[]=>by rw[flL,QJ];rfl
 |s::r=>by rw[flL,QJ,x3o,q3s s,U8 r]
end
mutual
theorem q9h:∀(s t:S),t∈flS s->wS t<=wS s
 | .mk id kind Y name C x has args V Z,t,h=>by
   rw[flS]at h;rcases x4v.1 h with rfl|h
   ·exact x4m _
   ·rw[wS];rcases x4g.1 h with h|h
    ·have:=Mi V t h;omega
    ·have:=Mi Z t h;omega
theorem Mi:∀(l:List S)(t:S),t∈flL l->wS t<=wL l
 |[],t,h=>by rw[flL]at h;cases h
 | s::r,t,h=>by
   rw[flL]at h;rw[wL];rcases x4g.1 h with h|h
   ·have:=q9h s t h;omega
   ·have:=Mi r t h;omega
end

mutual
def itS(C up nx loop:Int)(n:Nat):S->List Item
 | .mk id kind Y name pr x has args V Z=>
   ⟨.mk id kind Y name pr x has args V Z,C,up,nx,loop⟩::(itL C (n+1) (if kind=6 then n+1 else nx) (if kind=6 then n+1 else loop) (n+1) V ++
     itL C (n+1) (if kind=6 then n+1 else nx) (if kind=6 then n+1 else loop) (n+1+QJ V) Z)
def itL(C up nx loop:Int)(n:Nat):List S->List Item
 |[]=>[]
 |t::r=>itS C up (if r.isEmpty then nx else n+1+UZ t) loop n t++itL C up nx loop (n+UZ t) r
end
mutual
theorem q5q(C up nx loop:Int):∀(t:S)(acc:List Item),V1 C up nx loop acc t=acc++itS C up nx loop acc.length t
 | .mk id kind Y name pr x has args V Z,acc=>by
   rw[V1,itS,Qx _ _ _ _ V,Qx _ _ _ _ Z];simp only[x3o,x5g,x8c,x4r,List.cons_append,x9k,XS C _ _ _ _ V,x6i,x8j,z0p (QJ V) 1]
theorem Qx(C up nx loop:Int):∀(l:List S)(acc:List Item),XD C up nx loop acc l=acc++itL C up nx loop acc.length l
 |[],acc=>by rw[XD,itL,x5m]
 | t::r,acc=>by
   rw[XD,itL,q5q _ _ _ _ t,Qx _ _ _ _ r];simp only[x3o,x4r,Ah C _ _ _ _ t]
theorem Ah(C up nx loop:Int)(n:Nat):∀t:S,(itS C up nx loop n t).length=UZ t
 | .mk id kind Y name pr x has args V Z=>by
   rw[itS,UZ,x5g,x3o,XS _ _ _ _ _ V,XS _ _ _ _ _ Z];omega
theorem XS(C up nx loop:Int)(n:Nat):∀l:List S,(itL C up nx loop n l).length=QJ l
 |[]=>by rw[itL,QJ];rfl
 |t::r=>by rw[itL,QJ,x3o,Ah _ _ _ _ _ t,XS _ _ _ _ _ r]
end
mutual
theorem q9m(C up nx loop:Int)(n:Nat):∀t:S,(itS C up nx loop n t).map Item.s=flS t
 | .mk id kind Y name pr x has args V Z=>by
   rw[itS,flS,x4o,x4d,Xj _ _ _ _ _ V,Xj _ _ _ _ _ Z]
theorem Xj(C up nx loop:Int)(n:Nat):∀l:List S,(itL C up nx loop n l).map Item.s=flL l
 |[]=>by rw[itL,flL];rfl
 |t::r=>by rw[itL,flL,x4d,q9m _ _ _ _ _ t,Xj _ _ _ _ _ r]
end
def QS:List Pr->Nat->Nat
 |_,0=>0
 |[],_+1=>0
 |f::r,i+1=>QJ f.body+QS r i
theorem Ph:∀(l:List Pr)(i:Nat)(acc:List Item)(lo hi:List Int),lo.length=i->hi.length=i->
  (Jk i acc lo hi l).2.1.length=i+l.length/\(Jk i acc lo hi l).2.2.length=i+l.length/\
  (∀k,k<i->(Jk i acc lo hi l).2.1[k]?=lo[k]? /\(Jk i acc lo hi l).2.2[k]?=hi[k]?)/\∃L,(Jk i acc lo hi l).1=acc++L/\L.length=cntP l/\
  ∀(k:Nat)(f:Pr),l[k]?=some f->(Jk i acc lo hi l).2.1[i+k]?=some ((acc.length+QS l k:Nat)+1:Int)/\(Jk i acc lo hi l).2.2[i+k]?=some ((acc.length+QS l k+QJ f.body:Nat)+1:Int)/\
   QS l k+QJ f.body<=cntP l/\(L.take (QS l k+QJ f.body)).drop (QS l k)=itL (i+k:Nat) 0 (-1) 0 (acc.length+QS l k) f.body
 | [],i,acc,lo,hi,h1,h2=>by
   rw[Jk];exact⟨by simpa using h1,by simpa using h2,fun _ _=>⟨rfl,rfl⟩,[],by simp,rfl,fun k f h=>by simp at h⟩
 | f::r,i,acc,lo,hi,h1,h2=>by
   rw[Jk];have s:=Qx i 0 (-1) 0 f.body acc;have m:=XU i 0 (-1) 0 acc f.body;obtain⟨w,x,u,L,y,z,e⟩:=Ph r (i+1) (XD i 0 (-1) 0 acc f.body) (lo++[(acc.length:Int)+1]) (hi++[((XD i 0 (-1) 0 acc f.body).length:Int)+1]) (by simp[h1]) (by simp[h2]);refine⟨by rw[w,x5g];omega,by rw[x,x5g];omega,fun k A=>?_,itL i 0 (-1) 0 acc.length f.body++L,?_,?_,fun k g t=>?_⟩
   .obtain ⟨q,n⟩:=u k (by omega);rw[q,n,x5i (by omega),x5i (by omega)];exact⟨rfl,rfl⟩
   .rw [y,s,x4r]
   .rw [x3o,z,XS,cntP]
   .cases k with
    | zero=>
      simp only[x9a,x7c]at t;subst t;obtain⟨q,n⟩:=u i (by omega);simp only[x8d,QS,x6i,drop_zero];refine⟨?_,?_,?_,?_⟩
      .rw [q,x5t (by omega),h1];simp
      .rw [n,x5t (by omega),h2,m];simp
      .rw [cntP];omega
      .rw [List.take_append_of_le_length (by rw[XS];omega),x4b (by rw[XS];omega)]
    | succ k=>
      simp only[List.getElem?_cons_succ]at t;obtain⟨q,n,v,o⟩:=e k g t;rw[m]at o;simp only[QS];refine⟨?_,?_,?_,?_⟩
      .rw [show i+(k+1)=i+1+k by omega,q,m];congr 2;omega
      .rw [show i+(k+1)=i+1+k by omega,n,m];congr 2;omega
      .rw [cntP];omega
      .rw [List.take_append,List.drop_append,XS,x4b (by rw[XS];omega),x4l (by rw[XS];omega),x9k];simp only[XS];rw[show QJ f.body+QS r k+QJ g.body-QJ f.body=QS r k+QJ g.body by omega,show QJ f.body+QS r k-QJ f.body=QS r k by omega,o];rw[show i+(k+1)=i+1+k by omega,show acc.length+(QJ f.body+QS r k)=acc.length+QJ f.body+QS r k by omega]
def QU(p:Pg):(sheetOf p).p=p/\(sheetOf p).lo.length=p.A.length/\(sheetOf p).hi.length=p.A.length/\(sheetOf p).l.length=cntP p.A/\
  ∀(k:Nat)(f:Pr),p.A[k]?=some f->(sheetOf p).lo[k]?=some ((QS p.A k:Nat)+1:Int)/\(sheetOf p).hi[k]?=some ((QS p.A k+QJ f.body:Nat)+1:Int)/\
   QS p.A k+QJ f.body<=cntP p.A/\((sheetOf p).l.take (QS p.A k+QJ f.body)).drop (QS p.A k)=itL k 0 (-1) 0 (QS p.A k) f.body:=by
 obtain⟨i,m,_,L,h,n,o⟩:=Ph p.A 0 [] [] [] rfl rfl;refine⟨rfl,by unfold sheetOf;simpa using i,by unfold sheetOf;simpa using m,by unfold sheetOf;simp[h,n],fun k f q=>?_⟩;have:=o k f q;unfold sheetOf;simp only[h,x9k,x8c,x6i]at this⊢;exact this
mutual
theorem Tb(nest seen:Int):∀(s:S){m:Int},N9 nest seen s=some m->m=seen+UZ s
 | .mk id kind Y name C x has args V Z,m,h=>by
   simp only[N9]at h;split at h
   ·cases h
   split at h
   ·cases h
   cases hn:namesB Y<;>rw[hn]at h
   ·cases h
   cases hf:UH (.mk id kind Y name C x has args V Z)<;>rw[hf]at h
   ·cases h
   simp only[x4s]at h;split at h
   ·rename_i m1 h1;have h2:=KK (nest+1) (seen+1) V h1;have h3:=KK (nest+1) m1 Z h;rw[UZ];omega
   ·cases h
theorem KK(nest seen:Int):∀(l:List S){m:Int},JA nest seen l=some m->m=seen+QJ l
 | [],m,h=>by
   simp only[JA]at h;cases h;rw[QJ];simp
 | s::r,m,h=>by
   simp only[JA]at h;split at h
   ·cases h
   split at h
   ·rename_i m1 h1;have h2:=Tb nest seen s h1;have h3:=KK nest m1 r h;rw[QJ];omega
   ·cases h
end
theorem G7:∀(l:List Pr){seen m:Int},seen<=200->ZW seen l=some m->m=seen+cntP l/\m<=200
 |[],seen,m,h0,h=>by rw[ZW]at h;cases h;simp[cntP];exact h0
 | f::r,seen,m,h0,h=>by
   rw[ZW]at h;cases n:PK f<;>rw[n]at h
   .cases h
   simp only[x4s]at h;split at h
   .rename_i t i;have o:=KK 1 seen f.body i;have q:=Yb 1 seen f.body h0 i;have s:=G7 r (by omega) h;rw[cntP];omega
   .cases h
def VD(h:BC p=true):p.F.length<=16/\p.A.length<=16/\cntP p.A<=200:=by
 unfold BC at h;simp only[x4n,x5k]at h;obtain⟨⟨⟨o,q⟩,_⟩,i⟩:=h;cases n:ZW 0 p.A with
 |none=>rw[n]at i;cases i
 | some m=>
   have:=G7 p.A (by decide) n;omega
def Lw(h:BC p=true)(i:f∈p.A):PK f=true:=by
 unfold BC at h;simp only[x4n]at h;have n:=h.2;have key:∀(l:List Pr)(seen:Int),(ZW seen l).isSome=true->∀f∈l,PK f=true:=fun l=>by
  induction l with
  |nil=>intro _ _ f i;cases i
  | cons g r o=>
    intro seen h f i;rw[ZW]at h;cases m:PK g<;>rw[m]at h
    .cases h
    simp only[x4s]at h;split at h
    .rename_i s q;rcases x4v.1 i with rfl|i
     .exact m
     .exact o _ h f i
    .cases h
 exact key _ _ n f i
def Y6(p:Pg)(f:Pr)(name:Str):Int:=
 match f.B.find? (fun a=>a.name==name)with
 |some a=>bif a.ref then 3 else 2
 |none=>bif f.zd.any (fun s=>name==s)then 4 else bif p.F.any (fun s=>name==s)then 1 else 0
def Xz{l:List α}{p:α->Bool}(i:j<l.length)(h:p l[j]=false):(l.drop (j+1)).find? p=(l.drop j).find? p:=by
 rw[QM i,x9o,h]
def BP{l:List α}{p:α->Bool}(i:j<l.length)(h:p l[j]=true):(l.drop j).find? p=some l[j]:=by
 rw[QM i,x9o,h]
def BD{l:List α}{p:α->Bool}(h:l.length<=j):(l.drop j).find? p=none:=by
 rw[x4l h];rfl
def SK(p:Pg)(f:Pr)(name:Str):aP 158 [.agg p.cells,.agg f.cells,.str name] (.int .i64 (Y6 p f name)):=by
 refine sC Ds func158 ?_;conv=>whnf
 repeat' ((refine iM fun _=>?_)<;>conv=>whnf)
 have q:(f.B.map fun a=>AV.agg a.cells).length=f.B.length:=x3a _;refine lI (fun j:Nat=>⟨[(2,.p (.str name)),(3,.p (.ip p.cells)),(4,.p (.ip f.cells)),(10,.p (.sl (f.B.map fun a=>.agg a.cells))),(11,.p (.int .i64 (f.B.map fun a=>AV.agg a.cells).length)),(12,.j j)],[]⟩) (fun j=>j<=f.B.length/\(f.B.drop j).find? (fun a=>a.name==name)=f.B.find? (fun a=>a.name==name)) (fun j=>f.B.length-j) 0 ⟨x4j _,rfl⟩ ?_;rintro j ⟨n,h⟩;conv=>whnf
 repeat' ((first|refine cP (QZ _ _) ?_|(refine gX ?_;intros)|((first|apply bD|apply bB)<;>intro _<;>try omega))<;>conv=>whnf)
 all_goals try have o:j<f.B.length:=by omega
 all_goals first
  | (exfalso
     have m:((f.B[j]'(by omega)).name==name)=true:=by assumption
     have i:((f.B[j]'(by omega)).name==name)=false:=by assumption
     rw[m]at i;cases i)
  | (have e:=BP (p:=fun a:Param=>a.name==name) (by omega) (by assumption)
     rw[h]at e;exact RetK.int (by unfold Y6;rw[e];simp[*]))
  |(refine nX (j+1) ⟨by omega,by rw[<-h,Xz (p:=fun a:Param=>a.name==name) (by omega) (by assumption)]⟩)
  | (have e:f.B.find? (fun a=>a.name==name)=none:=by rw[<-h,BD (by omega)]
     exact RetK.int (by unfold Y6;rw[e];simp[*]))
def mainS:Str:=[109,97,105,110]
def KY(p:Pg)(f:Pr)(A:List Str)(t:S):Bool:=(ZP t).all (fun n=> !(Y6 p f n==0))&&(decide (t.kind≠4)||(!(t.C==mainS)&&A.any fun s=>t.C==s))
def Ln(p:Pg)(f:Pr)(A:List Str)(t:S)(ha:t.args.length<=21000):aP 97 [.agg p.cells,.agg f.cells,eStrs A,.agg t.cells] (.bool (KY p f A t)):=by
 refine sC H6 func97 ?_;conv=>whnf
 repeat' ((first|(refine iM fun _=>?_)|refine cP (Km _ ha) ?_)<;>conv=>whnf)
 have o:((ZP t).map AV.str).length=(ZP t).length:=x3a _;refine lI (fun j:Nat=>⟨[(2,.p (eStrs A)),(4,.p (.ip p.cells)),(5,.p (.ip f.cells)),(7,.p (.ip t.cells)),(12,.p (eStrs (ZP t))),(13,.p (.int .i64 ((ZP t).map AV.str).length)),(14,.j j)],[]⟩) (fun j=>j<=(ZP t).length/\((ZP t).drop j).all (fun n=> !(Y6 p f n==0))=(ZP t).all (fun n=> !(Y6 p f n==0))) (fun j=>(ZP t).length-j) 0 ⟨x4j _,rfl⟩ ?_;rintro j ⟨m,h⟩;conv=>whnf
 repeat' ((first|refine cP (SK _ _ _) ?_|refine cP (QZ _ _) ?_|(refine gX ?_;intros)|((first|apply bD|apply bE|apply bN)<;>intro _<;>try omega))<;>conv=>whnf)
 .exact RetK.ff (by
   have e:=Kx (p:=fun n=> !(Y6 p f n==0)) (l:=ZP t) (j:=j) (by omega) (by simp;assumption);rw[KY,<-h,e,Bool.false_and])
 .exact nX (j+1) ⟨by omega,by rw[<-h,Vm (p:=fun n=> !(Y6 p f n==0)) (by omega) (by simp;assumption)]⟩
 all_goals
  have e:(ZP t).all (fun n=> !(Y6 p f n==0))=true:=by rw[<-h,Vn (by omega)]
 .exact RetK.ff (by
   have i:(t.C==mainS)=true:=by assumption
   rw[KY,e,i];simp[*])
 .exact RetK.bool (by
   have i:(t.C==mainS)=false:=by assumption
   rw[KY,e,i];simp[*])
 .exact RetK.tt (by rw[KY,e];simp[*])
def Kf(c at_:Int):AV:=.agg [.int .i64 c,.int .i64 at_]
def QK(p:Pg):List Str:=p.A.map Pr.name
def WO(p:Pg):Bool:=UQ p.F||(UQ (QK p)||(!((QK p).any fun s=>mainS==s)||match p.A.find? (fun f=>mainS==f.name)with
 |some f=>decide (0<f.B.length)
 |none=>true))
def YU(p:Pg)(f:Pr):Option Int:=
 bif UQ (Lg f)||(Lg f).any (fun n=>p.F.any fun s=>n==s)then some 0 else((flL f.body).find? fun t=> !KY p f (QK p) t).map S.id
def QO(p:Pg):Int×Int:=
 bif BC p then bif WO p then(5,0)else match p.A.findSome? (YU p)with
  |some a=>(5,a)
  |none=>(0,0)
 else(1,0)
def RH{l:List α}{p:α->Bool}(h:l.any p=true):∃(k:Nat) (hk:k<l.length),idxF p l=k/\p l[k]=true/\l.find? p=some l[k]:=by
 have i:l.findIdx p<l.length:=by
  rw[List.findIdx_lt_length];exact x6s.1 h
 refine⟨l.findIdx p,i,by unfold idxF;rw[h];rfl,List.findIdx_getElem,?_⟩;rw[List.find?_eq_some_iff_getElem];exact⟨List.findIdx_getElem,l.findIdx p,i,rfl,fun j m=>by simpa using List.not_of_lt_findIdx m⟩
def T3(h:(QK p).any (fun s=>mainS==s)=true):∃(k:Nat) (m:k<p.A.length),idxF (fun s=>mainS==s) (QK p)=k/\p.A.find? (fun f=>mainS==f.name)=some p.A[k]:=by
 have i:p.A.any (fun f=>mainS==f.name)=true:=by simpa[QK,List.any_map,Function.comp_def]using h
 obtain⟨k,m,n,_,o⟩:=RH i;refine⟨k,m,?_,o⟩;rw[<-n];unfold idxF;rw[h,i];simp[QK,List.findIdx_map,Function.comp_def]
def Hh(p:Pg)(o:p.A[j]?=some f)(u:cntP p.A<=1000):aP 96 [.ip (sheetOf p).cells,.int .i64 j] (ZE (itL j 0 (-1) 0 (QS p.A j) f.body)):=by
 obtain⟨_,q,r,s,h⟩:=QU p;obtain⟨i,m,t,n⟩:=h j f o;have:=LK (sheetOf p) j _ _ i m (by omega) (by omega) (by omega);rw[n]at this;exact this
def WZ(l:List Item):(l.map fun i=>AV.agg i.cells).length=l.length:=x3a _
def U7{l:List α}{f:α->Option β}(i:j<l.length)(h:f l[j]=none):(l.drop (j+1)).findSome? f=(l.drop j).findSome? f:=by
 rw[QM i,List.findSome?_cons,h]
def VC{l:List α}{f:α->Option β}{b:β}(i:j<l.length)(h:f l[j]=some b):(l.drop j).findSome? f=some b:=by
 rw[QM i,List.findSome?_cons,h]
def Zh{l:List α}{f:α->Option β}(h:l.length<=j):(l.drop j).findSome? f=none:=by
 rw[x4l h];rfl
def BB{q:S->Bool}(l:List Item):(l.find? fun m=>q m.s).map (fun m=>m.s.id)=((l.map Item.s).find? q).map S.id:=by
 rw[List.find?_map];cases h:l.find? (q∘Item.s)with
 |none=>rw[show(l.find? fun m=>q m.s)=none from h];rfl
 |some i=>rw[show(l.find? fun m=>q m.s)=some i from h];rfl
def Af{l:List Pr}(t:j<l.length)(h:wPr l[j]<=21000){b:Int}{n:Nat}(i:k<(itL a b c d n l[j].body).length):(itL a b c d n l[j].body)[k].s.args.length<=21000:=by
 have m:(itL a b c d n l[j].body)[k].s∈flL l[j].body:=by
  rw[<-Xj a b c d n];exact x4y.2 ⟨_,x4h i,rfl⟩
 have o:=Mi _ _ m;have q:=C4 (itL a b c d n l[j].body)[k].s;have r:=BW (itL a b c d n l[j].body)[k].s.args;unfold wPr at h;omega
def QR{H:Heap}{b:Int}(h:a=c)(i:b=d):RetK H (.p (.agg [.int .i64 a,.int .i64 b])) (fun r=>r=Kf c d):=⟨_,.p (Sub.refl _),by rw[h,i];rfl⟩
def JC(p:Pg)(T:Fit p):aP 59 [.agg p.cells] (Kf (QO p).1 (QO p).2):=by
 refine sC H5 func59 ?_;conv=>whnf
 repeat' ((first|(refine gX ?_;intros)|refine cP (TX _) ?_|(apply bN<;>intro _))<;>conv=>whnf)
 rotate_left 1
 .exact QR (by simp[QO, *]) (by simp[QO, *])
 have w:BC p=true:=by assumption
 obtain⟨hg,Y,R⟩:=VD w;have hl:(p.A.map fun f=>AV.agg f.cells).length=p.A.length:=x3a _;have V:(QK p).length=p.A.length:=by simp[QK]
 refine lJ (fun i:Nat×List Str=>⟨[(1,.p (.ip p.cells)),(2,.ptr 1 0),(3,.hd 0 0 i.2.length),(18,.p (.sl (p.A.map fun f=>.agg f.cells))),(19,.p (.int .i64 (p.A.map fun f=>AV.agg f.cells).length)),(20,.j i.1)],[(0,.own 9 1 (i.2.map .str)),(1,.obj 80 [.p (.int .i64 0),.j 0])]⟩) (fun i=>i.1<=p.A.length/\i.2=(QK p).take i.1) (fun i=>p.A.length-i.1) (0,[]) (lM [(0,.own 9 1 [])]) ⟨x4j _,by simp⟩ ?_;rintro⟨j,u⟩ ⟨I,v⟩;simp only at I v⊢;have Q:u.length<=16:=by rw[v];simp;omega
 conv=>whnf
 repeat' ((first|(refine gX ?_;intros)|refine pS ?_|(refine QC (WM u mainS) (.cons (.hd rfl (by simp)) (.cons (.p (Sub.refl _)) .nil)) (by rintro _ rfl;rfl) ?_;rintro _ rfl)|(refine QC (NN u) (.cons (.hd rfl (by simp)) .nil) (by rintro _ rfl;rfl) ?_;rintro _ rfl)|refine cP (NN _) ?_|((first|apply bD|apply bB)<;>intro _<;>try omega))<;>conv=>whnf)
 .exact ⟨(j+1,u++[p.A[j].name]),⟨by simp only;omega,by simp only;rw[v,x4k (by omega)];simp[QK]⟩,by simp only;omega,Le.of_eq (by simp only[x3o,x4d];rfl)⟩
 all_goals
  have g:u=QK p:=by rw[v,x4b (by omega)]
  clear v;subst g
 .have o:WO p=true:=by unfold WO;rw[show UQ p.F=true by assumption];rfl
  exact QR (by unfold QO;rw[w,o];rfl) (by unfold QO;rw[w,o];rfl)
 .have o:WO p=true:=by unfold WO;rw[show UQ p.F=false by assumption,show UQ (QK p)=true by assumption];rfl
  exact QR (by unfold QO;rw[w,o];rfl) (by unfold QO;rw[w,o];rfl)
 .have h:((QK p).any fun s=>mainS==s)=false:=by
   rw[<-Uc];simp;omega
  have o:WO p=true:=by unfold WO;rw[show UQ p.F=false by assumption,show UQ (QK p)=false by assumption,h];rfl
  exact QR (by unfold QO;rw[w,o];rfl) (by unfold QO;rw[w,o];rfl)
 have h:((QK p).any fun s=>mainS==s)=true:=by
  rw[<-Uc];simp;omega
 obtain⟨k,x,D,m⟩:=T3 h;have E:(p.A.map fun f=>AV.agg f.cells)[k]?=some (.agg p.A[k].cells):=by simp[x]
 have H:(p.A[k].B.map fun a=>AV.agg a.cells).length=p.A[k].B.length:=x3a _;refine IdxK.at D E rfl ?_;conv=>whnf
 repeat' ((first|(refine gX ?_;intros)|refine cP (BN p (by omega) (by omega)) ?_ (ha:=.cons (Sub.refl _) .nil)|(apply bD<;>intro _<;>try omega))<;>conv=>whnf)
 .have o:WO p=true:=by
   unfold WO;rw[show UQ p.F=false by assumption,show UQ (QK p)=false by assumption,h,m];have:0<p.A[k].B.length:=by omega
   simp[this]
  exact QR (by unfold QO;rw[w,o];rfl) (by unfold QO;rw[w,o];rfl)
 have o:WO p=false:=by
  unfold WO;rw[show UQ p.F=false by assumption,show UQ (QK p)=false by assumption,h,m];have:¬0<p.A[k].B.length:=by omega
  simp[this]
 have N:QO p=match p.A.findSome? (YU p)with
  |some a=>(5,a)
  |none=>(0,0):=by unfold QO;rw[w,o];rfl
 rw[N];refine lI (fun j:Nat=>⟨[(1,.p (.ip p.cells)),(2,.ptr 1 0),(3,.hd 0 0 (QK p).length),(7,.p (.ip (sheetOf p).cells)),(57,.p (.sl (p.A.map fun f=>.agg f.cells))),(58,.p (.int .i64 (p.A.map fun f=>AV.agg f.cells).length)),(59,.j j)],[(0,.own 9 1 ((QK p).map .str)),(1,.obj 80 [.p (.int .i64 0),.j 0])]⟩) (fun j=>j<=p.A.length/\(p.A.drop j).findSome? (YU p)=p.A.findSome? (YU p)) (fun j=>p.A.length-j) 0 ⟨x4j _,rfl⟩ ?_;clear I D m E H;rintro j ⟨I,v⟩;rcases x4f j p.A.length with q|q;rotate_left 1
 .have e:p.A.findSome? (YU p)=none:=by rw[<-v,Zh q]
  rw[e];conv=>whnf
  repeat' ((first|refine x4e rfl ?_|(apply bD<;>intro _<;>try omega))<;>conv=>whnf)
  exact QR rfl rfl
 have C:=T.pr (x4h q);have G:=GH.1 (Lw w (x4h q));conv=>whnf
 repeat' ((first|(refine gX ?_;intros)|refine cP (NN _) ?_|refine cP (Ev (p.A[j]'q) (by have:=G.1;omega) (by have:=G.2.1;omega)) ?_ (ha:=.cons (Sub.refl _) .nil)|refine cP (UV (Lg (p.A[j]'q)) 95 (.ip p.cells) (fun n=>p.F.any fun s=>n==s) (D2 p)) ?_|refine cP (Hh p (f:=p.A[j]'q) (by simp) (by omega)) ?_ (ha:=.cons (Sub.refl _) (.cons (Sub.refl _) .nil))|((first|apply bD|apply bB)<;>intro _<;>try omega))<;>conv=>whnf)
 .have e:YU p p.A[j]=some 0:=by
   unfold YU;rw[show UQ (Lg p.A[j])=true by assumption];rfl
  have e2:=VC q e;rw[v]at e2;rw[e2];exact QR rfl rfl
 .have e:YU p p.A[j]=some 0:=by
   unfold YU;rw[show UQ (Lg p.A[j])=false by assumption,show((Lg p.A[j]).any fun n=>p.F.any fun s=>n==s)=true by assumption];rfl
  have e2:=VC q e;rw[v]at e2;rw[e2];exact QR rfl rfl
 have r:YU p p.A[j]=((flL p.A[j].body).find? fun t=> !KY p p.A[j] (QK p) t).map S.id:=by
  unfold YU;rw[show UQ (Lg p.A[j])=false by assumption,show((Lg p.A[j]).any fun n=>p.F.any fun s=>n==s)=false by assumption];rfl
 have y:∀k (x:k<(itL (j:Nat) 0 (-1) 0 (QS p.A j) p.A[j].body).length),(itL (j:Nat) 0 (-1) 0 (QS p.A j) p.A[j].body)[k].s.args.length<=21000:=fun k x=>Af q C x;rw[<-Xj (j:Nat) 0 (-1) 0 (QS p.A j),<-BB]at r;have L:(itL (j:Nat) 0 (-1) 0 (QS p.A j) p.A[j].body).length<=21000:=by
  have:=Rm p.A[j].body;unfold wPr at C;rw[XS];omega
 generalize O:itL (j:Nat) 0 (-1) 0 (QS p.A j) p.A[j].body=its at r y L⊢;have U:=WZ its;refine lI (fun k:Nat=>⟨[(1,.p (.ip p.cells)),(2,.ptr 1 0),(3,.hd 0 0 (QK p).length),(7,.p (.ip (sheetOf p).cells)),(9,.p (.ip (p.A[j]'q).cells)),(57,.p (.sl (p.A.map fun f=>.agg f.cells))),(58,.p (.int .i64 (p.A.map fun f=>AV.agg f.cells).length)),(59,.j j),(76,.p (ZE its)),(77,.p (.int .i64 (its.map fun i=>AV.agg i.cells).length)),(78,.j k)],[(0,.own 9 1 ((QK p).map .str)),(1,.obj 80 [.p (.int .i64 0),.j 0])]⟩) (fun k=>k<=its.length/\(its.drop k).find? (fun z=> !KY p p.A[j] (QK p) z.s)=its.find? fun z=> !KY p p.A[j] (QK p) z.s) (fun k=>its.length-k) 0 ⟨x4j _,rfl⟩ ?_;rintro k ⟨Z,J⟩;rcases x4f k its.length with x|x;rotate_left 1
 .rw [<-J,BD x]at r;conv=>whnf
  repeat' ((first|refine wI ?_|(apply bD<;>intro _<;>try omega))<;>conv=>whnf)
  exact nX (j+1) ⟨by omega,by rw[<-v,U7 q r]⟩
 have M:=y k x;conv=>whnf
 repeat' ((first|(refine gX ?_;intros)|(refine QC (Ln p p.A[j] (QK p) its[k].s M) (.cons (.p (Sub.refl _)) (.cons (.p (Sub.refl _)) (.cons (.hd rfl (by simp)) (.cons (.p (Sub.refl _)) .nil)))) (by rintro _ rfl;rfl) ?_;rintro _ rfl)|((first|apply bD|apply bN)<;>intro _<;>try omega))<;>conv=>whnf)
 .exact nX (k+1) ⟨by omega,by rw[<-J,Xz (p:=fun z:Item=> !KY p p.A[j] (QK p) z.s) x (by simp;assumption)]⟩
 .have P:=BP (p:=fun z:Item=> !KY p p.A[j] (QK p) z.s) x (by simp;assumption);rw[<-J,P]at r;have e2:=VC q r;rw[v]at e2;rw[e2];exact QR rfl rfl
def q6m:LV->Option Bool
 |.p .tt=>some true
 |.p .ff=>some false
 |.p (.bool b)=>some b
 |_=>none
def Rk{σ:Mem}{β:Lab}{l:LV}{v:Value}(h:RepL σ β l v)(i:q6m l=some b):v=.bool b:=by
 cases h with
 |p h=>cases h<;>simp[q6m]at i<;>subst i<;>rfl
 |_=>simp[q6m]at i
def Zv{P:Program}{T:Tab}{B:Bool}{s:St}{o:Oper}{K:LV->Prop}(hT:TabOK P T){t u:TypeId}{x y:Operand}(h:o.op=.binOp .neq t x y u){i:TyI}(C:T.get t=some i)(z:i.desc=.bool){a:Bool}(D:q6m (QD s.sl x)=some a)(E:q6m (QD s.sl y)=some b)(v:K (.p (.bool (a != b)))):ValO P B s o K:=by
 refine⟨fun σ β F w m _=>⟨_,.bool (a != b),v,.p (.bool _),fun w' _ _=>?_⟩⟩;have q:=Rk (QX m x) D;have r:=Rk (QX m y) E;have n:=hT.of C;rw[z]at n;have A:(eqGuard .neq t x y (.bool a) (.bool b)).run P w'=.ok () w':=by unfold eqGuard;rfl
 have g:(Op.equal t (.bool a) (.bool b)).run P w'=.ok (a==b) w':=by
  have e:Op.equal t (.bool a) (.bool b)=Op.equalIn (9999+1) t (.bool a) (.bool b):=rfl;rw[e,Op.equalIn,Sem.run_bind,run_underlying n,Result.andThen_ok];rfl
 simp only[execOp,h,q,r,Sem.run_bind,A,Result.andThen_ok,binOp];simp[g];cases a<;>cases b<;>rfl
def SJ(l:List Param)(args:List Arg):Bool:=decide (l.map Param.ref=args.map Arg.ref)
def S6(l:List Param)(args:List Arg):aP 159 [.sl (l.map fun a=>.agg a.cells),IL args] (.bool (SJ l args)):=by
 refine sC Dp func159 ?_;conv=>whnf
 repeat' ((first|(refine iM fun _=>?_)|(apply bE<;>intro _<;>try omega))<;>conv=>whnf)
 all_goals
  have s:(l.map fun a=>AV.agg a.cells).length=l.length:=x3a _;have q:(args.map fun a=>AV.agg a.cells).length=args.length:=x3a _
 .have o:l.length=args.length:=by omega
  refine lI (fun j:Nat=>⟨[(1,.p (IL args)),(12,.p (.sl (l.map fun a=>.agg a.cells))),(13,.p (.int .i64 (l.map fun a=>AV.agg a.cells).length)),(14,.j j)],[]⟩) (fun j=>j<=l.length/\(l.map Param.ref).take j=(args.map Arg.ref).take j) (fun j=>l.length-j) 0 ⟨x4j _,rfl⟩ ?_;rintro j ⟨r,m⟩;rcases x4f j l.length with n|n
  .conv=>whnf
   repeat' ((first|refine dA ?_|(refine gX ?_;intros)|refine Zv XM rfl rfl rfl rfl rfl ?_|((first|apply bD|apply bE)<;>intro _<;>try omega))<;>conv=>whnf)
   .have h:l[j].ref=(args[j]'(by omega)).ref:=by assumption
    exact nX (j+1) ⟨by omega,by
     rw[x4k (by simp;omega),x4k (by simp;omega),m];simp[h]⟩
   .have h:¬l[j].ref=(args[j]'(by omega)).ref:=by assumption
    exact RetK.ff (by
     unfold SJ;rw[x7j];intro i;have:(l.map Param.ref)[j]?=(args.map Arg.ref)[j]?:=by rw[i]
     rw[x4q,x4q,x3e n,x3e (by omega)]at this;simp at this;exact h this)
  .conv=>whnf
   repeat' (apply bD<;>intro _<;>first|omega|conv=>whnf)
   exact RetK.tt (by
    unfold SJ;rw[x5k]
    rwa[x4b (by simp;omega),x4b (by simp;omega)]at m)
 .exact RetK.ff (by
   unfold SJ;rw[x7j];intro i;have:=x6h List.length i;simp at this;omega)
def FC(p:Pg)(s:S):Bool:=decide (s.kind=4)&&match p.A.find? (fun f=>f.name==s.C)with
 |some f=>SJ f.B s.args
 |none=>false
def S5(p:Pg)(s:S):aP 98 [.agg p.cells,.agg s.cells] (.bool (FC p s)):=by
 refine sC Db func98 ?_;conv=>whnf
 repeat' ((first|(refine iM fun _=>?_)|(apply bE<;>intro _<;>try omega))<;>conv=>whnf)
 .have m:(p.A.map fun f=>AV.agg f.cells).length=p.A.length:=x3a _;refine lI (fun j:Nat=>⟨[(3,.p (.ip s.cells)),(11,.p (.sl (p.A.map fun f=>.agg f.cells))),(12,.p (.int .i64 (p.A.map fun f=>AV.agg f.cells).length)),(13,.j j)],[]⟩) (fun j=>j<=p.A.length/\(p.A.drop j).find? (fun f=>f.name==s.C)=p.A.find? (fun f=>f.name==s.C)) (fun j=>p.A.length-j) 0 ⟨x4j _,rfl⟩ ?_;rintro j ⟨i,h⟩;conv=>whnf
  repeat' ((first|refine cP (S6 _ _) ?_|(refine gX ?_;intros)|((first|apply bD|apply bB)<;>intro _<;>try omega))<;>conv=>whnf)
  .have e:=BP (p:=fun f:Pr=>f.name==s.C) (l:=p.A) (j:=j) (by omega) (by assumption);rw[h]at e;exact RetK.bool (by unfold FC;rw[e];simp[*])
  .exact nX (j+1) ⟨by omega,by rw[<-h,Xz (p:=fun f:Pr=>f.name==s.C) (by omega) (by assumption)]⟩
  .have e:p.A.find? (fun f=>f.name==s.C)=none:=by rw[<-h,BD (by omega)]
   exact RetK.ff (by unfold FC;rw[e];simp)
 .exact RetK.ff (by unfold FC;simp[*])
def VH(p:Pg):List S:=p.A.flatMap fun f=>flL f.body
theorem q2k:∀(l:List Pr)(i:Nat)(acc:List Item)(lo hi:List Int),(Jk i acc lo hi l).1.map Item.s=acc.map Item.s++l.flatMap fun f=>flL f.body
 |[],i,acc,lo,hi=>by rw[Jk];simp
 | f::r,i,acc,lo,hi=>by
   rw[Jk,q2k r,Qx,x4d,Xj,x6d,x4r]
def YY(p:Pg):(sheetOf p).l.map Item.s=VH p:=by
 have:=q2k p.A 0 [] [] [];unfold sheetOf VH;simpa using this
def Xe(o:Fit p)(q:k<(sheetOf p).l.length):wS (sheetOf p).l[k].s<=21000:=by
 have h:(sheetOf p).l[k].s∈VH p:=by
  rw[<-YY];exact x4y.2 ⟨_,x4h q,rfl⟩
 unfold VH at h;obtain⟨f,i,m⟩:=x4a.1 h;have r:=Mi _ _ m;have n:=o.pr i;unfold wPr at n;omega
def UT(p:Pg):Int×Int:=
 if(QO p).1≠0 then(1,0)else match(VH p).find? fun t=>decide (t.kind=4) && !FC p t with
  |some t=>(6,t.id)
  |none=>(0,0)
def KG(h:(QO p).1=0):BC p=true/\WO p=false/\p.A.findSome? (YU p)=none:=by
 unfold QO at h;cases m:BC p<;>rw[m]at h
 .cases h
 cases i:WO p<;>rw[i]at h
 .refine ⟨rfl,rfl,?_⟩;simp only[x4s,x5q]at h;split at h
  .cases h
  .assumption
 .cases h
def Vc(p:Pg)(x:Fit p):aP 60 [.agg p.cells] (Kf (UT p).1 (UT p).2):=by
 refine sC Ga func60 ?_;conv=>whnf
 repeat' ((first|refine cP (JC p x) ?_|refine x4e rfl ?_|(apply bE<;>intro _<;>try omega))<;>conv=>whnf)
 rotate_left 1
 .have e:UT p=(1,0):=by unfold UT;rw[if_pos (by assumption)]
  exact QR (by rw[e]) (by rw[e])
 have C:(QO p).1=0:=by assumption
 obtain⟨g,E,A⟩:=KG C;obtain⟨F,B,w⟩:=VD g;have v:UT p=match(VH p).find? fun t=>decide (t.kind=4) && !FC p t with
  |some t=>(6,t.id)
  |none=>(0,0):=by unfold UT;rw[if_neg (by omega)]
 repeat' ((first|(refine iM fun _=>?_)|refine cP (BN p (by omega) (by omega)) ?_ (ha:=.cons (Sub.refl _) .nil))<;>conv=>whnf)
 have z:=WZ (sheetOf p).l;have y:(sheetOf p).l.length<=200:=by have:=(QU p).2.2.2.1;omega
 have m:=BB (q:=fun t=>decide (t.kind=4) && !FC p t) (sheetOf p).l;rw[YY]at m;have r:UT p=match((sheetOf p).l.find? fun h=>decide (h.s.kind=4) && !FC p h.s).map (fun h=>h.s.id)with
  |some a=>(6,a)
  |none=>(0,0):=by
  rw[v,m];cases(VH p).find? fun t=>decide (t.kind=4) && !FC p t<;>rfl
 rw[r];refine lI (fun k:Nat=>⟨[(1,.p (.ip p.cells)),(2,.ptr 1 0),(14,.p (ZE (sheetOf p).l)),(15,.p (.int .i64 ((sheetOf p).l.map fun i=>AV.agg i.cells).length)),(16,.j k)],[(1,.obj 80 [.p (.int .i64 0),.j 0])]⟩) (fun k=>k<=(sheetOf p).l.length/\((sheetOf p).l.drop k).find? (fun h=>decide (h.s.kind=4) && !FC p h.s)=(sheetOf p).l.find? fun h=>decide (h.s.kind=4) && !FC p h.s) (fun k=>(sheetOf p).l.length-k) 0 ⟨x4j _,rfl⟩ ?_;rintro k ⟨D,o⟩;rcases x4f k (sheetOf p).l.length with n|n;rotate_left 1
 .rw [<-o,BD n];conv=>whnf
  repeat' ((first|refine x4e rfl ?_|(apply bD<;>intro _<;>try omega))<;>conv=>whnf)
  exact QR rfl rfl
 conv=>whnf
 repeat' ((first|refine cP (S5 _ _) ?_|(refine gX ?_;intros)|((first|apply bD|apply bN)<;>intro _<;>try omega))<;>conv=>whnf)
 all_goals first
  | (have u:=BP (p:=fun h:Item=>decide (h.s.kind=4) && !FC p h.s) n (by simp[*])
     rw[<-o,u];exact QR rfl rfl)
  |exact nX (k+1) ⟨by omega,by rw[<-o,Xz (p:=fun h:Item=>decide (h.s.kind=4) && !FC p h.s) n (by simp[*])]⟩
def JM:List Str->List Str->Option (List Str)
 |seen,[]=>some seen
 |seen,n::r=>bif seen.any (fun s=>n==s)then none else JM (seen++[n]) r
def Og(i:j<l.length)(h:(seen.any fun s=>l[j]==s)=true):JM seen (l.drop j)=none:=by
 rw[QM i,JM,h];rfl
def Ad(i:j<l.length)(h:(seen.any fun s=>l[j]==s)=false):JM seen (l.drop j)=JM (seen++[l[j]]) (l.drop (j+1)):=by
 rw[QM i,JM,h];rfl
theorem Pq:∀{l seen out:List Str},JM seen l=some out->out=seen++l
 |[],seen,out,h=>by rw[JM]at h;cases h;simp
 | n::r,seen,out,h=>by
   rw[JM]at h;cases i:(seen.any fun s=>n==s)<;>rw[i]at h
   .have:=Pq h;simpa using this
   .cases h
def Ap(t:Nat)(seen l:List Str)(r:LV)(H:Heap):Prop:=
 match JM seen l with
 |some out=>r=.tup [.hd 2000 0 out.length,.p .tt]/\H=Cx t out
 |none=>∃out,r=.tup [.hd 2000 0 out.length,.p .ff]/\H=Cx t out
def Y1{t:Nat}{Q:LV->Heap->Prop}(m:JM seen l=some (seen++l)->Q (.tup [.hd 2000 0 (seen++l).length,.p .tt]) (Cx t (seen++l)))(n:JM seen l=none->∀out,Q (.tup [.hd 2000 0 out.length,.p .ff]) (Cx t out)):∀l' H',Ap t seen l l' H'->Q l' H':=by
 intro l' H' h;unfold Ap at h;cases i:JM seen l with
 | some out=>
   rw[i]at h;obtain⟨rfl,rfl⟩:=h;have:=Pq i;subst this;exact m i
 | none=>
   rw[i]at h;obtain⟨out,rfl,rfl⟩:=h;exact n i out
def Px(seen l:List Str)(o:seen.length+l.length<=1000000000):
  SpecH prog 100 [.hd 2000 0 seen.length,.p (eStrs l)] (Cx 9 seen) (Ap 9 seen l):=by
 refine sK Mu func100 ?_;conv=>whnf
 repeat' ((refine iM fun _=>?_)<;>conv=>whnf)
 have s:(l.map AV.str).length=l.length:=x3a _;refine lI (fun i:Nat×List Str=>⟨[(0,.hd 2000 0 i.2.length),(8,.p (eStrs l)),(9,.p (.int .i64 (l.map AV.str).length)),(10,.j i.1)],Cx 9 i.2⟩) (fun i=>i.1<=l.length/\i.2.length+(l.length-i.1)=seen.length+l.length/\JM i.2 (l.drop i.1)=JM seen l) (fun i=>l.length-i.1) (0,seen) ⟨x4j _,by simp,rfl⟩ ?_;rintro⟨j,h⟩ ⟨q,r,m⟩;simp only at q r m⊢;rcases x4f j l.length with n|n
 .conv=>whnf
  repeat' ((first|(refine gX ?_;intros)|(refine QC (QZ h (l[j]'n)) (.cons (.hd rfl (by simp)) (.cons (.p (Sub.refl _)) .nil)) (by rintro _ rfl;rfl) ?_;rintro _ rfl)|refine pS ?_|((first|apply bD|apply bB)<;>intro _<;>try omega))<;>conv=>whnf)
  .exact ⟨_,.refl _,by unfold Ap;rw[<-m,Og n (by assumption)];exact⟨h,rfl,rfl⟩⟩
  .exact ⟨(j+1,h++[l[j]]),⟨by simp only;omega,by simp;omega,by simp only;rw[<-m,Ad n (by assumption)]⟩,by simp only;omega,Le.of_eq (by simp only[Cx,x3o,x4d];rfl)⟩
 .conv=>whnf
  repeat' (apply bD<;>intro _<;>first|omega|conv=>whnf)
  rw[x4l n,JM]at m;exact⟨_,.refl _,by unfold Ap;rw[<-m];exact⟨rfl,rfl⟩⟩
def atB(f:Pr)(h:Str):Int×Bool:=
 match(flL f.body).find? fun t=>t.Y.any fun s=>h==s with
 |some t=>(t.id,true)
 |none=>bif f.fin.any fun s=>h==s then(-1,true)else(0,false)
theorem RetK.tup2{H:Heap}{k:IntKind}{m n:Int}{x:AV}(h:m=n)(i:Sub x (.bool b)):RetK H (.p (.tup [.int k m,x])) (fun r=>r=.tup [.int k n,.bool b]):=
 ⟨_,.p (Sub.tup (SubL.cons (Sub.int h) (SubL.cons i SubL.nil))),rfl⟩
def LJ(p:Pg)(j:Nat)(f:Pr)(w:p.A[j]?=some f)(e:cntP p.A<=1000)(h:Str):aP 160 [.ip (sheetOf p).cells,.int .i64 j,.str h] (.tup [.int .i64 (atB f h).1,.bool (atB f h).2]):=by
 refine sC V7 func160 ?_;conv=>whnf
 repeat' ((first|(refine iM fun _=>?_)|refine cP (Hh p w e) ?_)<;>conv=>whnf)
 have n:=BB (q:=fun t=>t.Y.any fun s=>h==s) (itL (j:Nat) 0 (-1) 0 (QS p.A j) f.body);rw[Xj]at n;have v:(itL (j:Nat) 0 (-1) 0 (QS p.A j) f.body).length<=1000:=by
  have:=(QU p).2.2.2.2 j f w;rw[XS];omega
 generalize y:itL (j:Nat) 0 (-1) 0 (QS p.A j) f.body=its at n v⊢;have g:=WZ its;have u:atB f h=match(its.find? fun m=>m.s.Y.any fun s=>h==s).map (fun m=>m.s.id)with
  |some a=>(a,true)
  |none=>bif f.fin.any fun s=>h==s then(-1,true)else(0,false):=by
  unfold atB;rw[n];cases(flL f.body).find? fun t=>t.Y.any fun s=>h==s<;>rfl
 rw[u];refine lI (fun k:Nat=>⟨[(0,.p (.ip (sheetOf p).cells)),(1,.j j),(2,.p (.str h)),(12,.p (ZE its)),(13,.p (.int .i64 (its.map fun i=>AV.agg i.cells).length)),(14,.j k)],[]⟩) (fun k=>k<=its.length/\(its.drop k).find? (fun m=>m.s.Y.any fun s=>h==s)=its.find? fun m=>m.s.Y.any fun s=>h==s) (fun k=>its.length-k) 0 ⟨x4j _,rfl⟩ ?_;rintro k ⟨B,r⟩;rcases x4f k its.length with o|o
 .conv=>whnf
  repeat' ((first|refine cP (QZ _ _) ?_|(refine gX ?_;intros)|((first|apply bD|apply bB)<;>intro _<;>try omega))<;>conv=>whnf)
  .have z:=BP (p:=fun m:Item=>m.s.Y.any fun s=>h==s) o (by assumption);rw[<-r,z];exact RetK.tup2 rfl (Sub.tt rfl)
  .exact nX (k+1) ⟨by omega,by rw[<-r,Xz (p:=fun m:Item=>m.s.Y.any fun s=>h==s) o (by assumption)]⟩
 .rw [<-r,BD o];have x:(p.A.map fun f=>AV.agg f.cells)[j]?=some (.agg f.cells):=by simp[w]
  conv=>whnf
  repeat' ((first|refine cP (QZ _ _) ?_|refine iT x ?_|((first|apply bD|apply bB)<;>intro _<;>try omega))<;>conv=>whnf)
  .exact RetK.tup2 (by simp[*]) (Sub.tt (by simp[*]))
  .exact RetK.tup2 (by simp[*]) (Sub.ff (by simp[*]))
def KJ(f:Pr)(h:Item):Bool:=if h.s.kind=7\/h.s.kind=8 then !(h.loop==0)else if h.s.kind=10 then(atB f h.s.name).2 else true
def Sh(p:Pg)(j:Nat)(f:Pr)(m:p.A[j]?=some f)(i:cntP p.A<=1000)(h:Item)(n:h.C=j):aP 101 [.ip (sheetOf p).cells,.agg h.cells] (.bool (KJ f h)):=by
 refine sC Dr func101 ?_;conv=>whnf
 repeat' ((first|refine cP (LJ p j f m i h.s.name) ?_ (ha:=.cons (Sub.refl _) (.cons (Sub.int n) (.cons (Sub.refl _) .nil)))|(apply bD<;>intro _<;>try omega))<;>conv=>whnf)
 all_goals first
  |exact RetK.bool (by simp[KJ, *];rfl)
  |exact RetK.bool (by simp[KJ, *])
  |exact RetK.tt (by simp[KJ, *])
def Sf(p:Pg)(m:Fit p)(h:(QO p).1=0):aP 99 [.agg p.cells] (.ip (sheetOf p).cells):=by
 refine sC Z9 func99 ?_;conv=>whnf
 obtain⟨n,r,o⟩:=KG h;obtain⟨s,q,i⟩:=VD n;repeat' ((first|refine cP (JC p m) ?_|refine cP (BN p (by omega) (by omega)) ?_ (ha:=.cons (Sub.refl _) .nil)|(apply bE<;>intro _<;>try omega))<;>conv=>whnf)
 exact RetK.p rfl
def Fj(p:Pg)(i:Fit p)(h:(QO p).1≠0):aP 99 [.agg p.cells] .nilp:=by
 refine sC Z9 func99 ?_;conv=>whnf
 repeat' ((first|refine cP (JC p i) ?_|(apply bE<;>intro _<;>try omega))<;>conv=>whnf)
 exact RetK.p rfl
mutual
theorem Oj(C up nx loop:Int)(n:Nat):∀(t:S)(it:Item),it∈itS C up nx loop n t->it.C=C
 | .mk id kind Y name pr x has args V Z,it,h=>by
   rw[itS]at h;rcases x4v.1 h with rfl|h
   ·rfl
   ·rcases x4g.1 h with h|h
    ·exact KV _ _ _ _ _ V it h
    ·exact KV _ _ _ _ _ Z it h
theorem KV(C up nx loop:Int)(n:Nat):∀(l:List S)(it:Item),it∈itL C up nx loop n l->it.C=C
 |[],it,h=>by rw[itL]at h;cases h
 | t::r,it,h=>by
   rw[itL]at h;rcases x4g.1 h with h|h
   ·exact Oj _ _ _ _ _ t it h
   ·exact KV _ _ _ _ _ r it h
end
def PJ(f:Pr):List Item->List Str->Except Int (List Str)
 |[],seen=>.ok seen
 | it::r,seen=>match JM seen it.s.Y with
   |none=>.error it.s.id
   |some s=>bif KJ f it then PJ f r s else .error it.s.id
def KU(p:Pg)(j:Nat):Option Int:=
 match p.A[j]?with
 |none=>none
 | some f=>match PJ f (itL (j:Nat) 0 (-1) 0 (QS p.A j) f.body) []with
   |.error id=>some id
   | .ok seen=>match JM seen f.fin with
     |none=>some 0
     |some _=>none
def Ww(p:Pg):Int×Int:=
 if(QO p).1≠0 then(1,0)else match(List.range p.A.length).findSome? (KU p)with
  |some a=>(7,a)
  |none=>(0,0)
def Oh(i:k<its.length)(h:JM seen its[k].s.Y=none):PJ f (its.drop k) seen=.error its[k].s.id:=by
 rw[QM i,PJ,h]
def Am{s:List Str}(i:k<its.length)(h:JM seen its[k].s.Y=some s)(m:KJ f its[k]=false):PJ f (its.drop k) seen=.error its[k].s.id:=by
 rw[QM i,PJ,h];simp only[m,x5q]
def Al{s:List Str}(i:k<its.length)(h:JM seen its[k].s.Y=some s)(m:KJ f its[k]=true):PJ f (its.drop k) seen=PJ f (its.drop (k+1)) s:=by
 rw[QM i,PJ,h];simp only[m,x4s]
def L6{l:List Pr}(t:j<l.length)(h:wPr l[j]<=21000){b:Int}{n:Nat}(i:k<(itL a b c d n l[j].body).length):(itL a b c d n l[j].body)[k].s.Y.length<=21000:=by
 have m:(itL a b c d n l[j].body)[k].s∈flL l[j].body:=by
  rw[<-Xj a b c d n];exact x4y.2 ⟨_,x4h i,rfl⟩
 have o:=Mi _ _ m;have q:=C4 (itL a b c d n l[j].body)[k].s;have r:=Dz (itL a b c d n l[j].body)[k].s.Y;unfold wPr at h;omega
def Sg(p:Pg)(B:Fit p):aP 61 [.agg p.cells] (Kf (Ww p).1 (Ww p).2):=by
 refine sC Dl func61 ?_;conv=>whnf
 rcases Decidable.em ((QO p).1=0)with g|g;rotate_left 1
 ·
  repeat' ((first|refine cP (Fj p B g) ?_|refine x4e rfl ?_)<;>conv=>whnf)
  have e:Ww p=(1,0):=by unfold Ww;rw[if_pos g]
  exact QR (by rw[e]) (by rw[e])
 obtain⟨N,R,O⟩:=KG g;obtain⟨T,P,J⟩:=VD N;have I:Ww p=match(List.range p.A.length).findSome? (KU p)with
  |some a=>(7,a)
  |none=>(0,0):=by unfold Ww;rw[if_neg (by omega)]
 rw[I];have U:(p.A.map fun f=>AV.agg f.cells).length=p.A.length:=x3a _;repeat' ((first|(refine iM fun _=>?_)|refine cP (Sf p B g) ?_)<;>conv=>whnf)
 refine lI (fun j:Nat=>⟨[(2,.ptr 1 0),(3,.p (.ip (sheetOf p).cells)),(16,.p (.sl (p.A.map fun f=>.agg f.cells))),(17,.p (.int .i64 (p.A.map fun f=>AV.agg f.cells).length)),(18,.j j)],[(1,.obj 80 [.p (.int .i64 0),.j 0])]⟩) (fun j=>j<=p.A.length/\((List.range p.A.length).drop j).findSome? (KU p)=(List.range p.A.length).findSome? (KU p)) (fun j=>p.A.length-j) 0 ⟨x4j _,rfl⟩ ?_;rintro j ⟨Q,y⟩;rcases x4f j p.A.length with t|t;rotate_left 1
 .have e:(List.range p.A.length).findSome? (KU p)=none:=by rw[<-y,Zh (by simpa using t)]
  rw[e];conv=>whnf
  repeat' ((first|refine x4e rfl ?_|(apply bD<;>intro _<;>try omega))<;>conv=>whnf)
  exact QR rfl rfl
 have z:=B.pr (x4h t);have o:j<(List.range p.A.length).length:=by simpa using t
 have r:(List.range p.A.length)[j]=j:=by simp
 have q:p.A[j]?=some p.A[j]:=by simp[t]
 conv=>whnf
 repeat' ((first|(refine gX ?_;intros)|refine cP (Hh p (f:=p.A[j]'t) q (by omega)) ?_ (ha:=.cons (Sub.refl _) (.cons (Sub.refl _) .nil))|(apply bD<;>intro _<;>try omega))<;>conv=>whnf)
 have u:∀k (n:k<(itL (j:Nat) 0 (-1) 0 (QS p.A j) p.A[j].body).length),(itL (j:Nat) 0 (-1) 0 (QS p.A j) p.A[j].body)[k].s.Y.length<=21000:=fun k n=>L6 t z n;have v:∀k (n:k<(itL (j:Nat) 0 (-1) 0 (QS p.A j) p.A[j].body).length),(itL (j:Nat) 0 (-1) 0 (QS p.A j) p.A[j].body)[k].C=j:=fun k n=>KV _ _ _ _ _ _ _ (x4h n);have D:(itL (j:Nat) 0 (-1) 0 (QS p.A j) p.A[j].body).length<=200:=by
  have:=(QU p).2.2.2.2 j _ q;rw[XS];omega
 have h:KU p j=match PJ p.A[j] (itL (j:Nat) 0 (-1) 0 (QS p.A j) p.A[j].body) []with
  |.error id=>some id
  | .ok seen=>match JM seen p.A[j].fin with
    |none=>some 0
    |some _=>none:=by
  unfold KU;rw[q]
 generalize F:itL (j:Nat) 0 (-1) 0 (QS p.A j) p.A[j].body=its at u v D h⊢;have L:=WZ its;refine lJ (fun i:Nat×List Str=>⟨[(2,.ptr 1 0),(3,.p (.ip (sheetOf p).cells)),(5,.p (.ip (p.A[j]'t).cells)),(6,.hd 0 0 i.2.length),(16,.p (.sl (p.A.map fun f=>.agg f.cells))),(17,.p (.int .i64 (p.A.map fun f=>AV.agg f.cells).length)),(18,.j j),(25,.p (ZE its)),(26,.p (.int .i64 (its.map fun i=>AV.agg i.cells).length)),(27,.j i.1)],[(0,.own 9 1 (i.2.map .str)),(1,.obj 80 [.p (.int .i64 0),.j 0])]⟩) (fun i=>i.1<=its.length/\i.2.length<=21000*i.1/\PJ p.A[j] (its.drop i.1) i.2=PJ p.A[j] its []) (fun i=>its.length-i.1) (0,[]) (lM [(0,.own 9 1 [])]) ⟨x4j _,by simp,rfl⟩ ?_;rintro⟨k,w⟩ ⟨G,H,x⟩;simp only at G H x⊢;rcases x4f k its.length with n|n
 .have M:=u k n;conv=>whnf
  repeat' ((first|(refine gX ?_;intros)|refine cP (Sh p j p.A[j] q (by omega) its[k] (v k n)) ?_ (ha:=.cons (Sub.refl _) (.cons (Sub.refl _) .nil))|((first|apply bD|apply bN)<;>intro _<;>try omega)|(refine CallK.heap [(2000,0)] 0 (by repeat' (first|exact x6e|refine x5w ?_ ?_|exact x4c _|exact x9x Sub.nils|exact x9x (Sub.tt rfl)|exact x9x (Sub.ff rfl)|exact x9x (Sub.int (by omega)))) (by refine x5x (j:=0) rfl rfl ?_ ?_;exact CSub.refl _;exact x6z) (Px w its[k].s.Y (by omega)) rfl rfl (Y1 (fun m=>?_) (fun m out=>?_))))<;>conv=>whnf)
  .exact nX (k+1,w++its[k].s.Y) ⟨by simp only;omega,by simp;omega,by simp only;rw[<-x,Al n m (by assumption)]⟩
  .rw [<-x,Am n m (by assumption)]at h;have e2:=VC (f:=KU p) o (by rw[r];exact h);rw[y]at e2;rw[e2];exact QR rfl rfl
  .rw [<-x,Oh n m]at h;have e2:=VC (f:=KU p) o (by rw[r];exact h);rw[y]at e2;rw[e2];exact QR rfl rfl
 .have E:p.A[j].fin.length<=21000:=by
   have:=Dz p.A[j].fin;unfold wPr at z;omega
  rw[x4l n,PJ]at x;rw[<-x]at h;simp only at h;conv=>whnf
  repeat' ((first|refine gX ?_|(apply bD<;>intro _<;>try omega)|(refine CallK.heap [(2000,0)] 0 (by repeat' (first|exact x6e|refine x5w ?_ ?_|exact x4c _|exact x9x Sub.nils|exact x9x (Sub.tt rfl)|exact x9x (Sub.ff rfl)|exact x9x (Sub.int (by omega)))) (by refine x5x (j:=0) rfl rfl ?_ ?_;exact CSub.refl _;exact x6z) (Px w p.A[j].fin (by omega)) rfl rfl (Y1 (fun m=>?_) (fun m out=>?_))))<;>conv=>whnf)
  .rw [m]at h;exact nX (j+1) ⟨by omega,by rw[<-y,U7 (f:=KU p) o (by rw[r];exact h)]⟩
  .rw [m]at h;have e2:=VC (f:=KU p) o (by rw[r];exact h);rw[y]at e2;rw[e2];exact QR rfl rfl
theorem BsK.pureL{sz:Nat}{out:List LV}{i m:Prop}(r:(es.all fun x=>x.cells.length==sz)=true)(q:out=(es.flatMap AV.cells).map .p)(o:i):BsK es sz out i m:=.pure (fun x h=>by simpa using x6w.1 r x h) q o
end Go.Ab
