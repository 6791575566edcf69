/- tree, flat, scope: the names of an expression, of a statement; what a name is. -/
import Derived.Test.YtgljdhjopolmcaaGreatInN8
set_option linter.all false
set_option maxRecDepth 100000
set_option maxHeartbeats 16000000
open List (drop_zero)
namespace Go.Ab
open Go.Proofs.Tryz
open Go.Proofs
variable {α β:Type}{K:Prop}{a c d:Int}{b:Bool}{es:List AV}{f:Pr}{its:List Item}{j k:Nat}{l seen:List Str}{p:Pg}
def ZT{n:Nat}(xs:List Str)(h:n=es.length)(o:es.length+xs.length<=8796093022208)(i:K):AppK es (xs.map .str) n (xs.map AV.str).length 1 16 K:=
 .mk h rfl (by rw[h];simp;omega) (by rw[h];simp[maxLen];omega) (fun x m=>by obtain⟨y,_,rfl⟩:=x8c.1 m;exact⟨rfl,rfl⟩) i
def WU{n:Nat}{s:Str}(i:n=es.length)(o:es.length<=8796093022000)(h:K):AppK es [.str s] n 1 1 16 K:=
 .mk i rfl (by omega) (by simp only[maxLen];omega) (fun x m=>by rcases x9q.1 m with rfl;exact⟨rfl,rfl⟩) h
def Xg{n:Nat}{s:Int}(i:n=es.length)(o:es.length<=8796093022000)(h:K):AppK es [.int .i64 s] n 1 1 8 K:=
 .mk i rfl (by omega) (by simp only[maxLen];omega) (fun x m=>by rcases x9q.1 m with rfl;exact⟨rfl,rfl⟩) h
mutual
def Wn:X->List Str->List Str
 |.mk op _ name kids,out=>YF kids (if op=2/\(out.any fun s=>name==s)=false then out++[name]else out)
def YF:List X->List Str->List Str
 |[],out=>out
 |x::r,out=>YF r (Wn x out)
end
def Vv(x:X)(out:List Str):Wn x out=YF x.kids (if x.op=2/\(out.any fun s=>x.name==s)=false then out++[x.name]else out):=by
 cases x;rw[Wn];rfl
def Fl{l:List X}{out:List Str}(h:j<l.length):YF (l.drop j) out=YF (l.drop (j+1)) (Wn l[j] out):=by
 rw[QG h,YF]
def L6{l:List X}{out:List Str}(h:l.length<=j):YF (l.drop j) out=out:=by
 rw[x9j h,YF]
def NE{n:Nat}{x:X}(h:WW (n+1) x=true):x.kids.length<=2/\(x.op=2->x.kids.length=0)/\∀k∈x.kids,WW n k=true:=by
 rw[WW]at h;simp only[x9g,x9o]at h;obtain⟨i,m⟩:=h;refine⟨?_,fun r=>?_,?_⟩
 .unfold Zp at i;(repeat' split at i)<;>omega
 .unfold Zp at i;rw[if_pos (by omega)]at i;omega
 .by_cases o:x.op=1
  .have:x.kids.length=0:=by unfold Zp at i;rw[if_pos (by omega)]at i;omega
   rw[z1z this];simp
  .by_cases q:x.op=2
   .have:x.kids.length=0:=by unfold Zp at i;rw[if_pos (by omega)]at i;omega
    rw[z1z this];simp
   .rw [if_neg o,if_neg q]at m;simp only[x9g]at m;exact z0p.1 m.2
def Tj:∀(n:Nat)(x:X)(out:List Str),WW n x=true->out.length<=(Wn x out).length/\(Wn x out).length<=out.length+2^n:=by
 intro n;induction n with
 |zero=>intro x out h;rw[WW]at h;cases h
 | succ n g=>
   intro x out h;obtain⟨w,y,z⟩:=NE h;have key:∀(l:List X)(o:List Str),(∀k∈l,WW n k=true)->o.length<=(YF l o).length/\(YF l o).length<=o.length+l.length*2^n:=by
    intro l;induction l with
    |nil=>intro o _;simp[YF]
    | cons k r t=>
      intro o u;rw[YF];have e:=g k o (u k (by simp));have A:=t (Wn k o) fun k q=>u k (by simp[q]);simp only[x9f,z1l,z5v];omega
   rw[Vv];have B:2^(n+1)=2*2^n:=by rw[Nat.pow_succ];omega
   have v:0<2^n:=Nat.pow_pos (by decide);have m:=key x.kids (if x.op=2/\(out.any fun s=>x.name==s)=false then out++[x.name]else out) z;have e:x.kids.length*2^n<=2*2^n:=z0m _ w;split at m
   .rename_i i;have:=y i.1;rw[this]at m;rw[if_pos i];simp only[x8m,x9a]at m;omega
   .rename_i i;rw[if_neg i];omega
def Pk(t:Nat)(out:List Str):Heap:=[(2000,.own t 1 (out.map .str))]
def Gi:∀(n:Nat)(_:n<=20)(x:X)(_:WW n x=true)(out:List Str)(_:out.length+2^n<=1073741824),
  aH 198 [.p (.agg x.cells),.hd 2000 0 out.length] (Pk 9 out) (.hd 2000 0 (Wn x out).length) (Pk 9 (Wn x out)):=by
 intro n;induction n with
 |zero=>intro _ x h;rw[WW]at h;cases h
 | succ n A=>
   intro D x e out E;have F:2^(n+1)=2*2^n:=by rw[Nat.pow_succ];omega
   have w:0<2^n:=Nat.pow_pos (by decide);obtain⟨t,u,q⟩:=NE e;have g:=X.avs_len x.kids;refine sK B4 func198 ?_;conv=>whnf
   repeat' ((first|(refine gX ?_;intros)|(refine QH (QV out x.name) (.cons (.hd rfl (by simp)) (.cons (.p (Sub.refl _)) .nil)) (by rintro _ rfl;rfl) ?_;rintro _ rfl)|refine pA 1 16 (by simp) ?_|((first|apply bD|apply bN)<;>intro _<;>try omega))<;>conv=>whnf)
   all_goals
    have r:∀j,j<x.kids.length->(x.kids.length-j)*2^n=(x.kids.length-(j+1))*2^n+2^n:=fun j o=>by
     rw[show x.kids.length-j=(x.kids.length-(j+1))+1 by omega,z1l,z5v]
    have v:x.kids.length*2^n<=2*2^n:=z0m _ t;first
    |refine lJ (fun i:Nat×List Str=>⟨[(1,.hd 2000 0 i.2.length),(23,.p (.sl (X.avs x.kids))),(24,.p (.int .i64 (X.avs x.kids).length)),(25,.j i.1)],Pk 9 i.2⟩) (fun i=>i.1<=x.kids.length/\YF (x.kids.drop i.1) i.2=Wn x out/\i.2.length+(x.kids.length-i.1)*2^n<=1073741824) (fun i=>x.kids.length-i.1) (0,out++[x.name]) (Le.of_eq (by simp[Pk];exact⟨rfl,rfl⟩)) ⟨x8i _,by simp only[drop_zero];rw[Vv,if_pos ⟨by assumption,by assumption⟩],by have:=u (by assumption);simp[this];omega⟩ ?_
    |refine lI (fun i:Nat×List Str=>⟨[(1,.hd 2000 0 i.2.length),(23,.p (.sl (X.avs x.kids))),(24,.p (.int .i64 (X.avs x.kids).length)),(25,.j i.1)],Pk 9 i.2⟩) (fun i=>i.1<=x.kids.length/\YF (x.kids.drop i.1) i.2=Wn x out/\i.2.length+(x.kids.length-i.1)*2^n<=1073741824) (fun i=>x.kids.length-i.1) (0,out) ⟨x8i _,by simp only[drop_zero];rw[Vv,if_neg (by simp[*])],by simp only[Nat.sub_zero];omega⟩ ?_
    rintro⟨j,m⟩ ⟨y,s,z⟩;simp only at y s z⊢;conv=>whnf
    repeat' ((first|(refine gX ?_;intros)|(apply bD<;>intro _<;>try omega))<;>conv=>whnf)
    all_goals first
     | (rw[L6 (by omega)]at s
        exact⟨_,.refl _,by rw[s];exact⟨rfl,rfl⟩⟩)
     | (have o:j<x.kids.length:=by omega
        have C:=r j o;have B:=Tj n x.kids[j] m (q _ (x9w o));refine cJ rH4 0 (A (by omega) x.kids[j] (q _ (x9w o)) m (by omega)) ?_;rintro l' H' ⟨rfl,rfl⟩;conv=>whnf
        refine wI ?_;conv=>whnf
        exact nX (j+1,Wn x.kids[j] m) ⟨by simp only;omega,by simp only;rw[<-s,Fl o],by simp only;omega⟩)
def QN(x:X):List Str:=bif J0 x then Wn x []else []
def WJ(x:X):(QN x).length<=1048576:=by
 unfold QN;cases h:J0 x with
 |false=>simp
 | true=>
   have:=(Tj 20 x [] h).2;simpa using this
def U7(x:X):aP 141 [.agg x.cells] (eStrs (QN x)):=by
 refine sC Uk func141 ?_;conv=>whnf
 repeat' ((first|refine cP (GM _) ?_|(apply bN<;>intro _))<;>conv=>whnf)
 .refine CallK.nil 5 9 1 rfl (.cons rfl (.row .nil)) ?_;refine cJ [(2000,5)] 0 (Gi 20 (by omega) x (by assumption) [] (by simp)) ?_;rintro l' H' ⟨rfl,rfl⟩;conv=>whnf
  refine⟨_,.hd rfl (by simp),?_⟩;unfold QN;rw[show J0 x=true by assumption];rfl
 .refine ⟨_,.p Sub.nils,?_⟩;unfold QN;rw[show J0 x=false by assumption];rfl
def JX(a:Arg):List Str:=(bif a.ref then [a.name]else [])++QN a.x
def HI(t:S):List Str:=(bif t.kind≠10 && !(t.name==[])then [t.name]else [])++QN t.x
def ZU(t:S):List Str:=HI t++t.args.flatMap JX
def Ak(a:Arg):(JX a).length<=1048577:=by
 have:=WJ a.x;unfold JX;cases a.ref<;>simp<;>omega
def Ag(t:S):(HI t).length<=1048577:=by
 have:=WJ t.x;unfold HI;cases(t.kind≠10 && !(t.name==[]):Bool)<;>simp<;>omega
theorem DV{α β:Type}{f:α->List β}{c:Nat}(h:∀a,(f a).length<=c):∀l:List α,(l.flatMap f).length<=l.length*c
 |[]=>by simp
 | x::r=>by
   have:=DV h r;have:=h x;simp only[z0e,x8m,x9f,z1l,z5v];omega
def B9(t:S)(j:Nat):List Str:=HI t++(t.args.take j).flatMap JX
def S4(t:S)(h:j<=t.args.length)(ha:t.args.length<=21000):(B9 t j).length<=23000000000:=by
 have i:=Ag t;have m:=DV Ak (t.args.take j);have n:(t.args.take j).length*1048577<=21000*1048577:=z0m _ (by simp;omega);unfold B9;simp only[x8m];omega
def M7{t:S}(h:j<t.args.length):B9 t (j+1)=B9 t j++JX t.args[j]:=by
 unfold B9;rw[x9v h,z3t,x9l];simp
def BU(t:S)(h:Nat)(j:Nat):St:=⟨[(3,.hd 0 0 (B9 t j).length),(25,.p (.sl (t.args.map fun a=>.agg a.cells))),(26,.p (.int .i64 (t.args.map fun a=>AV.agg a.cells).length)),(27,.j j)],[(0,.own h 1 ((B9 t j).map .str))]⟩
def Fh(t:S)(ha:t.args.length<=21000):aP 185 [.agg t.cells] (eStrs (ZU t)):=by
 refine sC Nf func185 ?_;conv=>whnf
 repeat' ((first|(refine gX ?_;intros)|refine cP (U7 _) ?_|refine ZT _ (by simp) (by have:=WJ t.x;simp;omega) ?_|refine WU (by simp) (by simp) ?_|((first|apply bE|apply bN)<;>intro _<;>try omega))<;>conv=>whnf)
 all_goals
  have q:(t.args.map fun a=>AV.agg a.cells).length=t.args.length:=x8b _;refine lJ (BU t 9) (fun j=>j<=t.args.length) (fun j=>t.args.length-j) 0 (Le.of_eq ?_) (x8i _) ?_
  .first
    | (have e:B9 t 0=QN t.x:=by simp[B9,HI,show t.kind=10 by assumption]
       rw[BU,e];simp only[z0t,x8b,x8m,x8a,z1g];rfl)
    | (have e:B9 t 0=QN t.x:=by simp[B9,HI,show t.name=[] by simpa using(show(t.name==[])=true by assumption)]
       rw[BU,e];simp only[z0t,x8b,x8m,x8a,z1g];rfl)
    | (have e:B9 t 0=[t.name]++QN t.x:=by
        have:(t.name==[])=false:=by assumption
        simp[B9,HI,show ¬t.kind=10 by assumption,this]
       rw[BU,e];simp only[z0t,x8b,x8m,x8a,z1g];rfl)
  intro j n;have m:=S4 t n ha;conv=>whnf
  repeat' ((first|refine cP (U7 _) ?_|(refine gX ?_;intros)|refine ZT _ (by simp) (by have:=WJ (t.args[j]'(by omega)).x;simp;omega) ?_|refine pS ?_|((first|apply bD|apply bB)<;>intro _<;>try omega))<;>conv=>whnf)
  all_goals first
   |exact⟨_,.hd rfl (by simp),by
      have:t.args.take j=t.args:=x9u (by omega);rw[ZU,<-this];rfl⟩
   | (have o:j<t.args.length:=by omega
      have h:=M7 o;refine⟨j+1,by show j+1<=_;omega,by show t.args.length-(j+1)<t.args.length-j;omega,Le.of_eq ?_⟩;first
       | (have i:JX t.args[j]=[t.args[j].name]++QN t.args[j].x:=by rw[JX,show t.args[j].ref=true by assumption];rfl
          rw[BU,h,i];simp only[x8m,x8a,x8b,<-x9l,<-z1j];rfl)
       | (have i:JX t.args[j]=QN t.args[j].x:=by rw[JX,show t.args[j].ref=false by assumption];rfl
          rw[BU,h,i];simp only[x8m,x8a,x8b];rfl))
def Rm:List Str->Nat
 |[]=>0
 |s::r=>1+Rm r
mutual
def wX:X->Nat
 |.mk _ _ name kids=>1+wXs kids
def wXs:List X->Nat
 |[]=>0
 |x::r=>wX x+wXs r
end
def Wq:List Arg->Nat
 |[]=>0
 |a::r=>wX a.x+1+Wq r
mutual
def wS:S->Nat
 |.mk _ _ F name D x _ args I L=>wX x+Rm F+1+1+Wq args+wL I+wL L
def wL:List S->Nat
 |[]=>0
 |s::r=>wS s+wL r
end
def q3c:List Param->Nat
 |[]=>0
 |a::r=>1+q3c r
def wPr(f:Pr):Nat:=1+Rm f.E+Rm f.fin+q3c f.C+wL f.body
def AN:List Pr->Nat
 |[]=>0
 |f::r=>wPr f+AN r
def wPg(p:Pg):Nat:=Rm p.B+AN p.A
def Fit(p:Pg):Prop:=wPg p<=21000
theorem YA:∀l:List Str,l.length<=Rm l
 |[]=>x8i _
 |s::r=>by have:=YA r;simp only[x9f,Rm];omega
theorem JV:∀l:List Arg,l.length<=Wq l
 |[]=>x8i _
 |s::r=>by have:=JV r;simp only[x9f,Wq];omega
theorem Cs:∀l:List Param,l.length<=q3c l
 |[]=>x8i _
 |s::r=>by have:=Cs r;simp only[x9f,q3c];omega
def Ht(s:S):wS s=wX s.x+Rm s.F+1+1+Wq s.args+wL s.I+wL s.L:=by
 cases s;rw[wS];rfl
mutual
theorem q9f:∀s:S,XL s<=wS s
 | .mk id kind F name D x has args I L=>by
   have:=Mp I;have:=Mp L;rw[XL,wS];omega
theorem Mp:∀l:List S,cntL l<=wL l
 |[]=>by rw[cntL,wL];exact x9h _
 | s::r=>by
   have:=q9f s;have:=Mp r;rw[cntL,wL];omega
end
theorem OG:∀{l:List Pr}{f:Pr},f∈l->wPr f<=AN l
 | g::r,f,h=>by
   simp only[AN];rcases x8s.1 h with rfl|h
   .omega
   .have:=OG h;omega
theorem Fit.pr(h:Fit p)(i:f∈p.A):wPr f<=21000:=by
 have:=OG i;unfold Fit wPg at h;omega
mutual
def flS:S->List S
 |.mk id kind F name D x has args I L=>.mk id kind F name D x has args I L::(flL I++flL L)
def flL:List S->List S
 |[]=>[]
 |s::r=>flS s++flL r
end
def Sk(s:S):flS s=s::(flL s.I++flL s.L):=by
 cases s;rw[flS];rfl
mutual
theorem EP:∀s:S,(flS s).length=XL s
 | .mk id kind F name D x has args I L=>by
   rw[flS,XL,x9f,x8m,Vq I,Vq L];omega
theorem Vq:∀l:List S,(flL l).length=cntL l
 |[]=>by rw[flL,cntL];rfl
 |s::r=>by rw[flL,cntL,x8m,EP s,Vq r]
end
mutual
theorem x3a:∀(s t:S),t∈flS s->wS t<=wS s
 | .mk id kind F name D x has args I L,t,h=>by
   rw[flS]at h;rcases x8s.1 h with rfl|h
   ·exact x9h _
   ·rw[wS];rcases x8e.1 h with h|h
    ·have:=Yy I t h;omega
    ·have:=Yy L t h;omega
theorem Yy:∀(l:List S)(t:S),t∈flL l->wS t<=wL l
 |[],t,h=>by rw[flL]at h;cases h
 | s::r,t,h=>by
   rw[flL]at h;rw[wL];rcases x8e.1 h with h|h
   ·have:=x3a s t h;omega
   ·have:=Yy r t h;omega
end

mutual
def itS(D up nx loop:Int)(n:Nat):S->List Item
 | .mk id kind F name pr x has args I L=>
   ⟨.mk id kind F name pr x has args I L,D,up,nx,loop⟩::(itL D (n+1) (if kind=6 then n+1 else nx) (if kind=6 then n+1 else loop) (n+1) I ++
     itL D (n+1) (if kind=6 then n+1 else nx) (if kind=6 then n+1 else loop) (n+1+cntL I) L)
def itL(D up nx loop:Int)(n:Nat):List S->List Item
 |[]=>[]
 |t::r=>itS D up (if r.isEmpty then nx else n+1+XL t) loop n t++itL D up nx loop (n+XL t) r
end
def x0a(D up i h:Int)(n:Nat)(t:S):itS D up i h n t=⟨t,D,up,i,h⟩::(itL D (n+1) (if t.kind=6 then n+1 else i) (if t.kind=6 then n+1 else h) (n+1) t.I ++
   itL D (n+1) (if t.kind=6 then n+1 else i) (if t.kind=6 then n+1 else h) (n+1+cntL t.I) t.L):=by
 cases t;rw[itS];rfl
mutual
theorem q8u(D up nx loop:Int):∀(t:S)(acc:List Item),J8 D up nx loop acc t=acc++itS D up nx loop acc.length t
 | .mk id kind F name pr x has args I L,acc=>by
   rw[J8,itS,Zo _ _ _ _ I,Zo _ _ _ _ L];simp only[x8m,x9f,z1p,x9l,z3v,z1g,ZC D _ _ _ _ I,z0t,z1j,z4j (cntL I) 1]
theorem Zo(D up nx loop:Int):∀(l:List S)(acc:List Item),XN D up nx loop acc l=acc++itL D up nx loop acc.length l
 |[],acc=>by rw[XN,itL,z0k]
 | t::r,acc=>by
   rw[XN,itL,q8u _ _ _ _ t,Zo _ _ _ _ r];simp only[x8m,x9l,I9 D _ _ _ _ t]
theorem I9(D up nx loop:Int)(n:Nat):∀t:S,(itS D up nx loop n t).length=XL t
 | .mk id kind F name pr x has args I L=>by
   rw[itS,XL,x9f,x8m,ZC _ _ _ _ _ I,ZC _ _ _ _ _ L];omega
theorem ZC(D up nx loop:Int)(n:Nat):∀l:List S,(itL D up nx loop n l).length=cntL l
 |[]=>by rw[itL,cntL];rfl
 |t::r=>by rw[itL,cntL,x8m,I9 _ _ _ _ _ t,ZC _ _ _ _ _ r]
end
mutual
theorem x4w(D up nx loop:Int)(n:Nat):∀t:S,(itS D up nx loop n t).map Item.s=flS t
 | .mk id kind F name pr x has args I L=>by
   rw[itS,flS,x9c,x8a,BL _ _ _ _ _ I,BL _ _ _ _ _ L]
theorem BL(D up nx loop:Int)(n:Nat):∀l:List S,(itL D up nx loop n l).map Item.s=flL l
 |[]=>by rw[itL,flL];rfl
 |t::r=>by rw[itL,flL,x8a,x4w _ _ _ _ _ t,BL _ _ _ _ _ r]
end
def offN:List Pr->Nat->Nat
 |_,0=>0
 |[],_+1=>0
 |f::r,i+1=>cntL f.body+offN r i
theorem Ll:∀(l:List Pr)(i:Nat)(acc:List Item)(lo hi:List Int),lo.length=i->hi.length=i->
  (H8 i acc lo hi l).2.1.length=i+l.length/\(H8 i acc lo hi l).2.2.length=i+l.length/\
  (∀k,k<i->(H8 i acc lo hi l).2.1[k]?=lo[k]? /\(H8 i acc lo hi l).2.2[k]?=hi[k]?)/\∃L,(H8 i acc lo hi l).1=acc++L/\L.length=cntP l/\
  ∀(k:Nat)(f:Pr),l[k]?=some f->(H8 i acc lo hi l).2.1[i+k]?=some ((acc.length+offN l k:Nat)+1:Int)/\(H8 i acc lo hi l).2.2[i+k]?=some ((acc.length+offN l k+cntL f.body:Nat)+1:Int)/\
   offN l k+cntL f.body<=cntP l/\(L.take (offN l k+cntL f.body)).drop (offN l k)=itL (i+k:Nat) 0 (-1) 0 (acc.length+offN l k) f.body
 | [],i,acc,lo,hi,h1,h2=>by
   rw[H8];exact⟨by simpa using h1,by simpa using h2,fun _ _=>⟨rfl,rfl⟩,[],by simp,rfl,fun k f h=>by simp at h⟩
 | f::r,i,acc,lo,hi,h1,h2=>by
   rw[H8];have s:=Zo i 0 (-1) 0 f.body acc;have m:=XK i 0 (-1) 0 acc f.body;obtain⟨w,x,u,L,y,z,e⟩:=Ll r (i+1) (XN i 0 (-1) 0 acc f.body) (lo++[(acc.length:Int)+1]) (hi++[((XN i 0 (-1) 0 acc f.body).length:Int)+1]) (by simp[h1]) (by simp[h2]);refine⟨by rw[w,x9f];omega,by rw[x,x9f];omega,fun k A=>?_,itL i 0 (-1) 0 acc.length f.body++L,?_,?_,fun k g t=>?_⟩
   .obtain ⟨q,n⟩:=u k (by omega);rw[q,n,x9d (by omega),x9d (by omega)];exact⟨rfl,rfl⟩
   .rw [y,s,x9l]
   .rw [x8m,z,ZC,cntP]
   .cases k with
    | zero=>
      simp only[z3r,z2w]at t;subst t;obtain⟨q,n⟩:=u i (by omega);simp only[z2o,offN,z0t,drop_zero];refine⟨?_,?_,?_,?_⟩
      .rw [q,x9n (by omega),h1];simp
      .rw [n,x9n (by omega),h2,m];simp
      .rw [cntP];omega
      .rw [List.take_append_of_le_length (by rw[ZC];omega),x9u (by rw[ZC];omega)]
    | succ k=>
      simp only[z2n]at t;obtain⟨q,n,v,o⟩:=e k g t;rw[m]at o;simp only[offN];refine⟨?_,?_,?_,?_⟩
      .rw [show i+(k+1)=i+1+k by omega,q,m];congr 2;omega
      .rw [show i+(k+1)=i+1+k by omega,n,m];congr 2;omega
      .rw [cntP];omega
      .rw [List.take_append,List.drop_append,ZC,x9u (by rw[ZC];omega),x9j (by rw[ZC];omega),z1g];simp only[ZC];rw[show cntL f.body+offN r k+cntL g.body-cntL f.body=offN r k+cntL g.body by omega,show cntL f.body+offN r k-cntL f.body=offN r k by omega,o];rw[show i+(k+1)=i+1+k by omega,show acc.length+(cntL f.body+offN r k)=acc.length+cntL f.body+offN r k by omega]
def QY(p:Pg):(sheetOf p).p=p/\(sheetOf p).lo.length=p.A.length/\(sheetOf p).hi.length=p.A.length/\(sheetOf p).l.length=cntP p.A/\
  ∀(k:Nat)(f:Pr),p.A[k]?=some f->(sheetOf p).lo[k]?=some ((offN p.A k:Nat)+1:Int)/\(sheetOf p).hi[k]?=some ((offN p.A k+cntL f.body:Nat)+1:Int)/\
   offN p.A k+cntL f.body<=cntP p.A/\((sheetOf p).l.take (offN p.A k+cntL f.body)).drop (offN p.A k)=itL k 0 (-1) 0 (offN p.A k) f.body:=by
 obtain⟨i,m,_,L,h,n,o⟩:=Ll p.A 0 [] [] [] rfl rfl;refine⟨rfl,by unfold sheetOf;simpa using i,by unfold sheetOf;simpa using m,by unfold sheetOf;simp[h,n],fun k f q=>?_⟩;have:=o k f q;unfold sheetOf;simp only[h,z1g,z1p,z0t]at this⊢;exact this
mutual
theorem J7(nest seen:Int):∀(s:S){m:Int},Hm nest seen s=some m->m=seen+XL s
 | .mk id kind F name D x has args I L,m,h=>by
   simp only[Hm]at h;split at h
   ·cases h
   split at h
   ·cases h
   cases hn:namesB F<;>rw[hn]at h
   ·cases h
   cases hf:VW (.mk id kind F name D x has args I L)<;>rw[hf]at h
   ·cases h
   simp only[x9z]at h;split at h
   ·rename_i m1 h1;have h2:=YC (nest+1) (seen+1) I h1;have h3:=YC (nest+1) m1 L h;rw[XL];omega
   ·cases h
theorem YC(nest seen:Int):∀(l:List S){m:Int},UA nest seen l=some m->m=seen+cntL l
 | [],m,h=>by
   simp only[UA]at h;cases h;rw[cntL];simp
 | s::r,m,h=>by
   simp only[UA]at h;split at h
   ·cases h
   split at h
   ·rename_i m1 h1;have h2:=J7 nest seen s h1;have h3:=YC nest m1 r h;rw[cntL];omega
   ·cases h
end
theorem D4:∀(l:List Pr){seen m:Int},seen<=200->XO seen l=some m->m=seen+cntP l/\m<=200
 |[],seen,m,h0,h=>by rw[XO]at h;cases h;simp[cntP];exact h0
 | f::r,seen,m,h0,h=>by
   rw[XO]at h;cases n:HX f<;>rw[n]at h
   .cases h
   simp only[x9z]at h;split at h
   .rename_i t i;have o:=YC 1 seen f.body i;have q:=Gg 1 seen f.body h0 i;have s:=D4 r (by omega) h;rw[cntP];omega
   .cases h
def ZM(h:YV p=true):p.B.length<=16/\p.A.length<=16/\cntP p.A<=200:=by
 unfold YV at h;simp only[x9g,x9o]at h;obtain⟨⟨⟨o,q⟩,_⟩,i⟩:=h;cases n:XO 0 p.A with
 |none=>rw[n]at i;cases i
 | some m=>
   have:=D4 p.A (by decide) n;omega
def Ic(h:YV p=true)(i:f∈p.A):HX f=true:=by
 unfold YV at h;simp only[x9g]at h;have n:=h.2;have key:∀(l:List Pr)(seen:Int),(XO seen l).isSome=true->∀f∈l,HX f=true:=fun l=>by
  induction l with
  |nil=>intro _ _ f i;cases i
  | cons g r o=>
    intro seen h f i;rw[XO]at h;cases m:HX g<;>rw[m]at h
    .cases h
    simp only[x9z]at h;split at h
    .rename_i s q;rcases x8s.1 i with rfl|i
     .exact m
     .exact o _ h f i
    .cases h
 exact key _ _ n f i
def GY(p:Pg)(f:Pr)(name:Str):Int:=
 match f.C.find? (fun a=>a.name==name)with
 |some a=>bif a.ref then 3 else 2
 |none=>bif f.E.any (fun s=>name==s)then 4 else bif p.B.any (fun s=>name==s)then 1 else 0
def Qd{l:List α}{p:α->Bool}(i:j<l.length)(h:p l[j]=false):(l.drop (j+1)).find? p=(l.drop j).find? p:=by
 rw[QG i,List.find?_cons,h]
def DW{l:List α}{p:α->Bool}(i:j<l.length)(h:p l[j]=true):(l.drop j).find? p=some l[j]:=by
 rw[QG i,List.find?_cons,h]
def DZ{l:List α}{p:α->Bool}(h:l.length<=j):(l.drop j).find? p=none:=by
 rw[x9j h];rfl
def Ae(p:Pg)(f:Pr)(name:Str):aP 186 [.agg p.cells,.agg f.cells,.str name] (.int .i64 (GY p f name)):=by
 refine sC Ns func186 ?_;conv=>whnf
 repeat' ((refine iM fun _=>?_)<;>conv=>whnf)
 have q:(f.C.map fun a=>AV.agg a.cells).length=f.C.length:=x8b _;refine lI (fun j:Nat=>⟨[(2,.p (.str name)),(3,.p (.ip p.cells)),(4,.p (.ip f.cells)),(10,.p (.sl (f.C.map fun a=>.agg a.cells))),(11,.p (.int .i64 (f.C.map fun a=>AV.agg a.cells).length)),(12,.j j)],[]⟩) (fun j=>j<=f.C.length/\(f.C.drop j).find? (fun a=>a.name==name)=f.C.find? (fun a=>a.name==name)) (fun j=>f.C.length-j) 0 ⟨x8i _,rfl⟩ ?_;rintro j ⟨n,h⟩;conv=>whnf
 repeat' ((first|refine cP (QV _ _) ?_|(refine gX ?_;intros)|((first|apply bD|apply bB)<;>intro _<;>try omega))<;>conv=>whnf)
 all_goals try have o:j<f.C.length:=by omega
 all_goals first
  | (exfalso
     have m:((f.C[j]'(by omega)).name==name)=true:=by assumption
     have i:((f.C[j]'(by omega)).name==name)=false:=by assumption
     rw[m]at i;cases i)
  | (have e:=DW (p:=fun a:Param=>a.name==name) (by omega) (by assumption)
     rw[h]at e;exact RetK.int (by unfold GY;rw[e];simp[*]))
  |(refine nX (j+1) ⟨by omega,by rw[<-h,Qd (p:=fun a:Param=>a.name==name) (by omega) (by assumption)]⟩)
  | (have e:f.C.find? (fun a=>a.name==name)=none:=by rw[<-h,DZ (by omega)]
     exact RetK.int (by unfold GY;rw[e];simp[*]))
def mainS:Str:=[109,97,105,110]
def knownB(p:Pg)(f:Pr)(A:List Str)(t:S):Bool:=(ZU t).all (fun n=> !(GY p f n==0))&&(decide (t.kind≠4)||(!(t.D==mainS)&&A.any fun s=>t.D==s))
def TV(p:Pg)(f:Pr)(A:List Str)(t:S)(ha:t.args.length<=21000):aP 125 [.agg p.cells,.agg f.cells,eStrs A,.agg t.cells] (.bool (knownB p f A t)):=by
 refine sC Do func125 ?_;conv=>whnf
 repeat' ((first|(refine iM fun _=>?_)|refine cP (Fh _ ha) ?_)<;>conv=>whnf)
 have o:((ZU t).map AV.str).length=(ZU t).length:=x8b _;refine lI (fun j:Nat=>⟨[(2,.p (eStrs A)),(4,.p (.ip p.cells)),(5,.p (.ip f.cells)),(7,.p (.ip t.cells)),(12,.p (eStrs (ZU t))),(13,.p (.int .i64 ((ZU t).map AV.str).length)),(14,.j j)],[]⟩) (fun j=>j<=(ZU t).length/\((ZU t).drop j).all (fun n=> !(GY p f n==0))=(ZU t).all (fun n=> !(GY p f n==0))) (fun j=>(ZU t).length-j) 0 ⟨x8i _,rfl⟩ ?_;rintro j ⟨m,h⟩;conv=>whnf
 repeat' ((first|refine cP (Ae _ _ _) ?_|refine cP (QV _ _) ?_|(refine gX ?_;intros)|((first|apply bD|apply bE|apply bN)<;>intro _<;>try omega))<;>conv=>whnf)
 .exact RetK.ff (by
   have e:=Z6 (p:=fun n=> !(GY p f n==0)) (l:=ZU t) (j:=j) (by omega) (by simp;assumption);rw[knownB,<-h,e,Bool.false_and])
 .exact nX (j+1) ⟨by omega,by rw[<-h,GI (p:=fun n=> !(GY p f n==0)) (by omega) (by simp;assumption)]⟩
 all_goals
  have e:(ZU t).all (fun n=> !(GY p f n==0))=true:=by rw[<-h,GE (by omega)]
 .exact RetK.ff (by
   have i:(t.D==mainS)=true:=by assumption
   rw[knownB,e,i];simp[*])
 .exact RetK.bool (by
   have i:(t.D==mainS)=false:=by assumption
   rw[knownB,e,i];simp[*])
 .exact RetK.tt (by rw[knownB,e];simp[*])
def PR(c h:Int):AV:=.agg [.int .i64 c,.int .i64 h]
def procsN(p:Pg):List Str:=p.A.map Pr.name
def XI(p:Pg):Bool:=XF p.B||(XF (procsN p)||(!((procsN p).any fun s=>mainS==s)||match p.A.find? (fun f=>mainS==f.name)with
 |some f=>decide (0<f.C.length)
 |none=>true))
def VY(p:Pg)(f:Pr):Option Int:=
 bif XF (Vs f)||(Vs f).any (fun n=>p.B.any fun s=>n==s)then some 0 else((flL f.body).find? fun t=> !knownB p f (procsN p) t).map S.id
def QC(p:Pg):Int×Int:=
 bif YV p then bif XI p then(5,0)else match p.A.findSome? (VY p)with
  |some a=>(5,a)
  |none=>(0,0)
 else(1,0)
def Sc{l:List α}{p:α->Bool}(h:l.any p=true):∃(k:Nat) (hk:k<l.length),idxF p l=k/\p l[k]=true/\l.find? p=some l[k]:=by
 have i:l.findIdx p<l.length:=by
  rw[List.findIdx_lt_length];exact z0g.1 h
 refine⟨l.findIdx p,i,by unfold idxF;rw[h];rfl,z4x,?_⟩;rw[List.find?_eq_some_iff_getElem];exact⟨z4x,l.findIdx p,i,rfl,fun j m=>by simpa using List.not_of_lt_findIdx m⟩
def SB(h:(procsN p).any (fun s=>mainS==s)=true):∃(k:Nat) (m:k<p.A.length),idxF (fun s=>mainS==s) (procsN p)=k/\p.A.find? (fun f=>mainS==f.name)=some p.A[k]:=by
 have i:p.A.any (fun f=>mainS==f.name)=true:=by simpa[procsN,List.any_map,Function.comp_def]using h
 obtain⟨k,m,n,_,o⟩:=Sc i;refine⟨k,m,?_,o⟩;rw[<-n];unfold idxF;rw[h,i];simp[procsN,List.findIdx_map,Function.comp_def]
def CY(p:Pg)(o:p.A[j]?=some f)(u:cntP p.A<=1000):aP 124 [.ip (sheetOf p).cells,.int .i64 j] (UD (itL j 0 (-1) 0 (offN p.A j) f.body)):=by
 obtain⟨_,q,r,s,h⟩:=QY p;obtain⟨i,m,t,n⟩:=h j f o;have:=Zg (sheetOf p) j _ _ i m (by omega) (by omega) (by omega);rw[n]at this;exact this
def UQ(l:List Item):(l.map fun i=>AV.agg i.cells).length=l.length:=x8b _
def K7{l:List α}{f:α->Option β}(i:j<l.length)(h:f l[j]=none):(l.drop (j+1)).findSome? f=(l.drop j).findSome? f:=by
 rw[QG i,List.findSome?_cons,h]
def UX{l:List α}{f:α->Option β}{b:β}(i:j<l.length)(h:f l[j]=some b):(l.drop j).findSome? f=some b:=by
 rw[QG i,List.findSome?_cons,h]
def Uc{l:List α}{f:α->Option β}(h:l.length<=j):(l.drop j).findSome? f=none:=by
 rw[x9j h];rfl
def NI{q:S->Bool}(l:List Item):(l.find? fun it=>q it.s).map (fun it=>it.s.id)=((l.map Item.s).find? q).map S.id:=by
 rw[List.find?_map];cases h:l.find? (q∘Item.s)with
 |none=>rw[show(l.find? fun it=>q it.s)=none from h];rfl
 |some i=>rw[show(l.find? fun it=>q it.s)=some i from h];rfl
def Ix{l:List Pr}(t:j<l.length)(h:wPr l[j]<=21000){b:Int}{n:Nat}(i:k<(itL a b c d n l[j].body).length):(itL a b c d n l[j].body)[k].s.args.length<=21000:=by
 have m:(itL a b c d n l[j].body)[k].s∈flL l[j].body:=by
  rw[<-BL a b c d n];exact x8c.2 ⟨_,x9w i,rfl⟩
 have o:=Yy _ _ m;have q:=Ht (itL a b c d n l[j].body)[k].s;have r:=JV (itL a b c d n l[j].body)[k].s.args;unfold wPr at h;omega
def QM{H:Heap}{b:Int}(h:a=c)(i:b=d):RetK H (.p (.agg [.int .i64 a,.int .i64 b])) (fun r=>r=PR c d):=⟨_,.p (Sub.refl _),by rw[h,i];rfl⟩
def KE(p:Pg)(T:Fit p):aP 64 [.agg p.cells] (PR (QC p).1 (QC p).2):=by
 refine sC Di func64 ?_;conv=>whnf
 repeat' ((first|(refine gX ?_;intros)|refine cP (N5 _) ?_|(apply bN<;>intro _))<;>conv=>whnf)
 rotate_left 1
 .exact QM (by simp[QC, *]) (by simp[QC, *])
 have w:YV p=true:=by assumption
 obtain⟨hg,Y,R⟩:=ZM w;have hl:(p.A.map fun f=>AV.agg f.cells).length=p.A.length:=x8b _;have V:(procsN p).length=p.A.length:=by simp[procsN]
 refine lJ (fun i:Nat×List Str=>⟨[(1,.p (.ip p.cells)),(2,.ptr 1 0),(3,.hd 0 0 i.2.length),(18,.p (.sl (p.A.map fun f=>.agg f.cells))),(19,.p (.int .i64 (p.A.map fun f=>AV.agg f.cells).length)),(20,.j i.1)],[(0,.own 9 1 (i.2.map .str)),(1,.obj 68 [.p (.int .i64 0),.j 0])]⟩) (fun i=>i.1<=p.A.length/\i.2=(procsN p).take i.1) (fun i=>p.A.length-i.1) (0,[]) (lM [(0,.own 9 1 [])]) ⟨x8i _,by simp⟩ ?_;rintro⟨j,u⟩ ⟨I,v⟩;simp only at I v⊢;have Q:u.length<=16:=by rw[v];simp;omega
 conv=>whnf
 repeat' ((first|(refine gX ?_;intros)|refine pS ?_|(refine QH (XW u mainS) (.cons (.hd rfl (by simp)) (.cons (.p (Sub.refl _)) .nil)) (by rintro _ rfl;rfl) ?_;rintro _ rfl)|(refine QH (X2 u) (.cons (.hd rfl (by simp)) .nil) (by rintro _ rfl;rfl) ?_;rintro _ rfl)|refine cP (X2 _) ?_|((first|apply bD|apply bB)<;>intro _<;>try omega))<;>conv=>whnf)
 .exact ⟨(j+1,u++[p.A[j].name]),⟨by simp only;omega,by simp only;rw[v,x9v (by omega)];simp[procsN]⟩,by simp only;omega,Le.of_eq (by simp only[x8m,x8a];rfl)⟩
 all_goals
  have g:u=procsN p:=by rw[v,x9u (by omega)]
  clear v;subst g
 .have o:XI p=true:=by unfold XI;rw[show XF p.B=true by assumption];rfl
  exact QM (by unfold QC;rw[w,o];rfl) (by unfold QC;rw[w,o];rfl)
 .have o:XI p=true:=by unfold XI;rw[show XF p.B=false by assumption,show XF (procsN p)=true by assumption];rfl
  exact QM (by unfold QC;rw[w,o];rfl) (by unfold QC;rw[w,o];rfl)
 .have h:((procsN p).any fun s=>mainS==s)=false:=by
   rw[<-Vh];simp;omega
  have o:XI p=true:=by unfold XI;rw[show XF p.B=false by assumption,show XF (procsN p)=false by assumption,h];rfl
  exact QM (by unfold QC;rw[w,o];rfl) (by unfold QC;rw[w,o];rfl)
 have h:((procsN p).any fun s=>mainS==s)=true:=by
  rw[<-Vh];simp;omega
 obtain⟨k,x,E,m⟩:=SB h;have F:(p.A.map fun f=>AV.agg f.cells)[k]?=some (.agg p.A[k].cells):=by simp[x]
 have H:(p.A[k].C.map fun a=>AV.agg a.cells).length=p.A[k].C.length:=x8b _;refine IdxK.at E F rfl ?_;conv=>whnf
 repeat' ((first|(refine gX ?_;intros)|refine cP (DY p (by omega) (by omega)) ?_ (ha:=.cons (Sub.refl _) .nil)|(apply bD<;>intro _<;>try omega))<;>conv=>whnf)
 .have o:XI p=true:=by
   unfold XI;rw[show XF p.B=false by assumption,show XF (procsN p)=false by assumption,h,m];have:0<p.A[k].C.length:=by omega
   simp[this]
  exact QM (by unfold QC;rw[w,o];rfl) (by unfold QC;rw[w,o];rfl)
 have o:XI p=false:=by
  unfold XI;rw[show XF p.B=false by assumption,show XF (procsN p)=false by assumption,h,m];have:¬0<p.A[k].C.length:=by omega
  simp[this]
 have N:QC p=match p.A.findSome? (VY p)with
  |some a=>(5,a)
  |none=>(0,0):=by unfold QC;rw[w,o];rfl
 rw[N];refine lI (fun j:Nat=>⟨[(1,.p (.ip p.cells)),(2,.ptr 1 0),(3,.hd 0 0 (procsN p).length),(7,.p (.ip (sheetOf p).cells)),(57,.p (.sl (p.A.map fun f=>.agg f.cells))),(58,.p (.int .i64 (p.A.map fun f=>AV.agg f.cells).length)),(59,.j j)],[(0,.own 9 1 ((procsN p).map .str)),(1,.obj 68 [.p (.int .i64 0),.j 0])]⟩) (fun j=>j<=p.A.length/\(p.A.drop j).findSome? (VY p)=p.A.findSome? (VY p)) (fun j=>p.A.length-j) 0 ⟨x8i _,rfl⟩ ?_;clear I E m F H;rintro j ⟨I,v⟩;rcases x8o j p.A.length with q|q;rotate_left 1
 .have e:p.A.findSome? (VY p)=none:=by rw[<-v,Uc q]
  rw[e];conv=>whnf
  repeat' ((first|refine x9p rfl ?_|(apply bD<;>intro _<;>try omega))<;>conv=>whnf)
  exact QM rfl rfl
 have D:=T.pr (x9w q);have G:=HE.1 (Ic w (x9w q));conv=>whnf
 repeat' ((first|(refine gX ?_;intros)|refine cP (X2 _) ?_|refine cP (R9 (p.A[j]'q) (by have:=G.1;omega) (by have:=G.2.1;omega)) ?_ (ha:=.cons (Sub.refl _) .nil)|refine cP (UK (Vs (p.A[j]'q)) 122 (.ip p.cells) (fun n=>p.B.any fun s=>n==s) (Ps p)) ?_|refine cP (CY p (f:=p.A[j]'q) (by simp) (by omega)) ?_ (ha:=.cons (Sub.refl _) (.cons (Sub.refl _) .nil))|((first|apply bD|apply bB)<;>intro _<;>try omega))<;>conv=>whnf)
 .have e:VY p p.A[j]=some 0:=by
   unfold VY;rw[show XF (Vs p.A[j])=true by assumption];rfl
  have y:=UX q e;rw[v]at y;rw[y];exact QM rfl rfl
 .have e:VY p p.A[j]=some 0:=by
   unfold VY;rw[show XF (Vs p.A[j])=false by assumption,show((Vs p.A[j]).any fun n=>p.B.any fun s=>n==s)=true by assumption];rfl
  have y:=UX q e;rw[v]at y;rw[y];exact QM rfl rfl
 have r:VY p p.A[j]=((flL p.A[j].body).find? fun t=> !knownB p p.A[j] (procsN p) t).map S.id:=by
  unfold VY;rw[show XF (Vs p.A[j])=false by assumption,show((Vs p.A[j]).any fun n=>p.B.any fun s=>n==s)=false by assumption];rfl
 have z:∀k (x:k<(itL (j:Nat) 0 (-1) 0 (offN p.A j) p.A[j].body).length),(itL (j:Nat) 0 (-1) 0 (offN p.A j) p.A[j].body)[k].s.args.length<=21000:=fun k x=>Ix q D x;rw[<-BL (j:Nat) 0 (-1) 0 (offN p.A j),<-NI]at r;have L:(itL (j:Nat) 0 (-1) 0 (offN p.A j) p.A[j].body).length<=21000:=by
  have:=Mp p.A[j].body;unfold wPr at D;rw[ZC];omega
 generalize O:itL (j:Nat) 0 (-1) 0 (offN p.A j) p.A[j].body=its at r z L⊢;have U:=UQ its;refine lI (fun k:Nat=>⟨[(1,.p (.ip p.cells)),(2,.ptr 1 0),(3,.hd 0 0 (procsN p).length),(7,.p (.ip (sheetOf p).cells)),(9,.p (.ip (p.A[j]'q).cells)),(57,.p (.sl (p.A.map fun f=>.agg f.cells))),(58,.p (.int .i64 (p.A.map fun f=>AV.agg f.cells).length)),(59,.j j),(76,.p (UD its)),(77,.p (.int .i64 (its.map fun i=>AV.agg i.cells).length)),(78,.j k)],[(0,.own 9 1 ((procsN p).map .str)),(1,.obj 68 [.p (.int .i64 0),.j 0])]⟩) (fun k=>k<=its.length/\(its.drop k).find? (fun it=> !knownB p p.A[j] (procsN p) it.s)=its.find? fun it=> !knownB p p.A[j] (procsN p) it.s) (fun k=>its.length-k) 0 ⟨x8i _,rfl⟩ ?_;rintro k ⟨Z,J⟩;rcases x8o k its.length with x|x;rotate_left 1
 .rw [<-J,DZ x]at r;conv=>whnf
  repeat' ((first|refine wI ?_|(apply bD<;>intro _<;>try omega))<;>conv=>whnf)
  exact nX (j+1) ⟨by omega,by rw[<-v,K7 q r]⟩
 have M:=z k x;conv=>whnf
 repeat' ((first|(refine gX ?_;intros)|(refine QH (TV p p.A[j] (procsN p) its[k].s M) (.cons (.p (Sub.refl _)) (.cons (.p (Sub.refl _)) (.cons (.hd rfl (by simp)) (.cons (.p (Sub.refl _)) .nil)))) (by rintro _ rfl;rfl) ?_;rintro _ rfl)|((first|apply bD|apply bN)<;>intro _<;>try omega))<;>conv=>whnf)
 .exact nX (k+1) ⟨by omega,by rw[<-J,Qd (p:=fun it:Item=> !knownB p p.A[j] (procsN p) it.s) x (by simp;assumption)]⟩
 .have P:=DW (p:=fun it:Item=> !knownB p p.A[j] (procsN p) it.s) x (by simp;assumption);rw[<-J,P]at r;have y:=UX q r;rw[v]at y;rw[y];exact QM rfl rfl
def q9j:LV->Option Bool
 |.p .tt=>some true
 |.p .ff=>some false
 |.p (.bool b)=>some b
 |_=>none
def S9{σ:Mem}{β:Lab}{l:LV}{v:Value}(h:RepL σ β l v)(i:q9j l=some b):v=.bool b:=by
 cases h with
 |p h=>cases h<;>simp[q9j]at i<;>subst i<;>rfl
 |_=>simp[q9j]at i
def GG{P:Program}{T:Tab}{B:Bool}{s:St}{o:Oper}{K:LV->Prop}(hT:TabOK P T){t u:TypeId}{x y:Operand}(h:o.op=.binOp .neq t x y u){i:TyI}(C:T.get t=some i)(z:i.desc=.bool){a:Bool}(D:q9j (QR s.sl x)=some a)(E:q9j (QR s.sl y)=some b)(v:K (.p (.bool (a != b)))):ValO P B s o K:=by
 refine⟨fun σ β F w m _=>⟨_,.bool (a != b),v,.p (.bool _),fun w' _ _=>?_⟩⟩;have q:=S9 (QW m x) D;have r:=S9 (QW m y) E;have n:=hT.of C;rw[z]at n;have A:(eqGuard .neq t x y (.bool a) (.bool b)).run P w'=.ok () w':=by unfold eqGuard;rfl
 have g:(Op.equal t (.bool a) (.bool b)).run P w'=.ok (a==b) w':=by
  have e:Op.equal t (.bool a) (.bool b)=Op.equalIn (9999+1) t (.bool a) (.bool b):=rfl;rw[e,Op.equalIn,Sem.run_bind,run_underlying n,Result.andThen_ok];rfl
 simp only[execOp,h,q,r,Sem.run_bind,A,Result.andThen_ok,binOp];simp[g];cases a<;>cases b<;>rfl
def Gb(l:List Param)(args:List Arg):Bool:=decide (l.map Param.ref=args.map Arg.ref)
def CT(l:List Param)(args:List Arg):aP 187 [.sl (l.map fun a=>.agg a.cells),EJ args] (.bool (Gb l args)):=by
 refine sC Nh func187 ?_;conv=>whnf
 repeat' ((first|(refine iM fun _=>?_)|(apply bE<;>intro _<;>try omega))<;>conv=>whnf)
 all_goals
  have s:(l.map fun a=>AV.agg a.cells).length=l.length:=x8b _;have q:(args.map fun a=>AV.agg a.cells).length=args.length:=x8b _
 .have o:l.length=args.length:=by omega
  refine lI (fun j:Nat=>⟨[(1,.p (EJ args)),(12,.p (.sl (l.map fun a=>.agg a.cells))),(13,.p (.int .i64 (l.map fun a=>AV.agg a.cells).length)),(14,.j j)],[]⟩) (fun j=>j<=l.length/\(l.map Param.ref).take j=(args.map Arg.ref).take j) (fun j=>l.length-j) 0 ⟨x8i _,rfl⟩ ?_;rintro j ⟨r,m⟩;rcases x8o j l.length with n|n
  .conv=>whnf
   repeat' ((first|refine dA ?_|(refine gX ?_;intros)|refine GG ZP rfl rfl rfl rfl rfl ?_|((first|apply bD|apply bE)<;>intro _<;>try omega))<;>conv=>whnf)
   .have h:l[j].ref=(args[j]'(by omega)).ref:=by assumption
    exact nX (j+1) ⟨by omega,by
     rw[x9v (by simp;omega),x9v (by simp;omega),m];simp[h]⟩
   .have h:¬l[j].ref=(args[j]'(by omega)).ref:=by assumption
    exact RetK.ff (by
     unfold Gb;rw[z1u];intro i;have:(l.map Param.ref)[j]?=(args.map Arg.ref)[j]?:=by rw[i]
     rw[x9x,x9x,x8p n,x8p (by omega)]at this;simp at this;exact h this)
  .conv=>whnf
   repeat' (apply bD<;>intro _<;>first|omega|conv=>whnf)
   exact RetK.tt (by
    unfold Gb;rw[x9o]
    rwa[x9u (by simp;omega),x9u (by simp;omega)]at m)
 .exact RetK.ff (by
   unfold Gb;rw[z1u];intro i;have:=z0l List.length i;simp at this;omega)
def YK(p:Pg)(s:S):Bool:=decide (s.kind=4)&&match p.A.find? (fun f=>f.name==s.D)with
 |some f=>Gb f.C s.args
 |none=>false
def CR(p:Pg)(s:S):aP 126 [.agg p.cells,.agg s.cells] (.bool (YK p s)):=by
 refine sC Ng func126 ?_;conv=>whnf
 repeat' ((first|(refine iM fun _=>?_)|(apply bE<;>intro _<;>try omega))<;>conv=>whnf)
 .have m:(p.A.map fun f=>AV.agg f.cells).length=p.A.length:=x8b _;refine lI (fun j:Nat=>⟨[(3,.p (.ip s.cells)),(11,.p (.sl (p.A.map fun f=>.agg f.cells))),(12,.p (.int .i64 (p.A.map fun f=>AV.agg f.cells).length)),(13,.j j)],[]⟩) (fun j=>j<=p.A.length/\(p.A.drop j).find? (fun f=>f.name==s.D)=p.A.find? (fun f=>f.name==s.D)) (fun j=>p.A.length-j) 0 ⟨x8i _,rfl⟩ ?_;rintro j ⟨i,h⟩;conv=>whnf
  repeat' ((first|refine cP (CT _ _) ?_|(refine gX ?_;intros)|((first|apply bD|apply bB)<;>intro _<;>try omega))<;>conv=>whnf)
  .have e:=DW (p:=fun f:Pr=>f.name==s.D) (l:=p.A) (j:=j) (by omega) (by assumption);rw[h]at e;exact RetK.bool (by unfold YK;rw[e];simp[*])
  .exact nX (j+1) ⟨by omega,by rw[<-h,Qd (p:=fun f:Pr=>f.name==s.D) (by omega) (by assumption)]⟩
  .have e:p.A.find? (fun f=>f.name==s.D)=none:=by rw[<-h,DZ (by omega)]
   exact RetK.ff (by unfold YK;rw[e];simp)
 .exact RetK.ff (by unfold YK;simp[*])
def WI(p:Pg):List S:=p.A.flatMap fun f=>flL f.body
theorem q4i:∀(l:List Pr)(i:Nat)(acc:List Item)(lo hi:List Int),(H8 i acc lo hi l).1.map Item.s=acc.map Item.s++l.flatMap fun f=>flL f.body
 |[],i,acc,lo,hi=>by rw[H8];simp
 | f::r,i,acc,lo,hi=>by
   rw[H8,q4i r,Zo,x8a,BL,z0e,x9l]
def DR(p:Pg):(sheetOf p).l.map Item.s=WI p:=by
 have:=q4i p.A 0 [] [] [];unfold sheetOf WI;simpa using this
def Ao(o:Fit p)(q:k<(sheetOf p).l.length):wS (sheetOf p).l[k].s<=21000:=by
 have h:(sheetOf p).l[k].s∈WI p:=by
  rw[<-DR];exact x8c.2 ⟨_,x9w q,rfl⟩
 unfold WI at h;obtain⟨f,i,m⟩:=z0j.1 h;have r:=Yy _ _ m;have n:=o.pr i;unfold wPr at n;omega
def VO(p:Pg):Int×Int:=
 if(QC p).1≠0 then(1,0)else match(WI p).find? fun t=>decide (t.kind=4) && !YK p t with
  |some t=>(6,t.id)
  |none=>(0,0)
def WV(h:(QC p).1=0):YV p=true/\XI p=false/\p.A.findSome? (VY p)=none:=by
 unfold QC at h;cases m:YV p<;>rw[m]at h
 .cases h
 cases i:XI p<;>rw[i]at h
 .refine ⟨rfl,rfl,?_⟩;simp only[x9z,x9k]at h;split at h
  .cases h
  .assumption
 .cases h
def Jc(p:Pg)(w:Fit p):aP 65 [.agg p.cells] (PR (VO p).1 (VO p).2):=by
 refine sC Dt func65 ?_;conv=>whnf
 repeat' ((first|refine cP (KE p w) ?_|refine x9p rfl ?_|(apply bE<;>intro _<;>try omega))<;>conv=>whnf)
 rotate_left 1
 .have e:VO p=(1,0):=by unfold VO;rw[if_pos (by assumption)]
  exact QM (by rw[e]) (by rw[e])
 have B:(QC p).1=0:=by assumption
 obtain⟨z,D,g⟩:=WV B;obtain⟨E,A,v⟩:=ZM z;have u:VO p=match(WI p).find? fun t=>decide (t.kind=4) && !YK p t with
  |some t=>(6,t.id)
  |none=>(0,0):=by unfold VO;rw[if_neg (by omega)]
 repeat' ((first|(refine iM fun _=>?_)|refine cP (DY p (by omega) (by omega)) ?_)<;>conv=>whnf)
 have y:=UQ (sheetOf p).l;have x:(sheetOf p).l.length<=200:=by have:=(QY p).2.2.2.1;omega
 have h:=NI (q:=fun t=>decide (t.kind=4) && !YK p t) (sheetOf p).l;rw[DR]at h;have o:VO p=match((sheetOf p).l.find? fun it=>decide (it.s.kind=4) && !YK p it.s).map (fun it=>it.s.id)with
  |some a=>(6,a)
  |none=>(0,0):=by
  rw[u,h];cases(WI p).find? fun t=>decide (t.kind=4) && !YK p t<;>rfl
 rw[o];refine lI (fun k:Nat=>⟨[(1,.p (.ip p.cells)),(2,.ptr 1 0),(14,.p (UD (sheetOf p).l)),(15,.p (.int .i64 ((sheetOf p).l.map fun i=>AV.agg i.cells).length)),(16,.j k)],[(1,.obj 68 [.p (.int .i64 0),.j 0])]⟩) (fun k=>k<=(sheetOf p).l.length/\((sheetOf p).l.drop k).find? (fun it=>decide (it.s.kind=4) && !YK p it.s)=(sheetOf p).l.find? fun it=>decide (it.s.kind=4) && !YK p it.s) (fun k=>(sheetOf p).l.length-k) 0 ⟨x8i _,rfl⟩ ?_;rintro k ⟨C,n⟩;rcases x8o k (sheetOf p).l.length with m|m;rotate_left 1
 .rw [<-n,DZ m];conv=>whnf
  repeat' ((first|refine x9p rfl ?_|(apply bD<;>intro _<;>try omega))<;>conv=>whnf)
  exact QM rfl rfl
 conv=>whnf
 repeat' ((first|refine cP (CR _ _) ?_|(refine gX ?_;intros)|((first|apply bD|apply bN)<;>intro _<;>try omega))<;>conv=>whnf)
 all_goals first
  | (have r:=DW (p:=fun it:Item=>decide (it.s.kind=4) && !YK p it.s) m (by simp[*])
     rw[<-n,r];exact QM rfl rfl)
  |exact nX (k+1) ⟨by omega,by rw[<-n,Qd (p:=fun it:Item=>decide (it.s.kind=4) && !YK p it.s) m (by simp[*])]⟩
def UP:List Str->List Str->Option (List Str)
 |seen,[]=>some seen
 |seen,n::r=>bif seen.any (fun s=>n==s)then none else UP (seen++[n]) r
def q1s(i:j<l.length)(h:(seen.any fun s=>l[j]==s)=true):UP seen (l.drop j)=none:=by
 rw[QG i,UP,h];rfl
def Iz(i:j<l.length)(h:(seen.any fun s=>l[j]==s)=false):UP seen (l.drop j)=UP (seen++[l[j]]) (l.drop (j+1)):=by
 rw[QG i,UP,h];rfl
theorem Zb:∀{l seen out:List Str},UP seen l=some out->out=seen++l
 |[],seen,out,h=>by rw[UP]at h;cases h;simp
 | n::r,seen,out,h=>by
   rw[UP]at h;cases i:(seen.any fun s=>n==s)<;>rw[i]at h
   .have:=Zb h;simpa using this
   .cases h
def Iw(t:Nat)(seen l:List Str)(r:LV)(H:Heap):Prop:=
 match UP seen l with
 |some out=>r=.tup [.hd 2000 0 out.length,.p .tt]/\H=Pk t out
 |none=>∃out,r=.tup [.hd 2000 0 out.length,.p .ff]/\H=Pk t out
def Kh{t:Nat}{Q:LV->Heap->Prop}(m:UP seen l=some (seen++l)->Q (.tup [.hd 2000 0 (seen++l).length,.p .tt]) (Pk t (seen++l)))(n:UP seen l=none->∀out,Q (.tup [.hd 2000 0 out.length,.p .ff]) (Pk t out)):∀l' H',Iw t seen l l' H'->Q l' H':=by
 intro l' H' h;unfold Iw at h;cases i:UP seen l with
 | some out=>
   rw[i]at h;obtain⟨rfl,rfl⟩:=h;have:=Zb i;subst this;exact m i
 | none=>
   rw[i]at h;obtain⟨out,rfl,rfl⟩:=h;exact n i out
def Lh(seen l:List Str)(o:seen.length+l.length<=1000000000):
  SpecH prog 128 [.hd 2000 0 seen.length,.p (eStrs l)] (Pk 9 seen) (Iw 9 seen l):=by
 refine sK RF func128 ?_;conv=>whnf
 repeat' ((refine iM fun _=>?_)<;>conv=>whnf)
 have s:(l.map AV.str).length=l.length:=x8b _;refine lI (fun i:Nat×List Str=>⟨[(0,.hd 2000 0 i.2.length),(8,.p (eStrs l)),(9,.p (.int .i64 (l.map AV.str).length)),(10,.j i.1)],Pk 9 i.2⟩) (fun i=>i.1<=l.length/\i.2.length+(l.length-i.1)=seen.length+l.length/\UP i.2 (l.drop i.1)=UP seen l) (fun i=>l.length-i.1) (0,seen) ⟨x8i _,by simp,rfl⟩ ?_;rintro⟨j,h⟩ ⟨q,r,m⟩;simp only at q r m⊢;rcases x8o j l.length with n|n
 .conv=>whnf
  repeat' ((first|(refine gX ?_;intros)|(refine QH (QV h (l[j]'n)) (.cons (.hd rfl (by simp)) (.cons (.p (Sub.refl _)) .nil)) (by rintro _ rfl;rfl) ?_;rintro _ rfl)|refine pS ?_|((first|apply bD|apply bB)<;>intro _<;>try omega))<;>conv=>whnf)
  .exact ⟨_,.refl _,by unfold Iw;rw[<-m,q1s n (by assumption)];exact⟨h,rfl,rfl⟩⟩
  .exact ⟨(j+1,h++[l[j]]),⟨by simp only;omega,by simp;omega,by simp only;rw[<-m,Iz n (by assumption)]⟩,by simp only;omega,Le.of_eq (by simp only[Pk,x8m,x8a];rfl)⟩
 .conv=>whnf
  repeat' (apply bD<;>intro _<;>first|omega|conv=>whnf)
  rw[x9j n,UP]at m;exact⟨_,.refl _,by unfold Iw;rw[<-m];exact⟨rfl,rfl⟩⟩
def atB(f:Pr)(h:Str):Int×Bool:=
 match(flL f.body).find? fun t=>t.F.any fun s=>h==s with
 |some t=>(t.id,true)
 |none=>bif f.fin.any fun s=>h==s then(-1,true)else(0,false)
theorem RetK.tup2{H:Heap}{k:IntKind}{m n:Int}{x:AV}(h:m=n)(i:Sub x (.bool b)):RetK H (.p (.tup [.int k m,x])) (fun r=>r=.tup [.int k n,.bool b]):=
 ⟨_,.p (Sub.tup (SubL.cons (Sub.int h) (SubL.cons i SubL.nil))),rfl⟩
def DJ(p:Pg)(j:Nat)(f:Pr)(v:p.A[j]?=some f)(z:cntP p.A<=1000)(h:Str):aP 111 [.ip (sheetOf p).cells,.int .i64 j,.str h] (.tup [.int .i64 (atB f h).1,.bool (atB f h).2]):=by
 refine sC Jw func111 ?_;conv=>whnf
 repeat' ((first|(refine iM fun _=>?_)|refine cP (CY p v z) ?_)<;>conv=>whnf)
 have m:=NI (q:=fun t=>t.F.any fun s=>h==s) (itL (j:Nat) 0 (-1) 0 (offN p.A j) f.body);rw[BL]at m;have u:(itL (j:Nat) 0 (-1) 0 (offN p.A j) f.body).length<=1000:=by
  have:=(QY p).2.2.2.2 j f v;rw[ZC];omega
 generalize x:itL (j:Nat) 0 (-1) 0 (offN p.A j) f.body=its at m u⊢;have e:=UQ its;have r:atB f h=match(its.find? fun it=>it.s.F.any fun s=>h==s).map (fun it=>it.s.id)with
  |some a=>(a,true)
  |none=>bif f.fin.any fun s=>h==s then(-1,true)else(0,false):=by
  unfold atB;rw[m];cases(flL f.body).find? fun t=>t.F.any fun s=>h==s<;>rfl
 rw[r];refine lI (fun k:Nat=>⟨[(0,.p (.ip (sheetOf p).cells)),(1,.j j),(2,.p (.str h)),(12,.p (UD its)),(13,.p (.int .i64 (its.map fun i=>AV.agg i.cells).length)),(14,.j k)],[]⟩) (fun k=>k<=its.length/\(its.drop k).find? (fun it=>it.s.F.any fun s=>h==s)=its.find? fun it=>it.s.F.any fun s=>h==s) (fun k=>its.length-k) 0 ⟨x8i _,rfl⟩ ?_;rintro k ⟨g,o⟩;rcases x8o k its.length with n|n
 .conv=>whnf
  repeat' ((first|refine cP (QV _ _) ?_|(refine gX ?_;intros)|((first|apply bD|apply bB)<;>intro _<;>try omega))<;>conv=>whnf)
  .have y:=DW (p:=fun it:Item=>it.s.F.any fun s=>h==s) n (by assumption);rw[<-o,y];exact RetK.tup2 rfl (Sub.tt rfl)
  .exact nX (k+1) ⟨by omega,by rw[<-o,Qd (p:=fun it:Item=>it.s.F.any fun s=>h==s) n (by assumption)]⟩
 .rw [<-o,DZ n];have w:(p.A.map fun f=>AV.agg f.cells)[j]?=some (.agg f.cells):=by simp[v]
  conv=>whnf
  repeat' ((first|refine cP (QV _ _) ?_|refine iT w ?_|((first|apply bD|apply bB)<;>intro _<;>try omega))<;>conv=>whnf)
  .exact RetK.tup2 (by simp[*]) (Sub.tt (by simp[*]))
  .exact RetK.tup2 (by simp[*]) (Sub.ff (by simp[*]))
def UW(f:Pr)(it:Item):Bool:=if it.s.kind=7\/it.s.kind=8 then !(it.loop==0)else if it.s.kind=10 then(atB f it.s.name).2 else true
def Ax(p:Pg)(j:Nat)(f:Pr)(i:p.A[j]?=some f)(h:cntP p.A<=1000)(it:Item)(m:it.D=j):aP 129 [.ip (sheetOf p).cells,.agg it.cells] (.bool (UW f it)):=by
 refine sC Nl func129 ?_;conv=>whnf
 repeat' ((first|refine cP (DJ p j f i h it.s.name) ?_ (ha:=.cons (Sub.refl _) (.cons (Sub.int m) (.cons (Sub.refl _) .nil)))|(apply bD<;>intro _<;>try omega))<;>conv=>whnf)
 all_goals first
  |exact RetK.bool (by simp[UW, *];rfl)
  |exact RetK.bool (by simp[UW, *])
  |exact RetK.tt (by simp[UW, *])
def Az(p:Pg)(m:Fit p)(h:(QC p).1=0):aP 127 [.agg p.cells] (.ip (sheetOf p).cells):=by
 refine sC Uj func127 ?_;conv=>whnf
 obtain⟨n,r,o⟩:=WV h;obtain⟨s,q,i⟩:=ZM n;repeat' ((first|refine cP (KE p m) ?_|refine cP (DY p (by omega) (by omega)) ?_|(apply bE<;>intro _<;>try omega))<;>conv=>whnf)
 exact RetK.p rfl
def P8(p:Pg)(i:Fit p)(h:(QC p).1≠0):aP 127 [.agg p.cells] .nilp:=by
 refine sC Uj func127 ?_;conv=>whnf
 repeat' ((first|refine cP (KE p i) ?_|(apply bE<;>intro _<;>try omega))<;>conv=>whnf)
 exact RetK.p rfl
mutual
theorem q1l(D up nx loop:Int)(n:Nat):∀(t:S)(it:Item),it∈itS D up nx loop n t->it.D=D
 | .mk id kind F name pr x has args I L,it,h=>by
   rw[itS]at h;rcases x8s.1 h with rfl|h
   ·rfl
   ·rcases x8e.1 h with h|h
    ·exact MX _ _ _ _ _ I it h
    ·exact MX _ _ _ _ _ L it h
theorem MX(D up nx loop:Int)(n:Nat):∀(l:List S)(it:Item),it∈itL D up nx loop n l->it.D=D
 |[],it,h=>by rw[itL]at h;cases h
 | t::r,it,h=>by
   rw[itL]at h;rcases x8e.1 h with h|h
   ·exact q1l _ _ _ _ _ t it h
   ·exact MX _ _ _ _ _ r it h
end
def JP(f:Pr):List Item->List Str->Except Int (List Str)
 |[],seen=>.ok seen
 | it::r,seen=>match UP seen it.s.F with
   |none=>.error it.s.id
   |some s=>bif UW f it then JP f r s else .error it.s.id
def JQ(p:Pg)(j:Nat):Option Int:=
 match p.A[j]?with
 |none=>none
 | some f=>match JP f (itL (j:Nat) 0 (-1) 0 (offN p.A j) f.body) []with
   |.error id=>some id
   | .ok seen=>match UP seen f.fin with
     |none=>some 0
     |some _=>none
def LW(p:Pg):Int×Int:=
 if(QC p).1≠0 then(1,0)else match(List.range p.A.length).findSome? (JQ p)with
  |some a=>(7,a)
  |none=>(0,0)
def q1c(i:k<its.length)(h:UP seen its[k].s.F=none):JP f (its.drop k) seen=.error its[k].s.id:=by
 rw[QG i,JP,h]
def Iv{s:List Str}(i:k<its.length)(h:UP seen its[k].s.F=some s)(m:UW f its[k]=false):JP f (its.drop k) seen=.error its[k].s.id:=by
 rw[QG i,JP,h];simp only[m,x9k]
def Iu{s:List Str}(i:k<its.length)(h:UP seen its[k].s.F=some s)(m:UW f its[k]=true):JP f (its.drop k) seen=JP f (its.drop (k+1)) s:=by
 rw[QG i,JP,h];simp only[m,x9z]
def Tf{l:List Pr}(t:j<l.length)(h:wPr l[j]<=21000){b:Int}{n:Nat}(i:k<(itL a b c d n l[j].body).length):(itL a b c d n l[j].body)[k].s.F.length<=21000:=by
 have m:(itL a b c d n l[j].body)[k].s∈flL l[j].body:=by
  rw[<-BL a b c d n];exact x8c.2 ⟨_,x9w i,rfl⟩
 have o:=Yy _ _ m;have q:=Ht (itL a b c d n l[j].body)[k].s;have r:=YA (itL a b c d n l[j].body)[k].s.F;unfold wPr at h;omega
def Aq(p:Pg)(C:Fit p):aP 66 [.agg p.cells] (PR (LW p).1 (LW p).2):=by
 refine sC Nm func66 ?_;conv=>whnf
 rcases Decidable.em ((QC p).1=0)with B|B;rotate_left 1
 ·
  repeat' ((first|refine cP (P8 p C B) ?_|refine x9p rfl ?_)<;>conv=>whnf)
  have e:LW p=(1,0):=by unfold LW;rw[if_pos B]
  exact QM (by rw[e]) (by rw[e])
 obtain⟨P,U,Q⟩:=WV B;obtain⟨V,R,M⟩:=ZM P;have L:LW p=match(List.range p.A.length).findSome? (JQ p)with
  |some a=>(7,a)
  |none=>(0,0):=by unfold LW;rw[if_neg (by omega)]
 rw[L];have Y:(p.A.map fun f=>AV.agg f.cells).length=p.A.length:=x8b _;repeat' ((first|(refine iM fun _=>?_)|refine cP (Az p C B) ?_)<;>conv=>whnf)
 refine lI (fun j:Nat=>⟨[(2,.ptr 1 0),(3,.p (.ip (sheetOf p).cells)),(16,.p (.sl (p.A.map fun f=>.agg f.cells))),(17,.p (.int .i64 (p.A.map fun f=>AV.agg f.cells).length)),(18,.j j)],[(1,.obj 68 [.p (.int .i64 0),.j 0])]⟩) (fun j=>j<=p.A.length/\((List.range p.A.length).drop j).findSome? (JQ p)=(List.range p.A.length).findSome? (JQ p)) (fun j=>p.A.length-j) 0 ⟨x8i _,rfl⟩ ?_;rintro j ⟨T,z⟩;rcases x8o j p.A.length with u|u;rotate_left 1
 .have e:(List.range p.A.length).findSome? (JQ p)=none:=by rw[<-z,Uc (by simpa using u)]
  rw[e];conv=>whnf
  repeat' ((first|refine x9p rfl ?_|(apply bD<;>intro _<;>try omega))<;>conv=>whnf)
  exact QM rfl rfl
 have g:=C.pr (x9w u);have o:j<(List.range p.A.length).length:=by simpa using u
 have r:(List.range p.A.length)[j]=j:=by simp
 have q:p.A[j]?=some p.A[j]:=by simp[u]
 conv=>whnf
 repeat' ((first|(refine gX ?_;intros)|refine cP (CY p (f:=p.A[j]'u) q (by omega)) ?_|(apply bD<;>intro _<;>try omega))<;>conv=>whnf)
 have v:∀k (n:k<(itL (j:Nat) 0 (-1) 0 (offN p.A j) p.A[j].body).length),(itL (j:Nat) 0 (-1) 0 (offN p.A j) p.A[j].body)[k].s.F.length<=21000:=fun k n=>Tf u g n;have w:∀k (n:k<(itL (j:Nat) 0 (-1) 0 (offN p.A j) p.A[j].body).length),(itL (j:Nat) 0 (-1) 0 (offN p.A j) p.A[j].body)[k].D=j:=fun k n=>MX _ _ _ _ _ _ _ (x9w n);have E:(itL (j:Nat) 0 (-1) 0 (offN p.A j) p.A[j].body).length<=200:=by
  have:=(QY p).2.2.2.2 j _ q;rw[ZC];omega
 have h:JQ p j=match JP p.A[j] (itL (j:Nat) 0 (-1) 0 (offN p.A j) p.A[j].body) []with
  |.error id=>some id
  | .ok seen=>match UP seen p.A[j].fin with
    |none=>some 0
    |some _=>none:=by
  unfold JQ;rw[q]
 generalize H:itL (j:Nat) 0 (-1) 0 (offN p.A j) p.A[j].body=its at v w E h⊢;have N:=UQ its;refine lJ (fun i:Nat×List Str=>⟨[(2,.ptr 1 0),(3,.p (.ip (sheetOf p).cells)),(5,.p (.ip (p.A[j]'u).cells)),(6,.hd 0 0 i.2.length),(16,.p (.sl (p.A.map fun f=>.agg f.cells))),(17,.p (.int .i64 (p.A.map fun f=>AV.agg f.cells).length)),(18,.j j),(25,.p (UD its)),(26,.p (.int .i64 (its.map fun i=>AV.agg i.cells).length)),(27,.j i.1)],[(0,.own 9 1 (i.2.map .str)),(1,.obj 68 [.p (.int .i64 0),.j 0])]⟩) (fun i=>i.1<=its.length/\i.2.length<=21000*i.1/\JP p.A[j] (its.drop i.1) i.2=JP p.A[j] its []) (fun i=>its.length-i.1) (0,[]) (lM [(0,.own 9 1 [])]) ⟨x8i _,by simp,rfl⟩ ?_;rintro⟨k,x⟩ ⟨I,J,y⟩;simp only at I J y⊢;rcases x8o k its.length with n|n
 .have O:=v k n;conv=>whnf
  repeat' ((first|(refine gX ?_;intros)|refine cP (Ax p j p.A[j] q (by omega) its[k] (w k n)) ?_|((first|apply bD|apply bN)<;>intro _<;>try omega)|(refine CallK.heap [(2000,0)] 0 (by repeat' (first|exact z1w|refine x9t ?_ ?_|exact x9b _|exact z2v Sub.nils|exact z2v (Sub.tt rfl)|exact z2v (Sub.ff rfl)|exact z2v (Sub.int (by omega)))) (by refine x9m (j:=0) rfl rfl ?_ ?_;exact CSub.refl _;exact z1x) (Lh x its[k].s.F (by omega)) rfl rfl (Kh (fun m=>?_) (fun m out=>?_))))<;>conv=>whnf)
  .exact nX (k+1,x++its[k].s.F) ⟨by simp only;omega,by simp;omega,by simp only;rw[<-y,Iu n m (by assumption)]⟩
  .rw [<-y,Iv n m (by assumption)]at h;have t:=UX (f:=JQ p) o (by rw[r];exact h);rw[z]at t;rw[t];exact QM rfl rfl
  .rw [<-y,q1c n m]at h;have t:=UX (f:=JQ p) o (by rw[r];exact h);rw[z]at t;rw[t];exact QM rfl rfl
 .have G:p.A[j].fin.length<=21000:=by
   have:=YA p.A[j].fin;unfold wPr at g;omega
  rw[x9j n,JP]at y;rw[<-y]at h;simp only at h;conv=>whnf
  repeat' ((first|refine gX ?_|(apply bD<;>intro _<;>try omega)|(refine CallK.heap [(2000,0)] 0 (by repeat' (first|exact z1w|refine x9t ?_ ?_|exact x9b _|exact z2v Sub.nils|exact z2v (Sub.tt rfl)|exact z2v (Sub.ff rfl)|exact z2v (Sub.int (by omega)))) (by refine x9m (j:=0) rfl rfl ?_ ?_;exact CSub.refl _;exact z1x) (Lh x p.A[j].fin (by omega)) rfl rfl (Kh (fun m=>?_) (fun m out=>?_))))<;>conv=>whnf)
  .rw [m]at h;exact nX (j+1) ⟨by omega,by rw[<-z,K7 (f:=JQ p) o (by rw[r];exact h)]⟩
  .rw [m]at h;have t:=UX (f:=JQ p) o (by rw[r];exact h);rw[z]at t;rw[t];exact QM rfl rfl
theorem BsK.pureL{sz:Nat}{out:List LV}{i m:Prop}(r:(es.all fun x=>x.cells.length==sz)=true)(q:out=(es.flatMap AV.cells).map .p)(o:i):BsK es sz out i m:=.pure (fun x h=>by simpa using z0p.1 r x h) q o
def GL(c:UInt8):aP 224 [.int .u8 c.toNat] (.bool (KW c)):=by
 refine sC MP func224 ?_;conv=>whnf
 repeat' (apply bD<;>intro _<;>first|omega|conv=>whnf)
 .exact RetK.bool (by simp_all[KW];try omega)
 .exact RetK.ff (by simp_all[KW];try omega)
def Wy(c:UInt8):aP 225 [.int .u8 c.toNat] (.bool (Ql c)):=by
 refine sC MB func225 ?_;conv=>whnf
 repeat' (apply bD<;>intro _<;>first|omega|conv=>whnf)
 .exact RetK.bool (by simp_all[Ql];try omega)
 .exact RetK.ff (by simp_all[Ql];try omega)
def wordsL:List Str:=[[103,108,111,98,97,108],[112,114,111,99],[118,97,114],[114,101,102],[105,102],[101,108,115,101],[119,104,105,108,101],[98,114,101,97,107],[99,111,110,116,105,110,117,101],[114,101,116,117,114,110],[103,111,116,111],[114,101,97,100],[112,114,105,110,116]]
def Wu:aP 279 [] (eStrs wordsL):=by
 refine sC MD func279 ?_;conv=>whnf
 repeat' ((first|refine x9p rfl ?_|refine aD ?_|refine BsK.pureL rfl rfl ?_)<;>conv=>whnf)
 exact RetK.p rfl
def A8(s:Str):Y0 s=wordsL.any fun w=>w==s:=by
 rw[z2c];unfold Y0 wordsL;simp only[z3x,x9o,List.any_cons,List.any_nil,Bool.or_false,z2d,or_assoc,@eq_comm _ s]
def Uq(s:Str):aP 226 [.str s] (.bool (Y0 s)):=by
 refine sC Q4 func226 ?_;conv=>whnf
 rw[A8];repeat' ((first|(refine iM fun _=>?_)|refine cP Wu ?_)<;>conv=>whnf)
 have i:wordsL.length<=1000:=by decide
 generalize wordsL=l at i⊢;have n:(l.map AV.str).length=l.length:=x8b _;refine lI (fun j:Nat=>⟨[(0,.p (.str s)),(5,.p (eStrs l)),(6,.p (.int .i64 (l.map AV.str).length)),(7,.j j)],[]⟩) (fun j=>j<=l.length/\(l.drop j).any (fun w=>w==s)=l.any fun w=>w==s) (fun j=>l.length-j) 0 ⟨x8i _,rfl⟩ ?_;rintro j ⟨m,h⟩;conv=>whnf
 repeat' ((first|(refine gX ?_;intros)|((first|apply bD|apply bB)<;>intro _<;>try omega))<;>conv=>whnf)
 .exact RetK.tt (by rw[<-h,Jt (p:=fun w=>w==s) (by omega) (by assumption)])
 .exact nX (j+1) ⟨by omega,by rw[<-h,Ud (p:=fun w=>w==s) (by omega) (by assumption)]⟩
 .exact RetK.ff (by rw[<-h,PG (by omega)])
def Td{s:Str}{i:Nat}(h:s.length<=i):KT s i=i:=Zl fun m=>by omega
def XT(s:Str):aP 167 [.str s] (.bool (isName s)):=by
 refine sC Q3 func167 ?_;conv=>whnf
 by_cases o:s=[]
 .subst o;have e:isName []=false:=by unfold isName;rw[dif_neg (by simp)]
  rw[e];repeat' ((first|(refine iM fun _=>?_)|((first|apply bD|apply bB)<;>intro _<;>try omega))<;>conv=>whnf)
  all_goals first
   |exact RetK.ff rfl
   |(exfalso;simp_all;done)
 have i:0<s.length:=z4o.2 o;have q:(s==(⟨#[]⟩:ByteArray).data.toList)=false:=by simpa using o
 repeat' ((first|(refine iM fun _=>?_)|refine cP (GL _) ?_|refine ByteK.at (by omega) ?_|((first|apply bD|apply bN|apply bB)<;>intro _<;>try omega))<;>conv=>whnf)
 .exfalso;rename_i h;rw[q]at h;cases h
 .exact RetK.ff (by unfold isName;rw[dif_neg (by omega)])
 rotate_left 1
 .exact RetK.ff (by unfold isName;rw[dif_pos (by omega)];simp_all)
 have m:KW s[0]=true:=by assumption
 have u:s.length<=8:=by omega
 have t:KT s 0=KT s 1:=(MW i (by unfold q1m;rw[m];rfl)).symm;have r:isName s=(decide (KT s 1=s.length) && !Y0 s):=by
  unfold isName;rw[dif_pos (by omega),m,t];rfl
 refine lI (fun j:Nat=>⟨[(0,.p (.str s)),(3,.j j)],[]⟩) (fun j=>1<=j/\j<=s.length/\KT s j=KT s 1) (fun j=>s.length-j) 1 ⟨x9h _,i,rfl⟩ ?_;rintro j ⟨v,w,n⟩;conv=>whnf
 repeat' ((first|(refine iM fun _=>?_)|refine cP (GL _) ?_|refine cP (Wy _) ?_|refine cP (Uq _) ?_|refine ByteK.at (by omega) ?_|refine wI ?_|((first|apply bD|apply bN)<;>intro _<;>try omega))<;>conv=>whnf)
 all_goals first
  |exact nX (j+1) ⟨by omega,by omega,by rw[MW (by omega) (by simp_all[q1m])];exact n⟩
  |exact RetK.ff (by rw[r,<-n,Zl fun _=>by simp_all[q1m]];simp;omega)
  |exact RetK.bool (by rw[r,<-n,Td (by omega),show j=s.length by omega];simp)
def US(l:List Str):aP 166 [eStrs l] (.bool (namesB l)):=by
 refine sC ML func166 ?_;conv=>whnf
 refine iM fun _=>?_;conv=>whnf
 refine lI (fun j:Nat=>⟨[(5,.p (eStrs l)),(6,.p (.int .i64 (l.map AV.str).length)),(7,.j j)],[]⟩) (fun j=>j<=l.length/\(l.drop j).all isName=namesB l) (fun j=>l.length-j) 0 ⟨x8i _,rfl⟩ ?_;rintro j ⟨i,h⟩;have m:(l.map AV.str).length=l.length:=x8b _;conv=>whnf
 repeat' ((first|refine cP (XT _) ?_|(refine gX ?_;intros)|((first|apply bD|apply bN)<;>intro _<;>try omega))<;>conv=>whnf)
 .exact nX (j+1) ⟨by omega,by rw[GI (by omega) (by assumption)];exact h⟩
 .exact RetK.ff (by rw[<-h,Z6 (by omega) (by assumption)])
 .exact RetK.tt (by rw[<-h,GE (by omega)])
def Wj(op:Int):aP 308 [.int .i64 op] (.int .i64 (Zp op)):=by
 refine sC MN func308 ?_;conv=>whnf
 repeat' (apply bD<;>intro _<;>first|omega|conv=>whnf)
 all_goals exact RetK.int (by unfold Zp;(repeat' split)<;>omega)
def FB(x:X):aP 228 [.agg x.cells] (.bool (noneB x)):=by
 refine sC Qx func228 ?_;conv=>whnf
 repeat' ((first|(refine iM fun _=>?_)|((first|apply bD|apply bB)<;>intro _<;>try omega))<;>conv=>whnf)
 all_goals have h:((X.avs x.kids).length:Int)=x.kids.length:=by rw[X.avs_len]
 all_goals first
  |exact RetK.ff (by simp_all[noneB];done)
  |exact RetK.bool (by simp_all[noneB];done)
def HO(x:X):Bool:=decide (Zp x.op=(x.kids.length:Int))&&(decide (x.op=1)||decide (x.n=0))&&decide (0<=x.n)&&(decide (x.op=2) == !(x.name==[]))&&((x.name==[])||isName x.name)
def LZ:Nat->X->Bool
 |0,_=>true
 |k+1,x=>HO x&&x.kids.all (LZ k)
theorem TT:∀(l:List X)(y:X),y∈l->wX y<=wXs l
 |[],y,h=>by cases h
 | a::r,y,h=>by
   rw[wXs];rcases x8s.1 h with rfl|h
   .omega
   .have:=TT r y h;omega
def FF : ∀(k:Nat)(x:X)(_:wX x<k),aP 281 [.agg x.cells] (.bool (LZ k x)):=by
 intro k;induction k with
 |zero=>intro x h;omega
 | succ k s=>
   intro x w;have r:wX x=1+wXs x.kids:=by cases x;rw[wX];rfl
   have u:((X.avs x.kids).length:Int)=x.kids.length:=by rw[X.avs_len]
   refine sC Q9 func281 ?_;conv=>whnf
   repeat' ((first|(refine iM fun _=>?_)|refine cP (Wj _) ?_|refine cP (XT _) ?_|refine dA ?_|refine GG ZP rfl rfl rfl rfl rfl ?_|((first|apply bD|apply bE|apply bN)<;>intro _<;>try omega))<;>conv=>whnf)
   all_goals simp only[show(ByteArray.mk #[]).data.toList=[]from rfl]at*
   all_goals first
    | (refine RetK.ff ?_
       rw[LZ,z2s];left;unfold HO;rw[show decide (0<=x.n)=false from z0s (by omega)];simp
       done)
    | (refine RetK.ff ?_
       rw[LZ,z2s];left;rename_i h;have q:(decide (x.op=2) == !(x.name==[]))=false:=by
        have e:decide (x.op=2)=(x.op==2):=rfl;rw[e]
        revert h
        cases(x.op==2)<;>cases(x.name==[])<;>decide
       unfold HO;rw[q];simp
       done)
    | (refine RetK.ff ?_
       rw[LZ,z2s];left;simp_all[HO]
       done)
    | (refine RetK.ff ?_
       rw[LZ,z2s];left;simp_all[HO];omega)
    | (have o:HO x=true:=by first
        |(simp_all[HO];done)
        |(simp_all[HO];omega)
       rw[show LZ (k+1) x=x.kids.all (LZ k) by rw[LZ,o];rfl])
   all_goals
    clear o;refine lI (fun j:Nat=>⟨[(1,.p (.ip x.cells)),(48,.p (.int .i64 (X.avs x.kids).length)),(49,.j j)],[]⟩) (fun j=>j<=x.kids.length/\(x.kids.drop j).all (LZ k)=x.kids.all (LZ k)) (fun j=>x.kids.length-j) 0 ⟨x8i _,rfl⟩ ?_;rintro j ⟨t,i⟩;rcases x8o j x.kids.length with m|m
    .have v:=TT x.kids _ (x9w m);conv=>whnf
     repeat' ((first|(refine gX ?_;intros)|refine cP (s (x.kids[j]'m) (by omega)) ?_|((first|apply bD|apply bN)<;>intro _<;>try omega))<;>conv=>whnf)
     .exact nX (j+1) ⟨by omega,by rw[GI (by omega) (by assumption)];exact i⟩
     .exact RetK.ff (by rw[<-i,Z6 (by omega) (by assumption)])
    .conv=>whnf
     repeat' (apply bD<;>intro _<;>first|omega|conv=>whnf)
     exact RetK.tt (by rw[<-i,GE (by omega)])
def Au:List Nat->Nat
 |[]=>0
 |a::r=>max a (Au r)
def HM:Nat->X->Nat
 |0,_=>1
 |m+1,x=>1+Au (x.kids.map (HM m))
def Tl{l:List Nat}{m:Nat}(h:∀a∈l,a<=m):Au l<=m:=by
 induction l with
 |nil=>exact x8i _
 | cons a r n=>
   have:=n fun b i=>h b (x8r _ i);have:=h a x8l;rw[Au];omega
theorem Bf:∀(m:Nat)(x:X),HM m x<=m+1
 |0,_=>x9h _
 | m+1,x=>by
   rw[HM];have:Au (x.kids.map (HM m))<=m+1:=Tl fun a ha=>by
    obtain⟨y,_,rfl⟩:=x8c.1 ha;exact Bf m y
   omega
def FH:∀(m:Nat)(_:m<=1000)(x:X),aP 280 [.agg x.cells,.int .i64 m] (.int .i64 (HM m x)):=by
 intro m;induction m with
 | zero=>
   intro _ x;refine sC KP func280 ?_;conv=>whnf
   repeat' (apply bD<;>intro _<;>first|omega|conv=>whnf)
   exact RetK.int rfl
 | succ m r=>
   intro u x;have t:((X.avs x.kids).length:Int)=x.kids.length:=by rw[X.avs_len]
   refine sC KP func280 ?_;conv=>whnf
   repeat' (apply bD<;>intro _<;>first|omega|conv=>whnf)
   have q:Au (x.kids.map (HM m))<=m+1:=Tl fun a ha=>by
    obtain⟨y,_,rfl⟩:=x8c.1 ha;exact Bf m y
   refine lI (fun y:Nat×Nat=>⟨[(1,.j (m+1:Nat)),(2,.p (.ip x.cells)),(5,.j y.2),(6,.j y.1)],[]⟩) (fun y=>y.1<=x.kids.length/\y.2<=m+1/\max y.2 (Au ((x.kids.drop y.1).map (HM m)))=Au (x.kids.map (HM m))) (fun y=>x.kids.length-y.1) (0,0) ⟨x8i _,x8i _,by simp⟩ ?_;rintro⟨j,d⟩ ⟨n,o,i⟩;simp only at n o i⊢;rcases x8o j x.kids.length with h|h
   .rw [x9i h,x9c,Au]at i;have s:=Bf m x.kids[j];conv=>whnf
    repeat' ((first|(refine gX ?_;intros)|refine cP (r (by omega) (x.kids[j]'h)) ?_|(apply bD<;>intro _<;>try omega))<;>conv=>whnf)
    all_goals first
     |exact nX (j+1,HM m x.kids[j]) ⟨by simp only;omega,by simp only;omega,by simp only;omega⟩
     |exact nX (j+1,d) ⟨by simp only;omega,by simp only;omega,by simp only;omega⟩
     |exact RetK.int (by rw[HM];omega)
   .rw [x9j h,z3p,Au]at i;conv=>whnf
    repeat' ((first|(refine gX ?_;intros)|(apply bD<;>intro _<;>try omega))<;>conv=>whnf)
    exact RetK.int (by rw[HM];omega)
def mayXR(x:X):Bool:=decide (HM 20 x<=20)&&LZ (wX x+1) x
def JE(x:X):aP 227 [.agg x.cells] (.bool (mayXR x)):=by
 refine sC YX func227 ?_;conv=>whnf
 repeat' ((first|refine cP (FH 20 (by omega) x) ?_|refine cP (FF (wX x+1) x (by omega)) ?_|(apply bD<;>intro _<;>try omega))<;>conv=>whnf)
 all_goals first
  |exact RetK.bool (by unfold mayXR;rw[z0r (by omega)];rfl)
  |exact RetK.ff (by unfold mayXR;rw[z0s (by omega)];rfl)
theorem V8:∀(n:Nat)(x:X),WW n x=true->HM n x<=n/\∀k,LZ k x=true
 |0,x,h=>by rw[WW]at h;cases h
 | n+1,x,h=>by
   rw [WW]at h;simp only[x9g,x9o]at h;obtain⟨o,m⟩:=h;have i:(∀y∈x.kids,WW n y=true)/\HO x=true:=by
    split at m
    .rename_i s;simp only[x9g,x9o]at m;have q:x.kids=[]:=by
      rw[s]at o;have:Zp 1=0:=by decide
      rw[this]at o;exact List.length_eq_zero_iff.1 (by omega)
     refine⟨by rw[q];simp,?_⟩;unfold HO;rw[o,s,m.2];simp[m.1]
    split at m
    .rename_i s;simp only[x9g,x9o]at m;have q:x.kids=[]:=by
      rw[s]at o;have:Zp 2=0:=by decide
      rw[this]at o;exact List.length_eq_zero_iff.1 (by omega)
     have t:(x.name==[])=false:=by
      cases z:x.name with
      | nil=>
        have:=m.2;rw[z]at this;unfold isName at this;rw[dif_neg (by simp)]at this;cases this
      |cons a r=>rfl
     refine⟨by rw[q];simp,?_⟩;unfold HO;rw[o,s,m.2,t,m.1];simp
    .rename_i u v;simp only[x9g,x9o,z0p]at m;refine⟨m.2,?_⟩;unfold HO;rw[o,m.1.1,m.1.2];simp[u,v]
   refine⟨?_,fun k=>?_⟩
   .rw [HM];have:Au (x.kids.map (HM n))<=n:=Tl fun a ha=>by
     obtain⟨y,w,rfl⟩:=x8c.1 ha;exact(V8 n y (i.1 y w)).1
    omega
   .cases k with
    |zero=>rfl
    | succ k=>
      rw[LZ,i.2,z3l,z0p];exact fun y w=>(V8 n y (i.1 y w)).2 k
def Ia{x:X}(h:J0 x=true):mayXR x=true:=by
 obtain⟨i,m⟩:=V8 20 x h;unfold mayXR;rw[z0r i,m];rfl
def argR(a:Arg):Bool:=bif a.ref then isName a.name&&noneB a.x else(a.name==[])&&mayXR a.x
def Yb(a:Arg):aP 229 [.agg a.cells] (.bool (argR a)):=by
 refine sC Xi func229 ?_;conv=>whnf
 repeat' ((first|refine cP (XT _) ?_|refine cP (FB _) ?_|refine cP (JE _) ?_|(apply bB<;>intro _))<;>conv=>whnf)
 all_goals simp only[show(ByteArray.mk #[]).data.toList=[]from rfl]at*
 all_goals first
  |exact RetK.bool (by simp_all[argR])
  |exact RetK.ff (by simp_all[argR])
def q6s{a:Arg}(h:Zd a=true):argR a=true:=by
 unfold Zd JR BF at h;unfold argR;cases i:a.ref with
 | true=>
   rw[i]at h;simpa using h
 | false=>
   rw[i]at h;simp only[x9k,Bool.not_false,x9z,x9g]at h;rw[h.1,Ia h.2];rfl
end Go.Ab
