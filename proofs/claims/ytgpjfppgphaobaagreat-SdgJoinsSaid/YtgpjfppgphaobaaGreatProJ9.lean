/- tree, flat, scope: the names of an expression, of a statement; what a name is. -/
import Derived.Test.YtgpjfppgphaobaaGreatProJ8
set_option linter.all false
set_option maxRecDepth 100000
set_option maxHeartbeats 16000000
open List (drop_zero)
namespace Go.Ab
open Go.Proofs.Tryz
open Go.Proofs
variable {α β:Type}{K:Prop}{a c d:Int}{b:Bool}{es:List AV}{f:Pr}{its:List Item}{j k:Nat}{l seen:List Str}{p:Pg}
def DY{n:Nat}(xs:List Str)(h:n=es.length)(o:es.length+xs.length<=8796093022208)(i:K):AppK es (xs.map .str) n (xs.map AV.str).length 1 16 K:=
 .mk h rfl (by rw[h];simp;omega) (by rw[h];simp[maxLen];omega) (fun x m=>by obtain⟨y,_,rfl⟩:=x8s.1 m;exact⟨rfl,rfl⟩) i
def WF{n:Nat}{s:Str}(i:n=es.length)(o:es.length<=8796093022000)(h:K):AppK es [.str s] n 1 1 16 K:=
 .mk i rfl (by omega) (by simp only[maxLen];omega) (fun x m=>by rcases x8l.1 m with rfl;exact⟨rfl,rfl⟩) h
def LA{n:Nat}{s:Int}(i:n=es.length)(o:es.length<=8796093022000)(h:K):AppK es [.int .i64 s] n 1 1 8 K:=
 .mk i rfl (by omega) (by simp only[maxLen];omega) (fun x m=>by rcases x8l.1 m with rfl;exact⟨rfl,rfl⟩) h
mutual
def Mu:X->List Str->List Str
 |.mk op _ name kids,out=>BQ kids (if op=2/\(out.any fun s=>name==s)=false then out++[name]else out)
def BQ:List X->List Str->List Str
 |[],out=>out
 |x::r,out=>BQ r (Mu x out)
end
def T6(x:X)(out:List Str):Mu x out=BQ x.kids (if x.op=2/\(out.any fun s=>x.name==s)=false then out++[x.name]else out):=by
 cases x;rw[Mu];rfl
def CO{l:List X}{out:List Str}(h:j<l.length):BQ (l.drop j) out=BQ (l.drop (j+1)) (Mu l[j] out):=by
 rw[QD h,BQ]
def Iu{l:List X}{out:List Str}(h:l.length<=j):BQ (l.drop j) out=out:=by
 rw[x9v h,BQ]
def Ho{n:Nat}{x:X}(h:UK (n+1) x=true):x.kids.length<=2/\(x.op=2->x.kids.length=0)/\∀k∈x.kids,UK n k=true:=by
 rw[UK]at h;simp only[x9w,z0w]at h;obtain⟨i,m⟩:=h;refine⟨?_,fun r=>?_,?_⟩
 .unfold Uv at i;(repeat' split at i)<;>omega
 .unfold Uv at i;rw[if_pos (by omega)]at i;omega
 .by_cases o:x.op=1
  .have:x.kids.length=0:=by unfold Uv at i;rw[if_pos (by omega)]at i;omega
   rw[z0n this];simp
  .by_cases q:x.op=2
   .have:x.kids.length=0:=by unfold Uv at i;rw[if_pos (by omega)]at i;omega
    rw[z0n this];simp
   .rw [if_neg o,if_neg q]at m;simp only[x9w]at m;exact z0k.1 m.2
def Ij:∀(n:Nat)(x:X)(out:List Str),UK n x=true->out.length<=(Mu x out).length/\(Mu x out).length<=out.length+2^n:=by
 intro n;induction n with
 |zero=>intro x out h;rw[UK]at h;cases h
 | succ n g=>
   intro x out h;obtain⟨w,y,z⟩:=Ho h;have key:∀(l:List X)(o:List Str),(∀k∈l,UK n k=true)->o.length<=(BQ l o).length/\(BQ l o).length<=o.length+l.length*2^n:=by
    intro l;induction l with
    |nil=>intro o _;simp[BQ]
    | cons k r t=>
      intro o u;rw[BQ];have e:=g k o (u k (by simp));have A:=t (Mu k o) fun k q=>u k (by simp[q]);simp only[x9s,z1u,z5a];omega
   rw[T6];have B:2^(n+1)=2*2^n:=by rw[Nat.pow_succ];omega
   have v:0<2^n:=Nat.pow_pos (by decide);have m:=key x.kids (if x.op=2/\(out.any fun s=>x.name==s)=false then out++[x.name]else out) z;have e:x.kids.length*2^n<=2*2^n:=z0y _ w;split at m
   .rename_i i;have:=y i.1;rw[this]at m;rw[if_pos i];simp only[x8d,x9h]at m;omega
   .rename_i i;rw[if_neg i];omega
def E3(t:Nat)(out:List Str):Heap:=[(2000,.own t 1 (out.map .str))]
def Gu:∀(n:Nat)(_:n<=20)(x:X)(_:UK n x=true)(out:List Str)(_:out.length+2^n<=1073741824),
  aH 208 [.p (.agg x.cells),.hd 2000 0 out.length] (E3 9 out) (.hd 2000 0 (Mu x out).length) (E3 9 (Mu x out)):=by
 intro n;induction n with
 |zero=>intro _ x h;rw[UK]at h;cases h
 | succ n A=>
   intro D x e out E;have F:2^(n+1)=2*2^n:=by rw[Nat.pow_succ];omega
   have w:0<2^n:=Nat.pow_pos (by decide);obtain⟨t,u,q⟩:=Ho e;have g:=X.avs_len x.kids;refine sK Da func208 ?_;conv=>whnf
   repeat' ((first|(refine gX ?_;intros)|(refine QR (QZ out x.name) (.cons (.hd rfl (by simp)) (.cons (.p (Sub.refl _)) .nil)) (by rintro _ rfl;rfl) ?_;rintro _ rfl)|refine pA 1 16 (by simp) ?_|((first|apply bD|apply bN)<;>intro _<;>try omega))<;>conv=>whnf)
   all_goals
    have r:∀j,j<x.kids.length->(x.kids.length-j)*2^n=(x.kids.length-(j+1))*2^n+2^n:=fun j o=>by
     rw[show x.kids.length-j=(x.kids.length-(j+1))+1 by omega,z1u,z5a]
    have v:x.kids.length*2^n<=2*2^n:=z0y _ t;first
    |refine lJ (fun i:Nat×List Str=>⟨[(1,.hd 2000 0 i.2.length),(23,.p (.sl (X.avs x.kids))),(24,.p (.int .i64 (X.avs x.kids).length)),(25,.j i.1)],E3 9 i.2⟩) (fun i=>i.1<=x.kids.length/\BQ (x.kids.drop i.1) i.2=Mu x out/\i.2.length+(x.kids.length-i.1)*2^n<=1073741824) (fun i=>x.kids.length-i.1) (0,out++[x.name]) (Le.of_eq (by simp[E3];exact⟨rfl,rfl⟩)) ⟨x8m _,by simp only[drop_zero];rw[T6,if_pos ⟨by assumption,by assumption⟩],by have:=u (by assumption);simp[this];omega⟩ ?_
    |refine lI (fun i:Nat×List Str=>⟨[(1,.hd 2000 0 i.2.length),(23,.p (.sl (X.avs x.kids))),(24,.p (.int .i64 (X.avs x.kids).length)),(25,.j i.1)],E3 9 i.2⟩) (fun i=>i.1<=x.kids.length/\BQ (x.kids.drop i.1) i.2=Mu x out/\i.2.length+(x.kids.length-i.1)*2^n<=1073741824) (fun i=>x.kids.length-i.1) (0,out) ⟨x8m _,by simp only[drop_zero];rw[T6,if_neg (by simp[*])],by simp only[Nat.sub_zero];omega⟩ ?_
    rintro⟨j,m⟩ ⟨y,s,z⟩;simp only at y s z⊢;conv=>whnf
    repeat' ((first|(refine gX ?_;intros)|(apply bD<;>intro _<;>try omega))<;>conv=>whnf)
    all_goals first
     | (rw[Iu (by omega)]at s
        exact⟨_,.refl _,by rw[s];exact⟨rfl,rfl⟩⟩)
     | (have o:j<x.kids.length:=by omega
        have C:=r j o;have B:=Ij n x.kids[j] m (q _ (x8o o));refine cJ [(2000,2000)] 0 (A (by omega) x.kids[j] (q _ (x8o o)) m (by omega)) ?_;rintro l' H' ⟨rfl,rfl⟩;conv=>whnf
        refine wI ?_;conv=>whnf
        exact nX (j+1,Mu x.kids[j] m) ⟨by simp only;omega,by simp only;rw[<-s,CO o],by simp only;omega⟩)
def XL(x:X):List Str:=bif IB x then Mu x []else []
def UW(x:X):(XL x).length<=1048576:=by
 unfold XL;cases h:IB x with
 |false=>simp
 | true=>
   have:=(Ij 20 x [] h).2;simpa using this
def PS(x:X):aP 163 [.agg x.cells] (eStrs (XL x)):=by
 refine sC V5 func163 ?_;conv=>whnf
 repeat' ((first|refine cP (PQ _) ?_|(apply bN<;>intro _))<;>conv=>whnf)
 .refine CallK.nil 5 9 1 rfl (.cons rfl (.row .nil)) ?_;refine cJ [(2000,5)] 0 (Gu 20 (by omega) x (by assumption) [] (by simp)) ?_;rintro l' H' ⟨rfl,rfl⟩;conv=>whnf
  refine⟨_,.hd rfl (by simp),?_⟩;unfold XL;rw[show IB x=true by assumption];rfl
 .refine ⟨_,.p Sub.nils,?_⟩;unfold XL;rw[show IB x=false by assumption];rfl
def HK(a:Arg):List Str:=(bif a.ref then [a.name]else [])++XL a.x
def NN(t:S):List Str:=(bif t.kind≠10 && !(t.name==[])then [t.name]else [])++XL t.x
def VF(t:S):List Str:=NN t++t.args.flatMap HK
def Ay(a:Arg):(HK a).length<=1048577:=by
 have:=UW a.x;unfold HK;cases a.ref<;>simp<;>omega
def Aj(t:S):(NN t).length<=1048577:=by
 have:=UW t.x;unfold NN;cases(t.kind≠10 && !(t.name==[]):Bool)<;>simp<;>omega
theorem XK{α β:Type}{f:α->List β}{c:Nat}(h:∀a,(f a).length<=c):∀l:List α,(l.flatMap f).length<=l.length*c
 |[]=>by simp
 | x::r=>by
   have:=XK h r;have:=h x;simp only[z0e,x8d,x9s,z1u,z5a];omega
def CH(t:S)(j:Nat):List Str:=NN t++(t.args.take j).flatMap HK
def q1q(t:S)(h:j<=t.args.length)(ha:t.args.length<=21000):(CH t j).length<=23000000000:=by
 have i:=Aj t;have m:=XK Ay (t.args.take j);have n:(t.args.take j).length*1048577<=21000*1048577:=z0y _ (by simp;omega);unfold CH;simp only[x8d];omega
def Ed{t:S}(h:j<t.args.length):CH t (j+1)=CH t j++HK t.args[j]:=by
 unfold CH;rw[x8c h,z1q,x9u];simp
def Fe(t:S)(h:Nat)(j:Nat):St:=⟨[(3,.hd 0 0 (CH t j).length),(25,.p (.sl (t.args.map fun a=>.agg a.cells))),(26,.p (.int .i64 (t.args.map fun a=>AV.agg a.cells).length)),(27,.j j)],[(0,.own h 1 ((CH t j).map .str))]⟩
def Fx(t:S)(ha:t.args.length<=21000):aP 157 [.agg t.cells] (eStrs (VF t)):=by
 refine sC N9 func157 ?_;conv=>whnf
 repeat' ((first|(refine gX ?_;intros)|refine cP (PS _) ?_|refine DY _ (by simp) (by have:=UW t.x;simp;omega) ?_|refine WF (by simp) (by simp) ?_|((first|apply bE|apply bN)<;>intro _<;>try omega))<;>conv=>whnf)
 all_goals
  have q:(t.args.map fun a=>AV.agg a.cells).length=t.args.length:=x8g _;refine lJ (Fe t 9) (fun j=>j<=t.args.length) (fun j=>t.args.length-j) 0 (Le.of_eq ?_) (x8m _) ?_
  .first
    | (have e:CH t 0=XL t.x:=by simp[CH,NN,show t.kind=10 by assumption]
       rw[Fe,e];simp only[z1h,x8g,x8d,x8i,z3a];rfl)
    | (have e:CH t 0=XL t.x:=by simp[CH,NN,show t.name=[] by simpa using(show(t.name==[])=true by assumption)]
       rw[Fe,e];simp only[z1h,x8g,x8d,x8i,z3a];rfl)
    | (have e:CH t 0=[t.name]++XL t.x:=by
        have:(t.name==[])=false:=by assumption
        simp[CH,NN,show ¬t.kind=10 by assumption,this]
       rw[Fe,e];simp only[z1h,x8g,x8d,x8i,z3a];rfl)
  intro j n;have m:=q1q t n ha;conv=>whnf
  repeat' ((first|refine cP (PS _) ?_|(refine gX ?_;intros)|refine DY _ (by simp) (by have:=UW (t.args[j]'(by omega)).x;simp;omega) ?_|refine pS ?_|((first|apply bD|apply bB)<;>intro _<;>try omega))<;>conv=>whnf)
  all_goals first
   |exact⟨_,.hd rfl (by simp),by
      have:t.args.take j=t.args:=x9q (by omega);rw[VF,<-this];rfl⟩
   | (have o:j<t.args.length:=by omega
      have h:=Ed o;refine⟨j+1,by show j+1<=_;omega,by show t.args.length-(j+1)<t.args.length-j;omega,Le.of_eq ?_⟩;first
       | (have i:HK t.args[j]=[t.args[j].name]++XL t.args[j].x:=by rw[HK,show t.args[j].ref=true by assumption];rfl
          rw[Fe,h,i];simp only[x8d,x8i,x8g,<-x9u,<-z2r];rfl)
       | (have i:HK t.args[j]=XL t.args[j].x:=by rw[HK,show t.args[j].ref=false by assumption];rfl
          rw[Fe,h,i];simp only[x8d,x8i,x8g];rfl))
def q0c:List Str->Nat
 |[]=>0
 |s::r=>1+q0c r
mutual
def wX:X->Nat
 |.mk _ _ name kids=>1+wXs kids
def wXs:List X->Nat
 |[]=>0
 |x::r=>wX x+wXs r
end
def Wl:List Arg->Nat
 |[]=>0
 |a::r=>wX a.x+1+Wl r
mutual
def wS:S->Nat
 |.mk _ _ Z name C x _ args M V=>wX x+q0c Z+1+1+Wl args+wL M+wL V
def wL:List S->Nat
 |[]=>0
 |s::r=>wS s+wL r
end
def x3y:List Param->Nat
 |[]=>0
 |a::r=>1+x3y r
def wPr(f:Pr):Nat:=1+q0c f.zd+q0c f.fin+x3y f.B+wL f.body
def x0p:List Pr->Nat
 |[]=>0
 |f::r=>wPr f+x0p r
def wPg(p:Pg):Nat:=q0c p.F+x0p p.A
def Fit(p:Pg):Prop:=wPg p<=21000
theorem Pa:∀l:List Str,l.length<=q0c l
 |[]=>x8m _
 |s::r=>by have:=Pa r;simp only[x9s,q0c];omega
theorem PX:∀l:List Arg,l.length<=Wl l
 |[]=>x8m _
 |s::r=>by have:=PX r;simp only[x9s,Wl];omega
def AC(s:S):wS s=wX s.x+q0c s.Z+1+1+Wl s.args+wL s.M+wL s.V:=by
 cases s;rw[wS];rfl
mutual
theorem x0i:∀s:S,WS s<=wS s
 | .mk id kind Z name C x has args M V=>by
   have:=S8 M;have:=S8 V;rw[WS,wS];omega
theorem S8:∀l:List S,QY l<=wL l
 |[]=>by rw[QY,wL];exact x9z _
 | s::r=>by
   have:=x0i s;have:=S8 r;rw[QY,wL];omega
end
theorem q0h:∀{l:List Pr}{f:Pr},f∈l->wPr f<=x0p l
 | g::r,f,h=>by
   simp only[x0p];rcases x8r.1 h with rfl|h
   .omega
   .have:=q0h h;omega
theorem Fit.pr(h:Fit p)(i:f∈p.A):wPr f<=21000:=by
 have:=q0h i;unfold Fit wPg at h;omega
mutual
def flS:S->List S
 |.mk id kind Z name C x has args M V=>.mk id kind Z name C x has args M V::(flL M++flL V)
def flL:List S->List S
 |[]=>[]
 |s::r=>flS s++flL r
end
def x1k(s:S):flS s=s::(flL s.M++flL s.V):=by
 cases s;rw[flS];rfl
mutual
theorem q8q:∀s:S,(flS s).length=WS s
 | .mk id kind Z name C x has args M V=>by
   rw[flS,WS,x9s,x8d,J6 M,J6 V];omega
theorem J6:∀l:List S,(flL l).length=QY l
 |[]=>by rw[flL,QY];rfl
 |s::r=>by rw[flL,QY,x8d,q8q s,J6 r]
end
mutual
theorem x3m:∀(s t:S),t∈flS s->wS t<=wS s
 | .mk id kind Z name C x has args M V,t,h=>by
   rw[flS]at h;rcases x8r.1 h with rfl|h
   ·exact x9z _
   ·rw[wS];rcases x8e.1 h with h|h
    ·have:=T2 M t h;omega
    ·have:=T2 V t h;omega
theorem T2:∀(l:List S)(t:S),t∈flL l->wS t<=wL l
 |[],t,h=>by rw[flL]at h;cases h
 | s::r,t,h=>by
   rw[flL]at h;rw[wL];rcases x8e.1 h with h|h
   ·have:=x3m s t h;omega
   ·have:=T2 r t h;omega
end

mutual
def itS(C up nx loop:Int)(n:Nat):S->List Item
 | .mk id kind Z name pr x has args M V=>
   ⟨.mk id kind Z name pr x has args M V,C,up,nx,loop⟩::(itL C (n+1) (if kind=6 then n+1 else nx) (if kind=6 then n+1 else loop) (n+1) M ++
     itL C (n+1) (if kind=6 then n+1 else nx) (if kind=6 then n+1 else loop) (n+1+QY M) V)
def itL(C up nx loop:Int)(n:Nat):List S->List Item
 |[]=>[]
 |t::r=>itS C up (if r.isEmpty then nx else n+1+WS t) loop n t++itL C up nx loop (n+WS t) r
end
mutual
theorem q9k(C up nx loop:Int):∀(t:S)(acc:List Item),Y3 C up nx loop acc t=acc++itS C up nx loop acc.length t
 | .mk id kind Z name pr x has args M V,acc=>by
   rw[Y3,itS,Xm _ _ _ _ M,Xm _ _ _ _ V];simp only[x8d,x9s,z3j,x9u,List.cons_append,z3a,XO C _ _ _ _ M,z1h,z2r,z5v (QY M) 1]
theorem Xm(C up nx loop:Int):∀(l:List S)(acc:List Item),XB C up nx loop acc l=acc++itL C up nx loop acc.length l
 |[],acc=>by rw[XB,itL,x9c]
 | t::r,acc=>by
   rw[XB,itL,q9k _ _ _ _ t,Xm _ _ _ _ r];simp only[x8d,x9u,It C _ _ _ _ t]
theorem It(C up nx loop:Int)(n:Nat):∀t:S,(itS C up nx loop n t).length=WS t
 | .mk id kind Z name pr x has args M V=>by
   rw[itS,WS,x9s,x8d,XO _ _ _ _ _ M,XO _ _ _ _ _ V];omega
theorem XO(C up nx loop:Int)(n:Nat):∀l:List S,(itL C up nx loop n l).length=QY l
 |[]=>by rw[itL,QY];rfl
 |t::r=>by rw[itL,QY,x8d,It _ _ _ _ _ t,XO _ _ _ _ _ r]
end
mutual
theorem x3a(C up nx loop:Int)(n:Nat):∀t:S,(itS C up nx loop n t).map Item.s=flS t
 | .mk id kind Z name pr x has args M V=>by
   rw[itS,flS,x9f,x8i,W3 _ _ _ _ _ M,W3 _ _ _ _ _ V]
theorem W3(C up nx loop:Int)(n:Nat):∀l:List S,(itL C up nx loop n l).map Item.s=flL l
 |[]=>by rw[itL,flL];rfl
 |t::r=>by rw[itL,flL,x8i,x3a _ _ _ _ _ t,W3 _ _ _ _ _ r]
end
def QC:List Pr->Nat->Nat
 |_,0=>0
 |[],_+1=>0
 |f::r,i+1=>QY f.body+QC r i
theorem L7:∀(l:List Pr)(i:Nat)(acc:List Item)(lo hi:List Int),lo.length=i->hi.length=i->
  (Gc i acc lo hi l).2.1.length=i+l.length/\(Gc i acc lo hi l).2.2.length=i+l.length/\
  (∀k,k<i->(Gc i acc lo hi l).2.1[k]?=lo[k]? /\(Gc i acc lo hi l).2.2[k]?=hi[k]?)/\∃L,(Gc i acc lo hi l).1=acc++L/\L.length=cntP l/\
  ∀(k:Nat)(f:Pr),l[k]?=some f->(Gc i acc lo hi l).2.1[i+k]?=some ((acc.length+QC l k:Nat)+1:Int)/\(Gc i acc lo hi l).2.2[i+k]?=some ((acc.length+QC l k+QY f.body:Nat)+1:Int)/\
   QC l k+QY f.body<=cntP l/\(L.take (QC l k+QY f.body)).drop (QC l k)=itL (i+k:Nat) 0 (-1) 0 (acc.length+QC l k) f.body
 | [],i,acc,lo,hi,h1,h2=>by
   rw[Gc];exact⟨by simpa using h1,by simpa using h2,fun _ _=>⟨rfl,rfl⟩,[],by simp,rfl,fun k f h=>by simp at h⟩
 | f::r,i,acc,lo,hi,h1,h2=>by
   rw[Gc];have s:=Xm i 0 (-1) 0 f.body acc;have m:=XY i 0 (-1) 0 acc f.body;obtain⟨w,x,u,L,y,z,e⟩:=L7 r (i+1) (XB i 0 (-1) 0 acc f.body) (lo++[(acc.length:Int)+1]) (hi++[((XB i 0 (-1) 0 acc f.body).length:Int)+1]) (by simp[h1]) (by simp[h2]);refine⟨by rw[w,x9s];omega,by rw[x,x9s];omega,fun k A=>?_,itL i 0 (-1) 0 acc.length f.body++L,?_,?_,fun k g t=>?_⟩
   .obtain ⟨q,n⟩:=u k (by omega);rw[q,n,z0f (by omega),z0f (by omega)];exact⟨rfl,rfl⟩
   .rw [y,s,x9u]
   .rw [x8d,z,XO,cntP]
   .cases k with
    | zero=>
      simp only[z4m,z2f]at t;subst t;obtain⟨q,n⟩:=u i (by omega);simp only[z3q,QC,z1h,drop_zero];refine⟨?_,?_,?_,?_⟩
      .rw [q,z0j (by omega),h1];simp
      .rw [n,z0j (by omega),h2,m];simp
      .rw [cntP];omega
      .rw [List.take_append_of_le_length (by rw[XO];omega),x9q (by rw[XO];omega)]
    | succ k=>
      simp only[List.getElem?_cons_succ]at t;obtain⟨q,n,v,o⟩:=e k g t;rw[m]at o;simp only[QC];refine⟨?_,?_,?_,?_⟩
      .rw [show i+(k+1)=i+1+k by omega,q,m];congr 2;omega
      .rw [show i+(k+1)=i+1+k by omega,n,m];congr 2;omega
      .rw [cntP];omega
      .rw [List.take_append,List.drop_append,XO,x9q (by rw[XO];omega),x9v (by rw[XO];omega),z3a];simp only[XO];rw[show QY f.body+QC r k+QY g.body-QY f.body=QC r k+QY g.body by omega,show QY f.body+QC r k-QY f.body=QC r k by omega,o];rw[show i+(k+1)=i+1+k by omega,show acc.length+(QY f.body+QC r k)=acc.length+QY f.body+QC r k by omega]
def QU(p:Pg):(sheetOf p).p=p/\(sheetOf p).lo.length=p.A.length/\(sheetOf p).hi.length=p.A.length/\(sheetOf p).l.length=cntP p.A/\
  ∀(k:Nat)(f:Pr),p.A[k]?=some f->(sheetOf p).lo[k]?=some ((QC p.A k:Nat)+1:Int)/\(sheetOf p).hi[k]?=some ((QC p.A k+QY f.body:Nat)+1:Int)/\
   QC p.A k+QY f.body<=cntP p.A/\((sheetOf p).l.take (QC p.A k+QY f.body)).drop (QC p.A k)=itL k 0 (-1) 0 (QC p.A k) f.body:=by
 obtain⟨i,m,_,L,h,n,o⟩:=L7 p.A 0 [] [] [] rfl rfl;refine⟨rfl,by unfold sheetOf;simpa using i,by unfold sheetOf;simpa using m,by unfold sheetOf;simp[h,n],fun k f q=>?_⟩;have:=o k f q;unfold sheetOf;simp only[h,z3a,z3j,z1h]at this⊢;exact this
mutual
theorem Py(nest seen:Int):∀(s:S){m:Int},D3 nest seen s=some m->m=seen+WS s
 | .mk id kind Z name C x has args M V,m,h=>by
   simp only[D3]at h;split at h
   ·cases h
   split at h
   ·cases h
   cases hn:namesB Z<;>rw[hn]at h
   ·cases h
   cases hf:VV (.mk id kind Z name C x has args M V)<;>rw[hf]at h
   ·cases h
   simp only[x9y]at h;split at h
   ·rename_i m1 h1;have h2:=JM (nest+1) (seen+1) M h1;have h3:=JM (nest+1) m1 V h;rw[WS];omega
   ·cases h
theorem JM(nest seen:Int):∀(l:List S){m:Int},YE nest seen l=some m->m=seen+QY l
 | [],m,h=>by
   simp only[YE]at h;cases h;rw[QY];simp
 | s::r,m,h=>by
   simp only[YE]at h;split at h
   ·cases h
   split at h
   ·rename_i m1 h1;have h2:=Py nest seen s h1;have h3:=JM nest m1 r h;rw[QY];omega
   ·cases h
end
theorem Fr:∀(l:List Pr){seen m:Int},seen<=200->ZQ seen l=some m->m=seen+cntP l/\m<=200
 |[],seen,m,h0,h=>by rw[ZQ]at h;cases h;simp[cntP];exact h0
 | f::r,seen,m,h0,h=>by
   rw[ZQ]at h;cases n:GN f<;>rw[n]at h
   .cases h
   simp only[x9y]at h;split at h
   .rename_i t i;have o:=JM 1 seen f.body i;have q:=Kn 1 seen f.body h0 i;have s:=Fr r (by omega) h;rw[cntP];omega
   .cases h
def WE(h:KT p=true):p.F.length<=16/\p.A.length<=16/\cntP p.A<=200:=by
 unfold KT at h;simp only[x9w,z0w]at h;obtain⟨⟨⟨o,q⟩,_⟩,i⟩:=h;cases n:ZQ 0 p.A with
 |none=>rw[n]at i;cases i
 | some m=>
   have:=Fr p.A (by decide) n;omega
def Th(h:KT p=true)(i:f∈p.A):GN f=true:=by
 unfold KT at h;simp only[x9w]at h;have n:=h.2;have key:∀(l:List Pr)(seen:Int),(ZQ seen l).isSome=true->∀f∈l,GN f=true:=fun l=>by
  induction l with
  |nil=>intro _ _ f i;cases i
  | cons g r o=>
    intro seen h f i;rw[ZQ]at h;cases m:GN g<;>rw[m]at h
    .cases h
    simp only[x9y]at h;split at h
    .rename_i s q;rcases x8r.1 i with rfl|i
     .exact m
     .exact o _ h f i
    .cases h
 exact key _ _ n f i
def K2(p:Pg)(f:Pr)(name:Str):Int:=
 match f.B.find? (fun a=>a.name==name)with
 |some a=>bif a.ref then 3 else 2
 |none=>bif f.zd.any (fun s=>name==s)then 4 else bif p.F.any (fun s=>name==s)then 1 else 0
def Zi{l:List α}{p:α->Bool}(i:j<l.length)(h:p l[j]=false):(l.drop (j+1)).find? p=(l.drop j).find? p:=by
 rw[QD i,z3t,h]
def PH{l:List α}{p:α->Bool}(i:j<l.length)(h:p l[j]=true):(l.drop j).find? p=some l[j]:=by
 rw[QD i,z3t,h]
def PK{l:List α}{p:α->Bool}(h:l.length<=j):(l.drop j).find? p=none:=by
 rw[x9v h];rfl
def Ac(p:Pg)(f:Pr)(name:Str):aP 158 [.agg p.cells,.agg f.cells,.str name] (.int .i64 (K2 p f name)):=by
 refine sC Nv func158 ?_;conv=>whnf
 repeat' ((refine iM fun _=>?_)<;>conv=>whnf)
 have q:(f.B.map fun a=>AV.agg a.cells).length=f.B.length:=x8g _;refine lI (fun j:Nat=>⟨[(2,.p (.str name)),(3,.p (.ip p.cells)),(4,.p (.ip f.cells)),(10,.p (.sl (f.B.map fun a=>.agg a.cells))),(11,.p (.int .i64 (f.B.map fun a=>AV.agg a.cells).length)),(12,.j j)],[]⟩) (fun j=>j<=f.B.length/\(f.B.drop j).find? (fun a=>a.name==name)=f.B.find? (fun a=>a.name==name)) (fun j=>f.B.length-j) 0 ⟨x8m _,rfl⟩ ?_;rintro j ⟨n,h⟩;conv=>whnf
 repeat' ((first|refine cP (QZ _ _) ?_|(refine gX ?_;intros)|((first|apply bD|apply bB)<;>intro _<;>try omega))<;>conv=>whnf)
 all_goals try have o:j<f.B.length:=by omega
 all_goals first
  | (exfalso
     have m:((f.B[j]'(by omega)).name==name)=true:=by assumption
     have i:((f.B[j]'(by omega)).name==name)=false:=by assumption
     rw[m]at i;cases i)
  | (have e:=PH (p:=fun a:Param=>a.name==name) (by omega) (by assumption)
     rw[h]at e;exact RetK.int (by unfold K2;rw[e];simp[*]))
  |(refine nX (j+1) ⟨by omega,by rw[<-h,Zi (p:=fun a:Param=>a.name==name) (by omega) (by assumption)]⟩)
  | (have e:f.B.find? (fun a=>a.name==name)=none:=by rw[<-h,PK (by omega)]
     exact RetK.int (by unfold K2;rw[e];simp[*]))
def mainS:Str:=[109,97,105,110]
def GW(p:Pg)(f:Pr)(A:List Str)(t:S):Bool:=(VF t).all (fun n=> !(K2 p f n==0))&&(decide (t.kind≠4)||(!(t.C==mainS)&&A.any fun s=>t.C==s))
def Ta(p:Pg)(f:Pr)(A:List Str)(t:S)(ha:t.args.length<=21000):aP 97 [.agg p.cells,.agg f.cells,eStrs A,.agg t.cells] (.bool (GW p f A t)):=by
 refine sC Dm func97 ?_;conv=>whnf
 repeat' ((first|(refine iM fun _=>?_)|refine cP (Fx _ ha) ?_)<;>conv=>whnf)
 have o:((VF t).map AV.str).length=(VF t).length:=x8g _;refine lI (fun j:Nat=>⟨[(2,.p (eStrs A)),(4,.p (.ip p.cells)),(5,.p (.ip f.cells)),(7,.p (.ip t.cells)),(12,.p (eStrs (VF t))),(13,.p (.int .i64 ((VF t).map AV.str).length)),(14,.j j)],[]⟩) (fun j=>j<=(VF t).length/\((VF t).drop j).all (fun n=> !(K2 p f n==0))=(VF t).all (fun n=> !(K2 p f n==0))) (fun j=>(VF t).length-j) 0 ⟨x8m _,rfl⟩ ?_;rintro j ⟨m,h⟩;conv=>whnf
 repeat' ((first|refine cP (Ac _ _ _) ?_|refine cP (QZ _ _) ?_|(refine gX ?_;intros)|((first|apply bD|apply bE|apply bN)<;>intro _<;>try omega))<;>conv=>whnf)
 .exact RetK.ff (by
   have e:=V9 (p:=fun n=> !(K2 p f n==0)) (l:=VF t) (j:=j) (by omega) (by simp;assumption);rw[GW,<-h,e,Bool.false_and])
 .exact nX (j+1) ⟨by omega,by rw[<-h,HA (p:=fun n=> !(K2 p f n==0)) (by omega) (by simp;assumption)]⟩
 all_goals
  have e:(VF t).all (fun n=> !(K2 p f n==0))=true:=by rw[<-h,HC (by omega)]
 .exact RetK.ff (by
   have i:(t.C==mainS)=true:=by assumption
   rw[GW,e,i];simp[*])
 .exact RetK.bool (by
   have i:(t.C==mainS)=false:=by assumption
   rw[GW,e,i];simp[*])
 .exact RetK.tt (by rw[GW,e];simp[*])
def F0(c at_:Int):AV:=.agg [.int .i64 c,.int .i64 at_]
def QK(p:Pg):List Str:=p.A.map Pr.name
def VU(p:Pg):Bool:=UY p.F||(UY (QK p)||(!((QK p).any fun s=>mainS==s)||match p.A.find? (fun f=>mainS==f.name)with
 |some f=>decide (0<f.B.length)
 |none=>true))
def YK(p:Pg)(f:Pr):Option Int:=
 bif UY (Tm f)||(Tm f).any (fun n=>p.F.any fun s=>n==s)then some 0 else((flL f.body).find? fun t=> !GW p f (QK p) t).map S.id
def QO(p:Pg):Int×Int:=
 bif KT p then bif VU p then(5,0)else match p.A.findSome? (YK p)with
  |some a=>(5,a)
  |none=>(0,0)
 else(1,0)
def Sc{l:List α}{p:α->Bool}(h:l.any p=true):∃(k:Nat) (hk:k<l.length),idxF p l=k/\p l[k]=true/\l.find? p=some l[k]:=by
 have i:l.findIdx p<l.length:=by
  rw[List.findIdx_lt_length];exact z1b.1 h
 refine⟨l.findIdx p,i,by unfold idxF;rw[h];rfl,List.findIdx_getElem,?_⟩;rw[List.find?_eq_some_iff_getElem];exact⟨List.findIdx_getElem,l.findIdx p,i,rfl,fun j m=>by simpa using List.not_of_lt_findIdx m⟩
def SH(h:(QK p).any (fun s=>mainS==s)=true):∃(k:Nat) (m:k<p.A.length),idxF (fun s=>mainS==s) (QK p)=k/\p.A.find? (fun f=>mainS==f.name)=some p.A[k]:=by
 have i:p.A.any (fun f=>mainS==f.name)=true:=by simpa[QK,List.any_map,Function.comp_def]using h
 obtain⟨k,m,n,_,o⟩:=Sc i;refine⟨k,m,?_,o⟩;rw[<-n];unfold idxF;rw[h,i];simp[QK,List.findIdx_map,Function.comp_def]
def B3(p:Pg)(o:p.A[j]?=some f)(u:cntP p.A<=1000):aP 96 [.ip (sheetOf p).cells,.int .i64 j] (ZE (itL j 0 (-1) 0 (QC p.A j) f.body)):=by
 obtain⟨_,q,r,s,h⟩:=QU p;obtain⟨i,m,t,n⟩:=h j f o;have:=Qe (sheetOf p) j _ _ i m (by omega) (by omega) (by omega);rw[n]at this;exact this
def WY(l:List Item):(l.map fun i=>AV.agg i.cells).length=l.length:=x8g _
def J5{l:List α}{f:α->Option β}(i:j<l.length)(h:f l[j]=none):(l.drop (j+1)).findSome? f=(l.drop j).findSome? f:=by
 rw[QD i,List.findSome?_cons,h]
def UX{l:List α}{f:α->Option β}{b:β}(i:j<l.length)(h:f l[j]=some b):(l.drop j).findSome? f=some b:=by
 rw[QD i,List.findSome?_cons,h]
def Vj{l:List α}{f:α->Option β}(h:l.length<=j):(l.drop j).findSome? f=none:=by
 rw[x9v h];rfl
def PG{q:S->Bool}(l:List Item):(l.find? fun m=>q m.s).map (fun m=>m.s.id)=((l.map Item.s).find? q).map S.id:=by
 rw[List.find?_map];cases h:l.find? (q∘Item.s)with
 |none=>rw[show(l.find? fun m=>q m.s)=none from h];rfl
 |some i=>rw[show(l.find? fun m=>q m.s)=some i from h];rfl
def Ia{l:List Pr}(t:j<l.length)(h:wPr l[j]<=21000){b:Int}{n:Nat}(i:k<(itL a b c d n l[j].body).length):(itL a b c d n l[j].body)[k].s.args.length<=21000:=by
 have m:(itL a b c d n l[j].body)[k].s∈flL l[j].body:=by
  rw[<-W3 a b c d n];exact x8s.2 ⟨_,x8o i,rfl⟩
 have o:=T2 _ _ m;have q:=AC (itL a b c d n l[j].body)[k].s;have r:=PX (itL a b c d n l[j].body)[k].s.args;unfold wPr at h;omega
def QT{H:Heap}{b:Int}(h:a=c)(i:b=d):RetK H (.p (.agg [.int .i64 a,.int .i64 b])) (fun r=>r=F0 c d):=⟨_,.p (Sub.refl _),by rw[h,i];rfl⟩
def KP(p:Pg)(T:Fit p):aP 59 [.agg p.cells] (F0 (QO p).1 (QO p).2):=by
 refine sC Dn func59 ?_;conv=>whnf
 repeat' ((first|(refine gX ?_;intros)|refine cP (Cg _) ?_|(apply bN<;>intro _))<;>conv=>whnf)
 rotate_left 1
 .exact QT (by simp[QO, *]) (by simp[QO, *])
 have w:KT p=true:=by assumption
 obtain⟨hg,Y,R⟩:=WE w;have hl:(p.A.map fun f=>AV.agg f.cells).length=p.A.length:=x8g _;have V:(QK p).length=p.A.length:=by simp[QK]
 refine lJ (fun i:Nat×List Str=>⟨[(1,.p (.ip p.cells)),(2,.ptr 1 0),(3,.hd 0 0 i.2.length),(18,.p (.sl (p.A.map fun f=>.agg f.cells))),(19,.p (.int .i64 (p.A.map fun f=>AV.agg f.cells).length)),(20,.j i.1)],[(0,.own 9 1 (i.2.map .str)),(1,.obj 80 [.p (.int .i64 0),.j 0])]⟩) (fun i=>i.1<=p.A.length/\i.2=(QK p).take i.1) (fun i=>p.A.length-i.1) (0,[]) (lM [(0,.own 9 1 [])]) ⟨x8m _,by simp⟩ ?_;rintro⟨j,u⟩ ⟨I,v⟩;simp only at I v⊢;have Q:u.length<=16:=by rw[v];simp;omega
 conv=>whnf
 repeat' ((first|(refine gX ?_;intros)|refine pS ?_|(refine QR (WM u mainS) (.cons (.hd rfl (by simp)) (.cons (.p (Sub.refl _)) .nil)) (by rintro _ rfl;rfl) ?_;rintro _ rfl)|(refine QR (LK u) (.cons (.hd rfl (by simp)) .nil) (by rintro _ rfl;rfl) ?_;rintro _ rfl)|refine cP (LK _) ?_|((first|apply bD|apply bB)<;>intro _<;>try omega))<;>conv=>whnf)
 .exact ⟨(j+1,u++[p.A[j].name]),⟨by simp only;omega,by simp only;rw[v,x8c (by omega)];simp[QK]⟩,by simp only;omega,Le.of_eq (by simp only[x8d,x8i];rfl)⟩
 all_goals
  have g:u=QK p:=by rw[v,x9q (by omega)]
  clear v;subst g
 .have o:VU p=true:=by unfold VU;rw[show UY p.F=true by assumption];rfl
  exact QT (by unfold QO;rw[w,o];rfl) (by unfold QO;rw[w,o];rfl)
 .have o:VU p=true:=by unfold VU;rw[show UY p.F=false by assumption,show UY (QK p)=true by assumption];rfl
  exact QT (by unfold QO;rw[w,o];rfl) (by unfold QO;rw[w,o];rfl)
 .have h:((QK p).any fun s=>mainS==s)=false:=by
   rw[<-Jm];simp;omega
  have o:VU p=true:=by unfold VU;rw[show UY p.F=false by assumption,show UY (QK p)=false by assumption,h];rfl
  exact QT (by unfold QO;rw[w,o];rfl) (by unfold QO;rw[w,o];rfl)
 have h:((QK p).any fun s=>mainS==s)=true:=by
  rw[<-Jm];simp;omega
 obtain⟨k,x,D,m⟩:=SH h;have E:(p.A.map fun f=>AV.agg f.cells)[k]?=some (.agg p.A[k].cells):=by simp[x]
 have H:(p.A[k].B.map fun a=>AV.agg a.cells).length=p.A[k].B.length:=x8g _;refine IdxK.at D E rfl ?_;conv=>whnf
 repeat' ((first|(refine gX ?_;intros)|refine cP (JP p (by omega) (by omega)) ?_ (ha:=.cons (Sub.refl _) .nil)|(apply bD<;>intro _<;>try omega))<;>conv=>whnf)
 .have o:VU p=true:=by
   unfold VU;rw[show UY p.F=false by assumption,show UY (QK p)=false by assumption,h,m];have:0<p.A[k].B.length:=by omega
   simp[this]
  exact QT (by unfold QO;rw[w,o];rfl) (by unfold QO;rw[w,o];rfl)
 have o:VU p=false:=by
  unfold VU;rw[show UY p.F=false by assumption,show UY (QK p)=false by assumption,h,m];have:¬0<p.A[k].B.length:=by omega
  simp[this]
 have N:QO p=match p.A.findSome? (YK p)with
  |some a=>(5,a)
  |none=>(0,0):=by unfold QO;rw[w,o];rfl
 rw[N];refine lI (fun j:Nat=>⟨[(1,.p (.ip p.cells)),(2,.ptr 1 0),(3,.hd 0 0 (QK p).length),(7,.p (.ip (sheetOf p).cells)),(57,.p (.sl (p.A.map fun f=>.agg f.cells))),(58,.p (.int .i64 (p.A.map fun f=>AV.agg f.cells).length)),(59,.j j)],[(0,.own 9 1 ((QK p).map .str)),(1,.obj 80 [.p (.int .i64 0),.j 0])]⟩) (fun j=>j<=p.A.length/\(p.A.drop j).findSome? (YK p)=p.A.findSome? (YK p)) (fun j=>p.A.length-j) 0 ⟨x8m _,rfl⟩ ?_;clear I D m E H;rintro j ⟨I,v⟩;rcases x8a j p.A.length with q|q;rotate_left 1
 .have e:p.A.findSome? (YK p)=none:=by rw[<-v,Vj q]
  rw[e];conv=>whnf
  repeat' ((first|refine x9g rfl ?_|(apply bD<;>intro _<;>try omega))<;>conv=>whnf)
  exact QT rfl rfl
 have C:=T.pr (x8o q);have G:=KH.1 (Th w (x8o q));conv=>whnf
 repeat' ((first|(refine gX ?_;intros)|refine cP (LK _) ?_|refine cP (Of (p.A[j]'q) (by have:=G.1;omega) (by have:=G.2.1;omega)) ?_ (ha:=.cons (Sub.refl _) .nil)|refine cP (UH (Tm (p.A[j]'q)) 95 (.ip p.cells) (fun n=>p.F.any fun s=>n==s) (Ph p)) ?_|refine cP (B3 p (f:=p.A[j]'q) (by simp) (by omega)) ?_ (ha:=.cons (Sub.refl _) (.cons (Sub.refl _) .nil))|((first|apply bD|apply bB)<;>intro _<;>try omega))<;>conv=>whnf)
 .have e:YK p p.A[j]=some 0:=by
   unfold YK;rw[show UY (Tm p.A[j])=true by assumption];rfl
  have e2:=UX q e;rw[v]at e2;rw[e2];exact QT rfl rfl
 .have e:YK p p.A[j]=some 0:=by
   unfold YK;rw[show UY (Tm p.A[j])=false by assumption,show((Tm p.A[j]).any fun n=>p.F.any fun s=>n==s)=true by assumption];rfl
  have e2:=UX q e;rw[v]at e2;rw[e2];exact QT rfl rfl
 have r:YK p p.A[j]=((flL p.A[j].body).find? fun t=> !GW p p.A[j] (QK p) t).map S.id:=by
  unfold YK;rw[show UY (Tm p.A[j])=false by assumption,show((Tm p.A[j]).any fun n=>p.F.any fun s=>n==s)=false by assumption];rfl
 have y:∀k (x:k<(itL (j:Nat) 0 (-1) 0 (QC p.A j) p.A[j].body).length),(itL (j:Nat) 0 (-1) 0 (QC p.A j) p.A[j].body)[k].s.args.length<=21000:=fun k x=>Ia q C x;rw[<-W3 (j:Nat) 0 (-1) 0 (QC p.A j),<-PG]at r;have L:(itL (j:Nat) 0 (-1) 0 (QC p.A j) p.A[j].body).length<=21000:=by
  have:=S8 p.A[j].body;unfold wPr at C;rw[XO];omega
 generalize O:itL (j:Nat) 0 (-1) 0 (QC p.A j) p.A[j].body=its at r y L⊢;have U:=WY its;refine lI (fun k:Nat=>⟨[(1,.p (.ip p.cells)),(2,.ptr 1 0),(3,.hd 0 0 (QK p).length),(7,.p (.ip (sheetOf p).cells)),(9,.p (.ip (p.A[j]'q).cells)),(57,.p (.sl (p.A.map fun f=>.agg f.cells))),(58,.p (.int .i64 (p.A.map fun f=>AV.agg f.cells).length)),(59,.j j),(76,.p (ZE its)),(77,.p (.int .i64 (its.map fun i=>AV.agg i.cells).length)),(78,.j k)],[(0,.own 9 1 ((QK p).map .str)),(1,.obj 80 [.p (.int .i64 0),.j 0])]⟩) (fun k=>k<=its.length/\(its.drop k).find? (fun z=> !GW p p.A[j] (QK p) z.s)=its.find? fun z=> !GW p p.A[j] (QK p) z.s) (fun k=>its.length-k) 0 ⟨x8m _,rfl⟩ ?_;rintro k ⟨Z,J⟩;rcases x8a k its.length with x|x;rotate_left 1
 .rw [<-J,PK x]at r;conv=>whnf
  repeat' ((first|refine wI ?_|(apply bD<;>intro _<;>try omega))<;>conv=>whnf)
  exact nX (j+1) ⟨by omega,by rw[<-v,J5 q r]⟩
 have M:=y k x;conv=>whnf
 repeat' ((first|(refine gX ?_;intros)|(refine QR (Ta p p.A[j] (QK p) its[k].s M) (.cons (.p (Sub.refl _)) (.cons (.p (Sub.refl _)) (.cons (.hd rfl (by simp)) (.cons (.p (Sub.refl _)) .nil)))) (by rintro _ rfl;rfl) ?_;rintro _ rfl)|((first|apply bD|apply bN)<;>intro _<;>try omega))<;>conv=>whnf)
 .exact nX (k+1) ⟨by omega,by rw[<-J,Zi (p:=fun z:Item=> !GW p p.A[j] (QK p) z.s) x (by simp;assumption)]⟩
 .have P:=PH (p:=fun z:Item=> !GW p p.A[j] (QK p) z.s) x (by simp;assumption);rw[<-J,P]at r;have e2:=UX q r;rw[v]at e2;rw[e2];exact QT rfl rfl
def x0e:LV->Option Bool
 |.p .tt=>some true
 |.p .ff=>some false
 |.p (.bool b)=>some b
 |_=>none
def TE{σ:Mem}{β:Lab}{l:LV}{v:Value}(h:RepL σ β l v)(i:x0e l=some b):v=.bool b:=by
 cases h with
 |p h=>cases h<;>simp[x0e]at i<;>subst i<;>rfl
 |_=>simp[x0e]at i
def KE{P:Program}{T:Tab}{B:Bool}{s:St}{o:Oper}{K:LV->Prop}(hT:TabOK P T){t u:TypeId}{x y:Operand}(h:o.op=.binOp .neq t x y u){i:TyI}(C:T.get t=some i)(z:i.desc=.bool){a:Bool}(D:x0e (QP s.sl x)=some a)(E:x0e (QP s.sl y)=some b)(v:K (.p (.bool (a != b)))):ValO P B s o K:=by
 refine⟨fun σ β F w m _=>⟨_,.bool (a != b),v,.p (.bool _),fun w' _ _=>?_⟩⟩;have q:=TE (QX m x) D;have r:=TE (QX m y) E;have n:=hT.of C;rw[z]at n;have A:(eqGuard .neq t x y (.bool a) (.bool b)).run P w'=.ok () w':=by unfold eqGuard;rfl
 have g:(Op.equal t (.bool a) (.bool b)).run P w'=.ok (a==b) w':=by
  have e:Op.equal t (.bool a) (.bool b)=Op.equalIn (9999+1) t (.bool a) (.bool b):=rfl;rw[e,Op.equalIn,Sem.run_bind,run_underlying n,Result.andThen_ok];rfl
 simp only[execOp,h,q,r,Sem.run_bind,A,Result.andThen_ok,binOp];simp[g];cases a<;>cases b<;>rfl
def As(l:List Param)(args:List Arg):Bool:=decide (l.map Param.ref=args.map Arg.ref)
def CN(l:List Param)(args:List Arg):aP 159 [.sl (l.map fun a=>.agg a.cells),q1c args] (.bool (As l args)):=by
 refine sC N8 func159 ?_;conv=>whnf
 repeat' ((first|(refine iM fun _=>?_)|(apply bE<;>intro _<;>try omega))<;>conv=>whnf)
 all_goals
  have s:(l.map fun a=>AV.agg a.cells).length=l.length:=x8g _;have q:(args.map fun a=>AV.agg a.cells).length=args.length:=x8g _
 .have o:l.length=args.length:=by omega
  refine lI (fun j:Nat=>⟨[(1,.p (q1c args)),(12,.p (.sl (l.map fun a=>.agg a.cells))),(13,.p (.int .i64 (l.map fun a=>AV.agg a.cells).length)),(14,.j j)],[]⟩) (fun j=>j<=l.length/\(l.map Param.ref).take j=(args.map Arg.ref).take j) (fun j=>l.length-j) 0 ⟨x8m _,rfl⟩ ?_;rintro j ⟨r,m⟩;rcases x8a j l.length with n|n
  .conv=>whnf
   repeat' ((first|refine dA ?_|(refine gX ?_;intros)|refine KE XD rfl rfl rfl rfl rfl ?_|((first|apply bD|apply bE)<;>intro _<;>try omega))<;>conv=>whnf)
   .have h:l[j].ref=(args[j]'(by omega)).ref:=by assumption
    exact nX (j+1) ⟨by omega,by
     rw[x8c (by simp;omega),x8c (by simp;omega),m];simp[h]⟩
   .have h:¬l[j].ref=(args[j]'(by omega)).ref:=by assumption
    exact RetK.ff (by
     unfold As;rw[z1r];intro i;have:(l.map Param.ref)[j]?=(args.map Arg.ref)[j]?:=by rw[i]
     rw[x8n,x8n,x8h n,x8h (by omega)]at this;simp at this;exact h this)
  .conv=>whnf
   repeat' (apply bD<;>intro _<;>first|omega|conv=>whnf)
   exact RetK.tt (by
    unfold As;rw[z0w]
    rwa[x9q (by simp;omega),x9q (by simp;omega)]at m)
 .exact RetK.ff (by
   unfold As;rw[z1r];intro i;have:=z0o List.length i;simp at this;omega)
def DA(p:Pg)(s:S):Bool:=decide (s.kind=4)&&match p.A.find? (fun f=>f.name==s.C)with
 |some f=>As f.B s.args
 |none=>false
def CP(p:Pg)(s:S):aP 98 [.agg p.cells,.agg s.cells] (.bool (DA p s)):=by
 refine sC N7 func98 ?_;conv=>whnf
 repeat' ((first|(refine iM fun _=>?_)|(apply bE<;>intro _<;>try omega))<;>conv=>whnf)
 .have m:(p.A.map fun f=>AV.agg f.cells).length=p.A.length:=x8g _;refine lI (fun j:Nat=>⟨[(3,.p (.ip s.cells)),(11,.p (.sl (p.A.map fun f=>.agg f.cells))),(12,.p (.int .i64 (p.A.map fun f=>AV.agg f.cells).length)),(13,.j j)],[]⟩) (fun j=>j<=p.A.length/\(p.A.drop j).find? (fun f=>f.name==s.C)=p.A.find? (fun f=>f.name==s.C)) (fun j=>p.A.length-j) 0 ⟨x8m _,rfl⟩ ?_;rintro j ⟨i,h⟩;conv=>whnf
  repeat' ((first|refine cP (CN _ _) ?_|(refine gX ?_;intros)|((first|apply bD|apply bB)<;>intro _<;>try omega))<;>conv=>whnf)
  .have e:=PH (p:=fun f:Pr=>f.name==s.C) (l:=p.A) (j:=j) (by omega) (by assumption);rw[h]at e;exact RetK.bool (by unfold DA;rw[e];simp[*])
  .exact nX (j+1) ⟨by omega,by rw[<-h,Zi (p:=fun f:Pr=>f.name==s.C) (by omega) (by assumption)]⟩
  .have e:p.A.find? (fun f=>f.name==s.C)=none:=by rw[<-h,PK (by omega)]
   exact RetK.ff (by unfold DA;rw[e];simp)
 .exact RetK.ff (by unfold DA;simp[*])
def UD(p:Pg):List S:=p.A.flatMap fun f=>flL f.body
theorem q6b:∀(l:List Pr)(i:Nat)(acc:List Item)(lo hi:List Int),(Gc i acc lo hi l).1.map Item.s=acc.map Item.s++l.flatMap fun f=>flL f.body
 |[],i,acc,lo,hi=>by rw[Gc];simp
 | f::r,i,acc,lo,hi=>by
   rw[Gc,q6b r,Xm,x8i,W3,z0e,x9u]
def YG(p:Pg):(sheetOf p).l.map Item.s=UD p:=by
 have:=q6b p.A 0 [] [] [];unfold sheetOf UD;simpa using this
def Wg(o:Fit p)(q:k<(sheetOf p).l.length):wS (sheetOf p).l[k].s<=21000:=by
 have h:(sheetOf p).l[k].s∈UD p:=by
  rw[<-YG];exact x8s.2 ⟨_,x8o q,rfl⟩
 unfold UD at h;obtain⟨f,i,m⟩:=x9m.1 h;have r:=T2 _ _ m;have n:=o.pr i;unfold wPr at n;omega
def YM(p:Pg):Int×Int:=
 if(QO p).1≠0 then(1,0)else match(UD p).find? fun t=>decide (t.kind=4) && !DA p t with
  |some t=>(6,t.id)
  |none=>(0,0)
def JL(h:(QO p).1=0):KT p=true/\VU p=false/\p.A.findSome? (YK p)=none:=by
 unfold QO at h;cases m:KT p<;>rw[m]at h
 .cases h
 cases i:VU p<;>rw[i]at h
 .refine ⟨rfl,rfl,?_⟩;simp only[x9y,x9p]at h;split at h
  .cases h
  .assumption
 .cases h
def Ym(p:Pg)(x:Fit p):aP 60 [.agg p.cells] (F0 (YM p).1 (YM p).2):=by
 refine sC Dh func60 ?_;conv=>whnf
 repeat' ((first|refine cP (KP p x) ?_|refine x9g rfl ?_|(apply bE<;>intro _<;>try omega))<;>conv=>whnf)
 rotate_left 1
 .have e:YM p=(1,0):=by unfold YM;rw[if_pos (by assumption)]
  exact QT (by rw[e]) (by rw[e])
 have C:(QO p).1=0:=by assumption
 obtain⟨g,E,A⟩:=JL C;obtain⟨F,B,w⟩:=WE g;have v:YM p=match(UD p).find? fun t=>decide (t.kind=4) && !DA p t with
  |some t=>(6,t.id)
  |none=>(0,0):=by unfold YM;rw[if_neg (by omega)]
 repeat' ((first|(refine iM fun _=>?_)|refine cP (JP p (by omega) (by omega)) ?_ (ha:=.cons (Sub.refl _) .nil))<;>conv=>whnf)
 have z:=WY (sheetOf p).l;have y:(sheetOf p).l.length<=200:=by have:=(QU p).2.2.2.1;omega
 have m:=PG (q:=fun t=>decide (t.kind=4) && !DA p t) (sheetOf p).l;rw[YG]at m;have r:YM p=match((sheetOf p).l.find? fun h=>decide (h.s.kind=4) && !DA p h.s).map (fun h=>h.s.id)with
  |some a=>(6,a)
  |none=>(0,0):=by
  rw[v,m];cases(UD p).find? fun t=>decide (t.kind=4) && !DA p t<;>rfl
 rw[r];refine lI (fun k:Nat=>⟨[(1,.p (.ip p.cells)),(2,.ptr 1 0),(14,.p (ZE (sheetOf p).l)),(15,.p (.int .i64 ((sheetOf p).l.map fun i=>AV.agg i.cells).length)),(16,.j k)],[(1,.obj 80 [.p (.int .i64 0),.j 0])]⟩) (fun k=>k<=(sheetOf p).l.length/\((sheetOf p).l.drop k).find? (fun h=>decide (h.s.kind=4) && !DA p h.s)=(sheetOf p).l.find? fun h=>decide (h.s.kind=4) && !DA p h.s) (fun k=>(sheetOf p).l.length-k) 0 ⟨x8m _,rfl⟩ ?_;rintro k ⟨D,o⟩;rcases x8a k (sheetOf p).l.length with n|n;rotate_left 1
 .rw [<-o,PK n];conv=>whnf
  repeat' ((first|refine x9g rfl ?_|(apply bD<;>intro _<;>try omega))<;>conv=>whnf)
  exact QT rfl rfl
 conv=>whnf
 repeat' ((first|refine cP (CP _ _) ?_|(refine gX ?_;intros)|((first|apply bD|apply bN)<;>intro _<;>try omega))<;>conv=>whnf)
 all_goals first
  | (have u:=PH (p:=fun h:Item=>decide (h.s.kind=4) && !DA p h.s) n (by simp[*])
     rw[<-o,u];exact QT rfl rfl)
  |exact nX (k+1) ⟨by omega,by rw[<-o,Zi (p:=fun h:Item=>decide (h.s.kind=4) && !DA p h.s) n (by simp[*])]⟩
def KJ:List Str->List Str->Option (List Str)
 |seen,[]=>some seen
 |seen,n::r=>bif seen.any (fun s=>n==s)then none else KJ (seen++[n]) r
def q2a(i:j<l.length)(h:(seen.any fun s=>l[j]==s)=true):KJ seen (l.drop j)=none:=by
 rw[QD i,KJ,h];rfl
def Ii(i:j<l.length)(h:(seen.any fun s=>l[j]==s)=false):KJ seen (l.drop j)=KJ (seen++[l[j]]) (l.drop (j+1)):=by
 rw[QD i,KJ,h];rfl
theorem Mc:∀{l seen out:List Str},KJ seen l=some out->out=seen++l
 |[],seen,out,h=>by rw[KJ]at h;cases h;simp
 | n::r,seen,out,h=>by
   rw[KJ]at h;cases i:(seen.any fun s=>n==s)<;>rw[i]at h
   .have:=Mc h;simpa using this
   .cases h
def Io(t:Nat)(seen l:List Str)(r:LV)(H:Heap):Prop:=
 match KJ seen l with
 |some out=>r=.tup [.hd 2000 0 out.length,.p .tt]/\H=E3 t out
 |none=>∃out,r=.tup [.hd 2000 0 out.length,.p .ff]/\H=E3 t out
def Je{t:Nat}{Q:LV->Heap->Prop}(m:KJ seen l=some (seen++l)->Q (.tup [.hd 2000 0 (seen++l).length,.p .tt]) (E3 t (seen++l)))(n:KJ seen l=none->∀out,Q (.tup [.hd 2000 0 out.length,.p .ff]) (E3 t out)):∀l' H',Io t seen l l' H'->Q l' H':=by
 intro l' H' h;unfold Io at h;cases i:KJ seen l with
 | some out=>
   rw[i]at h;obtain⟨rfl,rfl⟩:=h;have:=Mc i;subst this;exact m i
 | none=>
   rw[i]at h;obtain⟨out,rfl,rfl⟩:=h;exact n i out
def Ma(seen l:List Str)(o:seen.length+l.length<=1000000000):
  SpecH prog 100 [.hd 2000 0 seen.length,.p (eStrs l)] (E3 9 seen) (Io 9 seen l):=by
 refine sK RK func100 ?_;conv=>whnf
 repeat' ((refine iM fun _=>?_)<;>conv=>whnf)
 have s:(l.map AV.str).length=l.length:=x8g _;refine lI (fun i:Nat×List Str=>⟨[(0,.hd 2000 0 i.2.length),(8,.p (eStrs l)),(9,.p (.int .i64 (l.map AV.str).length)),(10,.j i.1)],E3 9 i.2⟩) (fun i=>i.1<=l.length/\i.2.length+(l.length-i.1)=seen.length+l.length/\KJ i.2 (l.drop i.1)=KJ seen l) (fun i=>l.length-i.1) (0,seen) ⟨x8m _,by simp,rfl⟩ ?_;rintro⟨j,h⟩ ⟨q,r,m⟩;simp only at q r m⊢;rcases x8a j l.length with n|n
 .conv=>whnf
  repeat' ((first|(refine gX ?_;intros)|(refine QR (QZ h (l[j]'n)) (.cons (.hd rfl (by simp)) (.cons (.p (Sub.refl _)) .nil)) (by rintro _ rfl;rfl) ?_;rintro _ rfl)|refine pS ?_|((first|apply bD|apply bB)<;>intro _<;>try omega))<;>conv=>whnf)
  .exact ⟨_,.refl _,by unfold Io;rw[<-m,q2a n (by assumption)];exact⟨h,rfl,rfl⟩⟩
  .exact ⟨(j+1,h++[l[j]]),⟨by simp only;omega,by simp;omega,by simp only;rw[<-m,Ii n (by assumption)]⟩,by simp only;omega,Le.of_eq (by simp only[E3,x8d,x8i];rfl)⟩
 .conv=>whnf
  repeat' (apply bD<;>intro _<;>first|omega|conv=>whnf)
  rw[x9v n,KJ]at m;exact⟨_,.refl _,by unfold Io;rw[<-m];exact⟨rfl,rfl⟩⟩
def atB(f:Pr)(h:Str):Int×Bool:=
 match(flL f.body).find? fun t=>t.Z.any fun s=>h==s with
 |some t=>(t.id,true)
 |none=>bif f.fin.any fun s=>h==s then(-1,true)else(0,false)
theorem RetK.tup2{H:Heap}{k:IntKind}{m n:Int}{x:AV}(h:m=n)(i:Sub x (.bool b)):RetK H (.p (.tup [.int k m,x])) (fun r=>r=.tup [.int k n,.bool b]):=
 ⟨_,.p (Sub.tup (SubL.cons (Sub.int h) (SubL.cons i SubL.nil))),rfl⟩
def Qa(p:Pg)(j:Nat)(f:Pr)(w:p.A[j]?=some f)(e:cntP p.A<=1000)(h:Str):aP 160 [.ip (sheetOf p).cells,.int .i64 j,.str h] (.tup [.int .i64 (atB f h).1,.bool (atB f h).2]):=by
 refine sC Y7 func160 ?_;conv=>whnf
 repeat' ((first|(refine iM fun _=>?_)|refine cP (B3 p w e) ?_)<;>conv=>whnf)
 have n:=PG (q:=fun t=>t.Z.any fun s=>h==s) (itL (j:Nat) 0 (-1) 0 (QC p.A j) f.body);rw[W3]at n;have v:(itL (j:Nat) 0 (-1) 0 (QC p.A j) f.body).length<=1000:=by
  have:=(QU p).2.2.2.2 j f w;rw[XO];omega
 generalize y:itL (j:Nat) 0 (-1) 0 (QC p.A j) f.body=its at n v⊢;have g:=WY its;have u:atB f h=match(its.find? fun m=>m.s.Z.any fun s=>h==s).map (fun m=>m.s.id)with
  |some a=>(a,true)
  |none=>bif f.fin.any fun s=>h==s then(-1,true)else(0,false):=by
  unfold atB;rw[n];cases(flL f.body).find? fun t=>t.Z.any fun s=>h==s<;>rfl
 rw[u];refine lI (fun k:Nat=>⟨[(0,.p (.ip (sheetOf p).cells)),(1,.j j),(2,.p (.str h)),(12,.p (ZE its)),(13,.p (.int .i64 (its.map fun i=>AV.agg i.cells).length)),(14,.j k)],[]⟩) (fun k=>k<=its.length/\(its.drop k).find? (fun m=>m.s.Z.any fun s=>h==s)=its.find? fun m=>m.s.Z.any fun s=>h==s) (fun k=>its.length-k) 0 ⟨x8m _,rfl⟩ ?_;rintro k ⟨B,r⟩;rcases x8a k its.length with o|o
 .conv=>whnf
  repeat' ((first|refine cP (QZ _ _) ?_|(refine gX ?_;intros)|((first|apply bD|apply bB)<;>intro _<;>try omega))<;>conv=>whnf)
  .have z:=PH (p:=fun m:Item=>m.s.Z.any fun s=>h==s) o (by assumption);rw[<-r,z];exact RetK.tup2 rfl (Sub.tt rfl)
  .exact nX (k+1) ⟨by omega,by rw[<-r,Zi (p:=fun m:Item=>m.s.Z.any fun s=>h==s) o (by assumption)]⟩
 .rw [<-r,PK o];have x:(p.A.map fun f=>AV.agg f.cells)[j]?=some (.agg f.cells):=by simp[w]
  conv=>whnf
  repeat' ((first|refine cP (QZ _ _) ?_|refine iT x ?_|((first|apply bD|apply bB)<;>intro _<;>try omega))<;>conv=>whnf)
  .exact RetK.tup2 (by simp[*]) (Sub.tt (by simp[*]))
  .exact RetK.tup2 (by simp[*]) (Sub.ff (by simp[*]))
def GV(f:Pr)(h:Item):Bool:=if h.s.kind=7\/h.s.kind=8 then !(h.loop==0)else if h.s.kind=10 then(atB f h.s.name).2 else true
def A6(p:Pg)(j:Nat)(f:Pr)(m:p.A[j]?=some f)(i:cntP p.A<=1000)(h:Item)(n:h.C=j):aP 101 [.ip (sheetOf p).cells,.agg h.cells] (.bool (GV f h)):=by
 refine sC Nz func101 ?_;conv=>whnf
 repeat' ((first|refine cP (Qa p j f m i h.s.name) ?_ (ha:=.cons (Sub.refl _) (.cons (Sub.int n) (.cons (Sub.refl _) .nil)))|(apply bD<;>intro _<;>try omega))<;>conv=>whnf)
 all_goals first
  |exact RetK.bool (by simp[GV, *];rfl)
  |exact RetK.bool (by simp[GV, *])
  |exact RetK.tt (by simp[GV, *])
def A7(p:Pg)(m:Fit p)(h:(QO p).1=0):aP 99 [.agg p.cells] (.ip (sheetOf p).cells):=by
 refine sC V4 func99 ?_;conv=>whnf
 obtain⟨n,r,o⟩:=JL h;obtain⟨s,q,i⟩:=WE n;repeat' ((first|refine cP (KP p m) ?_|refine cP (JP p (by omega) (by omega)) ?_ (ha:=.cons (Sub.refl _) .nil)|(apply bE<;>intro _<;>try omega))<;>conv=>whnf)
 exact RetK.p rfl
def Ba(p:Pg)(i:Fit p)(h:(QO p).1≠0):aP 99 [.agg p.cells] .nilp:=by
 refine sC V4 func99 ?_;conv=>whnf
 repeat' ((first|refine cP (KP p i) ?_|(apply bE<;>intro _<;>try omega))<;>conv=>whnf)
 exact RetK.p rfl
mutual
theorem q2c(C up nx loop:Int)(n:Nat):∀(t:S)(it:Item),it∈itS C up nx loop n t->it.C=C
 | .mk id kind Z name pr x has args M V,it,h=>by
   rw[itS]at h;rcases x8r.1 h with rfl|h
   ·rfl
   ·rcases x8e.1 h with h|h
    ·exact GX _ _ _ _ _ M it h
    ·exact GX _ _ _ _ _ V it h
theorem GX(C up nx loop:Int)(n:Nat):∀(l:List S)(it:Item),it∈itL C up nx loop n l->it.C=C
 |[],it,h=>by rw[itL]at h;cases h
 | t::r,it,h=>by
   rw[itL]at h;rcases x8e.1 h with h|h
   ·exact q2c _ _ _ _ _ t it h
   ·exact GX _ _ _ _ _ r it h
end
def NG(f:Pr):List Item->List Str->Except Int (List Str)
 |[],seen=>.ok seen
 | it::r,seen=>match KJ seen it.s.Z with
   |none=>.error it.s.id
   |some s=>bif GV f it then NG f r s else .error it.s.id
def GZ(p:Pg)(j:Nat):Option Int:=
 match p.A[j]?with
 |none=>none
 | some f=>match NG f (itL (j:Nat) 0 (-1) 0 (QC p.A j) f.body) []with
   |.error id=>some id
   | .ok seen=>match KJ seen f.fin with
     |none=>some 0
     |some _=>none
def Uw(p:Pg):Int×Int:=
 if(QO p).1≠0 then(1,0)else match(List.range p.A.length).findSome? (GZ p)with
  |some a=>(7,a)
  |none=>(0,0)
def q2e(i:k<its.length)(h:KJ seen its[k].s.Z=none):NG f (its.drop k) seen=.error its[k].s.id:=by
 rw[QD i,NG,h]
def IX{s:List Str}(i:k<its.length)(h:KJ seen its[k].s.Z=some s)(m:GV f its[k]=false):NG f (its.drop k) seen=.error its[k].s.id:=by
 rw[QD i,NG,h];simp only[m,x9p]
def IZ{s:List Str}(i:k<its.length)(h:KJ seen its[k].s.Z=some s)(m:GV f its[k]=true):NG f (its.drop k) seen=NG f (its.drop (k+1)) s:=by
 rw[QD i,NG,h];simp only[m,x9y]
def Tw{l:List Pr}(t:j<l.length)(h:wPr l[j]<=21000){b:Int}{n:Nat}(i:k<(itL a b c d n l[j].body).length):(itL a b c d n l[j].body)[k].s.Z.length<=21000:=by
 have m:(itL a b c d n l[j].body)[k].s∈flL l[j].body:=by
  rw[<-W3 a b c d n];exact x8s.2 ⟨_,x8o i,rfl⟩
 have o:=T2 _ _ m;have q:=AC (itL a b c d n l[j].body)[k].s;have r:=Pa (itL a b c d n l[j].body)[k].s.Z;unfold wPr at h;omega
def A5(p:Pg)(B:Fit p):aP 61 [.agg p.cells] (F0 (Uw p).1 (Uw p).2):=by
 refine sC Nx func61 ?_;conv=>whnf
 rcases Decidable.em ((QO p).1=0)with g|g;rotate_left 1
 ·
  repeat' ((first|refine cP (Ba p B g) ?_|refine x9g rfl ?_)<;>conv=>whnf)
  have e:Uw p=(1,0):=by unfold Uw;rw[if_pos g]
  exact QT (by rw[e]) (by rw[e])
 obtain⟨N,R,O⟩:=JL g;obtain⟨T,P,J⟩:=WE N;have I:Uw p=match(List.range p.A.length).findSome? (GZ p)with
  |some a=>(7,a)
  |none=>(0,0):=by unfold Uw;rw[if_neg (by omega)]
 rw[I];have U:(p.A.map fun f=>AV.agg f.cells).length=p.A.length:=x8g _;repeat' ((first|(refine iM fun _=>?_)|refine cP (A7 p B g) ?_)<;>conv=>whnf)
 refine lI (fun j:Nat=>⟨[(2,.ptr 1 0),(3,.p (.ip (sheetOf p).cells)),(16,.p (.sl (p.A.map fun f=>.agg f.cells))),(17,.p (.int .i64 (p.A.map fun f=>AV.agg f.cells).length)),(18,.j j)],[(1,.obj 80 [.p (.int .i64 0),.j 0])]⟩) (fun j=>j<=p.A.length/\((List.range p.A.length).drop j).findSome? (GZ p)=(List.range p.A.length).findSome? (GZ p)) (fun j=>p.A.length-j) 0 ⟨x8m _,rfl⟩ ?_;rintro j ⟨Q,y⟩;rcases x8a j p.A.length with t|t;rotate_left 1
 .have e:(List.range p.A.length).findSome? (GZ p)=none:=by rw[<-y,Vj (by simpa using t)]
  rw[e];conv=>whnf
  repeat' ((first|refine x9g rfl ?_|(apply bD<;>intro _<;>try omega))<;>conv=>whnf)
  exact QT rfl rfl
 have z:=B.pr (x8o t);have o:j<(List.range p.A.length).length:=by simpa using t
 have r:(List.range p.A.length)[j]=j:=by simp
 have q:p.A[j]?=some p.A[j]:=by simp[t]
 conv=>whnf
 repeat' ((first|(refine gX ?_;intros)|refine cP (B3 p (f:=p.A[j]'t) q (by omega)) ?_ (ha:=.cons (Sub.refl _) (.cons (Sub.refl _) .nil))|(apply bD<;>intro _<;>try omega))<;>conv=>whnf)
 have u:∀k (n:k<(itL (j:Nat) 0 (-1) 0 (QC p.A j) p.A[j].body).length),(itL (j:Nat) 0 (-1) 0 (QC p.A j) p.A[j].body)[k].s.Z.length<=21000:=fun k n=>Tw t z n;have v:∀k (n:k<(itL (j:Nat) 0 (-1) 0 (QC p.A j) p.A[j].body).length),(itL (j:Nat) 0 (-1) 0 (QC p.A j) p.A[j].body)[k].C=j:=fun k n=>GX _ _ _ _ _ _ _ (x8o n);have D:(itL (j:Nat) 0 (-1) 0 (QC p.A j) p.A[j].body).length<=200:=by
  have:=(QU p).2.2.2.2 j _ q;rw[XO];omega
 have h:GZ p j=match NG p.A[j] (itL (j:Nat) 0 (-1) 0 (QC p.A j) p.A[j].body) []with
  |.error id=>some id
  | .ok seen=>match KJ seen p.A[j].fin with
    |none=>some 0
    |some _=>none:=by
  unfold GZ;rw[q]
 generalize F:itL (j:Nat) 0 (-1) 0 (QC p.A j) p.A[j].body=its at u v D h⊢;have L:=WY its;refine lJ (fun i:Nat×List Str=>⟨[(2,.ptr 1 0),(3,.p (.ip (sheetOf p).cells)),(5,.p (.ip (p.A[j]'t).cells)),(6,.hd 0 0 i.2.length),(16,.p (.sl (p.A.map fun f=>.agg f.cells))),(17,.p (.int .i64 (p.A.map fun f=>AV.agg f.cells).length)),(18,.j j),(25,.p (ZE its)),(26,.p (.int .i64 (its.map fun i=>AV.agg i.cells).length)),(27,.j i.1)],[(0,.own 9 1 (i.2.map .str)),(1,.obj 80 [.p (.int .i64 0),.j 0])]⟩) (fun i=>i.1<=its.length/\i.2.length<=21000*i.1/\NG p.A[j] (its.drop i.1) i.2=NG p.A[j] its []) (fun i=>its.length-i.1) (0,[]) (lM [(0,.own 9 1 [])]) ⟨x8m _,by simp,rfl⟩ ?_;rintro⟨k,w⟩ ⟨G,H,x⟩;simp only at G H x⊢;rcases x8a k its.length with n|n
 .have M:=u k n;conv=>whnf
  repeat' ((first|(refine gX ?_;intros)|refine cP (A6 p j p.A[j] q (by omega) its[k] (v k n)) ?_ (ha:=.cons (Sub.refl _) (.cons (Sub.refl _) .nil))|((first|apply bD|apply bN)<;>intro _<;>try omega)|(refine CallK.heap [(2000,0)] 0 (by repeat' (first|exact z1y|refine x9d ?_ ?_|exact x9j _|exact z3x Sub.nils|exact z3x (Sub.tt rfl)|exact z3x (Sub.ff rfl)|exact z3x (Sub.int (by omega)))) (by refine x9b (j:=0) rfl rfl ?_ ?_;exact CSub.refl _;exact z0r) (Ma w its[k].s.Z (by omega)) rfl rfl (Je (fun m=>?_) (fun m out=>?_))))<;>conv=>whnf)
  .exact nX (k+1,w++its[k].s.Z) ⟨by simp only;omega,by simp;omega,by simp only;rw[<-x,IZ n m (by assumption)]⟩
  .rw [<-x,IX n m (by assumption)]at h;have e2:=UX (f:=GZ p) o (by rw[r];exact h);rw[y]at e2;rw[e2];exact QT rfl rfl
  .rw [<-x,q2e n m]at h;have e2:=UX (f:=GZ p) o (by rw[r];exact h);rw[y]at e2;rw[e2];exact QT rfl rfl
 .have E:p.A[j].fin.length<=21000:=by
   have:=Pa p.A[j].fin;unfold wPr at z;omega
  rw[x9v n,NG]at x;rw[<-x]at h;simp only at h;conv=>whnf
  repeat' ((first|refine gX ?_|(apply bD<;>intro _<;>try omega)|(refine CallK.heap [(2000,0)] 0 (by repeat' (first|exact z1y|refine x9d ?_ ?_|exact x9j _|exact z3x Sub.nils|exact z3x (Sub.tt rfl)|exact z3x (Sub.ff rfl)|exact z3x (Sub.int (by omega)))) (by refine x9b (j:=0) rfl rfl ?_ ?_;exact CSub.refl _;exact z0r) (Ma w p.A[j].fin (by omega)) rfl rfl (Je (fun m=>?_) (fun m out=>?_))))<;>conv=>whnf)
  .rw [m]at h;exact nX (j+1) ⟨by omega,by rw[<-y,J5 (f:=GZ p) o (by rw[r];exact h)]⟩
  .rw [m]at h;have e2:=UX (f:=GZ p) o (by rw[r];exact h);rw[y]at e2;rw[e2];exact QT rfl rfl
theorem BsK.pureL{sz:Nat}{out:List LV}{i m:Prop}(r:(es.all fun x=>x.cells.length==sz)=true)(q:out=(es.flatMap AV.cells).map .p)(o:i):BsK es sz out i m:=.pure (fun x h=>by simpa using z0k.1 r x h) q o
end Go.Ab
