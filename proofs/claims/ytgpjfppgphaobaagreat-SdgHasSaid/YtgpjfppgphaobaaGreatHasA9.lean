/- tree, flat, scope: the names of an expression, of a statement; what a name is. -/
import Derived.Test.YtgpjfppgphaobaaGreatHasA8
set_option linter.all false
set_option maxRecDepth 100000
set_option maxHeartbeats 16000000
open List (drop_zero)
namespace Go.Ab
open Go.Proofs.Tryz
open Go.Proofs
variable {α β:Type}{K:Prop}{a c d:Int}{b:Bool}{es:List AV}{f:Pr}{its:List Item}{j k:Nat}{l seen:List Str}{p:Pg}
def HK{n:Nat}(xs:List Str)(h:n=es.length)(o:es.length+xs.length<=8796093022208)(i:K):AppK es (xs.map .str) n (xs.map AV.str).length 1 16 K:=
 .mk h rfl (by rw[h];simp;omega) (by rw[h];simp[maxLen];omega) (fun x m=>by obtain⟨y,_,rfl⟩:=x1r.1 m;exact⟨rfl,rfl⟩) i
def ZE{n:Nat}{s:Str}(i:n=es.length)(o:es.length<=8796093022000)(h:K):AppK es [.str s] n 1 1 16 K:=
 .mk i rfl (by omega) (by simp only[maxLen];omega) (fun x m=>by rcases x1n.1 m with rfl;exact⟨rfl,rfl⟩) h
def PT{n:Nat}{s:Int}(i:n=es.length)(o:es.length<=8796093022000)(h:K):AppK es [.int .i64 s] n 1 1 8 K:=
 .mk i rfl (by omega) (by simp only[maxLen];omega) (fun x m=>by rcases x1n.1 m with rfl;exact⟨rfl,rfl⟩) h
mutual
def Dt:X->List Str->List Str
 |.mk op _ name kids,out=>HC kids (if op=2/\(out.any fun s=>name==s)=false then out++[name]else out)
def HC:List X->List Str->List Str
 |[],out=>out
 |x::r,out=>HC r (Dt x out)
end
def Nn(x:X)(out:List Str):Dt x out=HC x.kids (if x.op=2/\(out.any fun s=>x.name==s)=false then out++[x.name]else out):=by
 cases x;rw[Dt];rfl
def Tb{l:List X}{out:List Str}(h:j<l.length):HC (l.drop j) out=HC (l.drop (j+1)) (Dt l[j] out):=by
 rw[QN h,HC]
def Ch{l:List X}{out:List Str}(h:l.length<=j):HC (l.drop j) out=out:=by
 rw[x2x h,HC]
def Jm{n:Nat}{x:X}(h:UN (n+1) x=true):x.kids.length<=2/\(x.op=2->x.kids.length=0)/\∀k∈x.kids,UN n k=true:=by
 rw[UN]at h;simp only[x2z,x3u]at h;obtain⟨i,m⟩:=h;refine⟨?_,fun r=>?_,?_⟩
 .unfold J5 at i;(repeat' split at i)<;>omega
 .unfold J5 at i;rw[if_pos (by omega)]at i;omega
 .by_cases o:x.op=1
  .have:x.kids.length=0:=by unfold J5 at i;rw[if_pos (by omega)]at i;omega
   rw[x3j this];simp
  .by_cases q:x.op=2
   .have:x.kids.length=0:=by unfold J5 at i;rw[if_pos (by omega)]at i;omega
    rw[x3j this];simp
   .rw [if_neg o,if_neg q]at m;simp only[x2z]at m;exact x3d.1 m.2
def Cd:∀(n:Nat)(x:X)(out:List Str),UN n x=true->out.length<=(Dt x out).length/\(Dt x out).length<=out.length+2^n:=by
 intro n;induction n with
 |zero=>intro x out h;rw[UN]at h;cases h
 | succ n g=>
   intro x out h;obtain⟨w,y,z⟩:=Jm h;have key:∀(l:List X)(o:List Str),(∀k∈l,UN n k=true)->o.length<=(HC l o).length/\(HC l o).length<=o.length+l.length*2^n:=by
    intro l;induction l with
    |nil=>intro o _;simp[HC]
    | cons k r t=>
      intro o u;rw[HC];have e:=g k o (u k (by simp));have A:=t (Dt k o) fun k q=>u k (by simp[q]);simp only[x2r,x4x,x8p];omega
   rw[Nn];have B:2^(n+1)=2*2^n:=by rw[Nat.pow_succ];omega
   have v:0<2^n:=Nat.pow_pos (by decide);have m:=key x.kids (if x.op=2/\(out.any fun s=>x.name==s)=false then out++[x.name]else out) z;have e:x.kids.length*2^n<=2*2^n:=x2e _ w;split at m
   .rename_i i;have:=y i.1;rw[this]at m;rw[if_pos i];simp only[x1h,x2k]at m;omega
   .rename_i i;rw[if_neg i];omega
def Sb(t:Nat)(out:List Str):Heap:=[(2000,.own t 1 (out.map .str))]
def Y9:∀(n:Nat)(_:n<=20)(x:X)(_:UN n x=true)(out:List Str)(_:out.length+2^n<=1073741824),
  aH 208 [.p (.agg x.cells),.hd 2000 0 out.length] (Sb 9 out) (.hd 2000 0 (Dt x out).length) (Sb 9 (Dt x out)):=by
 intro n;induction n with
 |zero=>intro _ x h;rw[UN]at h;cases h
 | succ n A=>
   intro D x e out E;have F:2^(n+1)=2*2^n:=by rw[Nat.pow_succ];omega
   have w:0<2^n:=Nat.pow_pos (by decide);obtain⟨t,u,q⟩:=Jm e;have g:=X.avs_len x.kids;refine sK Gw func208 ?_;conv=>whnf
   repeat' ((first|(refine gX ?_;intros)|(refine QS (QZ out x.name) (.cons (.hd rfl (by simp)) (.cons (.p (Sub.refl _)) .nil)) (by rintro _ rfl;rfl) ?_;rintro _ rfl)|refine pA 1 16 (by simp) ?_|((first|apply bD|apply bN)<;>intro _<;>try omega))<;>conv=>whnf)
   all_goals
    have r:∀j,j<x.kids.length->(x.kids.length-j)*2^n=(x.kids.length-(j+1))*2^n+2^n:=fun j o=>by
     rw[show x.kids.length-j=(x.kids.length-(j+1))+1 by omega,x4x,x8p]
    have v:x.kids.length*2^n<=2*2^n:=x2e _ t;first
    |refine lJ (fun i:Nat×List Str=>⟨[(1,.hd 2000 0 i.2.length),(23,.p (.sl (X.avs x.kids))),(24,.p (.int .i64 (X.avs x.kids).length)),(25,.j i.1)],Sb 9 i.2⟩) (fun i=>i.1<=x.kids.length/\HC (x.kids.drop i.1) i.2=Dt x out/\i.2.length+(x.kids.length-i.1)*2^n<=1073741824) (fun i=>x.kids.length-i.1) (0,out++[x.name]) (Le.of_eq (by simp[Sb];exact⟨rfl,rfl⟩)) ⟨x1l _,by simp only[drop_zero];rw[Nn,if_pos ⟨by assumption,by assumption⟩],by have:=u (by assumption);simp[this];omega⟩ ?_
    |refine lI (fun i:Nat×List Str=>⟨[(1,.hd 2000 0 i.2.length),(23,.p (.sl (X.avs x.kids))),(24,.p (.int .i64 (X.avs x.kids).length)),(25,.j i.1)],Sb 9 i.2⟩) (fun i=>i.1<=x.kids.length/\HC (x.kids.drop i.1) i.2=Dt x out/\i.2.length+(x.kids.length-i.1)*2^n<=1073741824) (fun i=>x.kids.length-i.1) (0,out) ⟨x1l _,by simp only[drop_zero];rw[Nn,if_neg (by simp[*])],by simp only[Nat.sub_zero];omega⟩ ?_
    rintro⟨j,m⟩ ⟨y,s,z⟩;simp only at y s z⊢;conv=>whnf
    repeat' ((first|(refine gX ?_;intros)|(apply bD<;>intro _<;>try omega))<;>conv=>whnf)
    all_goals first
     | (rw[Ch (by omega)]at s
        exact⟨_,.refl _,by rw[s];exact⟨rfl,rfl⟩⟩)
     | (have o:j<x.kids.length:=by omega
        have C:=r j o;have B:=Cd n x.kids[j] m (q _ (x1c o));refine cJ [(2000,2000)] 0 (A (by omega) x.kids[j] (q _ (x1c o)) m (by omega)) ?_;rintro l' H' ⟨rfl,rfl⟩;conv=>whnf
        refine wI ?_;conv=>whnf
        exact nX (j+1,Dt x.kids[j] m) ⟨by simp only;omega,by simp only;rw[<-s,Tb o],by simp only;omega⟩)
def XB(x:X):List Str:=bif Ej x then Dt x []else []
def VG(x:X):(XB x).length<=1048576:=by
 unfold XB;cases h:Ej x with
 |false=>simp
 | true=>
   have:=(Cd 20 x [] h).2;simpa using this
def DP(x:X):aP 163 [.agg x.cells] (eStrs (XB x)):=by
 refine sC Xu func163 ?_;conv=>whnf
 repeat' ((first|refine cP (FT _) ?_|(apply bN<;>intro _))<;>conv=>whnf)
 .refine CallK.nil 5 9 1 rfl (.cons rfl (.row .nil)) ?_;refine cJ [(2000,5)] 0 (Y9 20 (by omega) x (by assumption) [] (by simp)) ?_;rintro l' H' ⟨rfl,rfl⟩;conv=>whnf
  refine⟨_,.hd rfl (by simp),?_⟩;unfold XB;rw[show Ej x=true by assumption];rfl
 .refine ⟨_,.p Sub.nils,?_⟩;unfold XB;rw[show Ej x=false by assumption];rfl
def KS(a:Arg):List Str:=(bif a.ref then [a.name]else [])++XB a.x
def BZ(t:S):List Str:=(bif t.kind≠10 && !(t.name==[])then [t.name]else [])++XB t.x
def WC(t:S):List Str:=BZ t++t.args.flatMap KS
def TV(a:Arg):(KS a).length<=1048577:=by
 have:=VG a.x;unfold KS;cases a.ref<;>simp<;>omega
def TU(t:S):(BZ t).length<=1048577:=by
 have:=VG t.x;unfold BZ;cases(t.kind≠10 && !(t.name==[]):Bool)<;>simp<;>omega
theorem XM{α β:Type}{f:α->List β}{c:Nat}(h:∀a,(f a).length<=c):∀l:List α,(l.flatMap f).length<=l.length*c
 |[]=>by simp
 | x::r=>by
   have:=XM h r;have:=h x;simp only[x3s,x1h,x2r,x4x,x8p];omega
def Tz(t:S)(j:Nat):List Str:=BZ t++(t.args.take j).flatMap KS
def En(t:S)(h:j<=t.args.length)(ha:t.args.length<=21000):(Tz t j).length<=23000000000:=by
 have i:=TU t;have m:=XM TV (t.args.take j);have n:(t.args.take j).length*1048577<=21000*1048577:=x2e _ (by simp;omega);unfold Tz;simp only[x1h];omega
def SW{t:S}(h:j<t.args.length):Tz t (j+1)=Tz t j++KS t.args[j]:=by
 unfold Tz;rw[x1t h,x3i,x2w];simp
def Kw(t:S)(h:Nat)(j:Nat):St:=⟨[(3,.hd 0 0 (Tz t j).length),(25,.p (.sl (t.args.map fun a=>.agg a.cells))),(26,.p (.int .i64 (t.args.map fun a=>AV.agg a.cells).length)),(27,.j j)],[(0,.own h 1 ((Tz t j).map .str))]⟩
def Jc(t:S)(ha:t.args.length<=21000):aP 157 [.agg t.cells] (eStrs (WC t)):=by
 refine sC Ff func157 ?_;conv=>whnf
 repeat' ((first|(refine gX ?_;intros)|refine cP (DP _) ?_|refine HK _ (by simp) (by have:=VG t.x;simp;omega) ?_|refine ZE (by simp) (by simp) ?_|((first|apply bE|apply bN)<;>intro _<;>try omega))<;>conv=>whnf)
 all_goals
  have q:(t.args.map fun a=>AV.agg a.cells).length=t.args.length:=x1j _;refine lJ (Kw t 9) (fun j=>j<=t.args.length) (fun j=>t.args.length-j) 0 (Le.of_eq ?_) (x1l _) ?_
  .first
    | (have e:Tz t 0=XB t.x:=by simp[Tz,BZ,show t.kind=10 by assumption]
       rw[Kw,e];simp only[x4u,x1j,x1h,x1e,x6n];rfl)
    | (have e:Tz t 0=XB t.x:=by simp[Tz,BZ,show t.name=[] by simpa using(show(t.name==[])=true by assumption)]
       rw[Kw,e];simp only[x4u,x1j,x1h,x1e,x6n];rfl)
    | (have e:Tz t 0=[t.name]++XB t.x:=by
        have:(t.name==[])=false:=by assumption
        simp[Tz,BZ,show ¬t.kind=10 by assumption,this]
       rw[Kw,e];simp only[x4u,x1j,x1h,x1e,x6n];rfl)
  intro j n;have m:=En t n ha;conv=>whnf
  repeat' ((first|refine cP (DP _) ?_|(refine gX ?_;intros)|refine HK _ (by simp) (by have:=VG (t.args[j]'(by omega)).x;simp;omega) ?_|refine pS ?_|((first|apply bD|apply bB)<;>intro _<;>try omega))<;>conv=>whnf)
  all_goals first
   |exact⟨_,.hd rfl (by simp),by
      have:t.args.take j=t.args:=x1i (by omega);rw[WC,<-this];rfl⟩
   | (have o:j<t.args.length:=by omega
      have h:=SW o;refine⟨j+1,by show j+1<=_;omega,by show t.args.length-(j+1)<t.args.length-j;omega,Le.of_eq ?_⟩;first
       | (have i:KS t.args[j]=[t.args[j].name]++XB t.args[j].x:=by rw[KS,show t.args[j].ref=true by assumption];rfl
          rw[Kw,h,i];simp only[x1h,x1e,x1j,<-x2w,<-x5d];rfl)
       | (have i:KS t.args[j]=XB t.args[j].x:=by rw[KS,show t.args[j].ref=false by assumption];rfl
          rw[Kw,h,i];simp only[x1h,x1e,x1j];rfl))
def Ef:List Str->Nat
 |[]=>0
 |s::r=>1+Ef r
mutual
def wX:X->Nat
 |.mk _ _ name kids=>1+wXs kids
def wXs:List X->Nat
 |[]=>0
 |x::r=>wX x+wXs r
end
def X9:List Arg->Nat
 |[]=>0
 |a::r=>wX a.x+1+X9 r
mutual
def wS:S->Nat
 |.mk _ _ W name C x _ args V X=>wX x+Ef W+1+1+X9 args+wL V+wL X
def wL:List S->Nat
 |[]=>0
 |s::r=>wS s+wL r
end
def q6f:List Param->Nat
 |[]=>0
 |a::r=>1+q6f r
def wPr(f:Pr):Nat:=1+Ef f.zb+Ef f.fin+q6f f.B+wL f.body
def q3s:List Pr->Nat
 |[]=>0
 |f::r=>wPr f+q3s r
def wPg(p:Pg):Nat:=Ef p.F+q3s p.A
def Fit(p:Pg):Prop:=wPg p<=21000
theorem F8:∀l:List Str,l.length<=Ef l
 |[]=>x1l _
 |s::r=>by have:=F8 r;simp only[x2r,Ef];omega
theorem FS:∀l:List Arg,l.length<=X9 l
 |[]=>x1l _
 |s::r=>by have:=FS r;simp only[x2r,X9];omega
def Su(s:S):wS s=wX s.x+Ef s.W+1+1+X9 s.args+wL s.V+wL s.X:=by
 cases s;rw[wS];rfl
mutual
theorem q4w:∀s:S,VP s<=wS s
 | .mk id kind W name C x has args V X=>by
   have:=Lx V;have:=Lx X;rw[VP,wS];omega
theorem Lx:∀l:List S,QJ l<=wL l
 |[]=>by rw[QJ,wL];exact x2q _
 | s::r=>by
   have:=q4w s;have:=Lx r;rw[QJ,wL];omega
end
theorem E8:∀{l:List Pr}{f:Pr},f∈l->wPr f<=q3s l
 | g::r,f,h=>by
   simp only[q3s];rcases x1p.1 h with rfl|h
   .omega
   .have:=E8 h;omega
theorem Fit.pr(h:Fit p)(i:f∈p.A):wPr f<=21000:=by
 have:=E8 i;unfold Fit wPg at h;omega
mutual
def flS:S->List S
 |.mk id kind W name C x has args V X=>.mk id kind W name C x has args V X::(flL V++flL X)
def flL:List S->List S
 |[]=>[]
 |s::r=>flS s++flL r
end
def q4p(s:S):flS s=s::(flL s.V++flL s.X):=by
 cases s;rw[flS];rfl
mutual
theorem q1u:∀s:S,(flS s).length=VP s
 | .mk id kind W name C x has args V X=>by
   rw[flS,VP,x2r,x1h,Vw V,Vw X];omega
theorem Vw:∀l:List S,(flL l).length=QJ l
 |[]=>by rw[flL,QJ];rfl
 |s::r=>by rw[flL,QJ,x1h,q1u s,Vw r]
end
mutual
theorem q6c:∀(s t:S),t∈flS s->wS t<=wS s
 | .mk id kind W name C x has args V X,t,h=>by
   rw[flS]at h;rcases x1p.1 h with rfl|h
   ·exact x2q _
   ·rw[wS];rcases x1s.1 h with h|h
    ·have:=Nd V t h;omega
    ·have:=Nd X t h;omega
theorem Nd:∀(l:List S)(t:S),t∈flL l->wS t<=wL l
 |[],t,h=>by rw[flL]at h;cases h
 | s::r,t,h=>by
   rw[flL]at h;rw[wL];rcases x1s.1 h with h|h
   ·have:=q6c s t h;omega
   ·have:=Nd r t h;omega
end

mutual
def itS(C up nx loop:Int)(n:Nat):S->List Item
 | .mk id kind W name pr x has args V X=>
   ⟨.mk id kind W name pr x has args V X,C,up,nx,loop⟩::(itL C (n+1) (if kind=6 then n+1 else nx) (if kind=6 then n+1 else loop) (n+1) V ++
     itL C (n+1) (if kind=6 then n+1 else nx) (if kind=6 then n+1 else loop) (n+1+QJ V) X)
def itL(C up nx loop:Int)(n:Nat):List S->List Item
 |[]=>[]
 |t::r=>itS C up (if r.isEmpty then nx else n+1+VP t) loop n t++itL C up nx loop (n+VP t) r
end
mutual
theorem q2b(C up nx loop:Int):∀(t:S)(acc:List Item),W7 C up nx loop acc t=acc++itS C up nx loop acc.length t
 | .mk id kind W name pr x has args V X,acc=>by
   rw[W7,itS,LQ _ _ _ _ V,LQ _ _ _ _ X];simp only[x1h,x2r,x5a,x2w,List.cons_append,x6n,XL C _ _ _ _ V,x4u,x5d,x7e (QJ V) 1]
theorem LQ(C up nx loop:Int):∀(l:List S)(acc:List Item),XH C up nx loop acc l=acc++itL C up nx loop acc.length l
 |[],acc=>by rw[XH,itL,x2i]
 | t::r,acc=>by
   rw[XH,itL,q2b _ _ _ _ t,LQ _ _ _ _ r];simp only[x1h,x2w,Cc C _ _ _ _ t]
theorem Cc(C up nx loop:Int)(n:Nat):∀t:S,(itS C up nx loop n t).length=VP t
 | .mk id kind W name pr x has args V X=>by
   rw[itS,VP,x2r,x1h,XL _ _ _ _ _ V,XL _ _ _ _ _ X];omega
theorem XL(C up nx loop:Int)(n:Nat):∀l:List S,(itL C up nx loop n l).length=QJ l
 |[]=>by rw[itL,QJ];rfl
 |t::r=>by rw[itL,QJ,x1h,Cc _ _ _ _ _ t,XL _ _ _ _ _ r]
end
mutual
theorem q7x(C up nx loop:Int)(n:Nat):∀t:S,(itS C up nx loop n t).map Item.s=flS t
 | .mk id kind W name pr x has args V X=>by
   rw[itS,flS,x2g,x1e,Qf _ _ _ _ _ V,Qf _ _ _ _ _ X]
theorem Qf(C up nx loop:Int)(n:Nat):∀l:List S,(itL C up nx loop n l).map Item.s=flL l
 |[]=>by rw[itL,flL];rfl
 |t::r=>by rw[itL,flL,x1e,q7x _ _ _ _ _ t,Qf _ _ _ _ _ r]
end
def QT:List Pr->Nat->Nat
 |_,0=>0
 |[],_+1=>0
 |f::r,i+1=>QJ f.body+QT r i
theorem By:∀(l:List Pr)(i:Nat)(acc:List Item)(lo hi:List Int),lo.length=i->hi.length=i->
  (Yb i acc lo hi l).2.1.length=i+l.length/\(Yb i acc lo hi l).2.2.length=i+l.length/\
  (∀k,k<i->(Yb i acc lo hi l).2.1[k]?=lo[k]? /\(Yb i acc lo hi l).2.2[k]?=hi[k]?)/\∃L,(Yb i acc lo hi l).1=acc++L/\L.length=cntP l/\
  ∀(k:Nat)(f:Pr),l[k]?=some f->(Yb i acc lo hi l).2.1[i+k]?=some ((acc.length+QT l k:Nat)+1:Int)/\(Yb i acc lo hi l).2.2[i+k]?=some ((acc.length+QT l k+QJ f.body:Nat)+1:Int)/\
   QT l k+QJ f.body<=cntP l/\(L.take (QT l k+QJ f.body)).drop (QT l k)=itL (i+k:Nat) 0 (-1) 0 (acc.length+QT l k) f.body
 | [],i,acc,lo,hi,h1,h2=>by
   rw[Yb];exact⟨by simpa using h1,by simpa using h2,fun _ _=>⟨rfl,rfl⟩,[],by simp,rfl,fun k f h=>by simp at h⟩
 | f::r,i,acc,lo,hi,h1,h2=>by
   rw[Yb];have s:=LQ i 0 (-1) 0 f.body acc;have m:=XZ i 0 (-1) 0 acc f.body;obtain⟨w,x,u,L,y,z,e⟩:=By r (i+1) (XH i 0 (-1) 0 acc f.body) (lo++[(acc.length:Int)+1]) (hi++[((XH i 0 (-1) 0 acc f.body).length:Int)+1]) (by simp[h1]) (by simp[h2]);refine⟨by rw[w,x2r];omega,by rw[x,x2r];omega,fun k A=>?_,itL i 0 (-1) 0 acc.length f.body++L,?_,?_,fun k g t=>?_⟩
   .obtain ⟨q,n⟩:=u k (by omega);rw[q,n,x3l (by omega),x3l (by omega)];exact⟨rfl,rfl⟩
   .rw [y,s,x2w]
   .rw [x1h,z,XL,cntP]
   .cases k with
    | zero=>
      simp only[x7v,x5u]at t;subst t;obtain⟨q,n⟩:=u i (by omega);simp only[x5l,QT,x4u,drop_zero];refine⟨?_,?_,?_,?_⟩
      .rw [q,x2o (by omega),h1];simp
      .rw [n,x2o (by omega),h2,m];simp
      .rw [cntP];omega
      .rw [List.take_append_of_le_length (by rw[XL];omega),x1i (by rw[XL];omega)]
    | succ k=>
      simp only[List.getElem?_cons_succ]at t;obtain⟨q,n,v,o⟩:=e k g t;rw[m]at o;simp only[QT];refine⟨?_,?_,?_,?_⟩
      .rw [show i+(k+1)=i+1+k by omega,q,m];congr 2;omega
      .rw [show i+(k+1)=i+1+k by omega,n,m];congr 2;omega
      .rw [cntP];omega
      .rw [List.take_append,List.drop_append,XL,x1i (by rw[XL];omega),x2x (by rw[XL];omega),x6n];simp only[XL];rw[show QJ f.body+QT r k+QJ g.body-QJ f.body=QT r k+QJ g.body by omega,show QJ f.body+QT r k-QJ f.body=QT r k by omega,o];rw[show i+(k+1)=i+1+k by omega,show acc.length+(QJ f.body+QT r k)=acc.length+QJ f.body+QT r k by omega]
def QU(p:Pg):(sheetOf p).p=p/\(sheetOf p).lo.length=p.A.length/\(sheetOf p).hi.length=p.A.length/\(sheetOf p).l.length=cntP p.A/\
  ∀(k:Nat)(f:Pr),p.A[k]?=some f->(sheetOf p).lo[k]?=some ((QT p.A k:Nat)+1:Int)/\(sheetOf p).hi[k]?=some ((QT p.A k+QJ f.body:Nat)+1:Int)/\
   QT p.A k+QJ f.body<=cntP p.A/\((sheetOf p).l.take (QT p.A k+QJ f.body)).drop (QT p.A k)=itL k 0 (-1) 0 (QT p.A k) f.body:=by
 obtain⟨i,m,_,L,h,n,o⟩:=By p.A 0 [] [] [] rfl rfl;refine⟨rfl,by unfold sheetOf;simpa using i,by unfold sheetOf;simpa using m,by unfold sheetOf;simp[h,n],fun k f q=>?_⟩;have:=o k f q;unfold sheetOf;simp only[h,x6n,x5a,x4u]at this⊢;exact this
mutual
theorem Ro(nest seen:Int):∀(s:S){m:Int},P3 nest seen s=some m->m=seen+VP s
 | .mk id kind W name C x has args V X,m,h=>by
   simp only[P3]at h;split at h
   ·cases h
   split at h
   ·cases h
   cases hn:namesB W<;>rw[hn]at h
   ·cases h
   cases hf:VO (.mk id kind W name C x has args V X)<;>rw[hf]at h
   ·cases h
   simp only[x2y]at h;split at h
   ·rename_i m1 h1;have h2:=JC (nest+1) (seen+1) V h1;have h3:=JC (nest+1) m1 X h;rw[VP];omega
   ·cases h
theorem JC(nest seen:Int):∀(l:List S){m:Int},JF nest seen l=some m->m=seen+QJ l
 | [],m,h=>by
   simp only[JF]at h;cases h;rw[QJ];simp
 | s::r,m,h=>by
   simp only[JF]at h;split at h
   ·cases h
   split at h
   ·rename_i m1 h1;have h2:=Ro nest seen s h1;have h3:=JC nest m1 r h;rw[QJ];omega
   ·cases h
end
theorem K9:∀(l:List Pr){seen m:Int},seen<=200->ZQ seen l=some m->m=seen+cntP l/\m<=200
 |[],seen,m,h0,h=>by rw[ZQ]at h;cases h;simp[cntP];exact h0
 | f::r,seen,m,h0,h=>by
   rw[ZQ]at h;cases n:DA f<;>rw[n]at h
   .cases h
   simp only[x2y]at h;split at h
   .rename_i t i;have o:=JC 1 seen f.body i;have q:=Uc 1 seen f.body h0 i;have s:=K9 r (by omega) h;rw[cntP];omega
   .cases h
def WO(h:DG p=true):p.F.length<=16/\p.A.length<=16/\cntP p.A<=200:=by
 unfold DG at h;simp only[x2z,x3u]at h;obtain⟨⟨⟨o,q⟩,_⟩,i⟩:=h;cases n:ZQ 0 p.A with
 |none=>rw[n]at i;cases i
 | some m=>
   have:=K9 p.A (by decide) n;omega
def M1(h:DG p=true)(i:f∈p.A):DA f=true:=by
 unfold DG at h;simp only[x2z]at h;have n:=h.2;have key:∀(l:List Pr)(seen:Int),(ZQ seen l).isSome=true->∀f∈l,DA f=true:=fun l=>by
  induction l with
  |nil=>intro _ _ f i;cases i
  | cons g r o=>
    intro seen h f i;rw[ZQ]at h;cases m:DA g<;>rw[m]at h
    .cases h
    simp only[x2y]at h;split at h
    .rename_i s q;rcases x1p.1 i with rfl|i
     .exact m
     .exact o _ h f i
    .cases h
 exact key _ _ n f i
def Uq(p:Pg)(f:Pr)(name:Str):Int:=
 match f.B.find? (fun a=>a.name==name)with
 |some a=>bif a.ref then 3 else 2
 |none=>bif f.zb.any (fun s=>name==s)then 4 else bif p.F.any (fun s=>name==s)then 1 else 0
def Qy{l:List α}{p:α->Bool}(i:j<l.length)(h:p l[j]=false):(l.drop (j+1)).find? p=(l.drop j).find? p:=by
 rw[QN i,x7j,h]
def DV{l:List α}{p:α->Bool}(i:j<l.length)(h:p l[j]=true):(l.drop j).find? p=some l[j]:=by
 rw[QN i,x7j,h]
def DZ{l:List α}{p:α->Bool}(h:l.length<=j):(l.drop j).find? p=none:=by
 rw[x2x h];rfl
def TM(p:Pg)(f:Pr)(name:Str):aP 158 [.agg p.cells,.agg f.cells,.str name] (.int .i64 (Uq p f name)):=by
 refine sC Fr func158 ?_;conv=>whnf
 repeat' ((refine iM fun _=>?_)<;>conv=>whnf)
 have q:(f.B.map fun a=>AV.agg a.cells).length=f.B.length:=x1j _;refine lI (fun j:Nat=>⟨[(2,.p (.str name)),(3,.p (.ip p.cells)),(4,.p (.ip f.cells)),(10,.p (.sl (f.B.map fun a=>.agg a.cells))),(11,.p (.int .i64 (f.B.map fun a=>AV.agg a.cells).length)),(12,.j j)],[]⟩) (fun j=>j<=f.B.length/\(f.B.drop j).find? (fun a=>a.name==name)=f.B.find? (fun a=>a.name==name)) (fun j=>f.B.length-j) 0 ⟨x1l _,rfl⟩ ?_;rintro j ⟨n,h⟩;conv=>whnf
 repeat' ((first|refine cP (QZ _ _) ?_|(refine gX ?_;intros)|((first|apply bD|apply bB)<;>intro _<;>try omega))<;>conv=>whnf)
 all_goals try have o:j<f.B.length:=by omega
 all_goals first
  | (exfalso
     have m:((f.B[j]'(by omega)).name==name)=true:=by assumption
     have i:((f.B[j]'(by omega)).name==name)=false:=by assumption
     rw[m]at i;cases i)
  | (have e:=DV (p:=fun a:Param=>a.name==name) (by omega) (by assumption)
     rw[h]at e;exact RetK.int (by unfold Uq;rw[e];simp[*]))
  |(refine nX (j+1) ⟨by omega,by rw[<-h,Qy (p:=fun a:Param=>a.name==name) (by omega) (by assumption)]⟩)
  | (have e:f.B.find? (fun a=>a.name==name)=none:=by rw[<-h,DZ (by omega)]
     exact RetK.int (by unfold Uq;rw[e];simp[*]))
def mainS:Str:=[109,97,105,110]
def JR(p:Pg)(f:Pr)(A:List Str)(t:S):Bool:=(WC t).all (fun n=> !(Uq p f n==0))&&(decide (t.kind≠4)||(!(t.C==mainS)&&A.any fun s=>t.C==s))
def Mv(p:Pg)(f:Pr)(A:List Str)(t:S)(ha:t.args.length<=21000):aP 97 [.agg p.cells,.agg f.cells,eStrs A,.agg t.cells] (.bool (JR p f A t)):=by
 refine sC G7 func97 ?_;conv=>whnf
 repeat' ((first|(refine iM fun _=>?_)|refine cP (Jc _ ha) ?_)<;>conv=>whnf)
 have o:((WC t).map AV.str).length=(WC t).length:=x1j _;refine lI (fun j:Nat=>⟨[(2,.p (eStrs A)),(4,.p (.ip p.cells)),(5,.p (.ip f.cells)),(7,.p (.ip t.cells)),(12,.p (eStrs (WC t))),(13,.p (.int .i64 ((WC t).map AV.str).length)),(14,.j j)],[]⟩) (fun j=>j<=(WC t).length/\((WC t).drop j).all (fun n=> !(Uq p f n==0))=(WC t).all (fun n=> !(Uq p f n==0))) (fun j=>(WC t).length-j) 0 ⟨x1l _,rfl⟩ ?_;rintro j ⟨m,h⟩;conv=>whnf
 repeat' ((first|refine cP (TM _ _ _) ?_|refine cP (QZ _ _) ?_|(refine gX ?_;intros)|((first|apply bD|apply bE|apply bN)<;>intro _<;>try omega))<;>conv=>whnf)
 .exact RetK.ff (by
   have e:=Jj (p:=fun n=> !(Uq p f n==0)) (l:=WC t) (j:=j) (by omega) (by simp;assumption);rw[JR,<-h,e,Bool.false_and])
 .exact nX (j+1) ⟨by omega,by rw[<-h,Ws (p:=fun n=> !(Uq p f n==0)) (by omega) (by simp;assumption)]⟩
 all_goals
  have e:(WC t).all (fun n=> !(Uq p f n==0))=true:=by rw[<-h,Wt (by omega)]
 .exact RetK.ff (by
   have i:(t.C==mainS)=true:=by assumption
   rw[JR,e,i];simp[*])
 .exact RetK.bool (by
   have i:(t.C==mainS)=false:=by assumption
   rw[JR,e,i];simp[*])
 .exact RetK.tt (by rw[JR,e];simp[*])
def Jl(c at_:Int):AV:=.agg [.int .i64 c,.int .i64 at_]
def QH(p:Pg):List Str:=p.A.map Pr.name
def UX(p:Pg):Bool:=VD p.F||(VD (QH p)||(!((QH p).any fun s=>mainS==s)||match p.A.find? (fun f=>mainS==f.name)with
 |some f=>decide (0<f.B.length)
 |none=>true))
def UT(p:Pg)(f:Pr):Option Int:=
 bif VD (M7 f)||(M7 f).any (fun n=>p.F.any fun s=>n==s)then some 0 else((flL f.body).find? fun t=> !JR p f (QH p) t).map S.id
def XQ(p:Pg):Int×Int:=
 bif DG p then bif UX p then(5,0)else match p.A.findSome? (UT p)with
  |some a=>(5,a)
  |none=>(0,0)
 else(1,0)
def Li{l:List α}{p:α->Bool}(h:l.any p=true):∃(k:Nat) (hk:k<l.length),idxF p l=k/\p l[k]=true/\l.find? p=some l[k]:=by
 have i:l.findIdx p<l.length:=by
  rw[List.findIdx_lt_length];exact x4f.1 h
 refine⟨l.findIdx p,i,by unfold idxF;rw[h];rfl,List.findIdx_getElem,?_⟩;rw[List.find?_eq_some_iff_getElem];exact⟨List.findIdx_getElem,l.findIdx p,i,rfl,fun j m=>by simpa using List.not_of_lt_findIdx m⟩
def Ry(h:(QH p).any (fun s=>mainS==s)=true):∃(k:Nat) (m:k<p.A.length),idxF (fun s=>mainS==s) (QH p)=k/\p.A.find? (fun f=>mainS==f.name)=some p.A[k]:=by
 have i:p.A.any (fun f=>mainS==f.name)=true:=by simpa[QH,List.any_map,Function.comp_def]using h
 obtain⟨k,m,n,_,o⟩:=Li i;refine⟨k,m,?_,o⟩;rw[<-n];unfold idxF;rw[h,i];simp[QH,List.findIdx_map,Function.comp_def]
def Gf(p:Pg)(o:p.A[j]?=some f)(u:cntP p.A<=1000):aP 96 [.ip (sheetOf p).cells,.int .i64 j] (ZP (itL j 0 (-1) 0 (QT p.A j) f.body)):=by
 obtain⟨_,q,r,s,h⟩:=QU p;obtain⟨i,m,t,n⟩:=h j f o;have:=NO (sheetOf p) j _ _ i m (by omega) (by omega) (by omega);rw[n]at this;exact this
def ZT(l:List Item):(l.map fun i=>AV.agg i.cells).length=l.length:=x1j _
def Vz{l:List α}{f:α->Option β}(i:j<l.length)(h:f l[j]=none):(l.drop (j+1)).findSome? f=(l.drop j).findSome? f:=by
 rw[QN i,List.findSome?_cons,h]
def VJ{l:List α}{f:α->Option β}{b:β}(i:j<l.length)(h:f l[j]=some b):(l.drop j).findSome? f=some b:=by
 rw[QN i,List.findSome?_cons,h]
def Xm{l:List α}{f:α->Option β}(h:l.length<=j):(l.drop j).findSome? f=none:=by
 rw[x2x h];rfl
def DW{q:S->Bool}(l:List Item):(l.find? fun m=>q m.s).map (fun m=>m.s.id)=((l.map Item.s).find? q).map S.id:=by
 rw[List.find?_map];cases h:l.find? (q∘Item.s)with
 |none=>rw[show(l.find? fun m=>q m.s)=none from h];rfl
 |some i=>rw[show(l.find? fun m=>q m.s)=some i from h];rfl
def Ca{l:List Pr}(t:j<l.length)(h:wPr l[j]<=21000){b:Int}{n:Nat}(i:k<(itL a b c d n l[j].body).length):(itL a b c d n l[j].body)[k].s.args.length<=21000:=by
 have m:(itL a b c d n l[j].body)[k].s∈flL l[j].body:=by
  rw[<-Qf a b c d n];exact x1r.2 ⟨_,x1c i,rfl⟩
 have o:=Nd _ _ m;have q:=Su (itL a b c d n l[j].body)[k].s;have r:=FS (itL a b c d n l[j].body)[k].s.args;unfold wPr at h;omega
def QM{H:Heap}{b:Int}(h:a=c)(i:b=d):RetK H (.p (.agg [.int .i64 a,.int .i64 b])) (fun r=>r=Jl c d):=⟨_,.p (Sub.refl _),by rw[h,i];rfl⟩
def JG(p:Pg)(T:Fit p):aP 59 [.agg p.cells] (Jl (XQ p).1 (XQ p).2):=by
 refine sC G6 func59 ?_;conv=>whnf
 repeat' ((first|(refine gX ?_;intros)|refine cP (RB _) ?_|(apply bN<;>intro _))<;>conv=>whnf)
 rotate_left 1
 .exact QM (by simp[XQ, *]) (by simp[XQ, *])
 have w:DG p=true:=by assumption
 obtain⟨hg,Y,R⟩:=WO w;have hl:(p.A.map fun f=>AV.agg f.cells).length=p.A.length:=x1j _;have V:(QH p).length=p.A.length:=by simp[QH]
 refine lJ (fun i:Nat×List Str=>⟨[(1,.p (.ip p.cells)),(2,.ptr 1 0),(3,.hd 0 0 i.2.length),(18,.p (.sl (p.A.map fun f=>.agg f.cells))),(19,.p (.int .i64 (p.A.map fun f=>AV.agg f.cells).length)),(20,.j i.1)],[(0,.own 9 1 (i.2.map .str)),(1,.obj 80 [.p (.int .i64 0),.j 0])]⟩) (fun i=>i.1<=p.A.length/\i.2=(QH p).take i.1) (fun i=>p.A.length-i.1) (0,[]) (lM [(0,.own 9 1 [])]) ⟨x1l _,by simp⟩ ?_;rintro⟨j,u⟩ ⟨I,v⟩;simp only at I v⊢;have Q:u.length<=16:=by rw[v];simp;omega
 conv=>whnf
 repeat' ((first|(refine gX ?_;intros)|refine pS ?_|(refine QS (WU u mainS) (.cons (.hd rfl (by simp)) (.cons (.p (Sub.refl _)) .nil)) (by rintro _ rfl;rfl) ?_;rintro _ rfl)|(refine QS (PG u) (.cons (.hd rfl (by simp)) .nil) (by rintro _ rfl;rfl) ?_;rintro _ rfl)|refine cP (PG _) ?_|((first|apply bD|apply bB)<;>intro _<;>try omega))<;>conv=>whnf)
 .exact ⟨(j+1,u++[p.A[j].name]),⟨by simp only;omega,by simp only;rw[v,x1t (by omega)];simp[QH]⟩,by simp only;omega,Le.of_eq (by simp only[x1h,x1e];rfl)⟩
 all_goals
  have g:u=QH p:=by rw[v,x1i (by omega)]
  clear v;subst g
 .have o:UX p=true:=by unfold UX;rw[show VD p.F=true by assumption];rfl
  exact QM (by unfold XQ;rw[w,o];rfl) (by unfold XQ;rw[w,o];rfl)
 .have o:UX p=true:=by unfold UX;rw[show VD p.F=false by assumption,show VD (QH p)=true by assumption];rfl
  exact QM (by unfold XQ;rw[w,o];rfl) (by unfold XQ;rw[w,o];rfl)
 .have h:((QH p).any fun s=>mainS==s)=false:=by
   rw[<-Vi];simp;omega
  have o:UX p=true:=by unfold UX;rw[show VD p.F=false by assumption,show VD (QH p)=false by assumption,h];rfl
  exact QM (by unfold XQ;rw[w,o];rfl) (by unfold XQ;rw[w,o];rfl)
 have h:((QH p).any fun s=>mainS==s)=true:=by
  rw[<-Vi];simp;omega
 obtain⟨k,x,D,m⟩:=Ry h;have E:(p.A.map fun f=>AV.agg f.cells)[k]?=some (.agg p.A[k].cells):=by simp[x]
 have H:(p.A[k].B.map fun a=>AV.agg a.cells).length=p.A[k].B.length:=x1j _;refine IdxK.at D E rfl ?_;conv=>whnf
 repeat' ((first|(refine gX ?_;intros)|refine cP (DU p (by omega) (by omega)) ?_ (ha:=.cons (Sub.refl _) .nil)|(apply bD<;>intro _<;>try omega))<;>conv=>whnf)
 .have o:UX p=true:=by
   unfold UX;rw[show VD p.F=false by assumption,show VD (QH p)=false by assumption,h,m];have:0<p.A[k].B.length:=by omega
   simp[this]
  exact QM (by unfold XQ;rw[w,o];rfl) (by unfold XQ;rw[w,o];rfl)
 have o:UX p=false:=by
  unfold UX;rw[show VD p.F=false by assumption,show VD (QH p)=false by assumption,h,m];have:¬0<p.A[k].B.length:=by omega
  simp[this]
 have N:XQ p=match p.A.findSome? (UT p)with
  |some a=>(5,a)
  |none=>(0,0):=by unfold XQ;rw[w,o];rfl
 rw[N];refine lI (fun j:Nat=>⟨[(1,.p (.ip p.cells)),(2,.ptr 1 0),(3,.hd 0 0 (QH p).length),(7,.p (.ip (sheetOf p).cells)),(57,.p (.sl (p.A.map fun f=>.agg f.cells))),(58,.p (.int .i64 (p.A.map fun f=>AV.agg f.cells).length)),(59,.j j)],[(0,.own 9 1 ((QH p).map .str)),(1,.obj 80 [.p (.int .i64 0),.j 0])]⟩) (fun j=>j<=p.A.length/\(p.A.drop j).findSome? (UT p)=p.A.findSome? (UT p)) (fun j=>p.A.length-j) 0 ⟨x1l _,rfl⟩ ?_;clear I D m E H;rintro j ⟨I,v⟩;rcases x1a j p.A.length with q|q;rotate_left 1
 .have e:p.A.findSome? (UT p)=none:=by rw[<-v,Xm q]
  rw[e];conv=>whnf
  repeat' ((first|refine x2j rfl ?_|(apply bD<;>intro _<;>try omega))<;>conv=>whnf)
  exact QM rfl rfl
 have C:=T.pr (x1c q);have G:=KR.1 (M1 w (x1c q));conv=>whnf
 repeat' ((first|(refine gX ?_;intros)|refine cP (PG _) ?_|refine cP (Ay (p.A[j]'q) (by have:=G.1;omega) (by have:=G.2.1;omega)) ?_ (ha:=.cons (Sub.refl _) .nil)|refine cP (VM (M7 (p.A[j]'q)) 95 (.ip p.cells) (fun n=>p.F.any fun s=>n==s) (He p)) ?_|refine cP (Gf p (f:=p.A[j]'q) (by simp) (by omega)) ?_ (ha:=.cons (Sub.refl _) (.cons (Sub.refl _) .nil))|((first|apply bD|apply bB)<;>intro _<;>try omega))<;>conv=>whnf)
 .have e:UT p p.A[j]=some 0:=by
   unfold UT;rw[show VD (M7 p.A[j])=true by assumption];rfl
  have e2:=VJ q e;rw[v]at e2;rw[e2];exact QM rfl rfl
 .have e:UT p p.A[j]=some 0:=by
   unfold UT;rw[show VD (M7 p.A[j])=false by assumption,show((M7 p.A[j]).any fun n=>p.F.any fun s=>n==s)=true by assumption];rfl
  have e2:=VJ q e;rw[v]at e2;rw[e2];exact QM rfl rfl
 have r:UT p p.A[j]=((flL p.A[j].body).find? fun t=> !JR p p.A[j] (QH p) t).map S.id:=by
  unfold UT;rw[show VD (M7 p.A[j])=false by assumption,show((M7 p.A[j]).any fun n=>p.F.any fun s=>n==s)=false by assumption];rfl
 have y:∀k (x:k<(itL (j:Nat) 0 (-1) 0 (QT p.A j) p.A[j].body).length),(itL (j:Nat) 0 (-1) 0 (QT p.A j) p.A[j].body)[k].s.args.length<=21000:=fun k x=>Ca q C x;rw[<-Qf (j:Nat) 0 (-1) 0 (QT p.A j),<-DW]at r;have L:(itL (j:Nat) 0 (-1) 0 (QT p.A j) p.A[j].body).length<=21000:=by
  have:=Lx p.A[j].body;unfold wPr at C;rw[XL];omega
 generalize O:itL (j:Nat) 0 (-1) 0 (QT p.A j) p.A[j].body=its at r y L⊢;have U:=ZT its;refine lI (fun k:Nat=>⟨[(1,.p (.ip p.cells)),(2,.ptr 1 0),(3,.hd 0 0 (QH p).length),(7,.p (.ip (sheetOf p).cells)),(9,.p (.ip (p.A[j]'q).cells)),(57,.p (.sl (p.A.map fun f=>.agg f.cells))),(58,.p (.int .i64 (p.A.map fun f=>AV.agg f.cells).length)),(59,.j j),(76,.p (ZP its)),(77,.p (.int .i64 (its.map fun i=>AV.agg i.cells).length)),(78,.j k)],[(0,.own 9 1 ((QH p).map .str)),(1,.obj 80 [.p (.int .i64 0),.j 0])]⟩) (fun k=>k<=its.length/\(its.drop k).find? (fun z=> !JR p p.A[j] (QH p) z.s)=its.find? fun z=> !JR p p.A[j] (QH p) z.s) (fun k=>its.length-k) 0 ⟨x1l _,rfl⟩ ?_;rintro k ⟨Z,J⟩;rcases x1a k its.length with x|x;rotate_left 1
 .rw [<-J,DZ x]at r;conv=>whnf
  repeat' ((first|refine wI ?_|(apply bD<;>intro _<;>try omega))<;>conv=>whnf)
  exact nX (j+1) ⟨by omega,by rw[<-v,Vz q r]⟩
 have M:=y k x;conv=>whnf
 repeat' ((first|(refine gX ?_;intros)|(refine QS (Mv p p.A[j] (QH p) its[k].s M) (.cons (.p (Sub.refl _)) (.cons (.p (Sub.refl _)) (.cons (.hd rfl (by simp)) (.cons (.p (Sub.refl _)) .nil)))) (by rintro _ rfl;rfl) ?_;rintro _ rfl)|((first|apply bD|apply bN)<;>intro _<;>try omega))<;>conv=>whnf)
 .exact nX (k+1) ⟨by omega,by rw[<-J,Qy (p:=fun z:Item=> !JR p p.A[j] (QH p) z.s) x (by simp;assumption)]⟩
 .have P:=DV (p:=fun z:Item=> !JR p p.A[j] (QH p) z.s) x (by simp;assumption);rw[<-J,P]at r;have e2:=VJ q r;rw[v]at e2;rw[e2];exact QM rfl rfl
def q0r:LV->Option Bool
 |.p .tt=>some true
 |.p .ff=>some false
 |.p (.bool b)=>some b
 |_=>none
def Zm{σ:Mem}{β:Lab}{l:LV}{v:Value}(h:RepL σ β l v)(i:q0r l=some b):v=.bool b:=by
 cases h with
 |p h=>cases h<;>simp[q0r]at i<;>subst i<;>rfl
 |_=>simp[q0r]at i
def Xh{P:Program}{T:Tab}{B:Bool}{s:St}{o:Oper}{K:LV->Prop}(hT:TabOK P T){t u:TypeId}{x y:Operand}(h:o.op=.binOp .neq t x y u){i:TyI}(C:T.get t=some i)(z:i.desc=.bool){a:Bool}(D:q0r (QG s.sl x)=some a)(E:q0r (QG s.sl y)=some b)(v:K (.p (.bool (a != b)))):ValO P B s o K:=by
 refine⟨fun σ β F w m _=>⟨_,.bool (a != b),v,.p (.bool _),fun w' _ _=>?_⟩⟩;have q:=Zm (QX m x) D;have r:=Zm (QX m y) E;have n:=hT.of C;rw[z]at n;have A:(eqGuard .neq t x y (.bool a) (.bool b)).run P w'=.ok () w':=by unfold eqGuard;rfl
 have g:(Op.equal t (.bool a) (.bool b)).run P w'=.ok (a==b) w':=by
  have e:Op.equal t (.bool a) (.bool b)=Op.equalIn (9999+1) t (.bool a) (.bool b):=rfl;rw[e,Op.equalIn,Sem.run_bind,run_underlying n,Result.andThen_ok];rfl
 simp only[execOp,h,q,r,Sem.run_bind,A,Result.andThen_ok,binOp];simp[g];cases a<;>cases b<;>rfl
def TN(l:List Param)(args:List Arg):Bool:=decide (l.map Param.ref=args.map Arg.ref)
def Tu(l:List Param)(args:List Arg):aP 159 [.sl (l.map fun a=>.agg a.cells),EF args] (.bool (TN l args)):=by
 refine sC Fh func159 ?_;conv=>whnf
 repeat' ((first|(refine iM fun _=>?_)|(apply bE<;>intro _<;>try omega))<;>conv=>whnf)
 all_goals
  have s:(l.map fun a=>AV.agg a.cells).length=l.length:=x1j _;have q:(args.map fun a=>AV.agg a.cells).length=args.length:=x1j _
 .have o:l.length=args.length:=by omega
  refine lI (fun j:Nat=>⟨[(1,.p (EF args)),(12,.p (.sl (l.map fun a=>.agg a.cells))),(13,.p (.int .i64 (l.map fun a=>AV.agg a.cells).length)),(14,.j j)],[]⟩) (fun j=>j<=l.length/\(l.map Param.ref).take j=(args.map Arg.ref).take j) (fun j=>l.length-j) 0 ⟨x1l _,rfl⟩ ?_;rintro j ⟨r,m⟩;rcases x1a j l.length with n|n
  .conv=>whnf
   repeat' ((first|refine dA ?_|(refine gX ?_;intros)|refine Xh XG rfl rfl rfl rfl rfl ?_|((first|apply bD|apply bE)<;>intro _<;>try omega))<;>conv=>whnf)
   .have h:l[j].ref=(args[j]'(by omega)).ref:=by assumption
    exact nX (j+1) ⟨by omega,by
     rw[x1t (by simp;omega),x1t (by simp;omega),m];simp[h]⟩
   .have h:¬l[j].ref=(args[j]'(by omega)).ref:=by assumption
    exact RetK.ff (by
     unfold TN;rw[x4n];intro i;have:(l.map Param.ref)[j]?=(args.map Arg.ref)[j]?:=by rw[i]
     rw[x1b,x1b,x1k n,x1k (by omega)]at this;simp at this;exact h this)
  .conv=>whnf
   repeat' (apply bD<;>intro _<;>first|omega|conv=>whnf)
   exact RetK.tt (by
    unfold TN;rw[x3u]
    rwa[x1i (by simp;omega),x1i (by simp;omega)]at m)
 .exact RetK.ff (by
   unfold TN;rw[x4n];intro i;have:=x4w List.length i;simp at this;omega)
def HR(p:Pg)(s:S):Bool:=decide (s.kind=4)&&match p.A.find? (fun f=>f.name==s.C)with
 |some f=>TN f.B s.args
 |none=>false
def Tv(p:Pg)(s:S):aP 98 [.agg p.cells,.agg s.cells] (.bool (HR p s)):=by
 refine sC Fg func98 ?_;conv=>whnf
 repeat' ((first|(refine iM fun _=>?_)|(apply bE<;>intro _<;>try omega))<;>conv=>whnf)
 .have m:(p.A.map fun f=>AV.agg f.cells).length=p.A.length:=x1j _;refine lI (fun j:Nat=>⟨[(3,.p (.ip s.cells)),(11,.p (.sl (p.A.map fun f=>.agg f.cells))),(12,.p (.int .i64 (p.A.map fun f=>AV.agg f.cells).length)),(13,.j j)],[]⟩) (fun j=>j<=p.A.length/\(p.A.drop j).find? (fun f=>f.name==s.C)=p.A.find? (fun f=>f.name==s.C)) (fun j=>p.A.length-j) 0 ⟨x1l _,rfl⟩ ?_;rintro j ⟨i,h⟩;conv=>whnf
  repeat' ((first|refine cP (Tu _ _) ?_|(refine gX ?_;intros)|((first|apply bD|apply bB)<;>intro _<;>try omega))<;>conv=>whnf)
  .have e:=DV (p:=fun f:Pr=>f.name==s.C) (l:=p.A) (j:=j) (by omega) (by assumption);rw[h]at e;exact RetK.bool (by unfold HR;rw[e];simp[*])
  .exact nX (j+1) ⟨by omega,by rw[<-h,Qy (p:=fun f:Pr=>f.name==s.C) (by omega) (by assumption)]⟩
  .have e:p.A.find? (fun f=>f.name==s.C)=none:=by rw[<-h,DZ (by omega)]
   exact RetK.ff (by unfold HR;rw[e];simp)
 .exact RetK.ff (by unfold HR;simp[*])
def VL(p:Pg):List S:=p.A.flatMap fun f=>flL f.body
theorem OR:∀(l:List Pr)(i:Nat)(acc:List Item)(lo hi:List Int),(Yb i acc lo hi l).1.map Item.s=acc.map Item.s++l.flatMap fun f=>flL f.body
 |[],i,acc,lo,hi=>by rw[Yb];simp
 | f::r,i,acc,lo,hi=>by
   rw[Yb,OR r,LQ,x1e,Qf,x3s,x2w]
def US(p:Pg):(sheetOf p).l.map Item.s=VL p:=by
 have:=OR p.A 0 [] [] [];unfold sheetOf VL;simpa using this
def X2(o:Fit p)(q:k<(sheetOf p).l.length):wS (sheetOf p).l[k].s<=21000:=by
 have h:(sheetOf p).l[k].s∈VL p:=by
  rw[<-US];exact x1r.2 ⟨_,x1c q,rfl⟩
 unfold VL at h;obtain⟨f,i,m⟩:=x2p.1 h;have r:=Nd _ _ m;have n:=o.pr i;unfold wPr at n;omega
def YQ(p:Pg):Int×Int:=
 if(XQ p).1≠0 then(1,0)else match(VL p).find? fun t=>decide (t.kind=4) && !HR p t with
  |some t=>(6,t.id)
  |none=>(0,0)
def JA(h:(XQ p).1=0):DG p=true/\UX p=false/\p.A.findSome? (UT p)=none:=by
 unfold XQ at h;cases m:DG p<;>rw[m]at h
 .cases h
 cases i:UX p<;>rw[i]at h
 .refine ⟨rfl,rfl,?_⟩;simp only[x2y,x2f]at h;split at h
  .cases h
  .assumption
 .cases h
def Wi(p:Pg)(x:Fit p):aP 60 [.agg p.cells] (Jl (YQ p).1 (YQ p).2):=by
 refine sC G1 func60 ?_;conv=>whnf
 repeat' ((first|refine cP (JG p x) ?_|refine x2j rfl ?_|(apply bE<;>intro _<;>try omega))<;>conv=>whnf)
 rotate_left 1
 .have e:YQ p=(1,0):=by unfold YQ;rw[if_pos (by assumption)]
  exact QM (by rw[e]) (by rw[e])
 have C:(XQ p).1=0:=by assumption
 obtain⟨g,E,A⟩:=JA C;obtain⟨F,B,w⟩:=WO g;have v:YQ p=match(VL p).find? fun t=>decide (t.kind=4) && !HR p t with
  |some t=>(6,t.id)
  |none=>(0,0):=by unfold YQ;rw[if_neg (by omega)]
 repeat' ((first|(refine iM fun _=>?_)|refine cP (DU p (by omega) (by omega)) ?_ (ha:=.cons (Sub.refl _) .nil))<;>conv=>whnf)
 have z:=ZT (sheetOf p).l;have y:(sheetOf p).l.length<=200:=by have:=(QU p).2.2.2.1;omega
 have m:=DW (q:=fun t=>decide (t.kind=4) && !HR p t) (sheetOf p).l;rw[US]at m;have r:YQ p=match((sheetOf p).l.find? fun h=>decide (h.s.kind=4) && !HR p h.s).map (fun h=>h.s.id)with
  |some a=>(6,a)
  |none=>(0,0):=by
  rw[v,m];cases(VL p).find? fun t=>decide (t.kind=4) && !HR p t<;>rfl
 rw[r];refine lI (fun k:Nat=>⟨[(1,.p (.ip p.cells)),(2,.ptr 1 0),(14,.p (ZP (sheetOf p).l)),(15,.p (.int .i64 ((sheetOf p).l.map fun i=>AV.agg i.cells).length)),(16,.j k)],[(1,.obj 80 [.p (.int .i64 0),.j 0])]⟩) (fun k=>k<=(sheetOf p).l.length/\((sheetOf p).l.drop k).find? (fun h=>decide (h.s.kind=4) && !HR p h.s)=(sheetOf p).l.find? fun h=>decide (h.s.kind=4) && !HR p h.s) (fun k=>(sheetOf p).l.length-k) 0 ⟨x1l _,rfl⟩ ?_;rintro k ⟨D,o⟩;rcases x1a k (sheetOf p).l.length with n|n;rotate_left 1
 .rw [<-o,DZ n];conv=>whnf
  repeat' ((first|refine x2j rfl ?_|(apply bD<;>intro _<;>try omega))<;>conv=>whnf)
  exact QM rfl rfl
 conv=>whnf
 repeat' ((first|refine cP (Tv _ _) ?_|(refine gX ?_;intros)|((first|apply bD|apply bN)<;>intro _<;>try omega))<;>conv=>whnf)
 all_goals first
  | (have u:=DV (p:=fun h:Item=>decide (h.s.kind=4) && !HR p h.s) n (by simp[*])
     rw[<-o,u];exact QM rfl rfl)
  |exact nX (k+1) ⟨by omega,by rw[<-o,Qy (p:=fun h:Item=>decide (h.s.kind=4) && !HR p h.s) n (by simp[*])]⟩
def JU:List Str->List Str->Option (List Str)
 |seen,[]=>some seen
 |seen,n::r=>bif seen.any (fun s=>n==s)then none else JU (seen++[n]) r
def I9(i:j<l.length)(h:(seen.any fun s=>l[j]==s)=true):JU seen (l.drop j)=none:=by
 rw[QN i,JU,h];rfl
def CQ(i:j<l.length)(h:(seen.any fun s=>l[j]==s)=false):JU seen (l.drop j)=JU (seen++[l[j]]) (l.drop (j+1)):=by
 rw[QN i,JU,h];rfl
theorem B8:∀{l seen out:List Str},JU seen l=some out->out=seen++l
 |[],seen,out,h=>by rw[JU]at h;cases h;simp
 | n::r,seen,out,h=>by
   rw[JU]at h;cases i:(seen.any fun s=>n==s)<;>rw[i]at h
   .have:=B8 h;simpa using this
   .cases h
def CX(t:Nat)(seen l:List Str)(r:LV)(H:Heap):Prop:=
 match JU seen l with
 |some out=>r=.tup [.hd 2000 0 out.length,.p .tt]/\H=Sb t out
 |none=>∃out,r=.tup [.hd 2000 0 out.length,.p .ff]/\H=Sb t out
def U5{t:Nat}{Q:LV->Heap->Prop}(m:JU seen l=some (seen++l)->Q (.tup [.hd 2000 0 (seen++l).length,.p .tt]) (Sb t (seen++l)))(n:JU seen l=none->∀out,Q (.tup [.hd 2000 0 out.length,.p .ff]) (Sb t out)):∀l' H',CX t seen l l' H'->Q l' H':=by
 intro l' H' h;unfold CX at h;cases i:JU seen l with
 | some out=>
   rw[i]at h;obtain⟨rfl,rfl⟩:=h;have:=B8 i;subst this;exact m i
 | none=>
   rw[i]at h;obtain⟨out,rfl,rfl⟩:=h;exact n i out
def B9(seen l:List Str)(o:seen.length+l.length<=1000000000):
  SpecH prog 100 [.hd 2000 0 seen.length,.p (eStrs l)] (Sb 9 seen) (CX 9 seen l):=by
 refine sK N8 func100 ?_;conv=>whnf
 repeat' ((refine iM fun _=>?_)<;>conv=>whnf)
 have s:(l.map AV.str).length=l.length:=x1j _;refine lI (fun i:Nat×List Str=>⟨[(0,.hd 2000 0 i.2.length),(8,.p (eStrs l)),(9,.p (.int .i64 (l.map AV.str).length)),(10,.j i.1)],Sb 9 i.2⟩) (fun i=>i.1<=l.length/\i.2.length+(l.length-i.1)=seen.length+l.length/\JU i.2 (l.drop i.1)=JU seen l) (fun i=>l.length-i.1) (0,seen) ⟨x1l _,by simp,rfl⟩ ?_;rintro⟨j,h⟩ ⟨q,r,m⟩;simp only at q r m⊢;rcases x1a j l.length with n|n
 .conv=>whnf
  repeat' ((first|(refine gX ?_;intros)|(refine QS (QZ h (l[j]'n)) (.cons (.hd rfl (by simp)) (.cons (.p (Sub.refl _)) .nil)) (by rintro _ rfl;rfl) ?_;rintro _ rfl)|refine pS ?_|((first|apply bD|apply bB)<;>intro _<;>try omega))<;>conv=>whnf)
  .exact ⟨_,.refl _,by unfold CX;rw[<-m,I9 n (by assumption)];exact⟨h,rfl,rfl⟩⟩
  .exact ⟨(j+1,h++[l[j]]),⟨by simp only;omega,by simp;omega,by simp only;rw[<-m,CQ n (by assumption)]⟩,by simp only;omega,Le.of_eq (by simp only[Sb,x1h,x1e];rfl)⟩
 .conv=>whnf
  repeat' (apply bD<;>intro _<;>first|omega|conv=>whnf)
  rw[x2x n,JU]at m;exact⟨_,.refl _,by unfold CX;rw[<-m];exact⟨rfl,rfl⟩⟩
def atB(f:Pr)(h:Str):Int×Bool:=
 match(flL f.body).find? fun t=>t.W.any fun s=>h==s with
 |some t=>(t.id,true)
 |none=>bif f.fin.any fun s=>h==s then(-1,true)else(0,false)
theorem RetK.tup2{H:Heap}{k:IntKind}{m n:Int}{x:AV}(h:m=n)(i:Sub x (.bool b)):RetK H (.p (.tup [.int k m,x])) (fun r=>r=.tup [.int k n,.bool b]):=
 ⟨_,.p (Sub.tup (SubL.cons (Sub.int h) (SubL.cons i SubL.nil))),rfl⟩
def NI(p:Pg)(j:Nat)(f:Pr)(w:p.A[j]?=some f)(e:cntP p.A<=1000)(h:Str):aP 160 [.ip (sheetOf p).cells,.int .i64 j,.str h] (.tup [.int .i64 (atB f h).1,.bool (atB f h).2]):=by
 refine sC Wx func160 ?_;conv=>whnf
 repeat' ((first|(refine iM fun _=>?_)|refine cP (Gf p w e) ?_)<;>conv=>whnf)
 have n:=DW (q:=fun t=>t.W.any fun s=>h==s) (itL (j:Nat) 0 (-1) 0 (QT p.A j) f.body);rw[Qf]at n;have v:(itL (j:Nat) 0 (-1) 0 (QT p.A j) f.body).length<=1000:=by
  have:=(QU p).2.2.2.2 j f w;rw[XL];omega
 generalize y:itL (j:Nat) 0 (-1) 0 (QT p.A j) f.body=its at n v⊢;have g:=ZT its;have u:atB f h=match(its.find? fun m=>m.s.W.any fun s=>h==s).map (fun m=>m.s.id)with
  |some a=>(a,true)
  |none=>bif f.fin.any fun s=>h==s then(-1,true)else(0,false):=by
  unfold atB;rw[n];cases(flL f.body).find? fun t=>t.W.any fun s=>h==s<;>rfl
 rw[u];refine lI (fun k:Nat=>⟨[(0,.p (.ip (sheetOf p).cells)),(1,.j j),(2,.p (.str h)),(12,.p (ZP its)),(13,.p (.int .i64 (its.map fun i=>AV.agg i.cells).length)),(14,.j k)],[]⟩) (fun k=>k<=its.length/\(its.drop k).find? (fun m=>m.s.W.any fun s=>h==s)=its.find? fun m=>m.s.W.any fun s=>h==s) (fun k=>its.length-k) 0 ⟨x1l _,rfl⟩ ?_;rintro k ⟨B,r⟩;rcases x1a k its.length with o|o
 .conv=>whnf
  repeat' ((first|refine cP (QZ _ _) ?_|(refine gX ?_;intros)|((first|apply bD|apply bB)<;>intro _<;>try omega))<;>conv=>whnf)
  .have z:=DV (p:=fun m:Item=>m.s.W.any fun s=>h==s) o (by assumption);rw[<-r,z];exact RetK.tup2 rfl (Sub.tt rfl)
  .exact nX (k+1) ⟨by omega,by rw[<-r,Qy (p:=fun m:Item=>m.s.W.any fun s=>h==s) o (by assumption)]⟩
 .rw [<-r,DZ o];have x:(p.A.map fun f=>AV.agg f.cells)[j]?=some (.agg f.cells):=by simp[w]
  conv=>whnf
  repeat' ((first|refine cP (QZ _ _) ?_|refine iT x ?_|((first|apply bD|apply bB)<;>intro _<;>try omega))<;>conv=>whnf)
  .exact RetK.tup2 (by simp[*]) (Sub.tt (by simp[*]))
  .exact RetK.tup2 (by simp[*]) (Sub.ff (by simp[*]))
def JT(f:Pr)(h:Item):Bool:=if h.s.kind=7\/h.s.kind=8 then !(h.loop==0)else if h.s.kind=10 then(atB f h.s.name).2 else true
def Tt(p:Pg)(j:Nat)(f:Pr)(m:p.A[j]?=some f)(i:cntP p.A<=1000)(h:Item)(n:h.C=j):aP 101 [.ip (sheetOf p).cells,.agg h.cells] (.bool (JT f h)):=by
 refine sC Fp func101 ?_;conv=>whnf
 repeat' ((first|refine cP (NI p j f m i h.s.name) ?_ (ha:=.cons (Sub.refl _) (.cons (Sub.int n) (.cons (Sub.refl _) .nil)))|(apply bD<;>intro _<;>try omega))<;>conv=>whnf)
 all_goals first
  |exact RetK.bool (by simp[JT, *];rfl)
  |exact RetK.bool (by simp[JT, *])
  |exact RetK.tt (by simp[JT, *])
def Ts(p:Pg)(m:Fit p)(h:(XQ p).1=0):aP 99 [.agg p.cells] (.ip (sheetOf p).cells):=by
 refine sC Xv func99 ?_;conv=>whnf
 obtain⟨n,r,o⟩:=JA h;obtain⟨s,q,i⟩:=WO n;repeat' ((first|refine cP (JG p m) ?_|refine cP (DU p (by omega) (by omega)) ?_ (ha:=.cons (Sub.refl _) .nil)|(apply bE<;>intro _<;>try omega))<;>conv=>whnf)
 exact RetK.p rfl
def Hu(p:Pg)(i:Fit p)(h:(XQ p).1≠0):aP 99 [.agg p.cells] .nilp:=by
 refine sC Xv func99 ?_;conv=>whnf
 repeat' ((first|refine cP (JG p i) ?_|(apply bE<;>intro _<;>try omega))<;>conv=>whnf)
 exact RetK.p rfl
mutual
theorem I8(C up nx loop:Int)(n:Nat):∀(t:S)(it:Item),it∈itS C up nx loop n t->it.C=C
 | .mk id kind W name pr x has args V X,it,h=>by
   rw[itS]at h;rcases x1p.1 h with rfl|h
   ·rfl
   ·rcases x1s.1 h with h|h
    ·exact JM _ _ _ _ _ V it h
    ·exact JM _ _ _ _ _ X it h
theorem JM(C up nx loop:Int)(n:Nat):∀(l:List S)(it:Item),it∈itL C up nx loop n l->it.C=C
 |[],it,h=>by rw[itL]at h;cases h
 | t::r,it,h=>by
   rw[itL]at h;rcases x1s.1 h with h|h
   ·exact I8 _ _ _ _ _ t it h
   ·exact JM _ _ _ _ _ r it h
end
def DC(f:Pr):List Item->List Str->Except Int (List Str)
 |[],seen=>.ok seen
 | it::r,seen=>match JU seen it.s.W with
   |none=>.error it.s.id
   |some s=>bif JT f it then DC f r s else .error it.s.id
def JL(p:Pg)(j:Nat):Option Int:=
 match p.A[j]?with
 |none=>none
 | some f=>match DC f (itL (j:Nat) 0 (-1) 0 (QT p.A j) f.body) []with
   |.error id=>some id
   | .ok seen=>match JU seen f.fin with
     |none=>some 0
     |some _=>none
def Zh(p:Pg):Int×Int:=
 if(XQ p).1≠0 then(1,0)else match(List.range p.A.length).findSome? (JL p)with
  |some a=>(7,a)
  |none=>(0,0)
def Iq(i:k<its.length)(h:JU seen its[k].s.W=none):DC f (its.drop k) seen=.error its[k].s.id:=by
 rw[QN i,DC,h]
def CW{s:List Str}(i:k<its.length)(h:JU seen its[k].s.W=some s)(m:JT f its[k]=false):DC f (its.drop k) seen=.error its[k].s.id:=by
 rw[QN i,DC,h];simp only[m,x2f]
def CV{s:List Str}(i:k<its.length)(h:JU seen its[k].s.W=some s)(m:JT f its[k]=true):DC f (its.drop k) seen=DC f (its.drop (k+1)) s:=by
 rw[QN i,DC,h];simp only[m,x2y]
def Nc{l:List Pr}(t:j<l.length)(h:wPr l[j]<=21000){b:Int}{n:Nat}(i:k<(itL a b c d n l[j].body).length):(itL a b c d n l[j].body)[k].s.W.length<=21000:=by
 have m:(itL a b c d n l[j].body)[k].s∈flL l[j].body:=by
  rw[<-Qf a b c d n];exact x1r.2 ⟨_,x1c i,rfl⟩
 have o:=Nd _ _ m;have q:=Su (itL a b c d n l[j].body)[k].s;have r:=F8 (itL a b c d n l[j].body)[k].s.W;unfold wPr at h;omega
def Tr(p:Pg)(B:Fit p):aP 61 [.agg p.cells] (Jl (Zh p).1 (Zh p).2):=by
 refine sC Fb func61 ?_;conv=>whnf
 rcases Decidable.em ((XQ p).1=0)with g|g;rotate_left 1
 ·
  repeat' ((first|refine cP (Hu p B g) ?_|refine x2j rfl ?_)<;>conv=>whnf)
  have e:Zh p=(1,0):=by unfold Zh;rw[if_pos g]
  exact QM (by rw[e]) (by rw[e])
 obtain⟨N,R,O⟩:=JA g;obtain⟨T,P,J⟩:=WO N;have I:Zh p=match(List.range p.A.length).findSome? (JL p)with
  |some a=>(7,a)
  |none=>(0,0):=by unfold Zh;rw[if_neg (by omega)]
 rw[I];have U:(p.A.map fun f=>AV.agg f.cells).length=p.A.length:=x1j _;repeat' ((first|(refine iM fun _=>?_)|refine cP (Ts p B g) ?_)<;>conv=>whnf)
 refine lI (fun j:Nat=>⟨[(2,.ptr 1 0),(3,.p (.ip (sheetOf p).cells)),(16,.p (.sl (p.A.map fun f=>.agg f.cells))),(17,.p (.int .i64 (p.A.map fun f=>AV.agg f.cells).length)),(18,.j j)],[(1,.obj 80 [.p (.int .i64 0),.j 0])]⟩) (fun j=>j<=p.A.length/\((List.range p.A.length).drop j).findSome? (JL p)=(List.range p.A.length).findSome? (JL p)) (fun j=>p.A.length-j) 0 ⟨x1l _,rfl⟩ ?_;rintro j ⟨Q,y⟩;rcases x1a j p.A.length with t|t;rotate_left 1
 .have e:(List.range p.A.length).findSome? (JL p)=none:=by rw[<-y,Xm (by simpa using t)]
  rw[e];conv=>whnf
  repeat' ((first|refine x2j rfl ?_|(apply bD<;>intro _<;>try omega))<;>conv=>whnf)
  exact QM rfl rfl
 have z:=B.pr (x1c t);have o:j<(List.range p.A.length).length:=by simpa using t
 have r:(List.range p.A.length)[j]=j:=by simp
 have q:p.A[j]?=some p.A[j]:=by simp[t]
 conv=>whnf
 repeat' ((first|(refine gX ?_;intros)|refine cP (Gf p (f:=p.A[j]'t) q (by omega)) ?_ (ha:=.cons (Sub.refl _) (.cons (Sub.refl _) .nil))|(apply bD<;>intro _<;>try omega))<;>conv=>whnf)
 have u:∀k (n:k<(itL (j:Nat) 0 (-1) 0 (QT p.A j) p.A[j].body).length),(itL (j:Nat) 0 (-1) 0 (QT p.A j) p.A[j].body)[k].s.W.length<=21000:=fun k n=>Nc t z n;have v:∀k (n:k<(itL (j:Nat) 0 (-1) 0 (QT p.A j) p.A[j].body).length),(itL (j:Nat) 0 (-1) 0 (QT p.A j) p.A[j].body)[k].C=j:=fun k n=>JM _ _ _ _ _ _ _ (x1c n);have D:(itL (j:Nat) 0 (-1) 0 (QT p.A j) p.A[j].body).length<=200:=by
  have:=(QU p).2.2.2.2 j _ q;rw[XL];omega
 have h:JL p j=match DC p.A[j] (itL (j:Nat) 0 (-1) 0 (QT p.A j) p.A[j].body) []with
  |.error id=>some id
  | .ok seen=>match JU seen p.A[j].fin with
    |none=>some 0
    |some _=>none:=by
  unfold JL;rw[q]
 generalize F:itL (j:Nat) 0 (-1) 0 (QT p.A j) p.A[j].body=its at u v D h⊢;have L:=ZT its;refine lJ (fun i:Nat×List Str=>⟨[(2,.ptr 1 0),(3,.p (.ip (sheetOf p).cells)),(5,.p (.ip (p.A[j]'t).cells)),(6,.hd 0 0 i.2.length),(16,.p (.sl (p.A.map fun f=>.agg f.cells))),(17,.p (.int .i64 (p.A.map fun f=>AV.agg f.cells).length)),(18,.j j),(25,.p (ZP its)),(26,.p (.int .i64 (its.map fun i=>AV.agg i.cells).length)),(27,.j i.1)],[(0,.own 9 1 (i.2.map .str)),(1,.obj 80 [.p (.int .i64 0),.j 0])]⟩) (fun i=>i.1<=its.length/\i.2.length<=21000*i.1/\DC p.A[j] (its.drop i.1) i.2=DC p.A[j] its []) (fun i=>its.length-i.1) (0,[]) (lM [(0,.own 9 1 [])]) ⟨x1l _,by simp,rfl⟩ ?_;rintro⟨k,w⟩ ⟨G,H,x⟩;simp only at G H x⊢;rcases x1a k its.length with n|n
 .have M:=u k n;conv=>whnf
  repeat' ((first|(refine gX ?_;intros)|refine cP (Tt p j p.A[j] q (by omega) its[k] (v k n)) ?_ (ha:=.cons (Sub.refl _) (.cons (Sub.refl _) .nil))|((first|apply bD|apply bN)<;>intro _<;>try omega)|(refine CallK.heap [(2000,0)] 0 (by repeat' (first|exact x4v|refine x2b ?_ ?_|exact x2u _|exact x6v Sub.nils|exact x6v (Sub.tt rfl)|exact x6v (Sub.ff rfl)|exact x6v (Sub.int (by omega)))) (by refine x2h (j:=0) rfl rfl ?_ ?_;exact CSub.refl _;exact x3n) (B9 w its[k].s.W (by omega)) rfl rfl (U5 (fun m=>?_) (fun m out=>?_))))<;>conv=>whnf)
  .exact nX (k+1,w++its[k].s.W) ⟨by simp only;omega,by simp;omega,by simp only;rw[<-x,CV n m (by assumption)]⟩
  .rw [<-x,CW n m (by assumption)]at h;have e2:=VJ (f:=JL p) o (by rw[r];exact h);rw[y]at e2;rw[e2];exact QM rfl rfl
  .rw [<-x,Iq n m]at h;have e2:=VJ (f:=JL p) o (by rw[r];exact h);rw[y]at e2;rw[e2];exact QM rfl rfl
 .have E:p.A[j].fin.length<=21000:=by
   have:=F8 p.A[j].fin;unfold wPr at z;omega
  rw[x2x n,DC]at x;rw[<-x]at h;simp only at h;conv=>whnf
  repeat' ((first|refine gX ?_|(apply bD<;>intro _<;>try omega)|(refine CallK.heap [(2000,0)] 0 (by repeat' (first|exact x4v|refine x2b ?_ ?_|exact x2u _|exact x6v Sub.nils|exact x6v (Sub.tt rfl)|exact x6v (Sub.ff rfl)|exact x6v (Sub.int (by omega)))) (by refine x2h (j:=0) rfl rfl ?_ ?_;exact CSub.refl _;exact x3n) (B9 w p.A[j].fin (by omega)) rfl rfl (U5 (fun m=>?_) (fun m out=>?_))))<;>conv=>whnf)
  .rw [m]at h;exact nX (j+1) ⟨by omega,by rw[<-y,Vz (f:=JL p) o (by rw[r];exact h)]⟩
  .rw [m]at h;have e2:=VJ (f:=JL p) o (by rw[r];exact h);rw[y]at e2;rw[e2];exact QM rfl rfl
theorem BsK.pureL{sz:Nat}{out:List LV}{i m:Prop}(r:(es.all fun x=>x.cells.length==sz)=true)(q:out=(es.flatMap AV.cells).map .p)(o:i):BsK es sz out i m:=.pure (fun x h=>by simpa using x3d.1 r x h) q o
end Go.Ab
