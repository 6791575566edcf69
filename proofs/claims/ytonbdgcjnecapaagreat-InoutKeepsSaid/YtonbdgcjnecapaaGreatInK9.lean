/- tree, flat, scope: the names of an expression, of a statement; what a name is. -/
import Derived.Test.YtonbdgcjnecapaaGreatInK8
set_option linter.all false
set_option maxRecDepth 100000
set_option maxHeartbeats 16000000
open List (drop_zero)
namespace Go.Ab
open Go.Proofs.Tryz
open Go.Proofs
variable {α β:Type}{K:Prop}{a c d:Int}{b:Bool}{es:List AV}{f:Pr}{its:List Item}{j k:Nat}{l seen:List Str}{p:Pg}
def ZS{n:Nat}(xs:List Str)(h:n=es.length)(o:es.length+xs.length<=8796093022208)(i:K):AppK es (xs.map .str) n (xs.map AV.str).length 1 16 K:=
 .mk h rfl (by rw[h];simp;omega) (by rw[h];simp[maxLen];omega) (fun x m=>by obtain⟨y,_,rfl⟩:=x6r.1 m;exact⟨rfl,rfl⟩) i
def QP{n:Nat}{s:Str}(i:n=es.length)(o:es.length<=8796093022000)(h:K):AppK es [.str s] n 1 1 16 K:=
 .mk i rfl (by omega) (by simp only[maxLen];omega) (fun x m=>by rcases x6p.1 m with rfl;exact⟨rfl,rfl⟩) h
def WZ{n:Nat}{s:Int}(i:n=es.length)(o:es.length<=8796093022000)(h:K):AppK es [.int .i64 s] n 1 1 8 K:=
 .mk i rfl (by omega) (by simp only[maxLen];omega) (fun x m=>by rcases x6p.1 m with rfl;exact⟨rfl,rfl⟩) h
mutual
def Gv:X->List Str->List Str
 |.mk op _ name kids,out=>HD kids (if op=2/\(out.any fun s=>name==s)=false then out++[name]else out)
def HD:List X->List Str->List Str
 |[],out=>out
 |x::r,out=>HD r (Gv x out)
end
def B4(x:X)(out:List Str):Gv x out=HD x.kids (if x.op=2/\(out.any fun s=>x.name==s)=false then out++[x.name]else out):=by
 cases x;rw[Gv];rfl
def Ht{l:List X}{out:List Str}(h:j<l.length):HD (l.drop j) out=HD (l.drop (j+1)) (Gv l[j] out):=by
 rw[QF h,HD]
def Mx{l:List X}{out:List Str}(h:l.length<=j):HD (l.drop j) out=out:=by
 rw[x7v h,HD]
def NJ{n:Nat}{x:X}(h:WQ (n+1) x=true):x.kids.length<=2/\(x.op=2->x.kids.length=0)/\∀k∈x.kids,WQ n k=true:=by
 rw[WQ]at h;simp only[x7y,x7s]at h;obtain⟨i,m⟩:=h;refine⟨?_,fun r=>?_,?_⟩
 .unfold Xe at i;(repeat' split at i)<;>omega
 .unfold Xe at i;rw[if_pos (by omega)]at i;omega
 .by_cases o:x.op=1
  .have:x.kids.length=0:=by unfold Xe at i;rw[if_pos (by omega)]at i;omega
   rw[x8a this];simp
  .by_cases q:x.op=2
   .have:x.kids.length=0:=by unfold Xe at i;rw[if_pos (by omega)]at i;omega
    rw[x8a this];simp
   .rw [if_neg o,if_neg q]at m;simp only[x7y]at m;exact x8h.1 m.2
def RG:∀(n:Nat)(x:X)(out:List Str),WQ n x=true->out.length<=(Gv x out).length/\(Gv x out).length<=out.length+2^n:=by
 intro n;induction n with
 |zero=>intro x out h;rw[WQ]at h;cases h
 | succ n g=>
   intro x out h;obtain⟨w,y,z⟩:=NJ h;have key:∀(l:List X)(o:List Str),(∀k∈l,WQ n k=true)->o.length<=(HD l o).length/\(HD l o).length<=o.length+l.length*2^n:=by
    intro l;induction l with
    |nil=>intro o _;simp[HD]
    | cons k r t=>
      intro o u;rw[HD];have e:=g k o (u k (by simp));have A:=t (Gv k o) fun k q=>u k (by simp[q]);simp only[x7g,x9g,z2r];omega
   rw[B4];have B:2^(n+1)=2*2^n:=by rw[Nat.pow_succ];omega
   have v:0<2^n:=Nat.pow_pos (by decide);have m:=key x.kids (if x.op=2/\(out.any fun s=>x.name==s)=false then out++[x.name]else out) z;have e:x.kids.length*2^n<=2*2^n:=x8g _ w;split at m
   .rename_i i;have:=y i.1;rw[this]at m;rw[if_pos i];simp only[x6f,x7r]at m;omega
   .rename_i i;rw[if_neg i];omega
def Bm(t:Nat)(out:List Str):Heap:=[(2000,.own t 1 (out.map .str))]
def G0:∀(n:Nat)(_:n<=20)(x:X)(_:WQ n x=true)(out:List Str)(_:out.length+2^n<=1073741824),
  SpecH prog 223 [.p (.agg x.cells),.hd 2000 0 out.length] (Bm 9 out) (fun r H=>r=.hd 2000 0 (Gv x out).length/\H=Bm 9 (Gv x out)):=by
 intro n;induction n with
 |zero=>intro _ x h;rw[WQ]at h;cases h
 | succ n B=>
   intro E x y out F;have G:2^(n+1)=2*2^n:=by rw[Nat.pow_succ];omega
   have z:0<2^n:=Nat.pow_pos (by decide);obtain⟨u,v,q⟩:=NJ y;have A:=X.avs_len x.kids;refine sH Du func223 rfl call223 ?_;conv=>whnf
   repeat' (first|((first|(refine iM fun _=>?_)|refine x6d rfl ?_|refine aD ?_|refine bP ?_|(refine QB (QU out x.name) (.cons (.hd rfl (by simp)) (.cons (.p (Sub.refl _)) .nil)) (by rintro _ rfl;rfl) ?_;rintro _ rfl)|refine x8e (by simp) rfl (by show(out.length+1)*16<=140737488355328;omega) (by show out.length+1<=9223372036854775807;omega) (fun x y=>by rcases x6p.1 y with rfl;exact⟨rfl,rfl⟩) ?_);conv=>whnf)|(apply bD<;>intro _<;>first|omega|conv=>whnf)|(apply bN<;>intro _<;>conv=>whnf))
   all_goals
    have s:∀j,j<x.kids.length->(x.kids.length-j)*2^n=(x.kids.length-(j+1))*2^n+2^n:=fun j o=>by
     rw[show x.kids.length-j=(x.kids.length-(j+1))+1 by omega,x9g,z2r]
    have w:x.kids.length*2^n<=2*2^n:=x8g _ u;first
    |refine LoopK.inv QW (fun i:Nat×List Str=>⟨[(1,.hd 2000 0 i.2.length),(23,.p (.sl (X.avs x.kids))),(24,.p (.int .i64 (X.avs x.kids).length)),(25,.p (.int .i64 i.1))],Bm 9 i.2⟩) (fun i=>i.1<=x.kids.length/\HD (x.kids.drop i.1) i.2=Gv x out/\i.2.length+(x.kids.length-i.1)*2^n<=1073741824) (fun i=>x.kids.length-i.1) (0,out++[x.name]) (Le.of_eq (by simp[Bm];exact⟨rfl,rfl⟩)) ⟨x6t _,by simp only[drop_zero];rw[B4,if_pos ⟨by assumption,by assumption⟩],by have:=v (by assumption);simp[this];omega⟩ ?_
    |refine LoopK.inv QW (fun i:Nat×List Str=>⟨[(1,.hd 2000 0 i.2.length),(23,.p (.sl (X.avs x.kids))),(24,.p (.int .i64 (X.avs x.kids).length)),(25,.p (.int .i64 i.1))],Bm 9 i.2⟩) (fun i=>i.1<=x.kids.length/\HD (x.kids.drop i.1) i.2=Gv x out/\i.2.length+(x.kids.length-i.1)*2^n<=1073741824) (fun i=>x.kids.length-i.1) (0,out) (Le.of_eq rfl) ⟨x6t _,by simp only[drop_zero];rw[B4,if_neg (by simp[*])],by simp only[Nat.sub_zero];omega⟩ ?_
    rintro⟨j,m⟩ ⟨e,t,g⟩;simp only at e t g⊢;conv=>whnf
    repeat' (first|((first|refine x6d rfl ?_|refine IdxK.xs (by omega) ?_);conv=>whnf)|(apply bD<;>intro _<;>first|omega|conv=>whnf))
    all_goals first
     | (rw[Mx (by omega)]at t
        exact⟨_,.refl _,by rw[t];exact⟨rfl,rfl⟩⟩)
     | (have o:j<x.kids.length:=by omega
        have D:=s j o;have C:=RG n x.kids[j] m (q _ (x6o o));refine CallK.heap [(2000,2000)] 0 (by repeat' (first|exact x7h|refine x6i ?_ ?_|exact x6e _|exact x7q Sub.nils|exact x7q (Sub.tt rfl)|exact x7q (Sub.ff rfl)|exact x7q (Sub.int (by omega)))) (by refine x6y (j:=2000) rfl rfl ?_ ?_;exact CSub.refl _;exact x7f) (B (by omega) x.kids[j] (q _ (x6o o)) m (by omega)) rfl rfl ?_;rintro l' H' ⟨rfl,rfl⟩;conv=>whnf
        refine wI ?_;conv=>whnf
        exact⟨(j+1,Gv x.kids[j] m),⟨by simp only;omega,by simp only;rw[<-t,Ht o],by simp only;omega⟩,by simp only;omega,Le.of_eq rfl⟩)
def XW(x:X):List Str:=bif R5 x then Gv x []else []
def WU(x:X):(XW x).length<=1048576:=by
 unfold XW;cases h:R5 x with
 |false=>simp
 | true=>
   have:=(RG 20 x [] h).2;simpa using this
def Vk(x:X):SpecP prog 167 [.agg x.cells] (fun r=>r=eStrs (XW x)):=by
 refine sB Vt func167 rfl call167 ?_;conv=>whnf
 repeat' (first|(refine cP (GY _) ?_;conv=>whnf)|(apply bN<;>intro _<;>conv=>whnf))
 .refine CallK.nil 5 9 1 rfl (.cons rfl (.row .nil)) ?_;refine CallK.heap [(2000,5)] 0 (by repeat' (first|exact x7h|refine x6i ?_ ?_|exact x6e _|exact x7q Sub.nils|exact x7q (Sub.tt rfl)|exact x7q (Sub.ff rfl)|exact x7q (Sub.int (by omega)))) (by refine x6y (j:=5) rfl rfl ?_ ?_;exact CSub.refl _;exact x7f) (G0 20 (by omega) x (by assumption) [] (by simp)) rfl rfl ?_;rintro l' H' ⟨rfl,rfl⟩;conv=>whnf
  refine⟨_,.hd rfl (by simp),?_⟩;unfold XW;rw[show R5 x=true by assumption];rfl
 .refine ⟨_,.p Sub.nils,?_⟩;unfold XW;rw[show R5 x=false by assumption];rfl
def YA(a:Arg):List Str:=(bif a.ref then [a.name]else [])++XW a.x
def HL(t:S):List Str:=(bif t.kind≠10 && !(t.name==[])then [t.name]else [])++XW t.x
def ZJ(t:S):List Str:=HL t++t.args.flatMap YA
def CQ(a:Arg):(YA a).length<=1048577:=by
 have:=WU a.x;unfold YA;cases a.ref<;>simp<;>omega
def CX(t:S):(HL t).length<=1048577:=by
 have:=WU t.x;unfold HL;cases(t.kind≠10 && !(t.name==[]):Bool)<;>simp<;>omega
theorem FC{α β:Type}{f:α->List β}{c:Nat}(h:∀a,(f a).length<=c):∀l:List α,(l.flatMap f).length<=l.length*c
 |[]=>by simp
 | x::r=>by
   have:=FC h r;have:=h x;simp only[x8n,x6f,x7g,x9g,z2r];omega
def Dh(t:S)(j:Nat):List Str:=HL t++(t.args.take j).flatMap YA
def Tr(t:S)(h:j<=t.args.length)(o:t.args.length<=21000):(Dh t j).length<=23000000000:=by
 have i:=CX t;have m:=FC CQ (t.args.take j);have n:(t.args.take j).length*1048577<=21000*1048577:=x8g _ (by simp;omega);unfold Dh;simp only[x6f];omega
def Nx{t:S}(h:j<t.args.length):Dh t (j+1)=Dh t j++YA t.args[j]:=by
 unfold Dh;rw[x7x h,z1g,x7n];simp
def DC(t:S)(h:Nat)(j:Nat):St:=⟨[(3,.hd 0 0 (Dh t j).length),(25,.p (.sl (t.args.map fun a=>.agg a.cells))),(26,.p (.int .i64 (t.args.map fun a=>AV.agg a.cells).length)),(27,.p (.int .i64 j))],[(0,.own h 1 ((Dh t j).map .str))]⟩
def Hp(t:S)(o:t.args.length<=21000):SpecP prog 211 [.agg t.cells] (fun r=>r=eStrs (ZJ t)):=by
 refine sB Pt func211 rfl call211 ?_;conv=>whnf
 repeat' (first|((first|(refine iM fun _=>?_)|refine cP (Vk _) ?_|refine x6d rfl ?_|refine aD ?_|refine bP ?_|refine ZS _ (by simp) (by have:=WU t.x;simp;omega) ?_|refine QP (by simp) (by simp) ?_);conv=>whnf)|(apply bE<;>intro _<;>first|omega|conv=>whnf)|(apply bN<;>intro _<;>conv=>whnf))
 all_goals
  have s:(t.args.map fun a=>AV.agg a.cells).length=t.args.length:=x6j _;refine LoopK.inv QW (DC t 9) (fun j=>j<=t.args.length) (fun j=>t.args.length-j) 0 (Le.of_eq ?_) (x6t _) ?_
  .first
    | (have e:Dh t 0=XW t.x:=by simp[Dh,HL,show t.kind=10 by assumption]
       rw[DC,e];simp only[x8d,x6j,x6f,x6l,x9z];rfl)
    | (have e:Dh t 0=XW t.x:=by simp[Dh,HL,show t.name=[] by simpa using(show(t.name==[])=true by assumption)]
       rw[DC,e];simp only[x8d,x6j,x6f,x6l,x9z];rfl)
    | (have e:Dh t 0=[t.name]++XW t.x:=by
        have:(t.name==[])=false:=by assumption
        simp[Dh,HL,show ¬t.kind=10 by assumption,this]
       rw[DC,e];simp only[x8d,x6j,x6f,x6l,x9z];rfl)
  intro j n;have m:=Tr t n o;conv=>whnf
  repeat' (first|((first|refine cP (Vk _) ?_|refine x6d rfl ?_|refine aD ?_|refine bP ?_|(refine iA fun _=>?_)|refine wI ?_|refine ZS _ (by simp) (by have:=WU (t.args[j]'(by omega)).x;simp;omega) ?_|refine QP (by simp) (by simp;omega) ?_);conv=>whnf)|(apply bD<;>intro _<;>first|omega|conv=>whnf)|(apply bB<;>intro _<;>conv=>whnf))
  all_goals first
   |exact⟨_,.hd rfl (by simp),by
      have:t.args.take j=t.args:=x7w (by omega);rw[ZJ,<-this];rfl⟩
   | (have q:j<t.args.length:=by omega
      have h:=Nx q;refine⟨j+1,by show j+1<=_;omega,by show t.args.length-(j+1)<t.args.length-j;omega,Le.of_eq ?_⟩;first
       | (have i:YA t.args[j]=[t.args[j].name]++XW t.args[j].x:=by rw[YA,show t.args[j].ref=true by assumption];rfl
          rw[DC,h,i];simp only[x6f,x6l,x6j,<-x7n,<-x9k];rfl)
       | (have i:YA t.args[j]=XW t.args[j].x:=by rw[YA,show t.args[j].ref=false by assumption];rfl
          rw[DC,h,i];simp only[x6f,x6l,x6j];rfl))
def La:List Str->Nat
 |[]=>0
 |s::r=>1+La r
mutual
def wX:X->Nat
 |.mk _ _ name kids=>1+wXs kids
def wXs:List X->Nat
 |[]=>0
 |x::r=>wX x+wXs r
end
def Zb:List Arg->Nat
 |[]=>0
 |a::r=>wX a.x+1+Zb r
mutual
def wS:S->Nat
 |.mk _ _ F name D x _ args I L=>wX x+La F+1+1+Zb args+wL I+wL L
def wL:List S->Nat
 |[]=>0
 |s::r=>wS s+wL r
end
def q1n:List Param->Nat
 |[]=>0
 |a::r=>1+q1n r
def wPr(f:Pr):Nat:=1+La f.E+La f.fin+q1n f.C+wL f.body
def A4:List Pr->Nat
 |[]=>0
 |f::r=>wPr f+A4 r
def wPg(p:Pg):Nat:=La p.B+A4 p.A
def Fit(p:Pg):Prop:=wPg p<=21000
theorem YR:∀l:List Str,l.length<=La l
 |[]=>x6t _
 |s::r=>by have:=YR r;simp only[x7g,La];omega
theorem YO:∀l:List Arg,l.length<=Zb l
 |[]=>x6t _
 |s::r=>by have:=YO r;simp only[x7g,Zb];omega
theorem SD:∀l:List Param,l.length<=q1n l
 |[]=>x6t _
 |s::r=>by have:=SD r;simp only[x7g,q1n];omega
def H4(s:S):wS s=wX s.x+La s.F+1+1+Zb s.args+wL s.I+wL s.L:=by
 cases s;rw[wS];rfl
mutual
theorem q7d:∀s:S,XT s<=wS s
 | .mk id kind F name D x has args I L=>by
   have:=Nr I;have:=Nr L;rw[XT,wS];omega
theorem Nr:∀l:List S,cntL l<=wL l
 |[]=>by rw[cntL,wL];exact x7u _
 | s::r=>by
   have:=q7d s;have:=Nr r;rw[cntL,wL];omega
end
theorem IP:∀{l:List Pr}{f:Pr},f∈l->wPr f<=A4 l
 | g::r,f,h=>by
   simp only[A4];rcases x6m.1 h with rfl|h
   .omega
   .have:=IP h;omega
theorem Fit.pr(h:Fit p)(i:f∈p.A):wPr f<=21000:=by
 have:=IP i;unfold Fit wPg at h;omega
mutual
def flS:S->List S
 |.mk id kind F name D x has args I L=>.mk id kind F name D x has args I L::(flL I++flL L)
def flL:List S->List S
 |[]=>[]
 |s::r=>flS s++flL r
end
def TK(s:S):flS s=s::(flL s.I++flL s.L):=by
 cases s;rw[flS];rfl
mutual
theorem E5:∀s:S,(flS s).length=XT s
 | .mk id kind F name D x has args I L=>by
   rw[flS,XT,x7g,x6f,Wh I,Wh L];omega
theorem Wh:∀l:List S,(flL l).length=cntL l
 |[]=>by rw[flL,cntL];rfl
 |s::r=>by rw[flL,cntL,x6f,E5 s,Wh r]
end
mutual
theorem x1m:∀(s t:S),t∈flS s->wS t<=wS s
 | .mk id kind F name D x has args I L,t,h=>by
   rw[flS]at h;rcases x6m.1 h with rfl|h
   ·exact x7u _
   ·rw[wS];rcases x6s.1 h with h|h
    ·have:=Ub I t h;omega
    ·have:=Ub L t h;omega
theorem Ub:∀(l:List S)(t:S),t∈flL l->wS t<=wL l
 |[],t,h=>by rw[flL]at h;cases h
 | s::r,t,h=>by
   rw[flL]at h;rw[wL];rcases x6s.1 h with h|h
   ·have:=x1m s t h;omega
   ·have:=Ub r t h;omega
end

mutual
def itS(D up nx loop:Int)(n:Nat):S->List Item
 | .mk id kind F name pr x has args I L=>
   ⟨.mk id kind F name pr x has args I L,D,up,nx,loop⟩::(itL D (n+1) (if kind=6 then n+1 else nx) (if kind=6 then n+1 else loop) (n+1) I ++
     itL D (n+1) (if kind=6 then n+1 else nx) (if kind=6 then n+1 else loop) (n+1+cntL I) L)
def itL(D up nx loop:Int)(n:Nat):List S->List Item
 |[]=>[]
 |t::r=>itS D up (if r.isEmpty then nx else n+1+XT t) loop n t++itL D up nx loop (n+XT t) r
end
def q8t(D m i h:Int)(n:Nat)(t:S):itS D m i h n t=⟨t,D,m,i,h⟩::(itL D (n+1) (if t.kind=6 then n+1 else i) (if t.kind=6 then n+1 else h) (n+1) t.I ++
   itL D (n+1) (if t.kind=6 then n+1 else i) (if t.kind=6 then n+1 else h) (n+1+cntL t.I) t.L):=by
 cases t;rw[itS];rfl
mutual
theorem q6z(D up nx loop:Int):∀(t:S)(acc:List Item),Yk D up nx loop acc t=acc++itS D up nx loop acc.length t
 | .mk id kind F name pr x has args I L,acc=>by
   rw[Yk,itS,Zz _ _ _ _ I,Zz _ _ _ _ L];simp only[x6f,x7g,x9y,x7n,z0a,x9z,ZC D _ _ _ _ I,x8d,x9k,z2h (cntL I) 1]
theorem Zz(D up nx loop:Int):∀(l:List S)(acc:List Item),XN D up nx loop acc l=acc++itL D up nx loop acc.length l
 |[],acc=>by rw[XN,itL,x8x]
 | t::r,acc=>by
   rw[XN,itL,q6z _ _ _ _ t,Zz _ _ _ _ r];simp only[x6f,x7n,En D _ _ _ _ t]
theorem En(D up nx loop:Int)(n:Nat):∀t:S,(itS D up nx loop n t).length=XT t
 | .mk id kind F name pr x has args I L=>by
   rw[itS,XT,x7g,x6f,ZC _ _ _ _ _ I,ZC _ _ _ _ _ L];omega
theorem ZC(D up nx loop:Int)(n:Nat):∀l:List S,(itL D up nx loop n l).length=cntL l
 |[]=>by rw[itL,cntL];rfl
 |t::r=>by rw[itL,cntL,x6f,En _ _ _ _ _ t,ZC _ _ _ _ _ r]
end
mutual
theorem x1a(D up nx loop:Int)(n:Nat):∀t:S,(itS D up nx loop n t).map Item.s=flS t
 | .mk id kind F name pr x has args I L=>by
   rw[itS,flS,x7l,x6l,BU _ _ _ _ _ I,BU _ _ _ _ _ L]
theorem BU(D up nx loop:Int)(n:Nat):∀l:List S,(itL D up nx loop n l).map Item.s=flL l
 |[]=>by rw[itL,flL];rfl
 |t::r=>by rw[itL,flL,x6l,x1a _ _ _ _ _ t,BU _ _ _ _ _ r]
end
def QH:List Pr->Nat->Nat
 |_,0=>0
 |[],_+1=>0
 |f::r,i+1=>cntL f.body+QH r i
theorem Mi:∀(l:List Pr)(i:Nat)(acc:List Item)(lo hi:List Int),lo.length=i->hi.length=i->
  (Gu i acc lo hi l).2.1.length=i+l.length/\(Gu i acc lo hi l).2.2.length=i+l.length/\
  (∀k,k<i->(Gu i acc lo hi l).2.1[k]?=lo[k]? /\(Gu i acc lo hi l).2.2[k]?=hi[k]?)/\∃L,(Gu i acc lo hi l).1=acc++L/\L.length=cntP l/\
  ∀(k:Nat)(f:Pr),l[k]?=some f->(Gu i acc lo hi l).2.1[i+k]?=some ((acc.length+QH l k:Nat)+1:Int)/\(Gu i acc lo hi l).2.2[i+k]?=some ((acc.length+QH l k+cntL f.body:Nat)+1:Int)/\
   QH l k+cntL f.body<=cntP l/\(L.take (QH l k+cntL f.body)).drop (QH l k)=itL (i+k:Nat) 0 (-1) 0 (acc.length+QH l k) f.body
 | [],i,acc,lo,hi,h1,h2=>by
   rw[Gu];exact⟨by simpa using h1,by simpa using h2,fun _ _=>⟨rfl,rfl⟩,[],by simp,rfl,fun k f h=>by simp at h⟩
 | f::r,i,acc,lo,hi,h1,h2=>by
   rw[Gu];have s:=Zz i 0 (-1) 0 f.body acc;have m:=XK i 0 (-1) 0 acc f.body;obtain⟨w,x,u,L,y,z,e⟩:=Mi r (i+1) (XN i 0 (-1) 0 acc f.body) (lo++[(acc.length:Int)+1]) (hi++[((XN i 0 (-1) 0 acc f.body).length:Int)+1]) (by simp[h1]) (by simp[h2]);refine⟨by rw[w,x7g];omega,by rw[x,x7g];omega,fun k A=>?_,itL i 0 (-1) 0 acc.length f.body++L,?_,?_,fun k g t=>?_⟩
   .obtain ⟨q,n⟩:=u k (by omega);rw[q,n,x7b (by omega),x7b (by omega)];exact⟨rfl,rfl⟩
   .rw [y,s,x7n]
   .rw [x6f,z,ZC,cntP]
   .cases k with
    | zero=>
      simp only[z1k,x9a]at t;subst t;obtain⟨q,n⟩:=u i (by omega);simp only[z0r,QH,x8d,drop_zero];refine⟨?_,?_,?_,?_⟩
      .rw [q,x7d (by omega),h1];simp
      .rw [n,x7d (by omega),h2,m];simp
      .rw [cntP];omega
      .rw [List.take_append_of_le_length (by rw[ZC];omega),x7w (by rw[ZC];omega)]
    | succ k=>
      simp only[z0w]at t;obtain⟨q,n,v,o⟩:=e k g t;rw[m]at o;simp only[QH];refine⟨?_,?_,?_,?_⟩
      .rw [show i+(k+1)=i+1+k by omega,q,m];congr 2;omega
      .rw [show i+(k+1)=i+1+k by omega,n,m];congr 2;omega
      .rw [cntP];omega
      .rw [List.take_append,List.drop_append,ZC,x7w (by rw[ZC];omega),x7v (by rw[ZC];omega),x9z];simp only[ZC];rw[show cntL f.body+QH r k+cntL g.body-cntL f.body=QH r k+cntL g.body by omega,show cntL f.body+QH r k-cntL f.body=QH r k by omega,o];rw[show i+(k+1)=i+1+k by omega,show acc.length+(cntL f.body+QH r k)=acc.length+cntL f.body+QH r k by omega]
def QY(p:Pg):(sheetOf p).p=p/\(sheetOf p).lo.length=p.A.length/\(sheetOf p).hi.length=p.A.length/\(sheetOf p).l.length=cntP p.A/\
  ∀(k:Nat)(f:Pr),p.A[k]?=some f->(sheetOf p).lo[k]?=some ((QH p.A k:Nat)+1:Int)/\(sheetOf p).hi[k]?=some ((QH p.A k+cntL f.body:Nat)+1:Int)/\
   QH p.A k+cntL f.body<=cntP p.A/\((sheetOf p).l.take (QH p.A k+cntL f.body)).drop (QH p.A k)=itL k 0 (-1) 0 (QH p.A k) f.body:=by
 obtain⟨i,m,_,L,h,n,o⟩:=Mi p.A 0 [] [] [] rfl rfl;refine⟨rfl,by unfold sheetOf;simpa using i,by unfold sheetOf;simpa using m,by unfold sheetOf;simp[h,n],fun k f q=>?_⟩;have:=o k f q;unfold sheetOf;simp only[h,x9z,x9y,x8d]at this⊢;exact this
mutual
theorem Yj(nest seen:Int):∀(s:S){m:Int},Ge nest seen s=some m->m=seen+XT s
 | .mk id kind F name D x has args I L,m,h=>by
   simp only[Ge]at h;split at h
   ·cases h
   split at h
   ·cases h
   cases hn:namesB F<;>rw[hn]at h
   ·cases h
   cases hf:VV (.mk id kind F name D x has args I L)<;>rw[hf]at h
   ·cases h
   simp only[x7z]at h;split at h
   ·rename_i m1 h1;have h2:=YM (nest+1) (seen+1) I h1;have h3:=YM (nest+1) m1 L h;rw[XT];omega
   ·cases h
theorem YM(nest seen:Int):∀(l:List S){m:Int},UT nest seen l=some m->m=seen+cntL l
 | [],m,h=>by
   simp only[UT]at h;cases h;rw[cntL];simp
 | s::r,m,h=>by
   simp only[UT]at h;split at h
   ·cases h
   split at h
   ·rename_i m1 h1;have h2:=Yj nest seen s h1;have h3:=YM nest m1 r h;rw[cntL];omega
   ·cases h
end
theorem Fw:∀(l:List Pr){seen m:Int},seen<=200->ZZ seen l=some m->m=seen+cntP l/\m<=200
 |[],seen,m,h0,h=>by rw[ZZ]at h;cases h;simp[cntP];exact h0
 | f::r,seen,m,h0,h=>by
   rw[ZZ]at h;cases n:GM f<;>rw[n]at h
   .cases h
   simp only[x7z]at h;split at h
   .rename_i t i;have o:=YM 1 seen f.body i;have q:=Kd 1 seen f.body h0 i;have s:=Fw r (by omega) h;rw[cntP];omega
   .cases h
def ZL(h:YH p=true):p.B.length<=16/\p.A.length<=16/\cntP p.A<=200:=by
 unfold YH at h;simp only[x7y,x7s]at h;obtain⟨⟨⟨o,q⟩,_⟩,i⟩:=h;cases n:ZZ 0 p.A with
 |none=>rw[n]at i;cases i
 | some m=>
   have:=Fw p.A (by decide) n;omega
def EJ(h:YH p=true)(i:f∈p.A):GM f=true:=by
 unfold YH at h;simp only[x7y]at h;have n:=h.2;have key:∀(l:List Pr)(seen:Int),(ZZ seen l).isSome=true->∀f∈l,GM f=true:=fun l=>by
  induction l with
  |nil=>intro _ _ f i;cases i
  | cons g r o=>
    intro seen h f i;rw[ZZ]at h;cases m:GM g<;>rw[m]at h
    .cases h
    simp only[x7z]at h;split at h
    .rename_i s q;rcases x6m.1 i with rfl|i
     .exact m
     .exact o _ h f i
    .cases h
 exact key _ _ n f i
def KI(p:Pg)(f:Pr)(name:Str):Int:=
 match f.C.find? (fun a=>a.name==name)with
 |some a=>bif a.ref then 3 else 2
 |none=>bif f.E.any (fun s=>name==s)then 4 else bif p.B.any (fun s=>name==s)then 1 else 0
def Q1{l:List α}{p:α->Bool}(i:j<l.length)(h:p l[j]=false):(l.drop (j+1)).find? p=(l.drop j).find? p:=by
 rw[QF i,List.find?_cons,h]
def FS{l:List α}{p:α->Bool}(i:j<l.length)(h:p l[j]=true):(l.drop j).find? p=some l[j]:=by
 rw[QF i,List.find?_cons,h]
def FT{l:List α}{p:α->Bool}(h:l.length<=j):(l.drop j).find? p=none:=by
 rw[x7v h];rfl
def CB(p:Pg)(f:Pr)(name:Str):SpecP prog 68 [.agg p.cells,.agg f.cells,.str name] (fun r=>r=.int .i64 (KI p f name)):=by
 refine sB N2 func68 rfl call68 ?_;conv=>whnf
 repeat' (refine iM fun _=>?_;conv=>whnf)
 have q:(f.C.map fun a=>AV.agg a.cells).length=f.C.length:=x6j _;refine LoopK.inv QW (fun j:Nat=>⟨[(2,.p (.str name)),(3,.p (.ip p.cells)),(4,.p (.ip f.cells)),(10,.p (.sl (f.C.map fun a=>.agg a.cells))),(11,.p (.int .i64 (f.C.map fun a=>AV.agg a.cells).length)),(12,.p (.int .i64 j))],[]⟩) (fun j=>j<=f.C.length/\(f.C.drop j).find? (fun a=>a.name==name)=f.C.find? (fun a=>a.name==name)) (fun j=>f.C.length-j) 0 (Le.of_eq rfl) ⟨x6t _,rfl⟩ ?_;rintro j ⟨n,h⟩;conv=>whnf
 repeat' (first|((first|refine cP (QU _ _) ?_|refine x6d rfl ?_|(refine iA fun _=>?_)|refine wI ?_);conv=>whnf)|(apply bD<;>intro _<;>first|omega|conv=>whnf)|(apply bB<;>intro _<;>conv=>whnf))
 all_goals try have o:j<f.C.length:=by omega
 all_goals first
  | (exfalso
     have m:((f.C[j]'(by omega)).name==name)=true:=by assumption
     have i:((f.C[j]'(by omega)).name==name)=false:=by assumption
     rw[m]at i;cases i)
  | (have e:=FS (p:=fun a:Param=>a.name==name) (by omega) (by assumption)
     rw[h]at e;exact RetK.int (by unfold KI;rw[e];simp[*]))
  |(refine⟨j+1,⟨by omega,by rw[<-h,Q1 (p:=fun a:Param=>a.name==name) (by omega) (by assumption)]⟩,by omega,Le.of_eq rfl⟩)
  | (have e:f.C.find? (fun a=>a.name==name)=none:=by rw[<-h,FT (by omega)]
     exact RetK.int (by unfold KI;rw[e];simp[*]))
def mainS:Str:=[109,97,105,110]
def knownB(p:Pg)(f:Pr)(A:List Str)(t:S):Bool:=(ZJ t).all (fun n=> !(KI p f n==0))&&(decide (t.kind≠4)||(!(t.D==mainS)&&A.any fun s=>t.D==s))
def T6(p:Pg)(f:Pr)(A:List Str)(t:S)(m:t.args.length<=21000):SpecP prog 151 [.agg p.cells,.agg f.cells,eStrs A,.agg t.cells] (fun r=>r=.bool (knownB p f A t)):=by
 refine sB Dq func151 rfl call151 ?_;conv=>whnf
 repeat' ((first|(refine iM fun _=>?_)|refine cP (Hp _ m) ?_);conv=>whnf)
 have q:((ZJ t).map AV.str).length=(ZJ t).length:=x6j _;refine LoopK.inv QW (fun j:Nat=>⟨[(2,.p (eStrs A)),(4,.p (.ip p.cells)),(5,.p (.ip f.cells)),(7,.p (.ip t.cells)),(12,.p (eStrs (ZJ t))),(13,.p (.int .i64 ((ZJ t).map AV.str).length)),(14,.p (.int .i64 j))],[]⟩) (fun j=>j<=(ZJ t).length/\((ZJ t).drop j).all (fun n=> !(KI p f n==0))=(ZJ t).all (fun n=> !(KI p f n==0))) (fun j=>(ZJ t).length-j) 0 (Le.of_eq rfl) ⟨x6t _,rfl⟩ ?_;rintro j ⟨o,h⟩;conv=>whnf
 repeat' (first|((first|refine cP (CB _ _ _) ?_|refine cP (QU _ _) ?_|(refine iA fun _=>?_)|refine wI ?_);conv=>whnf)|(apply bD<;>intro _<;>first|omega|conv=>whnf)|(apply bE<;>intro _<;>first|omega|conv=>whnf)|(apply bN<;>intro _<;>conv=>whnf))
 .exact RetK.ff (by
   have e:=Xy (p:=fun n=> !(KI p f n==0)) (l:=ZJ t) (j:=j) (by omega) (by simp;assumption);rw[knownB,<-h,e,Bool.false_and])
 .exact ⟨j+1,⟨by omega,by rw[<-h,GP (p:=fun n=> !(KI p f n==0)) (by omega) (by simp;assumption)]⟩,by omega,Le.of_eq rfl⟩
 all_goals
  have e:(ZJ t).all (fun n=> !(KI p f n==0))=true:=by rw[<-h,GB (by omega)]
 .exact RetK.ff (by
   have i:(t.D==mainS)=true:=by assumption
   rw[knownB,e,i];simp[*])
 .exact RetK.bool (by
   have i:(t.D==mainS)=false:=by assumption
   rw[knownB,e,i];simp[*])
 .exact RetK.tt (by rw[knownB,e];simp[*])
def PX(c h:Int):AV:=.agg [.int .i64 c,.int .i64 h]
def procsN(p:Pg):List Str:=p.A.map Pr.name
def ZX(p:Pg):Bool:=XF p.B||(XF (procsN p)||(!((procsN p).any fun s=>mainS==s)||match p.A.find? (fun f=>mainS==f.name)with
 |some f=>decide (0<f.C.length)
 |none=>true))
def VY(p:Pg)(f:Pr):Option Int:=
 bif XF (V5 f)||(V5 f).any (fun n=>p.B.any fun s=>n==s)then some 0 else((flL f.body).find? fun t=> !knownB p f (procsN p) t).map S.id
def QA(p:Pg):Int×Int:=
 bif YH p then bif ZX p then(5,0)else match p.A.findSome? (VY p)with
  |some a=>(5,a)
  |none=>(0,0)
 else(1,0)
def TS{l:List α}{p:α->Bool}(h:l.any p=true):∃(k:Nat) (hk:k<l.length),idxF p l=k/\p l[k]=true/\l.find? p=some l[k]:=by
 have i:l.findIdx p<l.length:=by
  rw[List.findIdx_lt_length];exact x8z.1 h
 refine⟨l.findIdx p,i,by unfold idxF;rw[h];rfl,z2d,?_⟩;rw[List.find?_eq_some_iff_getElem];exact⟨z2d,l.findIdx p,i,rfl,fun j m=>by simpa using List.not_of_lt_findIdx m⟩
def Sx(h:(procsN p).any (fun s=>mainS==s)=true):∃(k:Nat) (m:k<p.A.length),idxF (fun s=>mainS==s) (procsN p)=k/\p.A.find? (fun f=>mainS==f.name)=some p.A[k]:=by
 have i:p.A.any (fun f=>mainS==f.name)=true:=by simpa[procsN,List.any_map,Function.comp_def]using h
 obtain⟨k,m,n,_,o⟩:=TS i;refine⟨k,m,?_,o⟩;rw[<-n];unfold idxF;rw[h,i];simp[procsN,List.findIdx_map,Function.comp_def]
def SA(p:Pg)(o:p.A[j]?=some f)(v:cntP p.A<=1000):SpecP prog 150 [.ip (sheetOf p).cells,.int .i64 j] (fun r=>r=UH (itL j 0 (-1) 0 (QH p.A j) f.body)):=by
 obtain⟨_,q,s,t,h⟩:=QY p;obtain⟨i,m,u,n⟩:=h j f o;have:=Xr (sheetOf p) j _ _ i m (by omega) (by omega) (by omega);rw[n]at this;exact this
def UQ(l:List Item):(l.map fun i=>AV.agg i.cells).length=l.length:=x6j _
def Jy{l:List α}{f:α->Option β}(i:j<l.length)(h:f l[j]=none):(l.drop (j+1)).findSome? f=(l.drop j).findSome? f:=by
 rw[QF i,List.findSome?_cons,h]
def UX{l:List α}{f:α->Option β}{b:β}(i:j<l.length)(h:f l[j]=some b):(l.drop j).findSome? f=some b:=by
 rw[QF i,List.findSome?_cons,h]
def U3{l:List α}{f:α->Option β}(h:l.length<=j):(l.drop j).findSome? f=none:=by
 rw[x7v h];rfl
def NK{q:S->Bool}(l:List Item):(l.find? fun it=>q it.s).map (fun it=>it.s.id)=((l.map Item.s).find? q).map S.id:=by
 rw[List.find?_map];cases h:l.find? (q∘Item.s)with
 |none=>rw[show(l.find? fun it=>q it.s)=none from h];rfl
 |some i=>rw[show(l.find? fun it=>q it.s)=some i from h];rfl
def El{l:List Pr}(t:j<l.length)(h:wPr l[j]<=21000){b:Int}{n:Nat}(i:k<(itL a b c d n l[j].body).length):(itL a b c d n l[j].body)[k].s.args.length<=21000:=by
 have m:(itL a b c d n l[j].body)[k].s∈flL l[j].body:=by
  rw[<-BU a b c d n];exact x6r.2 ⟨_,x6o i,rfl⟩
 have o:=Ub _ _ m;have q:=H4 (itL a b c d n l[j].body)[k].s;have r:=YO (itL a b c d n l[j].body)[k].s.args;unfold wPr at h;omega
def QL{H:Heap}{b:Int}(h:a=c)(i:b=d):RetK H (.p (.agg [.int .i64 a,.int .i64 b])) (fun r=>r=PX c d):=⟨_,.p (Sub.refl _),by rw[h,i];rfl⟩
def KB(p:Pg)(U:Fit p):SpecP prog 89 [.agg p.cells] (fun r=>r=PX (QA p).1 (QA p).2):=by
 refine sB D9 func89 rfl call89 ?_;conv=>whnf
 repeat' (first|((first|(refine iM fun _=>?_)|refine cP (Pw _) ?_|refine x6d rfl ?_);conv=>whnf)|(apply bN<;>intro _<;>conv=>whnf))
 rotate_left 1
 .exact QL (by simp[QA, *]) (by simp[QA, *])
 have x:YH p=true:=by assumption
 obtain⟨hg,Z,T⟩:=ZL x;have hl:(p.A.map fun f=>AV.agg f.cells).length=p.A.length:=x6j _;have Y:(procsN p).length=p.A.length:=by simp[procsN]
 refine LoopK.inv QW (fun i:Nat×List Str=>⟨[(1,.p (.ip p.cells)),(2,.ptr 1 0),(3,.hd 0 0 i.2.length),(18,.p (.sl (p.A.map fun f=>.agg f.cells))),(19,.p (.int .i64 (p.A.map fun f=>AV.agg f.cells).length)),(20,.p (.int .i64 i.1))],[(0,.own 9 1 (i.2.map .str)),(1,.obj 85 [.p (.int .i64 0),.p (.int .i64 0)])]⟩)
  (fun i=>i.1<=p.A.length/\i.2=(procsN p).take i.1) (fun i=>p.A.length-i.1) (0,[])
  (Le.mk [(0,.own 9 1 [])] (by simp[Chunk.new0];rfl) (by simp) (by simp) (.r (.r (.cons (.nil x6g) (.r (.r (.r .nil)))))) (.new x6g (.cons rfl (.refl _) .nil)))
  ⟨x6t _,by simp⟩ ?_
 rintro⟨j,v⟩ ⟨J,w⟩;simp only at J w⊢;have R:v.length<=16:=by rw[w];simp;omega
 conv=>whnf
 repeat' (first|((first|refine x6d rfl ?_|refine aD ?_|refine bP ?_|(refine iA fun _=>?_)|refine wI ?_|refine QP (by simp) (by simp;omega) ?_|(refine QB (XU v mainS) (.cons (.hd rfl (by simp)) (.cons (.p (Sub.refl _)) .nil)) (by rintro _ rfl;rfl) ?_;rintro _ rfl)|(refine QB (Qv v) (.cons (.hd rfl (by simp)) .nil) (by rintro _ rfl;rfl) ?_;rintro _ rfl)|refine cP (Qv _) ?_);conv=>whnf)|(apply bD<;>intro _<;>first|omega|conv=>whnf)|(apply bB<;>intro _<;>conv=>whnf))
 .exact ⟨(j+1,v++[p.A[j].name]),⟨by simp only;omega,by simp only;rw[w,x7x (by omega)];simp[procsN]⟩,by simp only;omega,Le.of_eq (by simp only[x6f,x6l];rfl)⟩
 all_goals
  have D:v=procsN p:=by rw[w,x7w (by omega)]
  clear w;subst D
 .have o:ZX p=true:=by unfold ZX;rw[show XF p.B=true by assumption];rfl
  exact QL (by unfold QA;rw[x,o];rfl) (by unfold QA;rw[x,o];rfl)
 .have o:ZX p=true:=by unfold ZX;rw[show XF p.B=false by assumption,show XF (procsN p)=true by assumption];rfl
  exact QL (by unfold QA;rw[x,o];rfl) (by unfold QA;rw[x,o];rfl)
 .have h:((procsN p).any fun s=>mainS==s)=false:=by
   rw[<-Ws];simp;omega
  have o:ZX p=true:=by unfold ZX;rw[show XF p.B=false by assumption,show XF (procsN p)=false by assumption,h];rfl
  exact QL (by unfold QA;rw[x,o];rfl) (by unfold QA;rw[x,o];rfl)
 have h:((procsN p).any fun s=>mainS==s)=true:=by
  rw[<-Ws];simp;omega
 obtain⟨k,y,F,m⟩:=Sx h;have G:(p.A.map fun f=>AV.agg f.cells)[k]?=some (.agg p.A[k].cells):=by simp[y]
 have I:(p.A[k].C.map fun a=>AV.agg a.cells).length=p.A[k].C.length:=x6j _;refine IdxK.at F G rfl ?_;conv=>whnf
 repeat' (first|((first|(refine iM fun _=>?_)|refine x6d rfl ?_|(refine CallK.pure (FE p (by omega) (by omega)) (.cons (Sub.refl _) .nil) ?_;rintro _ rfl));conv=>whnf)|(apply bD<;>intro _<;>first|omega|conv=>whnf))
 .have o:ZX p=true:=by
   unfold ZX;rw[show XF p.B=false by assumption,show XF (procsN p)=false by assumption,h,m];have:0<p.A[k].C.length:=by omega
   simp[this]
  exact QL (by unfold QA;rw[x,o];rfl) (by unfold QA;rw[x,o];rfl)
 have o:ZX p=false:=by
  unfold ZX;rw[show XF p.B=false by assumption,show XF (procsN p)=false by assumption,h,m];have:¬0<p.A[k].C.length:=by omega
  simp[this]
 have O:QA p=match p.A.findSome? (VY p)with
  |some a=>(5,a)
  |none=>(0,0):=by unfold QA;rw[x,o];rfl
 rw[O];refine LoopK.inv QW (fun j:Nat=>⟨[(1,.p (.ip p.cells)),(2,.ptr 1 0),(3,.hd 0 0 (procsN p).length),(7,.p (.ip (sheetOf p).cells)),(57,.p (.sl (p.A.map fun f=>.agg f.cells))),(58,.p (.int .i64 (p.A.map fun f=>AV.agg f.cells).length)),(59,.p (.int .i64 j))],[(0,.own 9 1 ((procsN p).map .str)),(1,.obj 85 [.p (.int .i64 0),.p (.int .i64 0)])]⟩)
  (fun j=>j<=p.A.length/\(p.A.drop j).findSome? (VY p)=p.A.findSome? (VY p)) (fun j=>p.A.length-j) 0 (Le.of_eq rfl) ⟨x6t _,rfl⟩ ?_
 clear J F m G I;rintro j ⟨J,w⟩;rcases x6c j p.A.length with q|q;rotate_left 1
 .have e:p.A.findSome? (VY p)=none:=by rw[<-w,U3 q]
  rw[e];conv=>whnf
  repeat' (first|(refine x6d rfl ?_;conv=>whnf)|(apply bD<;>intro _<;>first|omega|conv=>whnf))
  exact QL rfl rfl
 have E:=U.pr (x6o q);have H:=HM.1 (EJ x (x6o q));conv=>whnf
 repeat' (first|((first|(refine iM fun _=>?_)|refine cP (Qv _) ?_|refine x6d rfl ?_|(refine iA fun _=>?_)|(refine CallK.pure (Lu (p.A[j]'q) (by have:=H.1;omega) (by have:=H.2.1;omega)) (.cons (Sub.refl _) .nil) ?_;rintro _ rfl)|refine cP (UJ (V5 (p.A[j]'q)) 149 (.ip p.cells) (fun n=>p.B.any fun s=>n==s) (P1 p)) ?_|(refine CallK.pure (SA p (f:=p.A[j]'q) (by simp) (by omega)) (.cons (Sub.refl _) (.cons (Sub.refl _) .nil)) ?_;rintro _ rfl));conv=>whnf)|(apply bD<;>intro _<;>first|omega|conv=>whnf)|(apply bB<;>intro _<;>conv=>whnf))
 .have e:VY p p.A[j]=some 0:=by
   unfold VY;rw[show XF (V5 p.A[j])=true by assumption];rfl
  have z:=UX q e;rw[w]at z;rw[z];exact QL rfl rfl
 .have e:VY p p.A[j]=some 0:=by
   unfold VY;rw[show XF (V5 p.A[j])=false by assumption,show((V5 p.A[j]).any fun n=>p.B.any fun s=>n==s)=true by assumption];rfl
  have z:=UX q e;rw[w]at z;rw[z];exact QL rfl rfl
 have u:VY p p.A[j]=((flL p.A[j].body).find? fun t=> !knownB p p.A[j] (procsN p) t).map S.id:=by
  unfold VY;rw[show XF (V5 p.A[j])=false by assumption,show((V5 p.A[j]).any fun n=>p.B.any fun s=>n==s)=false by assumption];rfl
 have g:∀k (y:k<(itL (j:Nat) 0 (-1) 0 (QH p.A j) p.A[j].body).length),(itL (j:Nat) 0 (-1) 0 (QH p.A j) p.A[j].body)[k].s.args.length<=21000:=fun k y=>El q E y;rw[<-BU (j:Nat) 0 (-1) 0 (QH p.A j),<-NK]at u;have M:(itL (j:Nat) 0 (-1) 0 (QH p.A j) p.A[j].body).length<=21000:=by
  have:=Nr p.A[j].body;unfold wPr at E;rw[ZC];omega
 generalize P:itL (j:Nat) 0 (-1) 0 (QH p.A j) p.A[j].body=its at u g M⊢;have V:=UQ its;refine LoopK.inv QW (fun k:Nat=>⟨[(1,.p (.ip p.cells)),(2,.ptr 1 0),(3,.hd 0 0 (procsN p).length),(7,.p (.ip (sheetOf p).cells)),(9,.p (.ip (p.A[j]'q).cells)),(57,.p (.sl (p.A.map fun f=>.agg f.cells))),(58,.p (.int .i64 (p.A.map fun f=>AV.agg f.cells).length)),(59,.p (.int .i64 j)),(76,.p (UH its)),(77,.p (.int .i64 (its.map fun i=>AV.agg i.cells).length)),(78,.p (.int .i64 k))],[(0,.own 9 1 ((procsN p).map .str)),(1,.obj 85 [.p (.int .i64 0),.p (.int .i64 0)])]⟩)
  (fun k=>k<=its.length/\(its.drop k).find? (fun it=> !knownB p p.A[j] (procsN p) it.s)=its.find? fun it=> !knownB p p.A[j] (procsN p) it.s) (fun k=>its.length-k) 0 (Le.of_eq rfl) ⟨x6t _,rfl⟩ ?_
 rintro k ⟨h5,L⟩;rcases x6c k its.length with y|y;rotate_left 1
 .rw [<-L,FT y]at u;conv=>whnf
  repeat' (first|(refine wI ?_;conv=>whnf)|(apply bD<;>intro _<;>first|omega|conv=>whnf))
  exact⟨j+1,⟨by omega,by rw[<-w,Jy q u]⟩,by omega,Le.of_eq rfl⟩
 have N:=g k y;conv=>whnf
 repeat' (first|((first|refine x6d rfl ?_|(refine iA fun _=>?_)|refine wI ?_|(refine QB (T6 p p.A[j] (procsN p) its[k].s N) (.cons (.p (Sub.refl _)) (.cons (.p (Sub.refl _)) (.cons (.hd rfl (by simp)) (.cons (.p (Sub.refl _)) .nil)))) (by rintro _ rfl;rfl) ?_;rintro _ rfl));conv=>whnf)|(apply bD<;>intro _<;>first|omega|conv=>whnf)|(apply bN<;>intro _<;>conv=>whnf))
 .exact ⟨k+1,⟨by omega,by rw[<-L,Q1 (p:=fun it:Item=> !knownB p p.A[j] (procsN p) it.s) y (by simp;assumption)]⟩,by omega,Le.of_eq rfl⟩
 .have Q:=FS (p:=fun it:Item=> !knownB p p.A[j] (procsN p) it.s) y (by simp;assumption);rw[<-L,Q]at u;have z:=UX q u;rw[w]at z;rw[z];exact QL rfl rfl
def q7k:LV->Option Bool
 |.p .tt=>some true
 |.p .ff=>some false
 |.p (.bool b)=>some b
 |_=>none
def Te{σ:Mem}{β:Lab}{l:LV}{v:Value}(h:RepL σ β l v)(i:q7k l=some b):v=.bool b:=by
 cases h with
 |p h=>cases h<;>simp[q7k]at i<;>subst i<;>rfl
 |_=>simp[q7k]at i
def GX{P:Program}{T:Tab}{B:Bool}{s:St}{o:Oper}{K:LV->Prop}(hT:TabOK P T){t u:TypeId}{x y:Operand}(h:o.op=.binOp .neq t x y u){i:TyI}(C:T.get t=some i)(z:i.desc=.bool){a:Bool}(D:q7k (QR s.sl x)=some a)(E:q7k (QR s.sl y)=some b)(v:K (.p (.bool (a != b)))):ValO P B s o K:=by
 refine⟨fun σ β F w m _=>⟨_,.bool (a != b),v,.p (.bool _),fun w' _ _=>?_⟩⟩;have q:=Te (QV m x) D;have r:=Te (QV m y) E;have n:=hT.of C;rw[z]at n;have A:(eqGuard .neq t x y (.bool a) (.bool b)).run P w'=.ok () w':=by unfold eqGuard;rfl
 have g:(Op.equal t (.bool a) (.bool b)).run P w'=.ok (a==b) w':=by
  have e:Op.equal t (.bool a) (.bool b)=Op.equalIn (9999+1) t (.bool a) (.bool b):=rfl;rw[e,Op.equalIn,Sem.run_bind,run_underlying n,Result.andThen_ok];rfl
 simp only[execOp,h,q,r,Sem.run_bind,A,Result.andThen_ok,binOp];simp[g];cases a<;>cases b<;>rfl
def Kl(l:List Param)(args:List Arg):Bool:=decide (l.map Param.ref=args.map Arg.ref)
def C8(l:List Param)(args:List Arg):SpecP prog 212 [.sl (l.map fun a=>.agg a.cells),AO args] (fun r=>r=.bool (Kl l args)):=by
 refine sB Pl func212 rfl call212 ?_;conv=>whnf
 repeat' (first|(refine iM fun _=>?_;conv=>whnf)|(apply bE<;>intro _<;>first|omega|conv=>whnf))
 all_goals
  have t:(l.map fun a=>AV.agg a.cells).length=l.length:=x6j _;have q:(args.map fun a=>AV.agg a.cells).length=args.length:=x6j _
 .have o:l.length=args.length:=by omega
  refine LoopK.inv QW (fun j:Nat=>⟨[(1,.p (AO args)),(12,.p (.sl (l.map fun a=>.agg a.cells))),(13,.p (.int .i64 (l.map fun a=>AV.agg a.cells).length)),(14,.p (.int .i64 j))],[]⟩) (fun j=>j<=l.length/\(l.map Param.ref).take j=(args.map Arg.ref).take j) (fun j=>l.length-j) 0 (Le.of_eq rfl) ⟨x6t _,rfl⟩ ?_;rintro j ⟨s,m⟩;rcases x6c j l.length with n|n
  .conv=>whnf
   repeat' (first|((first|refine dA ?_|refine x6d rfl ?_|(refine iA fun _=>?_)|refine wI ?_|refine GX QW rfl rfl rfl rfl rfl ?_);conv=>whnf)|(apply bD<;>intro _<;>first|omega|conv=>whnf)|(apply bE<;>intro _<;>first|omega|conv=>whnf))
   .have h:l[j].ref=(args[j]'(by omega)).ref:=by assumption
    exact⟨j+1,⟨by omega,by
     rw[x7x (by simp;omega),x7x (by simp;omega),m];simp[h]⟩,by omega,Le.of_eq rfl⟩
   .have h:¬l[j].ref=(args[j]'(by omega)).ref:=by assumption
    exact RetK.ff (by
     unfold Kl;rw[x8o];intro i;have:(l.map Param.ref)[j]?=(args.map Arg.ref)[j]?:=by rw[i]
     rw[x6a,x6a,x6k n,x6k (by omega)]at this;simp at this;exact h this)
  .conv=>whnf
   repeat' (apply bD<;>intro _<;>first|omega|conv=>whnf)
   exact RetK.tt (by
    unfold Kl;rw[x7s]
    rwa[x7w (by simp;omega),x7w (by simp;omega)]at m)
 .exact RetK.ff (by
   unfold Kl;rw[x8o];intro i;have:=x8m List.length i;simp at this;omega)
def YV(p:Pg)(s:S):Bool:=decide (s.kind=4)&&match p.A.find? (fun f=>f.name==s.D)with
 |some f=>Kl f.C s.args
 |none=>false
def C7(p:Pg)(s:S):SpecP prog 152 [.agg p.cells,.agg s.cells] (fun r=>r=.bool (YV p s)):=by
 refine sB Pm func152 rfl call152 ?_;conv=>whnf
 repeat' (first|(refine iM fun _=>?_;conv=>whnf)|(apply bE<;>intro _<;>first|omega|conv=>whnf))
 .have m:(p.A.map fun f=>AV.agg f.cells).length=p.A.length:=x6j _;refine LoopK.inv QW (fun j:Nat=>⟨[(3,.p (.ip s.cells)),(11,.p (.sl (p.A.map fun f=>.agg f.cells))),(12,.p (.int .i64 (p.A.map fun f=>AV.agg f.cells).length)),(13,.p (.int .i64 j))],[]⟩) (fun j=>j<=p.A.length/\(p.A.drop j).find? (fun f=>f.name==s.D)=p.A.find? (fun f=>f.name==s.D)) (fun j=>p.A.length-j) 0 (Le.of_eq rfl) ⟨x6t _,rfl⟩ ?_;rintro j ⟨i,h⟩;conv=>whnf
  repeat' (first|((first|refine cP (C8 _ _) ?_|refine x6d rfl ?_|(refine iA fun _=>?_)|refine wI ?_);conv=>whnf)|(apply bD<;>intro _<;>first|omega|conv=>whnf)|(apply bB<;>intro _<;>conv=>whnf))
  .have e:=FS (p:=fun f:Pr=>f.name==s.D) (l:=p.A) (j:=j) (by omega) (by assumption);rw[h]at e;exact RetK.bool (by unfold YV;rw[e];simp[*])
  .exact ⟨j+1,⟨by omega,by rw[<-h,Q1 (p:=fun f:Pr=>f.name==s.D) (by omega) (by assumption)]⟩,by omega,Le.of_eq rfl⟩
  .have e:p.A.find? (fun f=>f.name==s.D)=none:=by rw[<-h,FT (by omega)]
   exact RetK.ff (by unfold YV;rw[e];simp)
 .exact RetK.ff (by unfold YV;simp[*])
def VJ(p:Pg):List S:=p.A.flatMap fun f=>flL f.body
theorem q2l:∀(l:List Pr)(i:Nat)(acc:List Item)(lo hi:List Int),(Gu i acc lo hi l).1.map Item.s=acc.map Item.s++l.flatMap fun f=>flL f.body
 |[],i,acc,lo,hi=>by rw[Gu];simp
 | f::r,i,acc,lo,hi=>by
   rw[Gu,q2l r,Zz,x6l,BU,x8n,x7n]
def DK(p:Pg):(sheetOf p).l.map Item.s=VJ p:=by
 have:=q2l p.A 0 [] [] [];unfold sheetOf VJ;simpa using this
def CN(o:Fit p)(q:k<(sheetOf p).l.length):wS (sheetOf p).l[k].s<=21000:=by
 have h:(sheetOf p).l[k].s∈VJ p:=by
  rw[<-DK];exact x6r.2 ⟨_,x6o q,rfl⟩
 unfold VJ at h;obtain⟨f,i,m⟩:=x8w.1 h;have r:=Ub _ _ m;have n:=o.pr i;unfold wPr at n;omega
def VO(p:Pg):Int×Int:=
 if(QA p).1≠0 then(1,0)else match(VJ p).find? fun t=>decide (t.kind=4) && !YV p t with
  |some t=>(6,t.id)
  |none=>(0,0)
def WX(h:(QA p).1=0):YH p=true/\ZX p=false/\p.A.findSome? (VY p)=none:=by
 unfold QA at h;cases m:YH p<;>rw[m]at h
 .cases h
 cases i:ZX p<;>rw[i]at h
 .refine ⟨rfl,rfl,?_⟩;simp only[x7z,x7k]at h;split at h
  .cases h
  .assumption
 .cases h
def J4(p:Pg)(x:Fit p):SpecP prog 90 [.agg p.cells] (fun r=>r=PX (VO p).1 (VO p).2):=by
 refine sB D4 func90 rfl call90 ?_;conv=>whnf
 repeat' (first|((first|refine cP (KB p x) ?_|refine x6d rfl ?_);conv=>whnf)|(apply bE<;>intro _<;>first|omega|conv=>whnf))
 rotate_left 1
 .have e:VO p=(1,0):=by unfold VO;rw[if_pos (by assumption)]
  exact QL (by rw[e]) (by rw[e])
 have C:(QA p).1=0:=by assumption
 obtain⟨g,E,A⟩:=WX C;obtain⟨F,B,w⟩:=ZL g;have v:VO p=match(VJ p).find? fun t=>decide (t.kind=4) && !YV p t with
  |some t=>(6,t.id)
  |none=>(0,0):=by unfold VO;rw[if_neg (by omega)]
 repeat' ((first|(refine iM fun _=>?_)|(refine CallK.pure (FE p (by omega) (by omega)) (.cons (Sub.refl _) .nil) ?_;rintro _ rfl));conv=>whnf)
 have z:=UQ (sheetOf p).l;have y:(sheetOf p).l.length<=200:=by have:=(QY p).2.2.2.1;omega
 have h:=NK (q:=fun t=>decide (t.kind=4) && !YV p t) (sheetOf p).l;rw[DK]at h;have o:VO p=match((sheetOf p).l.find? fun it=>decide (it.s.kind=4) && !YV p it.s).map (fun it=>it.s.id)with
  |some a=>(6,a)
  |none=>(0,0):=by
  rw[v,h];cases(VJ p).find? fun t=>decide (t.kind=4) && !YV p t<;>rfl
 rw[o];refine LoopK.inv QW (fun k:Nat=>⟨[(1,.p (.ip p.cells)),(2,.ptr 1 0),(14,.p (UH (sheetOf p).l)),(15,.p (.int .i64 ((sheetOf p).l.map fun i=>AV.agg i.cells).length)),(16,.p (.int .i64 k))],[(1,.obj 85 [.p (.int .i64 0),.p (.int .i64 0)])]⟩)
  (fun k=>k<=(sheetOf p).l.length/\((sheetOf p).l.drop k).find? (fun it=>decide (it.s.kind=4) && !YV p it.s)=(sheetOf p).l.find? fun it=>decide (it.s.kind=4) && !YV p it.s) (fun k=>(sheetOf p).l.length-k) 0 (Le.of_eq rfl) ⟨x6t _,rfl⟩ ?_
 rintro k ⟨D,n⟩;rcases x6c k (sheetOf p).l.length with m|m;rotate_left 1
 .rw [<-n,FT m];conv=>whnf
  repeat' (first|(refine x6d rfl ?_;conv=>whnf)|(apply bD<;>intro _<;>first|omega|conv=>whnf))
  exact QL rfl rfl
 conv=>whnf
 repeat' (first|((first|refine cP (C7 _ _) ?_|refine x6d rfl ?_|(refine iA fun _=>?_)|refine wI ?_);conv=>whnf)|(apply bD<;>intro _<;>first|omega|conv=>whnf)|(apply bN<;>intro _<;>conv=>whnf))
 all_goals first
  | (have u:=FS (p:=fun it:Item=>decide (it.s.kind=4) && !YV p it.s) m (by simp[*])
     rw[<-n,u];exact QL rfl rfl)
  |exact⟨k+1,⟨by omega,by rw[<-n,Q1 (p:=fun it:Item=>decide (it.s.kind=4) && !YV p it.s) m (by simp[*])]⟩,by omega,Le.of_eq rfl⟩
def UF:List Str->List Str->Option (List Str)
 |seen,[]=>some seen
 |seen,n::r=>bif seen.any (fun s=>n==s)then none else UF (seen++[n]) r
def OB(i:j<l.length)(h:(seen.any fun s=>l[j]==s)=true):UF seen (l.drop j)=none:=by
 rw[QF i,UF,h];rfl
def Et(i:j<l.length)(h:(seen.any fun s=>l[j]==s)=false):UF seen (l.drop j)=UF (seen++[l[j]]) (l.drop (j+1)):=by
 rw[QF i,UF,h];rfl
theorem Xa:∀{l seen out:List Str},UF seen l=some out->out=seen++l
 |[],seen,out,h=>by rw[UF]at h;cases h;simp
 | n::r,seen,out,h=>by
   rw[UF]at h;cases i:(seen.any fun s=>n==s)<;>rw[i]at h
   .have:=Xa h;simpa using this
   .cases h
def Es(t:Nat)(seen l:List Str)(r:LV)(H:Heap):Prop:=
 match UF seen l with
 |some out=>r=.tup [.hd 2000 0 out.length,.p .tt]/\H=Bm t out
 |none=>∃out,r=.tup [.hd 2000 0 out.length,.p .ff]/\H=Bm t out
def Jr{t:Nat}{Q:LV->Heap->Prop}(m:UF seen l=some (seen++l)->Q (.tup [.hd 2000 0 (seen++l).length,.p .tt]) (Bm t (seen++l)))(n:UF seen l=none->∀out,Q (.tup [.hd 2000 0 out.length,.p .ff]) (Bm t out)):∀l' H',Es t seen l l' H'->Q l' H':=by
 intro l' H' h;unfold Es at h;cases i:UF seen l with
 | some out=>
   rw[i]at h;obtain⟨rfl,rfl⟩:=h;have:=Xa i;subst this;exact m i
 | none=>
   rw[i]at h;obtain⟨out,rfl,rfl⟩:=h;exact n i out
def Mm(seen l:List Str)(o:seen.length+l.length<=1000000000):
  SpecH prog 154 [.hd 2000 0 seen.length,.p (eStrs l)] (Bm 9 seen) (Es 9 seen l):=by
 refine sH Rk func154 rfl call154 ?_;conv=>whnf
 repeat' (refine iM fun _=>?_;conv=>whnf)
 have s:(l.map AV.str).length=l.length:=x6j _;refine LoopK.inv QW (fun i:Nat×List Str=>⟨[(0,.hd 2000 0 i.2.length),(8,.p (eStrs l)),(9,.p (.int .i64 (l.map AV.str).length)),(10,.p (.int .i64 i.1))],Bm 9 i.2⟩) (fun i=>i.1<=l.length/\i.2.length+(l.length-i.1)=seen.length+l.length/\UF i.2 (l.drop i.1)=UF seen l) (fun i=>l.length-i.1) (0,seen) (Le.of_eq rfl) ⟨x6t _,by simp,rfl⟩ ?_;rintro⟨j,h⟩ ⟨q,r,m⟩;simp only at q r m⊢;rcases x6c j l.length with n|n
 .conv=>whnf
  repeat' (first|((first|refine x6d rfl ?_|refine aD ?_|refine bP ?_|(refine iA fun _=>?_)|refine wI ?_|(refine QB (QU h (l[j]'n)) (.cons (.hd rfl (by simp)) (.cons (.p (Sub.refl _)) .nil)) (by rintro _ rfl;rfl) ?_;rintro _ rfl)|refine QP (by simp) (by simp;omega) ?_);conv=>whnf)|(apply bD<;>intro _<;>first|omega|conv=>whnf)|(apply bB<;>intro _<;>conv=>whnf))
  .exact ⟨_,.refl _,by unfold Es;rw[<-m,OB n (by assumption)];exact⟨h,rfl,rfl⟩⟩
  .exact ⟨(j+1,h++[l[j]]),⟨by simp only;omega,by simp;omega,by simp only;rw[<-m,Et n (by assumption)]⟩,by simp only;omega,Le.of_eq (by simp only[Bm,x6f,x6l];rfl)⟩
 .conv=>whnf
  repeat' (apply bD<;>intro _<;>first|omega|conv=>whnf)
  rw[x7v n,UF]at m;exact⟨_,.refl _,by unfold Es;rw[<-m];exact⟨rfl,rfl⟩⟩
def atB(f:Pr)(h:Str):Int×Bool:=
 match(flL f.body).find? fun t=>t.F.any fun s=>h==s with
 |some t=>(t.id,true)
 |none=>bif f.fin.any fun s=>h==s then(-1,true)else(0,false)
theorem RetK.tup2{H:Heap}{k:IntKind}{m n:Int}{x:AV}(h:m=n)(i:Sub x (.bool b)):RetK H (.p (.tup [.int k m,x])) (fun r=>r=.tup [.int k n,.bool b]):=
 ⟨_,.p (Sub.tup (SubL.cons (Sub.int h) (SubL.cons i SubL.nil))),rfl⟩
def FI(p:Pg)(j:Nat)(f:Pr)(w:p.A[j]?=some f)(e:cntP p.A<=1000)(h:Str):SpecP prog 140 [.ip (sheetOf p).cells,.int .i64 j,.str h] (fun r=>r=.tup [.int .i64 (atB f h).1,.bool (atB f h).2]):=by
 refine sB Yf func140 rfl call140 ?_;conv=>whnf
 repeat' ((first|(refine iM fun _=>?_)|refine cP (SA p w e) ?_);conv=>whnf)
 have m:=NK (q:=fun t=>t.F.any fun s=>h==s) (itL (j:Nat) 0 (-1) 0 (QH p.A j) f.body);rw[BU]at m;have v:(itL (j:Nat) 0 (-1) 0 (QH p.A j) f.body).length<=1000:=by
  have:=(QY p).2.2.2.2 j f w;rw[ZC];omega
 generalize y:itL (j:Nat) 0 (-1) 0 (QH p.A j) f.body=its at m v⊢;have g:=UQ its;have u:atB f h=match(its.find? fun it=>it.s.F.any fun s=>h==s).map (fun it=>it.s.id)with
  |some a=>(a,true)
  |none=>bif f.fin.any fun s=>h==s then(-1,true)else(0,false):=by
  unfold atB;rw[m];cases(flL f.body).find? fun t=>t.F.any fun s=>h==s<;>rfl
 rw[u];refine LoopK.inv QW (fun k:Nat=>⟨[(0,.p (.ip (sheetOf p).cells)),(1,.p (.int .i64 j)),(2,.p (.str h)),(12,.p (UH its)),(13,.p (.int .i64 (its.map fun i=>AV.agg i.cells).length)),(14,.p (.int .i64 k))],[]⟩)
  (fun k=>k<=its.length/\(its.drop k).find? (fun it=>it.s.F.any fun s=>h==s)=its.find? fun it=>it.s.F.any fun s=>h==s) (fun k=>its.length-k) 0 (Le.of_eq rfl) ⟨x6t _,rfl⟩ ?_
 rintro k ⟨B,o⟩;rcases x6c k its.length with n|n
 .conv=>whnf
  repeat' (first|((first|refine cP (QU _ _) ?_|refine x6d rfl ?_|(refine iA fun _=>?_)|refine wI ?_);conv=>whnf)|(apply bD<;>intro _<;>first|omega|conv=>whnf)|(apply bB<;>intro _<;>conv=>whnf))
  .have z:=FS (p:=fun it:Item=>it.s.F.any fun s=>h==s) n (by assumption);rw[<-o,z];exact RetK.tup2 rfl (Sub.tt rfl)
  .exact ⟨k+1,⟨by omega,by rw[<-o,Q1 (p:=fun it:Item=>it.s.F.any fun s=>h==s) n (by assumption)]⟩,by omega,Le.of_eq rfl⟩
 .rw [<-o,FT n];have x:(p.A.map fun f=>AV.agg f.cells)[j]?=some (.agg f.cells):=by simp[w]
  conv=>whnf
  repeat' (first|((first|refine cP (QU _ _) ?_|(refine IdxK.at rfl x rfl ?_));conv=>whnf)|(apply bD<;>intro _<;>first|omega|conv=>whnf)|(apply bB<;>intro _<;>conv=>whnf))
  .exact RetK.tup2 (by simp[*]) (Sub.tt (by simp[*]))
  .exact RetK.tup2 (by simp[*]) (Sub.ff (by simp[*]))
def UW(f:Pr)(it:Item):Bool:=if it.s.kind=7\/it.s.kind=8 then !(it.loop==0)else if it.s.kind=10 then(atB f it.s.name).2 else true
def Ct(p:Pg)(j:Nat)(f:Pr)(i:p.A[j]?=some f)(h:cntP p.A<=1000)(it:Item)(m:it.D=j):SpecP prog 155 [.ip (sheetOf p).cells,.agg it.cells] (fun r=>r=.bool (UW f it)):=by
 refine sB Po func155 rfl call155 ?_;conv=>whnf
 repeat' (first|(refine CallK.pure (FI p j f i h it.s.name) (.cons (Sub.refl _) (.cons (Sub.int m) (.cons (Sub.refl _) .nil))) ?_;rintro _ rfl;conv=>whnf)|(apply bD<;>intro _<;>first|omega|conv=>whnf))
 all_goals first
  |exact RetK.bool (by simp[UW, *];rfl)
  |exact RetK.bool (by simp[UW, *])
  |exact RetK.tt (by simp[UW, *])
def Cs(p:Pg)(m:Fit p)(h:(QA p).1=0):SpecP prog 153 [.agg p.cells] (fun r=>r=.ip (sheetOf p).cells):=by
 refine sB Vr func153 rfl call153 ?_;conv=>whnf
 obtain⟨n,s,o⟩:=WX h;obtain⟨t,q,i⟩:=ZL n;repeat' (first|((first|refine cP (KB p m) ?_|(refine CallK.pure (FE p (by omega) (by omega)) (.cons (Sub.refl _) .nil) ?_;rintro _ rfl));conv=>whnf)|(apply bE<;>intro _<;>first|omega|conv=>whnf))
 exact RetK.p rfl
def By(p:Pg)(i:Fit p)(h:(QA p).1≠0):SpecP prog 153 [.agg p.cells] (fun r=>r=.nilp):=by
 refine sB Vr func153 rfl call153 ?_;conv=>whnf
 repeat' (first|(refine cP (KB p i) ?_;conv=>whnf)|(apply bE<;>intro _<;>first|omega|conv=>whnf))
 exact RetK.p rfl
mutual
theorem OH(D up nx loop:Int)(n:Nat):∀(t:S)(it:Item),it∈itS D up nx loop n t->it.D=D
 | .mk id kind F name pr x has args I L,it,h=>by
   rw[itS]at h;rcases x6m.1 h with rfl|h
   ·rfl
   ·rcases x6s.1 h with h|h
    ·exact NF _ _ _ _ _ I it h
    ·exact NF _ _ _ _ _ L it h
theorem NF(D up nx loop:Int)(n:Nat):∀(l:List S)(it:Item),it∈itL D up nx loop n l->it.D=D
 |[],it,h=>by rw[itL]at h;cases h
 | t::r,it,h=>by
   rw[itL]at h;rcases x6s.1 h with h|h
   ·exact OH _ _ _ _ _ t it h
   ·exact NF _ _ _ _ _ r it h
end
def JH(f:Pr):List Item->List Str->Except Int (List Str)
 |[],seen=>.ok seen
 | it::r,seen=>match UF seen it.s.F with
   |none=>.error it.s.id
   |some s=>bif UW f it then JH f r s else .error it.s.id
def YC(p:Pg)(j:Nat):Option Int:=
 match p.A[j]?with
 |none=>none
 | some f=>match JH f (itL (j:Nat) 0 (-1) 0 (QH p.A j) f.body) []with
   |.error id=>some id
   | .ok seen=>match UF seen f.fin with
     |none=>some 0
     |some _=>none
def MH(p:Pg):Int×Int:=
 if(QA p).1≠0 then(1,0)else match(List.range p.A.length).findSome? (YC p)with
  |some a=>(7,a)
  |none=>(0,0)
def OP(i:k<its.length)(h:UF seen its[k].s.F=none):JH f (its.drop k) seen=.error its[k].s.id:=by
 rw[QF i,JH,h]
def Ec{s:List Str}(i:k<its.length)(h:UF seen its[k].s.F=some s)(m:UW f its[k]=false):JH f (its.drop k) seen=.error its[k].s.id:=by
 rw[QF i,JH,h];simp only[m,x7k]
def Ea{s:List Str}(i:k<its.length)(h:UF seen its[k].s.F=some s)(m:UW f its[k]=true):JH f (its.drop k) seen=JH f (its.drop (k+1)) s:=by
 rw[QF i,JH,h];simp only[m,x7z]
def RB{l:List Pr}(t:j<l.length)(h:wPr l[j]<=21000){b:Int}{n:Nat}(i:k<(itL a b c d n l[j].body).length):(itL a b c d n l[j].body)[k].s.F.length<=21000:=by
 have m:(itL a b c d n l[j].body)[k].s∈flL l[j].body:=by
  rw[<-BU a b c d n];exact x6r.2 ⟨_,x6o i,rfl⟩
 have o:=Ub _ _ m;have q:=H4 (itL a b c d n l[j].body)[k].s;have r:=YR (itL a b c d n l[j].body)[k].s.F;unfold wPr at h;omega
def Cr(p:Pg)(E:Fit p):SpecP prog 91 [.agg p.cells] (fun r=>r=PX (MH p).1 (MH p).2):=by
 refine sB Pi func91 rfl call91 ?_;conv=>whnf
 rcases Decidable.em ((QA p).1=0)with C|C;rotate_left 1
 ·
  repeat' ((first|refine cP (By p E C) ?_|refine x6d rfl ?_);conv=>whnf)
  have e:MH p=(1,0):=by unfold MH;rw[if_pos C]
  exact QL (by rw[e]) (by rw[e])
 obtain⟨Q,V,R⟩:=WX C;obtain⟨Y,T,N⟩:=ZL Q;have M:MH p=match(List.range p.A.length).findSome? (YC p)with
  |some a=>(7,a)
  |none=>(0,0):=by unfold MH;rw[if_neg (by omega)]
 rw[M];have Z:(p.A.map fun f=>AV.agg f.cells).length=p.A.length:=x6j _;repeat' ((first|(refine iM fun _=>?_)|refine cP (Cs p E C) ?_);conv=>whnf)
 refine LoopK.inv QW (fun j:Nat=>⟨[(2,.ptr 1 0),(3,.p (.ip (sheetOf p).cells)),(16,.p (.sl (p.A.map fun f=>.agg f.cells))),(17,.p (.int .i64 (p.A.map fun f=>AV.agg f.cells).length)),(18,.p (.int .i64 j))],[(1,.obj 85 [.p (.int .i64 0),.p (.int .i64 0)])]⟩)
  (fun j=>j<=p.A.length/\((List.range p.A.length).drop j).findSome? (YC p)=(List.range p.A.length).findSome? (YC p)) (fun j=>p.A.length-j) 0 (Le.of_eq rfl) ⟨x6t _,rfl⟩ ?_
 rintro j ⟨U,g⟩;rcases x6c j p.A.length with v|v;rotate_left 1
 .have e:(List.range p.A.length).findSome? (YC p)=none:=by rw[<-g,U3 (by simpa using v)]
  rw[e];conv=>whnf
  repeat' (first|(refine x6d rfl ?_;conv=>whnf)|(apply bD<;>intro _<;>first|omega|conv=>whnf))
  exact QL rfl rfl
 have B:=E.pr (x6o v);have o:j<(List.range p.A.length).length:=by simpa using v
 have t:(List.range p.A.length)[j]=j:=by simp
 have q:p.A[j]?=some p.A[j]:=by simp[v]
 conv=>whnf
 repeat' (first|((first|(refine iM fun _=>?_)|refine x6d rfl ?_|(refine iA fun _=>?_)|(refine CallK.pure (SA p (f:=p.A[j]'v) q (by omega)) (.cons (Sub.refl _) (.cons (Sub.refl _) .nil)) ?_;rintro _ rfl));conv=>whnf)|(apply bD<;>intro _<;>first|omega|conv=>whnf))
 have w:∀k (n:k<(itL (j:Nat) 0 (-1) 0 (QH p.A j) p.A[j].body).length),(itL (j:Nat) 0 (-1) 0 (QH p.A j) p.A[j].body)[k].s.F.length<=21000:=fun k n=>RB v B n;have x:∀k (n:k<(itL (j:Nat) 0 (-1) 0 (QH p.A j) p.A[j].body).length),(itL (j:Nat) 0 (-1) 0 (QH p.A j) p.A[j].body)[k].D=j:=fun k n=>NF _ _ _ _ _ _ _ (x6o n);have G:(itL (j:Nat) 0 (-1) 0 (QH p.A j) p.A[j].body).length<=200:=by
  have:=(QY p).2.2.2.2 j _ q;rw[ZC];omega
 have h:YC p j=match JH p.A[j] (itL (j:Nat) 0 (-1) 0 (QH p.A j) p.A[j].body) []with
  |.error id=>some id
  | .ok seen=>match UF seen p.A[j].fin with
    |none=>some 0
    |some _=>none:=by
  unfold YC;rw[q]
 generalize I:itL (j:Nat) 0 (-1) 0 (QH p.A j) p.A[j].body=its at w x G h⊢;have O:=UQ its;refine LoopK.inv QW (fun i:Nat×List Str=>⟨[(2,.ptr 1 0),(3,.p (.ip (sheetOf p).cells)),(5,.p (.ip (p.A[j]'v).cells)),(6,.hd 0 0 i.2.length),(16,.p (.sl (p.A.map fun f=>.agg f.cells))),(17,.p (.int .i64 (p.A.map fun f=>AV.agg f.cells).length)),(18,.p (.int .i64 j)),(25,.p (UH its)),(26,.p (.int .i64 (its.map fun i=>AV.agg i.cells).length)),(27,.p (.int .i64 i.1))],[(0,.own 9 1 (i.2.map .str)),(1,.obj 85 [.p (.int .i64 0),.p (.int .i64 0)])]⟩)
  (fun i=>i.1<=its.length/\i.2.length<=21000*i.1/\JH p.A[j] (its.drop i.1) i.2=JH p.A[j] its []) (fun i=>its.length-i.1) (0,[])
  (Le.mk [(0,.own 9 1 [])] (by simp[Chunk.new0];rfl) (by simp) (by simp) (.r (.r (.r (.cons (.nil x6g) (.r (.r (.r (.r (.r (.r .nil)))))))))) (.new x6g (.cons rfl (.refl _) .nil)))
  ⟨x6t _,by simp,rfl⟩ ?_
 rintro⟨k,y⟩ ⟨J,L,z⟩;simp only at J L z⊢;rcases x6c k its.length with n|n
 .have P:=w k n;conv=>whnf
  repeat' (first|((first|refine x6d rfl ?_|(refine iA fun _=>?_)|refine wI ?_|(refine CallK.pure (Ct p j p.A[j] q (by omega) its[k] (x k n)) (.cons (Sub.refl _) (.cons (Sub.refl _) .nil)) ?_;rintro _ rfl));conv=>whnf)|(apply bD<;>intro _<;>first|omega|conv=>whnf)|(apply bN<;>intro _<;>conv=>whnf)|(refine CallK.heap [(2000,0)] 0 (by repeat' (first|exact x7h|refine x6i ?_ ?_|exact x6e _|exact x7q Sub.nils|exact x7q (Sub.tt rfl)|exact x7q (Sub.ff rfl)|exact x7q (Sub.int (by omega)))) (by refine x6y (j:=0) rfl rfl ?_ ?_;exact CSub.refl _;exact x7f) (Mm y its[k].s.F (by omega)) rfl rfl (Jr (fun m=>?_) (fun m out=>?_))<;>conv=>whnf))
  .exact ⟨(k+1,y++its[k].s.F),⟨by simp only;omega,by simp;omega,by simp only;rw[<-z,Ea n m (by assumption)]⟩,by simp only;omega,Le.of_eq rfl⟩
  .rw [<-z,Ec n m (by assumption)]at h;have u:=UX (f:=YC p) o (by rw[t];exact h);rw[g]at u;rw[u];exact QL rfl rfl
  .rw [<-z,OP n m]at h;have u:=UX (f:=YC p) o (by rw[t];exact h);rw[g]at u;rw[u];exact QL rfl rfl
 .have H:p.A[j].fin.length<=21000:=by
   have:=YR p.A[j].fin;unfold wPr at B;omega
  rw[x7v n,JH]at z;rw[<-z]at h;simp only at h;conv=>whnf
  repeat' (first|((first|refine x6d rfl ?_|refine wI ?_);conv=>whnf)|(apply bD<;>intro _<;>first|omega|conv=>whnf)|(refine CallK.heap [(2000,0)] 0 (by repeat' (first|exact x7h|refine x6i ?_ ?_|exact x6e _|exact x7q Sub.nils|exact x7q (Sub.tt rfl)|exact x7q (Sub.ff rfl)|exact x7q (Sub.int (by omega)))) (by refine x6y (j:=0) rfl rfl ?_ ?_;exact CSub.refl _;exact x7f) (Mm y p.A[j].fin (by omega)) rfl rfl (Jr (fun m=>?_) (fun m out=>?_))<;>conv=>whnf))
  .rw [m]at h;exact⟨j+1,⟨by omega,by rw[<-g,Jy (f:=YC p) o (by rw[t];exact h)]⟩,by omega,Le.of_eq rfl⟩
  .rw [m]at h;have u:=UX (f:=YC p) o (by rw[t];exact h);rw[g]at u;rw[u];exact QL rfl rfl
theorem BsK.pureL{sz:Nat}{out:List LV}{i m:Prop}(r:(es.all fun x=>x.cells.length==sz)=true)(q:out=(es.flatMap AV.cells).map .p)(o:i):BsK es sz out i m:=.pure (fun x h=>by simpa using x8h.1 r x h) q o
def GJ(c:UInt8):SpecP prog 191 [.int .u8 c.toNat] (fun r=>r=.bool (JS c)):=by
 refine sB NC func191 rfl call191 ?_;conv=>whnf
 repeat' (apply bD<;>intro _<;>first|omega|conv=>whnf)
 .exact RetK.bool (by simp_all[JS];try omega)
 .exact RetK.ff (by simp_all[JS];try omega)
def Zt(c:UInt8):SpecP prog 192 [.int .u8 c.toNat] (fun r=>r=.bool (Q5 c)):=by
 refine sB NS func192 rfl call192 ?_;conv=>whnf
 repeat' (apply bD<;>intro _<;>first|omega|conv=>whnf)
 .exact RetK.bool (by simp_all[Q5];try omega)
 .exact RetK.ff (by simp_all[Q5];try omega)
def wordsL:List Str:=[[103,108,111,98,97,108],[112,114,111,99],[118,97,114],[114,101,102],[105,102],[101,108,115,101],[119,104,105,108,101],[98,114,101,97,107],[99,111,110,116,105,110,117,101],[114,101,116,117,114,110],[103,111,116,111],[114,101,97,100],[112,114,105,110,116]]
def Zr:SpecP prog 248 [] (fun r=>r=eStrs wordsL):=by
 refine sB NT func248 rfl call248 ?_;conv=>whnf
 repeat' ((first|refine x6d rfl ?_|refine aD ?_|refine BsK.pureL rfl rfl ?_);conv=>whnf)
 exact RetK.p rfl
def Cm(s:Str):U7 s=wordsL.any fun w=>w==s:=by
 rw[z0p];unfold U7 wordsL;simp only[z1q,x7s,List.any_cons,List.any_nil,Bool.or_false,z0x,or_assoc,@eq_comm _ s]
def Vf(s:Str):SpecP prog 193 [.str s] (fun r=>r=.bool (U7 s)):=by
 refine sB LG func193 rfl call193 ?_;conv=>whnf
 rw[Cm];repeat' ((first|(refine iM fun _=>?_)|refine cP Zr ?_);conv=>whnf)
 have i:wordsL.length<=1000:=by decide
 generalize wordsL=l at i⊢;have n:(l.map AV.str).length=l.length:=x6j _;refine LoopK.inv QW (fun j:Nat=>⟨[(0,.p (.str s)),(5,.p (eStrs l)),(6,.p (.int .i64 (l.map AV.str).length)),(7,.p (.int .i64 j))],[]⟩) (fun j=>j<=l.length/\(l.drop j).any (fun w=>w==s)=l.any fun w=>w==s) (fun j=>l.length-j) 0 (Le.of_eq rfl) ⟨x6t _,rfl⟩ ?_;rintro j ⟨m,h⟩;conv=>whnf
 repeat' (first|((first|(refine iA fun _=>?_)|refine wI ?_);conv=>whnf)|(apply bD<;>intro _<;>first|omega|conv=>whnf)|(apply bB<;>intro _<;>conv=>whnf))
 .exact RetK.tt (by rw[<-h,J2 (p:=fun w=>w==s) (by omega) (by assumption)])
 .exact ⟨j+1,⟨by omega,by rw[<-h,Ve (p:=fun w=>w==s) (by omega) (by assumption)]⟩,by omega,Le.of_eq rfl⟩
 .exact RetK.ff (by rw[<-h,BC (by omega)])
def RP{s:Str}{i:Nat}(h:s.length<=i):KK s i=i:=Z1 fun m=>by omega
def XE(s:Str):SpecP prog 125 [.str s] (fun r=>r=.bool (isName s)):=by
 refine sB LK func125 rfl call125 ?_;conv=>whnf
 by_cases o:s=[]
 .subst o;have e:isName []=false:=by unfold isName;rw[dif_neg (by simp)]
  rw[e];repeat' (first|(refine iM fun _=>?_;conv=>whnf)|(apply bD<;>intro _<;>first|omega|conv=>whnf)|(apply bB<;>intro _<;>conv=>whnf))
  all_goals first
   |exact RetK.ff rfl
   |(exfalso;simp_all;done)
 have i:0<s.length:=z2p.2 o;have q:(s==(⟨#[]⟩:ByteArray).data.toList)=false:=by simpa using o
 repeat' (first|((first|(refine iM fun _=>?_)|refine cP (GJ _) ?_|(refine ByteK.at (by omega) ?_));conv=>whnf)|(apply bD<;>intro _<;>first|omega|conv=>whnf)|(apply bN<;>intro _<;>conv=>whnf)|(apply bB<;>intro _<;>conv=>whnf))
 .exfalso;rename_i h;rw[q]at h;cases h
 .exact RetK.ff (by unfold isName;rw[dif_neg (by omega)])
 rotate_left 1
 .exact RetK.ff (by unfold isName;rw[dif_pos (by omega)];simp_all)
 have m:JS s[0]=true:=by assumption
 have v:s.length<=8:=by omega
 have u:KK s 0=KK s 1:=(ND i (by unfold OG;rw[m];rfl)).symm;have t:isName s=(decide (KK s 1=s.length) && !U7 s):=by
  unfold isName;rw[dif_pos (by omega),m,u];rfl
 refine LoopK.inv QW (fun j:Nat=>⟨[(0,.p (.str s)),(3,.p (.int .i64 j))],[]⟩) (fun j=>1<=j/\j<=s.length/\KK s j=KK s 1) (fun j=>s.length-j) 1 (Le.of_eq rfl) ⟨x7u _,i,rfl⟩ ?_;rintro j ⟨w,x,n⟩;conv=>whnf
 repeat' (first|((first|(refine iM fun _=>?_)|refine cP (GJ _) ?_|refine cP (Zt _) ?_|refine cP (Vf _) ?_|(refine ByteK.at (by omega) ?_)|refine wI ?_);conv=>whnf)|(apply bD<;>intro _<;>first|omega|conv=>whnf)|(apply bN<;>intro _<;>conv=>whnf))
 all_goals first
  |exact⟨j+1,⟨by omega,by omega,by rw[ND (by omega) (by simp_all[OG])];exact n⟩,by omega,Le.of_eq rfl⟩
  |exact RetK.ff (by rw[t,<-n,Z1 fun _=>by simp_all[OG]];simp;omega)
  |exact RetK.bool (by rw[t,<-n,RP (by omega),show j=s.length by omega];simp)
def UL(l:List Str):SpecP prog 124 [eStrs l] (fun r=>r=.bool (namesB l)):=by
 refine sB NI func124 rfl call124 ?_;conv=>whnf
 refine iM fun _=>?_;conv=>whnf
 refine LoopK.inv QW (fun j:Nat=>⟨[(5,.p (eStrs l)),(6,.p (.int .i64 (l.map AV.str).length)),(7,.p (.int .i64 j))],[]⟩) (fun j=>j<=l.length/\(l.drop j).all isName=namesB l) (fun j=>l.length-j) 0 (Le.of_eq rfl) ⟨x6t _,rfl⟩ ?_;rintro j ⟨i,h⟩;have m:(l.map AV.str).length=l.length:=x6j _;conv=>whnf
 repeat' (first|((first|refine cP (XE _) ?_|(refine iA fun _=>?_)|refine wI ?_);conv=>whnf)|(apply bD<;>intro _<;>first|omega|conv=>whnf)|(apply bN<;>intro _<;>conv=>whnf))
 .exact ⟨j+1,⟨by omega,by rw[GP (by omega) (by assumption)];exact h⟩,by omega,Le.of_eq rfl⟩
 .exact RetK.ff (by rw[<-h,Xy (by omega) (by assumption)])
 .exact RetK.tt (by rw[<-h,GB (by omega)])
def Zs(op:Int):SpecP prog 299 [.int .i64 op] (fun r=>r=.int .i64 (Xe op)):=by
 refine sB NA func299 rfl call299 ?_;conv=>whnf
 repeat' (apply bD<;>intro _<;>first|omega|conv=>whnf)
 all_goals exact RetK.int (by unfold Xe;(repeat' split)<;>omega)
def FU(x:X):SpecP prog 195 [.agg x.cells] (fun r=>r=.bool (noneB x)):=by
 refine sB LL func195 rfl call195 ?_;conv=>whnf
 repeat' (first|(refine iM fun _=>?_;conv=>whnf)|(apply bD<;>intro _<;>first|omega|conv=>whnf)|(apply bB<;>intro _<;>conv=>whnf))
 all_goals have h:((X.avs x.kids).length:Int)=x.kids.length:=by rw[X.avs_len]
 all_goals first
  |exact RetK.ff (by simp_all[noneB];done)
  |exact RetK.bool (by simp_all[noneB];done)
def HR(x:X):Bool:=decide (Xe x.op=(x.kids.length:Int))&&(decide (x.op=1)||decide (x.n=0))&&decide (0<=x.n)&&(decide (x.op=2) == !(x.name==[]))&&((x.name==[])||isName x.name)
def MG:Nat->X->Bool
 |0,_=>true
 |k+1,x=>HR x&&x.kids.all (MG k)
theorem Tf:∀(l:List X)(y:X),y∈l->wX y<=wXs l
 |[],y,h=>by cases h
 | a::r,y,h=>by
   rw[wXs];rcases x6m.1 h with rfl|h
   .omega
   .have:=Tf r y h;omega
def FW : ∀(k:Nat)(x:X)(_:wX x<k),SpecP prog 250 [.agg x.cells] (fun r=>r=.bool (MG k x)):=by
 intro k;induction k with
 |zero=>intro x h;omega
 | succ k t=>
   intro x y;have s:wX x=1+wXs x.kids:=by cases x;rw[wX];rfl
   have v:((X.avs x.kids).length:Int)=x.kids.length:=by rw[X.avs_len]
   refine sB LN func250 rfl call250 ?_;conv=>whnf
   repeat' (first|((first|(refine iM fun _=>?_)|refine cP (Zs _) ?_|refine cP (XE _) ?_|refine dA ?_|refine GX QW rfl rfl rfl rfl rfl ?_);conv=>whnf)|(apply bD<;>intro _<;>first|omega|conv=>whnf)|(apply bE<;>intro _<;>first|omega|conv=>whnf)|(apply bN<;>intro _<;>conv=>whnf))
   all_goals simp only[show(ByteArray.mk #[]).data.toList=[]from rfl]at*
   all_goals first
    | (refine RetK.ff ?_
       rw[MG,z0b];left;unfold HR;rw[show decide (0<=x.n)=false from x8c (by omega)];simp
       done)
    | (refine RetK.ff ?_
       rw[MG,z0b];left;rename_i h;have q:(decide (x.op=2) == !(x.name==[]))=false:=by
        have e:decide (x.op=2)=(x.op==2):=rfl;rw[e]
        revert h
        cases(x.op==2)<;>cases(x.name==[])<;>decide
       unfold HR;rw[q];simp
       done)
    | (refine RetK.ff ?_
       rw[MG,z0b];left;simp_all[HR]
       done)
    | (refine RetK.ff ?_
       rw[MG,z0b];left;simp_all[HR];omega)
    | (have o:HR x=true:=by first
        |(simp_all[HR];done)
        |(simp_all[HR];omega)
       rw[show MG (k+1) x=x.kids.all (MG k) by rw[MG,o];rfl])
   all_goals
    clear o;refine LoopK.inv QW (fun j:Nat=>⟨[(1,.p (.ip x.cells)),(48,.p (.int .i64 (X.avs x.kids).length)),(49,.p (.int .i64 j))],[]⟩) (fun j=>j<=x.kids.length/\(x.kids.drop j).all (MG k)=x.kids.all (MG k)) (fun j=>x.kids.length-j) 0 (Le.of_eq rfl) ⟨x6t _,rfl⟩ ?_;rintro j ⟨u,i⟩;rcases x6c j x.kids.length with m|m
    .have w:=Tf x.kids _ (x6o m);conv=>whnf
     repeat' (first|((first|refine IdxK.xs (by omega) ?_|refine wI ?_|(refine CallK.pure (t (x.kids[j]'m) (by omega)) (.cons (Sub.refl _) .nil) ?_;rintro _ rfl));conv=>whnf)|(apply bD<;>intro _<;>first|omega|conv=>whnf)|(apply bN<;>intro _<;>conv=>whnf))
     .exact ⟨j+1,⟨by omega,by rw[GP (by omega) (by assumption)];exact i⟩,by omega,Le.of_eq rfl⟩
     .exact RetK.ff (by rw[<-i,Xy (by omega) (by assumption)])
    .conv=>whnf
     repeat' (apply bD<;>intro _<;>first|omega|conv=>whnf)
     exact RetK.tt (by rw[<-i,GB (by omega)])
end Go.Ab
