/- tree, flat, scope: the names of an expression, of a statement; what a name is. -/
import Derived.Test.YtgljdhjopolmcaaGreatRcA8
set_option linter.all false
set_option maxRecDepth 100000
set_option maxHeartbeats 16000000
open List (drop_zero)
namespace Go.Ab
open Go.Proofs.Tryz
open Go.Proofs
variable {α β:Type}{K:Prop}{a c d:Int}{b:Bool}{es:List AV}{f:Pr}{its:List Item}{j k:Nat}{l seen:List Str}{p:Pg}
def XM{n:Nat}(xs:List Str)(h:n=es.length)(o:es.length+xs.length<=8796093022208)(i:K):AppK es (xs.map .str) n (xs.map AV.str).length 1 16 K:=
 .mk h rfl (by rw[h];simp;omega) (by rw[h];simp[maxLen];omega) (fun x m=>by obtain⟨y,_,rfl⟩:=z1z.1 m;exact⟨rfl,rfl⟩) i
def XK{n:Nat}{s:Str}(i:n=es.length)(o:es.length<=8796093022000)(h:K):AppK es [.str s] n 1 1 16 K:=
 .mk i rfl (by omega) (by simp only[maxLen];omega) (fun x m=>by rcases z0i.1 m with rfl;exact⟨rfl,rfl⟩) h
def DN{n:Nat}{s:Int}(i:n=es.length)(o:es.length<=8796093022000)(h:K):AppK es [.int .i64 s] n 1 1 8 K:=
 .mk i rfl (by omega) (by simp only[maxLen];omega) (fun x m=>by rcases z0i.1 m with rfl;exact⟨rfl,rfl⟩) h
mutual
def B3:X->List Str->List Str
 |.mk op _ name kids,out=>BY kids (if op=2/\(out.any fun s=>name==s)=false then out++[name]else out)
def BY:List X->List Str->List Str
 |[],out=>out
 |x::r,out=>BY r (B3 x out)
end
def Ma(x:X)(out:List Str):B3 x out=BY x.kids (if x.op=2/\(out.any fun s=>x.name==s)=false then out++[x.name]else out):=by
 cases x;rw[B3];rfl
def Pp{l:List X}{out:List Str}(h:j<l.length):BY (l.drop j) out=BY (l.drop (j+1)) (B3 l[j] out):=by
 rw[QP h,BY]
def Th{l:List X}{out:List Str}(h:l.length<=j):BY (l.drop j) out=out:=by
 rw[z1b h,BY]
def Y5{n:Nat}{x:X}(h:UD (n+1) x=true):x.kids.length<=2/\(x.op=2->x.kids.length=0)/\∀k∈x.kids,UD n k=true:=by
 rw[UD]at h;simp only[z1p,z2z]at h;obtain⟨i,m⟩:=h;refine⟨?_,fun r=>?_,?_⟩
 .unfold Kk at i;(repeat' split at i)<;>omega
 .unfold Kk at i;rw[if_pos (by omega)]at i;omega
 .by_cases o:x.op=1
  .have:x.kids.length=0:=by unfold Kk at i;rw[if_pos (by omega)]at i;omega
   rw[z3c this];simp
  .by_cases q:x.op=2
   .have:x.kids.length=0:=by unfold Kk at i;rw[if_pos (by omega)]at i;omega
    rw[z3c this];simp
   .rw [if_neg o,if_neg q]at m;simp only[z1p]at m;exact z3x.1 m.2
def SP:∀(n:Nat)(x:X)(out:List Str),UD n x=true->out.length<=(B3 x out).length/\(B3 x out).length<=out.length+2^n:=by
 intro n;induction n with
 |zero=>intro x out h;rw[UD]at h;cases h
 | succ n g=>
   intro x out h;obtain⟨w,y,z⟩:=Y5 h;have key:∀(l:List X)(o:List Str),(∀k∈l,UD n k=true)->o.length<=(BY l o).length/\(BY l o).length<=o.length+l.length*2^n:=by
    intro l;induction l with
    |nil=>intro o _;simp[BY]
    | cons k r t=>
      intro o u;rw[BY];have e:=g k o (u k (by simp));have A:=t (B3 k o) fun k q=>u k (by simp[q]);simp only[z2k,z3d,z8p];omega
   rw[Ma];have B:2^(n+1)=2*2^n:=by rw[Nat.pow_succ];omega
   have v:0<2^n:=Nat.pow_pos (by decide);have m:=key x.kids (if x.op=2/\(out.any fun s=>x.name==s)=false then out++[x.name]else out) z;have e:x.kids.length*2^n<=2*2^n:=z2c _ w;split at m
   .rename_i i;have:=y i.1;rw[this]at m;rw[if_pos i];simp only[z0e,z2w]at m;omega
   .rename_i i;rw[if_neg i];omega
def Lv(t:Nat)(out:List Str):Heap:=[(2000,.own t 1 (out.map .str))]
def De:∀(n:Nat)(_:n<=20)(x:X)(_:UD n x=true)(out:List Str)(_:out.length+2^n<=1073741824),
  aH 198 [.p (.agg x.cells),.hd 2000 0 out.length] (Lv 9 out) (.hd 2000 0 (B3 x out).length) (Lv 9 (B3 x out)):=by
 intro n;induction n with
 |zero=>intro _ x h;rw[UD]at h;cases h
 | succ n A=>
   intro D x e out E;have F:2^(n+1)=2*2^n:=by rw[Nat.pow_succ];omega
   have w:0<2^n:=Nat.pow_pos (by decide);obtain⟨t,u,q⟩:=Y5 e;have g:=X.avs_len x.kids;refine sK M9 func198 ?_;conv=>whnf
   repeat' ((first|(refine gX ?_;intros)|(refine QB (QJ out x.name) (.cons (.hd rfl (by simp)) (.cons (.p (Sub.refl _)) .nil)) (by rintro _ rfl;rfl) ?_;rintro _ rfl)|refine pA 1 16 (by simp) ?_|((first|apply bD|apply bN)<;>intro _<;>try omega))<;>conv=>whnf)
   all_goals
    have r:∀j,j<x.kids.length->(x.kids.length-j)*2^n=(x.kids.length-(j+1))*2^n+2^n:=fun j o=>by
     rw[show x.kids.length-j=(x.kids.length-(j+1))+1 by omega,z3d,z8p]
    have v:x.kids.length*2^n<=2*2^n:=z2c _ t;first
    |refine lJ (fun i:Nat×List Str=>⟨[(1,.hd 2000 0 i.2.length),(23,.p (.sl (X.avs x.kids))),(24,.p (.int .i64 (X.avs x.kids).length)),(25,.j i.1)],Lv 9 i.2⟩) (fun i=>i.1<=x.kids.length/\BY (x.kids.drop i.1) i.2=B3 x out/\i.2.length+(x.kids.length-i.1)*2^n<=1073741824) (fun i=>x.kids.length-i.1) (0,out++[x.name]) (Le.of_eq (by simp[Lv];exact⟨rfl,rfl⟩)) ⟨z1q _,by simp only[drop_zero];rw[Ma,if_pos ⟨by assumption,by assumption⟩],by have:=u (by assumption);simp[this];omega⟩ ?_
    |refine lI (fun i:Nat×List Str=>⟨[(1,.hd 2000 0 i.2.length),(23,.p (.sl (X.avs x.kids))),(24,.p (.int .i64 (X.avs x.kids).length)),(25,.j i.1)],Lv 9 i.2⟩) (fun i=>i.1<=x.kids.length/\BY (x.kids.drop i.1) i.2=B3 x out/\i.2.length+(x.kids.length-i.1)*2^n<=1073741824) (fun i=>x.kids.length-i.1) (0,out) ⟨z1q _,by simp only[drop_zero];rw[Ma,if_neg (by simp[*])],by simp only[Nat.sub_zero];omega⟩ ?_
    rintro⟨j,m⟩ ⟨y,s,z⟩;simp only at y s z⊢;conv=>whnf
    repeat' ((first|(refine gX ?_;intros)|(apply bD<;>intro _<;>try omega))<;>conv=>whnf)
    all_goals first
     | (rw[Th (by omega)]at s
        exact⟨_,.refl _,by rw[s];exact⟨rfl,rfl⟩⟩)
     | (have o:j<x.kids.length:=by omega
        have C:=r j o;have B:=SP n x.kids[j] m (q _ (z1h o));refine cJ rH2 0 (A (by omega) x.kids[j] (q _ (z1h o)) m (by omega)) ?_;rintro l' H' ⟨rfl,rfl⟩;conv=>whnf
        refine wI ?_;conv=>whnf
        exact nX (j+1,B3 x.kids[j] m) ⟨by simp only;omega,by simp only;rw[<-s,Pp o],by simp only;omega⟩)
def QC(x:X):List Str:=bif EU x then B3 x []else []
def ZM(x:X):(QC x).length<=1048576:=by
 unfold QC;cases h:EU x with
 |false=>simp
 | true=>
   have:=(SP 20 x [] h).2;simpa using this
def J1(x:X):aP 141 [.agg x.cells] (eStrs (QC x)):=by
 refine sC Jw func141 ?_;conv=>whnf
 repeat' ((first|refine cP (LD _) ?_|(apply bN<;>intro _))<;>conv=>whnf)
 .refine CallK.nil 5 9 1 rfl (.cons rfl (.row .nil)) ?_;refine cJ [(2000,5)] 0 (De 20 (by omega) x (by assumption) [] (by simp)) ?_;rintro l' H' ⟨rfl,rfl⟩;conv=>whnf
  refine⟨_,.hd rfl (by simp),?_⟩;unfold QC;rw[show EU x=true by assumption];rfl
 .refine ⟨_,.p Sub.nils,?_⟩;unfold QC;rw[show EU x=false by assumption];rfl
def KB(a:Arg):List Str:=(bif a.ref then [a.name]else [])++QC a.x
def BG(t:S):List Str:=(bif t.kind≠10 && !(t.name==[])then [t.name]else [])++QC t.x
def WW(t:S):List Str:=BG t++t.args.flatMap KB
def EH(a:Arg):(KB a).length<=1048577:=by
 have:=ZM a.x;unfold KB;cases a.ref<;>simp<;>omega
def EF(t:S):(BG t).length<=1048577:=by
 have:=ZM t.x;unfold BG;cases(t.kind≠10 && !(t.name==[]):Bool)<;>simp<;>omega
theorem HK{α β:Type}{f:α->List β}{c:Nat}(h:∀a,(f a).length<=c):∀l:List α,(l.flatMap f).length<=l.length*c
 |[]=>by simp
 | x::r=>by
   have:=HK h r;have:=h x;simp only[z2d,z0e,z2k,z3d,z8p];omega
def Mw(t:S)(j:Nat):List Str:=BG t++(t.args.take j).flatMap KB
def Co(t:S)(h:j<=t.args.length)(ha:t.args.length<=21000):(Mw t j).length<=23000000000:=by
 have i:=EF t;have m:=HK EH (t.args.take j);have n:(t.args.take j).length*1048577<=21000*1048577:=z2c _ (by simp;omega);unfold Mw;simp only[z0e];omega
def RG{t:S}(h:j<t.args.length):Mw t (j+1)=Mw t j++KB t.args[j]:=by
 unfold Mw;rw[z1y h,z3g,z1m];simp
def NU(t:S)(h:Nat)(j:Nat):St:=⟨[(3,.hd 0 0 (Mw t j).length),(25,.p (.sl (t.args.map fun a=>.agg a.cells))),(26,.p (.int .i64 (t.args.map fun a=>AV.agg a.cells).length)),(27,.j j)],[(0,.own h 1 ((Mw t j).map .str))]⟩
def Pv(t:S)(ha:t.args.length<=21000):aP 185 [.agg t.cells] (eStrs (WW t)):=by
 refine sC Rl func185 ?_;conv=>whnf
 repeat' ((first|(refine gX ?_;intros)|refine cP (J1 _) ?_|refine XM _ (by simp) (by have:=ZM t.x;simp;omega) ?_|refine XK (by simp) (by simp) ?_|((first|apply bE|apply bN)<;>intro _<;>try omega))<;>conv=>whnf)
 all_goals
  have q:(t.args.map fun a=>AV.agg a.cells).length=t.args.length:=z0s _;refine lJ (NU t 9) (fun j=>j<=t.args.length) (fun j=>t.args.length-j) 0 (Le.of_eq ?_) (z1q _) ?_
  .first
    | (have e:Mw t 0=QC t.x:=by simp[Mw,BG,show t.kind=10 by assumption]
       rw[NU,e];simp only[z3m,z0s,z0e,z1v,z4v];rfl)
    | (have e:Mw t 0=QC t.x:=by simp[Mw,BG,show t.name=[] by simpa using(show(t.name==[])=true by assumption)]
       rw[NU,e];simp only[z3m,z0s,z0e,z1v,z4v];rfl)
    | (have e:Mw t 0=[t.name]++QC t.x:=by
        have:(t.name==[])=false:=by assumption
        simp[Mw,BG,show ¬t.kind=10 by assumption,this]
       rw[NU,e];simp only[z3m,z0s,z0e,z1v,z4v];rfl)
  intro j n;have m:=Co t n ha;conv=>whnf
  repeat' ((first|refine cP (J1 _) ?_|(refine gX ?_;intros)|refine XM _ (by simp) (by have:=ZM (t.args[j]'(by omega)).x;simp;omega) ?_|refine pS ?_|((first|apply bD|apply bB)<;>intro _<;>try omega))<;>conv=>whnf)
  all_goals first
   |exact⟨_,.hd rfl (by simp),by
      have:t.args.take j=t.args:=z1f (by omega);rw[WW,<-this];rfl⟩
   | (have o:j<t.args.length:=by omega
      have h:=RG o;refine⟨j+1,by show j+1<=_;omega,by show t.args.length-(j+1)<t.args.length-j;omega,Le.of_eq ?_⟩;first
       | (have i:KB t.args[j]=[t.args[j].name]++QC t.args[j].x:=by rw[KB,show t.args[j].ref=true by assumption];rfl
          rw[NU,h,i];simp only[z0e,z1v,z0s,<-z1m,<-z4l];rfl)
       | (have i:KB t.args[j]=QC t.args[j].x:=by rw[KB,show t.args[j].ref=false by assumption];rfl
          rw[NU,h,i];simp only[z0e,z1v,z0s];rfl))
def q2s:List Str->Nat
 |[]=>0
 |s::r=>1+q2s r
mutual
def wX:X->Nat
 |.mk _ _ name kids=>1+wXs kids
def wXs:List X->Nat
 |[]=>0
 |x::r=>wX x+wXs r
end
def J3:List Arg->Nat
 |[]=>0
 |a::r=>wX a.x+1+J3 r
mutual
def wS:S->Nat
 |.mk _ _ E name D x _ args L M=>wX x+q2s E+1+1+J3 args+wL L+wL M
def wL:List S->Nat
 |[]=>0
 |s::r=>wS s+wL r
end
def x3j:List Param->Nat
 |[]=>0
 |a::r=>1+x3j r
def wPr(f:Pr):Nat:=1+q2s f.R+q2s f.fin+x3j f.B+wL f.body
def q9v:List Pr->Nat
 |[]=>0
 |f::r=>wPr f+q9v r
def wPg(p:Pg):Nat:=q2s p.C+q9v p.A
def Fit(p:Pg):Prop:=wPg p<=21000
theorem PC:∀l:List Str,l.length<=q2s l
 |[]=>z1q _
 |s::r=>by have:=PC r;simp only[z2k,q2s];omega
theorem HM:∀l:List Arg,l.length<=J3 l
 |[]=>z1q _
 |s::r=>by have:=HM r;simp only[z2k,J3];omega
def R8(s:S):wS s=wX s.x+q2s s.E+1+1+J3 s.args+wL s.L+wL s.M:=by
 cases s;rw[wS];rfl
mutual
theorem x3n:∀s:S,WG s<=wS s
 | .mk id kind E name D x has args L M=>by
   have:=CK L;have:=CK M;rw[WG,wS];omega
theorem CK:∀l:List S,QY l<=wL l
 |[]=>by rw[QY,wL];exact z1l _
 | s::r=>by
   have:=x3n s;have:=CK r;rw[QY,wL];omega
end
theorem q2h:∀{l:List Pr}{f:Pr},f∈l->wPr f<=q9v l
 | g::r,f,h=>by
   simp only[q9v];rcases z1g.1 h with rfl|h
   .omega
   .have:=q2h h;omega
theorem Fit.pr(h:Fit p)(i:f∈p.A):wPr f<=21000:=by
 have:=q2h i;unfold Fit wPg at h;omega
mutual
def flS:S->List S
 |.mk id kind E name D x has args L M=>.mk id kind E name D x has args L M::(flL L++flL M)
def flL:List S->List S
 |[]=>[]
 |s::r=>flS s++flL r
end
def q7t(s:S):flS s=s::(flL s.L++flL s.M):=by
 cases s;rw[flS];rfl
mutual
theorem x0x:∀s:S,(flS s).length=WG s
 | .mk id kind E name D x has args L M=>by
   rw[flS,WG,z2k,z0e,Hp L,Hp M];omega
theorem Hp:∀l:List S,(flL l).length=QY l
 |[]=>by rw[flL,QY];rfl
 |s::r=>by rw[flL,QY,z0e,x0x s,Hp r]
end
mutual
theorem x6y:∀(s t:S),t∈flS s->wS t<=wS s
 | .mk id kind E name D x has args L M,t,h=>by
   rw[flS]at h;rcases z1g.1 h with rfl|h
   ·exact z1l _
   ·rw[wS];rcases z0o.1 h with h|h
    ·have:=Hn L t h;omega
    ·have:=Hn M t h;omega
theorem Hn:∀(l:List S)(t:S),t∈flL l->wS t<=wL l
 |[],t,h=>by rw[flL]at h;cases h
 | s::r,t,h=>by
   rw[flL]at h;rw[wL];rcases z0o.1 h with h|h
   ·have:=x6y s t h;omega
   ·have:=Hn r t h;omega
end

mutual
def itS(D up nx loop:Int)(n:Nat):S->List Item
 | .mk id kind E name pr x has args L M=>
   ⟨.mk id kind E name pr x has args L M,D,up,nx,loop⟩::(itL D (n+1) (if kind=6 then n+1 else nx) (if kind=6 then n+1 else loop) (n+1) L ++
     itL D (n+1) (if kind=6 then n+1 else nx) (if kind=6 then n+1 else loop) (n+1+QY L) M)
def itL(D up nx loop:Int)(n:Nat):List S->List Item
 |[]=>[]
 |t::r=>itS D up (if r.isEmpty then nx else n+1+WG t) loop n t++itL D up nx loop (n+WG t) r
end
mutual
theorem x1a(D up nx loop:Int):∀(t:S)(acc:List Item),Gf D up nx loop acc t=acc++itS D up nx loop acc.length t
 | .mk id kind E name pr x has args L M,acc=>by
   rw[Gf,itS,Vl _ _ _ _ L,Vl _ _ _ _ M];simp only[z0e,z2k,z5p,z1m,z5t,z4v,WA D _ _ _ _ L,z3m,z4l,z7i (QY L) 1]
theorem Vl(D up nx loop:Int):∀(l:List S)(acc:List Item),XO D up nx loop acc l=acc++itL D up nx loop acc.length l
 |[],acc=>by rw[XO,itL,z2y]
 | t::r,acc=>by
   rw[XO,itL,x1a _ _ _ _ t,Vl _ _ _ _ r];simp only[z0e,z1m,On D _ _ _ _ t]
theorem On(D up nx loop:Int)(n:Nat):∀t:S,(itS D up nx loop n t).length=WG t
 | .mk id kind E name pr x has args L M=>by
   rw[itS,WG,z2k,z0e,WA _ _ _ _ _ L,WA _ _ _ _ _ M];omega
theorem WA(D up nx loop:Int)(n:Nat):∀l:List S,(itL D up nx loop n l).length=QY l
 |[]=>by rw[itL,QY];rfl
 |t::r=>by rw[itL,QY,z0e,On _ _ _ _ _ t,WA _ _ _ _ _ r]
end
mutual
theorem x6p(D up nx loop:Int)(n:Nat):∀t:S,(itS D up nx loop n t).map Item.s=flS t
 | .mk id kind E name pr x has args L M=>by
   rw[itS,flS,z1t,z1v,X1 _ _ _ _ _ L,X1 _ _ _ _ _ M]
theorem X1(D up nx loop:Int)(n:Nat):∀l:List S,(itL D up nx loop n l).map Item.s=flL l
 |[]=>by rw[itL,flL];rfl
 |t::r=>by rw[itL,flL,z1v,x6p _ _ _ _ _ t,X1 _ _ _ _ _ r]
end
def QL:List Pr->Nat->Nat
 |_,0=>0
 |[],_+1=>0
 |f::r,i+1=>QY f.body+QL r i
theorem TJ:∀(l:List Pr)(i:Nat)(acc:List Item)(lo hi:List Int),lo.length=i->hi.length=i->
  (B4 i acc lo hi l).2.1.length=i+l.length/\(B4 i acc lo hi l).2.2.length=i+l.length/\
  (∀k,k<i->(B4 i acc lo hi l).2.1[k]?=lo[k]? /\(B4 i acc lo hi l).2.2[k]?=hi[k]?)/\∃L,(B4 i acc lo hi l).1=acc++L/\L.length=cntP l/\
  ∀(k:Nat)(f:Pr),l[k]?=some f->(B4 i acc lo hi l).2.1[i+k]?=some ((acc.length+QL l k:Nat)+1:Int)/\(B4 i acc lo hi l).2.2[i+k]?=some ((acc.length+QL l k+QY f.body:Nat)+1:Int)/\
   QL l k+QY f.body<=cntP l/\(L.take (QL l k+QY f.body)).drop (QL l k)=itL (i+k:Nat) 0 (-1) 0 (acc.length+QL l k) f.body
 | [],i,acc,lo,hi,h1,h2=>by
   rw[B4];exact⟨by simpa using h1,by simpa using h2,fun _ _=>⟨rfl,rfl⟩,[],by simp,rfl,fun k f h=>by simp at h⟩
 | f::r,i,acc,lo,hi,h1,h2=>by
   rw[B4];have s:=Vl i 0 (-1) 0 f.body acc;have m:=XL i 0 (-1) 0 acc f.body;obtain⟨w,x,u,L,y,z,e⟩:=TJ r (i+1) (XO i 0 (-1) 0 acc f.body) (lo++[(acc.length:Int)+1]) (hi++[((XO i 0 (-1) 0 acc f.body).length:Int)+1]) (by simp[h1]) (by simp[h2]);refine⟨by rw[w,z2k];omega,by rw[x,z2k];omega,fun k A=>?_,itL i 0 (-1) 0 acc.length f.body++L,?_,?_,fun k g t=>?_⟩
   .obtain ⟨q,n⟩:=u k (by omega);rw[q,n,z2a (by omega),z2a (by omega)];exact⟨rfl,rfl⟩
   .rw [y,s,z1m]
   .rw [z0e,z,WA,cntP]
   .cases k with
    | zero=>
      simp only[z7h,z4r]at t;subst t;obtain⟨q,n⟩:=u i (by omega);simp only[z6s,QL,z3m,drop_zero];refine⟨?_,?_,?_,?_⟩
      .rw [q,z2f (by omega),h1];simp
      .rw [n,z2f (by omega),h2,m];simp
      .rw [cntP];omega
      .rw [List.take_append_of_le_length (by rw[WA];omega),z1f (by rw[WA];omega)]
    | succ k=>
      simp only[List.getElem?_cons_succ]at t;obtain⟨q,n,v,o⟩:=e k g t;rw[m]at o;simp only[QL];refine⟨?_,?_,?_,?_⟩
      .rw [show i+(k+1)=i+1+k by omega,q,m];congr 2;omega
      .rw [show i+(k+1)=i+1+k by omega,n,m];congr 2;omega
      .rw [cntP];omega
      .rw [List.take_append,List.drop_append,WA,z1f (by rw[WA];omega),z1b (by rw[WA];omega),z4v];simp only[WA];rw[show QY f.body+QL r k+QY g.body-QY f.body=QL r k+QY g.body by omega,show QY f.body+QL r k-QY f.body=QL r k by omega,o];rw[show i+(k+1)=i+1+k by omega,show acc.length+(QY f.body+QL r k)=acc.length+QY f.body+QL r k by omega]
def QK(p:Pg):(sheetOf p).p=p/\(sheetOf p).lo.length=p.A.length/\(sheetOf p).hi.length=p.A.length/\(sheetOf p).l.length=cntP p.A/\
  ∀(k:Nat)(f:Pr),p.A[k]?=some f->(sheetOf p).lo[k]?=some ((QL p.A k:Nat)+1:Int)/\(sheetOf p).hi[k]?=some ((QL p.A k+QY f.body:Nat)+1:Int)/\
   QL p.A k+QY f.body<=cntP p.A/\((sheetOf p).l.take (QL p.A k+QY f.body)).drop (QL p.A k)=itL k 0 (-1) 0 (QL p.A k) f.body:=by
 obtain⟨i,m,_,L,h,n,o⟩:=TJ p.A 0 [] [] [] rfl rfl;refine⟨rfl,by unfold sheetOf;simpa using i,by unfold sheetOf;simpa using m,by unfold sheetOf;simp[h,n],fun k f q=>?_⟩;have:=o k f q;unfold sheetOf;simp only[h,z4v,z5p,z3m]at this⊢;exact this
mutual
theorem GC(nest seen:Int):∀(s:S){m:Int},Gh nest seen s=some m->m=seen+WG s
 | .mk id kind E name D x has args L M,m,h=>by
   simp only[Gh]at h;split at h
   ·cases h
   split at h
   ·cases h
   cases hn:namesB E<;>rw[hn]at h
   ·cases h
   cases hf:UW (.mk id kind E name D x has args L M)<;>rw[hf]at h
   ·cases h
   simp only[z1n]at h;split at h
   ·rename_i m1 h1;have h2:=WP (nest+1) (seen+1) L h1;have h3:=WP (nest+1) m1 M h;rw[WG];omega
   ·cases h
theorem WP(nest seen:Int):∀(l:List S){m:Int},WY nest seen l=some m->m=seen+QY l
 | [],m,h=>by
   simp only[WY]at h;cases h;rw[QY];simp
 | s::r,m,h=>by
   simp only[WY]at h;split at h
   ·cases h
   split at h
   ·rename_i m1 h1;have h2:=GC nest seen s h1;have h3:=WP nest m1 r h;rw[QY];omega
   ·cases h
end
theorem N2:∀(l:List Pr){seen m:Int},seen<=200->ZK seen l=some m->m=seen+cntP l/\m<=200
 |[],seen,m,h0,h=>by rw[ZK]at h;cases h;simp[cntP];exact h0
 | f::r,seen,m,h0,h=>by
   rw[ZK]at h;cases n:DG f<;>rw[n]at h
   .cases h
   simp only[z1n]at h;split at h
   .rename_i t i;have o:=WP 1 seen f.body i;have q:=Dk 1 seen f.body h0 i;have s:=N2 r (by omega) h;rw[cntP];omega
   .cases h
def ZR(h:UG p=true):p.C.length<=16/\p.A.length<=16/\cntP p.A<=200:=by
 unfold UG at h;simp only[z1p,z2z]at h;obtain⟨⟨⟨o,q⟩,_⟩,i⟩:=h;cases n:ZK 0 p.A with
 |none=>rw[n]at i;cases i
 | some m=>
   have:=N2 p.A (by decide) n;omega
def SI(h:UG p=true)(i:f∈p.A):DG f=true:=by
 unfold UG at h;simp only[z1p]at h;have n:=h.2;have key:∀(l:List Pr)(seen:Int),(ZK seen l).isSome=true->∀f∈l,DG f=true:=fun l=>by
  induction l with
  |nil=>intro _ _ f i;cases i
  | cons g r o=>
    intro seen h f i;rw[ZK]at h;cases m:DG g<;>rw[m]at h
    .cases h
    simp only[z1n]at h;split at h
    .rename_i s q;rcases z1g.1 i with rfl|i
     .exact m
     .exact o _ h f i
    .cases h
 exact key _ _ n f i
def DJ(p:Pg)(f:Pr)(name:Str):Int:=
 match f.B.find? (fun a=>a.name==name)with
 |some a=>bif a.ref then 3 else 2
 |none=>bif f.R.any (fun s=>name==s)then 4 else bif p.C.any (fun s=>name==s)then 1 else 0
def MM{l:List α}{p:α->Bool}(i:j<l.length)(h:p l[j]=false):(l.drop (j+1)).find? p=(l.drop j).find? p:=by
 rw[QP i,z6k,h]
def FG{l:List α}{p:α->Bool}(i:j<l.length)(h:p l[j]=true):(l.drop j).find? p=some l[j]:=by
 rw[QP i,z6k,h]
def FK{l:List α}{p:α->Bool}(h:l.length<=j):(l.drop j).find? p=none:=by
 rw[z1b h];rfl
def EO(p:Pg)(f:Pr)(name:Str):aP 186 [.agg p.cells,.agg f.cells,.str name] (.int .i64 (DJ p f name)):=by
 refine sC Re func186 ?_;conv=>whnf
 repeat' ((refine iM fun _=>?_)<;>conv=>whnf)
 have q:(f.B.map fun a=>AV.agg a.cells).length=f.B.length:=z0s _;refine lI (fun j:Nat=>⟨[(2,.p (.str name)),(3,.p (.ip p.cells)),(4,.p (.ip f.cells)),(10,.p (.sl (f.B.map fun a=>.agg a.cells))),(11,.p (.int .i64 (f.B.map fun a=>AV.agg a.cells).length)),(12,.j j)],[]⟩) (fun j=>j<=f.B.length/\(f.B.drop j).find? (fun a=>a.name==name)=f.B.find? (fun a=>a.name==name)) (fun j=>f.B.length-j) 0 ⟨z1q _,rfl⟩ ?_;rintro j ⟨n,h⟩;conv=>whnf
 repeat' ((first|refine cP (QJ _ _) ?_|(refine gX ?_;intros)|((first|apply bD|apply bB)<;>intro _<;>try omega))<;>conv=>whnf)
 all_goals try have o:j<f.B.length:=by omega
 all_goals first
  | (exfalso
     have m:((f.B[j]'(by omega)).name==name)=true:=by assumption
     have i:((f.B[j]'(by omega)).name==name)=false:=by assumption
     rw[m]at i;cases i)
  | (have e:=FG (p:=fun a:Param=>a.name==name) (by omega) (by assumption)
     rw[h]at e;exact RetK.int (by unfold DJ;rw[e];simp[*]))
  |(refine nX (j+1) ⟨by omega,by rw[<-h,MM (p:=fun a:Param=>a.name==name) (by omega) (by assumption)]⟩)
  | (have e:f.B.find? (fun a=>a.name==name)=none:=by rw[<-h,FK (by omega)]
     exact RetK.int (by unfold DJ;rw[e];simp[*]))
def mainS:Str:=[109,97,105,110]
def knownB(p:Pg)(f:Pr)(A:List Str)(t:S):Bool:=(WW t).all (fun n=> !(DJ p f n==0))&&(decide (t.kind≠4)||(!(t.D==mainS)&&A.any fun s=>t.D==s))
def Cw(p:Pg)(f:Pr)(A:List Str)(t:S)(ha:t.args.length<=21000):aP 125 [.agg p.cells,.agg f.cells,eStrs A,.agg t.cells] (.bool (knownB p f A t)):=by
 refine sC M3 func125 ?_;conv=>whnf
 repeat' ((first|(refine iM fun _=>?_)|refine cP (Pv _ ha) ?_)<;>conv=>whnf)
 have o:((WW t).map AV.str).length=(WW t).length:=z0s _;refine lI (fun j:Nat=>⟨[(2,.p (eStrs A)),(4,.p (.ip p.cells)),(5,.p (.ip f.cells)),(7,.p (.ip t.cells)),(12,.p (eStrs (WW t))),(13,.p (.int .i64 ((WW t).map AV.str).length)),(14,.j j)],[]⟩) (fun j=>j<=(WW t).length/\((WW t).drop j).all (fun n=> !(DJ p f n==0))=(WW t).all (fun n=> !(DJ p f n==0))) (fun j=>(WW t).length-j) 0 ⟨z1q _,rfl⟩ ?_;rintro j ⟨m,h⟩;conv=>whnf
 repeat' ((first|refine cP (EO _ _ _) ?_|refine cP (QJ _ _) ?_|(refine gX ?_;intros)|((first|apply bD|apply bE|apply bN)<;>intro _<;>try omega))<;>conv=>whnf)
 .exact RetK.ff (by
   have e:=Wf (p:=fun n=> !(DJ p f n==0)) (l:=WW t) (j:=j) (by omega) (by simp;assumption);rw[knownB,<-h,e,Bool.false_and])
 .exact nX (j+1) ⟨by omega,by rw[<-h,DX (p:=fun n=> !(DJ p f n==0)) (by omega) (by simp;assumption)]⟩
 all_goals
  have e:(WW t).all (fun n=> !(DJ p f n==0))=true:=by rw[<-h,DQ (by omega)]
 .exact RetK.ff (by
   have i:(t.D==mainS)=true:=by assumption
   rw[knownB,e,i];simp[*])
 .exact RetK.bool (by
   have i:(t.D==mainS)=false:=by assumption
   rw[knownB,e,i];simp[*])
 .exact RetK.tt (by rw[knownB,e];simp[*])
def MP(c at_:Int):AV:=.agg [.int .i64 c,.int .i64 at_]
def procsN(p:Pg):List Str:=p.A.map Pr.name
def WZ(p:Pg):Bool:=XS p.C||(XS (procsN p)||(!((procsN p).any fun s=>mainS==s)||match p.A.find? (fun f=>mainS==f.name)with
 |some f=>decide (0<f.B.length)
 |none=>true))
def UJ(p:Pg)(f:Pr):Option Int:=
 bif XS (N8 f)||(N8 f).any (fun n=>p.C.any fun s=>n==s)then some 0 else((flL f.body).find? fun t=> !knownB p f (procsN p) t).map S.id
def XZ(p:Pg):Int×Int:=
 bif UG p then bif WZ p then(5,0)else match p.A.findSome? (UJ p)with
  |some a=>(5,a)
  |none=>(0,0)
 else(1,0)
def A0{l:List α}{p:α->Bool}(h:l.any p=true):∃(k:Nat) (hk:k<l.length),Zs p l=k/\p l[k]=true/\l.find? p=some l[k]:=by
 have i:l.findIdx p<l.length:=by
  rw[List.findIdx_lt_length];exact z3z.1 h
 refine⟨l.findIdx p,i,by unfold Zs;rw[h];rfl,List.findIdx_getElem,?_⟩;rw[List.find?_eq_some_iff_getElem];exact⟨List.findIdx_getElem,l.findIdx p,i,rfl,fun j m=>by simpa using List.not_of_lt_findIdx m⟩
def q5b(h:(procsN p).any (fun s=>mainS==s)=true):∃(k:Nat) (m:k<p.A.length),Zs (fun s=>mainS==s) (procsN p)=k/\p.A.find? (fun f=>mainS==f.name)=some p.A[k]:=by
 have i:p.A.any (fun f=>mainS==f.name)=true:=by simpa[procsN,List.any_map,Function.comp_def]using h
 obtain⟨k,m,n,_,o⟩:=A0 i;refine⟨k,m,?_,o⟩;rw[<-n];unfold Zs;rw[h,i];simp[procsN,List.findIdx_map,Function.comp_def]
def E4(p:Pg)(o:p.A[j]?=some f)(u:cntP p.A<=1000):aP 124 [.ip (sheetOf p).cells,.int .i64 j] (YC (itL j 0 (-1) 0 (QL p.A j) f.body)):=by
 obtain⟨_,q,r,s,h⟩:=QK p;obtain⟨i,m,t,n⟩:=h j f o;have:=Wi (sheetOf p) j _ _ i m (by omega) (by omega) (by omega);rw[n]at this;exact this
def YV(l:List Item):(l.map fun i=>AV.agg i.cells).length=l.length:=z0s _
def Hf{l:List α}{f:α->Option β}(i:j<l.length)(h:f l[j]=none):(l.drop (j+1)).findSome? f=(l.drop j).findSome? f:=by
 rw[QP i,List.findSome?_cons,h]
def YY{l:List α}{f:α->Option β}{b:β}(i:j<l.length)(h:f l[j]=some b):(l.drop j).findSome? f=some b:=by
 rw[QP i,List.findSome?_cons,h]
def Jn{l:List α}{f:α->Option β}(h:l.length<=j):(l.drop j).findSome? f=none:=by
 rw[z1b h];rfl
def LS{q:S->Bool}(l:List Item):(l.find? fun it=>q it.s).map (fun it=>it.s.id)=((l.map Item.s).find? q).map S.id:=by
 rw[List.find?_map];cases h:l.find? (q∘Item.s)with
 |none=>rw[show(l.find? fun it=>q it.s)=none from h];rfl
 |some i=>rw[show(l.find? fun it=>q it.s)=some i from h];rfl
def Ol{l:List Pr}(t:j<l.length)(h:wPr l[j]<=21000){b:Int}{n:Nat}(i:k<(itL a b c d n l[j].body).length):(itL a b c d n l[j].body)[k].s.args.length<=21000:=by
 have m:(itL a b c d n l[j].body)[k].s∈flL l[j].body:=by
  rw[<-X1 a b c d n];exact z1z.2 ⟨_,z1h i,rfl⟩
 have o:=Hn _ _ m;have q:=R8 (itL a b c d n l[j].body)[k].s;have r:=HM (itL a b c d n l[j].body)[k].s.args;unfold wPr at h;omega
def QI{H:Heap}{b:Int}(h:a=c)(i:b=d):RetK H (.p (.agg [.int .i64 a,.int .i64 b])) (fun r=>r=MP c d):=⟨_,.p (Sub.refl _),by rw[h,i];rfl⟩
def HN(p:Pg)(R:Fit p):aP 64 [.agg p.cells] (MP (XZ p).1 (XZ p).2):=by
 refine sC M2 func64 ?_;conv=>whnf
 repeat' ((first|(refine gX ?_;intros)|refine cP (AR _) ?_|(apply bN<;>intro _))<;>conv=>whnf)
 rotate_left 1
 .exact QI (by simp[XZ, *]) (by simp[XZ, *])
 have w:UG p=true:=by assumption
 obtain⟨Z,V,Q⟩:=ZR w;have hl:(p.A.map fun f=>AV.agg f.cells).length=p.A.length:=z0s _;have U:(procsN p).length=p.A.length:=by simp[procsN]
 refine lJ (fun i:Nat×List Str=>⟨[(1,.p (.ip p.cells)),(2,.ptr 1 0),(3,.hd 0 0 i.2.length),(18,.p (.sl (p.A.map fun f=>.agg f.cells))),(19,.p (.int .i64 (p.A.map fun f=>AV.agg f.cells).length)),(20,.j i.1)],[(0,.own 9 1 (i.2.map .str)),(1,.obj 68 [.p (.int .i64 0),.j 0])]⟩) (fun i=>i.1<=p.A.length/\i.2=(procsN p).take i.1) (fun i=>p.A.length-i.1) (0,[]) (lM [(0,.own 9 1 [])]) ⟨z1q _,by simp⟩ ?_;rintro⟨j,u⟩ ⟨H,v⟩;simp only at H v⊢;have P:u.length<=16:=by rw[v];simp;omega
 conv=>whnf
 repeat' ((first|(refine gX ?_;intros)|refine pS ?_|(refine QB (VN u mainS) (.cons (.hd rfl (by simp)) (.cons (.p (Sub.refl _)) .nil)) (by rintro _ rfl;rfl) ?_;rintro _ rfl)|(refine QB (Zj u) (.cons (.hd rfl (by simp)) .nil) (by rintro _ rfl;rfl) ?_;rintro _ rfl)|refine cP (Zj _) ?_|((first|apply bD|apply bB)<;>intro _<;>try omega))<;>conv=>whnf)
 .exact ⟨(j+1,u++[p.A[j].name]),⟨by simp only;omega,by simp only;rw[v,z1y (by omega)];simp[procsN]⟩,by simp only;omega,Le.of_eq (by simp only[z0e,z1v];rfl)⟩
 all_goals
  have z:u=procsN p:=by rw[v,z1f (by omega)]
  clear v;subst z
 .have o:WZ p=true:=by unfold WZ;rw[show XS p.C=true by assumption];rfl
  exact QI (by unfold XZ;rw[w,o];rfl) (by unfold XZ;rw[w,o];rfl)
 .have o:WZ p=true:=by unfold WZ;rw[show XS p.C=false by assumption,show XS (procsN p)=true by assumption];rfl
  exact QI (by unfold XZ;rw[w,o];rfl) (by unfold XZ;rw[w,o];rfl)
 .have h:((procsN p).any fun s=>mainS==s)=false:=by
   rw[<-Fd];simp;omega
  have o:WZ p=true:=by unfold WZ;rw[show XS p.C=false by assumption,show XS (procsN p)=false by assumption,h];rfl
  exact QI (by unfold XZ;rw[w,o];rfl) (by unfold XZ;rw[w,o];rfl)
 have h:((procsN p).any fun s=>mainS==s)=true:=by
  rw[<-Fd];simp;omega
 obtain⟨k,x,D,m⟩:=q5b h;have E:(p.A.map fun f=>AV.agg f.cells)[k]?=some (.agg p.A[k].cells):=by simp[x]
 have G:(p.A[k].B.map fun a=>AV.agg a.cells).length=p.A[k].B.length:=z0s _;refine IdxK.at D E rfl ?_;conv=>whnf
 repeat' ((first|(refine gX ?_;intros)|refine cP (LC p (by omega) (by omega)) ?_ (ha:=.cons (Sub.refl _) .nil)|(apply bD<;>intro _<;>try omega))<;>conv=>whnf)
 .have o:WZ p=true:=by
   unfold WZ;rw[show XS p.C=false by assumption,show XS (procsN p)=false by assumption,h,m];have:0<p.A[k].B.length:=by omega
   simp[this]
  exact QI (by unfold XZ;rw[w,o];rfl) (by unfold XZ;rw[w,o];rfl)
 have o:WZ p=false:=by
  unfold WZ;rw[show XS p.C=false by assumption,show XS (procsN p)=false by assumption,h,m];have:¬0<p.A[k].B.length:=by omega
  simp[this]
 have M:XZ p=match p.A.findSome? (UJ p)with
  |some a=>(5,a)
  |none=>(0,0):=by unfold XZ;rw[w,o];rfl
 rw[M];refine lI (fun j:Nat=>⟨[(1,.p (.ip p.cells)),(2,.ptr 1 0),(3,.hd 0 0 (procsN p).length),(7,.p (.ip (sheetOf p).cells)),(57,.p (.sl (p.A.map fun f=>.agg f.cells))),(58,.p (.int .i64 (p.A.map fun f=>AV.agg f.cells).length)),(59,.j j)],[(0,.own 9 1 ((procsN p).map .str)),(1,.obj 68 [.p (.int .i64 0),.j 0])]⟩) (fun j=>j<=p.A.length/\(p.A.drop j).findSome? (UJ p)=p.A.findSome? (UJ p)) (fun j=>p.A.length-j) 0 ⟨z1q _,rfl⟩ ?_;clear H D m E G;rintro j ⟨H,v⟩;rcases z1w j p.A.length with q|q;rotate_left 1
 .have e:p.A.findSome? (UJ p)=none:=by rw[<-v,Jn q]
  rw[e];conv=>whnf
  repeat' ((first|refine z1s rfl ?_|(apply bD<;>intro _<;>try omega))<;>conv=>whnf)
  exact QI rfl rfl
 have g:=R.pr (z1h q);have F:=HD.1 (SI w (z1h q));conv=>whnf
 repeat' ((first|(refine gX ?_;intros)|refine cP (Zj _) ?_|refine cP (q0n (p.A[j]'q) (by have:=F.1;omega) (by have:=F.2.1;omega)) ?_ (ha:=.cons (Sub.refl _) .nil)|refine cP (YM (N8 (p.A[j]'q)) 122 (.ip p.cells) (fun n=>p.C.any fun s=>n==s) (Ln p)) ?_|refine cP (E4 p (f:=p.A[j]'q) (by simp) (by omega)) ?_ (ha:=.cons (Sub.refl _) (.cons (Sub.refl _) .nil))|((first|apply bD|apply bB)<;>intro _<;>try omega))<;>conv=>whnf)
 .have e:UJ p p.A[j]=some 0:=by
   unfold UJ;rw[show XS (N8 p.A[j])=true by assumption];rfl
  have e2:=YY q e;rw[v]at e2;rw[e2];exact QI rfl rfl
 .have e:UJ p p.A[j]=some 0:=by
   unfold UJ;rw[show XS (N8 p.A[j])=false by assumption,show((N8 p.A[j]).any fun n=>p.C.any fun s=>n==s)=true by assumption];rfl
  have e2:=YY q e;rw[v]at e2;rw[e2];exact QI rfl rfl
 have r:UJ p p.A[j]=((flL p.A[j].body).find? fun t=> !knownB p p.A[j] (procsN p) t).map S.id:=by
  unfold UJ;rw[show XS (N8 p.A[j])=false by assumption,show((N8 p.A[j]).any fun n=>p.C.any fun s=>n==s)=false by assumption];rfl
 have y:∀k (x:k<(itL (j:Nat) 0 (-1) 0 (QL p.A j) p.A[j].body).length),(itL (j:Nat) 0 (-1) 0 (QL p.A j) p.A[j].body)[k].s.args.length<=21000:=fun k x=>Ol q g x;rw[<-X1 (j:Nat) 0 (-1) 0 (QL p.A j),<-LS]at r;have J:(itL (j:Nat) 0 (-1) 0 (QL p.A j) p.A[j].body).length<=21000:=by
  have:=CK p.A[j].body;unfold wPr at g;rw[WA];omega
 generalize N:itL (j:Nat) 0 (-1) 0 (QL p.A j) p.A[j].body=its at r y J⊢;have T:=YV its;refine lI (fun k:Nat=>⟨[(1,.p (.ip p.cells)),(2,.ptr 1 0),(3,.hd 0 0 (procsN p).length),(7,.p (.ip (sheetOf p).cells)),(9,.p (.ip (p.A[j]'q).cells)),(57,.p (.sl (p.A.map fun f=>.agg f.cells))),(58,.p (.int .i64 (p.A.map fun f=>AV.agg f.cells).length)),(59,.j j),(76,.p (YC its)),(77,.p (.int .i64 (its.map fun i=>AV.agg i.cells).length)),(78,.j k)],[(0,.own 9 1 ((procsN p).map .str)),(1,.obj 68 [.p (.int .i64 0),.j 0])]⟩) (fun k=>k<=its.length/\(its.drop k).find? (fun it=> !knownB p p.A[j] (procsN p) it.s)=its.find? fun it=> !knownB p p.A[j] (procsN p) it.s) (fun k=>its.length-k) 0 ⟨z1q _,rfl⟩ ?_;rintro k ⟨Y,I⟩;rcases z1w k its.length with x|x;rotate_left 1
 .rw [<-I,FK x]at r;conv=>whnf
  repeat' ((first|refine wI ?_|(apply bD<;>intro _<;>try omega))<;>conv=>whnf)
  exact nX (j+1) ⟨by omega,by rw[<-v,Hf q r]⟩
 have L:=y k x;conv=>whnf
 repeat' ((first|(refine gX ?_;intros)|(refine QB (Cw p p.A[j] (procsN p) its[k].s L) (.cons (.p (Sub.refl _)) (.cons (.p (Sub.refl _)) (.cons (.hd rfl (by simp)) (.cons (.p (Sub.refl _)) .nil)))) (by rintro _ rfl;rfl) ?_;rintro _ rfl)|((first|apply bD|apply bN)<;>intro _<;>try omega))<;>conv=>whnf)
 .exact nX (k+1) ⟨by omega,by rw[<-I,MM (p:=fun it:Item=> !knownB p p.A[j] (procsN p) it.s) x (by simp;assumption)]⟩
 .have O:=FG (p:=fun it:Item=> !knownB p p.A[j] (procsN p) it.s) x (by simp;assumption);rw[<-I,O]at r;have e2:=YY q r;rw[v]at e2;rw[e2];exact QI rfl rfl
def q9p:LV->Option Bool
 |.p .tt=>some true
 |.p .ff=>some false
 |.p (.bool b)=>some b
 |_=>none
def Kt{σ:Mem}{β:Lab}{l:LV}{v:Value}(h:RepL σ β l v)(i:q9p l=some b):v=.bool b:=by
 cases h with
 |p h=>cases h<;>simp[q9p]at i<;>subst i<;>rfl
 |_=>simp[q9p]at i
def FV{P:Program}{T:Tab}{B:Bool}{s:St}{o:Oper}{K:LV->Prop}(hT:TabOK P T){t u:TypeId}{x y:Operand}(h:o.op=.binOp .neq t x y u){i:TyI}(C:T.get t=some i)(z:i.desc=.bool){a:Bool}(D:q9p (QR s.sl x)=some a)(E:q9p (QR s.sl y)=some b)(v:K (.p (.bool (a != b)))):ValO P B s o K:=by
 refine⟨fun σ β F w m _=>⟨_,.bool (a != b),v,.p (.bool _),fun w' _ _=>?_⟩⟩;have q:=Kt (QU m x) D;have r:=Kt (QU m y) E;have n:=hT.of C;rw[z]at n;have A:(eqGuard .neq t x y (.bool a) (.bool b)).run P w'=.ok () w':=by unfold eqGuard;rfl
 have g:(Op.equal t (.bool a) (.bool b)).run P w'=.ok (a==b) w':=by
  have e:Op.equal t (.bool a) (.bool b)=Op.equalIn (9999+1) t (.bool a) (.bool b):=rfl;rw[e,Op.equalIn,Sem.run_bind,run_underlying n,Result.andThen_ok];rfl
 simp only[execOp,h,q,r,Sem.run_bind,A,Result.andThen_ok,binOp];simp[g];cases a<;>cases b<;>rfl
def Df(l:List Param)(args:List Arg):Bool:=decide (l.map Param.ref=args.map Arg.ref)
def Ev(l:List Param)(args:List Arg):aP 187 [.sl (l.map fun a=>.agg a.cells),q3s args] (.bool (Df l args)):=by
 refine sC Rm func187 ?_;conv=>whnf
 repeat' ((first|(refine iM fun _=>?_)|(apply bE<;>intro _<;>try omega))<;>conv=>whnf)
 all_goals
  have s:(l.map fun a=>AV.agg a.cells).length=l.length:=z0s _;have q:(args.map fun a=>AV.agg a.cells).length=args.length:=z0s _
 .have o:l.length=args.length:=by omega
  refine lI (fun j:Nat=>⟨[(1,.p (q3s args)),(12,.p (.sl (l.map fun a=>.agg a.cells))),(13,.p (.int .i64 (l.map fun a=>AV.agg a.cells).length)),(14,.j j)],[]⟩) (fun j=>j<=l.length/\(l.map Param.ref).take j=(args.map Arg.ref).take j) (fun j=>l.length-j) 0 ⟨z1q _,rfl⟩ ?_;rintro j ⟨r,m⟩;rcases z1w j l.length with n|n
  .conv=>whnf
   repeat' ((first|refine dA ?_|(refine gX ?_;intros)|refine FV ZI rfl rfl rfl rfl rfl ?_|((first|apply bD|apply bE)<;>intro _<;>try omega))<;>conv=>whnf)
   .have h:l[j].ref=(args[j]'(by omega)).ref:=by assumption
    exact nX (j+1) ⟨by omega,by
     rw[z1y (by simp;omega),z1y (by simp;omega),m];simp[h]⟩
   .have h:¬l[j].ref=(args[j]'(by omega)).ref:=by assumption
    exact RetK.ff (by
     unfold Df;rw[z4h];intro i;have:(l.map Param.ref)[j]?=(args.map Arg.ref)[j]?:=by rw[i]
     rw[z1u,z1u,z0c n,z0c (by omega)]at this;simp at this;exact h this)
  .conv=>whnf
   repeat' (apply bD<;>intro _<;>first|omega|conv=>whnf)
   exact RetK.tt (by
    unfold Df;rw[z2z]
    rwa[z1f (by simp;omega),z1f (by simp;omega)]at m)
 .exact RetK.ff (by
   unfold Df;rw[z4h];intro i;have:=z2b List.length i;simp at this;omega)
def JI(p:Pg)(s:S):Bool:=decide (s.kind=4)&&match p.A.find? (fun f=>f.name==s.D)with
 |some f=>Df f.B s.args
 |none=>false
def Ew(p:Pg)(s:S):aP 126 [.agg p.cells,.agg s.cells] (.bool (JI p s)):=by
 refine sC Rn func126 ?_;conv=>whnf
 repeat' ((first|(refine iM fun _=>?_)|(apply bE<;>intro _<;>try omega))<;>conv=>whnf)
 .have m:(p.A.map fun f=>AV.agg f.cells).length=p.A.length:=z0s _;refine lI (fun j:Nat=>⟨[(3,.p (.ip s.cells)),(11,.p (.sl (p.A.map fun f=>.agg f.cells))),(12,.p (.int .i64 (p.A.map fun f=>AV.agg f.cells).length)),(13,.j j)],[]⟩) (fun j=>j<=p.A.length/\(p.A.drop j).find? (fun f=>f.name==s.D)=p.A.find? (fun f=>f.name==s.D)) (fun j=>p.A.length-j) 0 ⟨z1q _,rfl⟩ ?_;rintro j ⟨i,h⟩;conv=>whnf
  repeat' ((first|refine cP (Ev _ _) ?_|(refine gX ?_;intros)|((first|apply bD|apply bB)<;>intro _<;>try omega))<;>conv=>whnf)
  .have e:=FG (p:=fun f:Pr=>f.name==s.D) (l:=p.A) (j:=j) (by omega) (by assumption);rw[h]at e;exact RetK.bool (by unfold JI;rw[e];simp[*])
  .exact nX (j+1) ⟨by omega,by rw[<-h,MM (p:=fun f:Pr=>f.name==s.D) (by omega) (by assumption)]⟩
  .have e:p.A.find? (fun f=>f.name==s.D)=none:=by rw[<-h,FK (by omega)]
   exact RetK.ff (by unfold JI;rw[e];simp)
 .exact RetK.ff (by unfold JI;simp[*])
def WE(p:Pg):List S:=p.A.flatMap fun f=>flL f.body
theorem q8f:∀(l:List Pr)(i:Nat)(acc:List Item)(lo hi:List Int),(B4 i acc lo hi l).1.map Item.s=acc.map Item.s++l.flatMap fun f=>flL f.body
 |[],i,acc,lo,hi=>by rw[B4];simp
 | f::r,i,acc,lo,hi=>by
   rw[B4,q8f r,Vl,z1v,X1,z2d,z1m]
def GW(p:Pg):(sheetOf p).l.map Item.s=WE p:=by
 have:=q8f p.A 0 [] [] [];unfold sheetOf WE;simpa using this
def Nj(o:Fit p)(q:k<(sheetOf p).l.length):wS (sheetOf p).l[k].s<=21000:=by
 have h:(sheetOf p).l[k].s∈WE p:=by
  rw[<-GW];exact z1z.2 ⟨_,z1h q,rfl⟩
 unfold WE at h;obtain⟨f,i,m⟩:=z1c.1 h;have r:=Hn _ _ m;have n:=o.pr i;unfold wPr at n;omega
def YZ(p:Pg):Int×Int:=
 if(XZ p).1≠0 then(1,0)else match(WE p).find? fun t=>decide (t.kind=4) && !JI p t with
  |some t=>(6,t.id)
  |none=>(0,0)
def UA(h:(XZ p).1=0):UG p=true/\WZ p=false/\p.A.findSome? (UJ p)=none:=by
 unfold XZ at h;cases m:UG p<;>rw[m]at h
 .cases h
 cases i:WZ p<;>rw[i]at h
 .refine ⟨rfl,rfl,?_⟩;simp only[z1n,z1o]at h;split at h
  .cases h
  .assumption
 .cases h
def Hq(p:Pg)(w:Fit p):aP 65 [.agg p.cells] (MP (YZ p).1 (YZ p).2):=by
 refine sC Nc func65 ?_;conv=>whnf
 repeat' ((first|refine cP (HN p w) ?_|refine z1s rfl ?_|(apply bE<;>intro _<;>try omega))<;>conv=>whnf)
 rotate_left 1
 .have e:YZ p=(1,0):=by unfold YZ;rw[if_pos (by assumption)]
  exact QI (by rw[e]) (by rw[e])
 have B:(XZ p).1=0:=by assumption
 obtain⟨z,D,g⟩:=UA B;obtain⟨E,A,v⟩:=ZR z;have u:YZ p=match(WE p).find? fun t=>decide (t.kind=4) && !JI p t with
  |some t=>(6,t.id)
  |none=>(0,0):=by unfold YZ;rw[if_neg (by omega)]
 repeat' ((first|(refine iM fun _=>?_)|refine cP (LC p (by omega) (by omega)) ?_)<;>conv=>whnf)
 have y:=YV (sheetOf p).l;have x:(sheetOf p).l.length<=200:=by have:=(QK p).2.2.2.1;omega
 have h:=LS (q:=fun t=>decide (t.kind=4) && !JI p t) (sheetOf p).l;rw[GW]at h;have o:YZ p=match((sheetOf p).l.find? fun it=>decide (it.s.kind=4) && !JI p it.s).map (fun it=>it.s.id)with
  |some a=>(6,a)
  |none=>(0,0):=by
  rw[u,h];cases(WE p).find? fun t=>decide (t.kind=4) && !JI p t<;>rfl
 rw[o];refine lI (fun k:Nat=>⟨[(1,.p (.ip p.cells)),(2,.ptr 1 0),(14,.p (YC (sheetOf p).l)),(15,.p (.int .i64 ((sheetOf p).l.map fun i=>AV.agg i.cells).length)),(16,.j k)],[(1,.obj 68 [.p (.int .i64 0),.j 0])]⟩) (fun k=>k<=(sheetOf p).l.length/\((sheetOf p).l.drop k).find? (fun it=>decide (it.s.kind=4) && !JI p it.s)=(sheetOf p).l.find? fun it=>decide (it.s.kind=4) && !JI p it.s) (fun k=>(sheetOf p).l.length-k) 0 ⟨z1q _,rfl⟩ ?_;rintro k ⟨C,n⟩;rcases z1w k (sheetOf p).l.length with m|m;rotate_left 1
 .rw [<-n,FK m];conv=>whnf
  repeat' ((first|refine z1s rfl ?_|(apply bD<;>intro _<;>try omega))<;>conv=>whnf)
  exact QI rfl rfl
 conv=>whnf
 repeat' ((first|refine cP (Ew _ _) ?_|(refine gX ?_;intros)|((first|apply bD|apply bN)<;>intro _<;>try omega))<;>conv=>whnf)
 all_goals first
  | (have r:=FG (p:=fun it:Item=>decide (it.s.kind=4) && !JI p it.s) m (by simp[*])
     rw[<-n,r];exact QI rfl rfl)
  |exact nX (k+1) ⟨by omega,by rw[<-n,MM (p:=fun it:Item=>decide (it.s.kind=4) && !JI p it.s) m (by simp[*])]⟩
def YI:List Str->List Str->Option (List Str)
 |seen,[]=>some seen
 |seen,n::r=>bif seen.any (fun s=>n==s)then none else YI (seen++[n]) r
def q4c(i:j<l.length)(h:(seen.any fun s=>l[j]==s)=true):YI seen (l.drop j)=none:=by
 rw[QP i,YI,h];rfl
def Oe(i:j<l.length)(h:(seen.any fun s=>l[j]==s)=false):YI seen (l.drop j)=YI (seen++[l[j]]) (l.drop (j+1)):=by
 rw[QP i,YI,h];rfl
theorem V8:∀{l seen out:List Str},YI seen l=some out->out=seen++l
 |[],seen,out,h=>by rw[YI]at h;cases h;simp
 | n::r,seen,out,h=>by
   rw[YI]at h;cases i:(seen.any fun s=>n==s)<;>rw[i]at h
   .have:=V8 h;simpa using this
   .cases h
def Oi(t:Nat)(seen l:List Str)(r:LV)(H:Heap):Prop:=
 match YI seen l with
 |some out=>r=.tup [.hd 2000 0 out.length,.p .tt]/\H=Lv t out
 |none=>∃out,r=.tup [.hd 2000 0 out.length,.p .ff]/\H=Lv t out
def Ft{t:Nat}{Q:LV->Heap->Prop}(m:YI seen l=some (seen++l)->Q (.tup [.hd 2000 0 (seen++l).length,.p .tt]) (Lv t (seen++l)))(n:YI seen l=none->∀out,Q (.tup [.hd 2000 0 out.length,.p .ff]) (Lv t out)):∀l' H',Oi t seen l l' H'->Q l' H':=by
 intro l' H' h;unfold Oi at h;cases i:YI seen l with
 | some out=>
   rw[i]at h;obtain⟨rfl,rfl⟩:=h;have:=V8 i;subst this;exact m i
 | none=>
   rw[i]at h;obtain⟨out,rfl,rfl⟩:=h;exact n i out
def TX(seen l:List Str)(o:seen.length+l.length<=1000000000):
  SpecH prog 128 [.hd 2000 0 seen.length,.p (eStrs l)] (Lv 9 seen) (Oi 9 seen l):=by
 refine sK Se func128 ?_;conv=>whnf
 repeat' ((refine iM fun _=>?_)<;>conv=>whnf)
 have s:(l.map AV.str).length=l.length:=z0s _;refine lI (fun i:Nat×List Str=>⟨[(0,.hd 2000 0 i.2.length),(8,.p (eStrs l)),(9,.p (.int .i64 (l.map AV.str).length)),(10,.j i.1)],Lv 9 i.2⟩) (fun i=>i.1<=l.length/\i.2.length+(l.length-i.1)=seen.length+l.length/\YI i.2 (l.drop i.1)=YI seen l) (fun i=>l.length-i.1) (0,seen) ⟨z1q _,by simp,rfl⟩ ?_;rintro⟨j,h⟩ ⟨q,r,m⟩;simp only at q r m⊢;rcases z1w j l.length with n|n
 .conv=>whnf
  repeat' ((first|(refine gX ?_;intros)|(refine QB (QJ h (l[j]'n)) (.cons (.hd rfl (by simp)) (.cons (.p (Sub.refl _)) .nil)) (by rintro _ rfl;rfl) ?_;rintro _ rfl)|refine pS ?_|((first|apply bD|apply bB)<;>intro _<;>try omega))<;>conv=>whnf)
  .exact ⟨_,.refl _,by unfold Oi;rw[<-m,q4c n (by assumption)];exact⟨h,rfl,rfl⟩⟩
  .exact ⟨(j+1,h++[l[j]]),⟨by simp only;omega,by simp;omega,by simp only;rw[<-m,Oe n (by assumption)]⟩,by simp only;omega,Le.of_eq (by simp only[Lv,z0e,z1v];rfl)⟩
 .conv=>whnf
  repeat' (apply bD<;>intro _<;>first|omega|conv=>whnf)
  rw[z1b n,YI]at m;exact⟨_,.refl _,by unfold Oi;rw[<-m];exact⟨rfl,rfl⟩⟩
def atB(f:Pr)(h:Str):Int×Bool:=
 match(flL f.body).find? fun t=>t.E.any fun s=>h==s with
 |some t=>(t.id,true)
 |none=>bif f.fin.any fun s=>h==s then(-1,true)else(0,false)
theorem RetK.tup2{H:Heap}{k:IntKind}{m n:Int}{x:AV}(h:m=n)(i:Sub x (.bool b)):RetK H (.p (.tup [.int k m,x])) (fun r=>r=.tup [.int k n,.bool b]):=
 ⟨_,.p (Sub.tup (SubL.cons (Sub.int h) (SubL.cons i SubL.nil))),rfl⟩
def We(p:Pg)(j:Nat)(f:Pr)(v:p.A[j]?=some f)(z:cntP p.A<=1000)(h:Str):aP 111 [.ip (sheetOf p).cells,.int .i64 j,.str h] (.tup [.int .i64 (atB f h).1,.bool (atB f h).2]):=by
 refine sC Gn func111 ?_;conv=>whnf
 repeat' ((first|(refine iM fun _=>?_)|refine cP (E4 p v z) ?_)<;>conv=>whnf)
 have m:=LS (q:=fun t=>t.E.any fun s=>h==s) (itL (j:Nat) 0 (-1) 0 (QL p.A j) f.body);rw[X1]at m;have u:(itL (j:Nat) 0 (-1) 0 (QL p.A j) f.body).length<=1000:=by
  have:=(QK p).2.2.2.2 j f v;rw[WA];omega
 generalize x:itL (j:Nat) 0 (-1) 0 (QL p.A j) f.body=its at m u⊢;have e:=YV its;have r:atB f h=match(its.find? fun it=>it.s.E.any fun s=>h==s).map (fun it=>it.s.id)with
  |some a=>(a,true)
  |none=>bif f.fin.any fun s=>h==s then(-1,true)else(0,false):=by
  unfold atB;rw[m];cases(flL f.body).find? fun t=>t.E.any fun s=>h==s<;>rfl
 rw[r];refine lI (fun k:Nat=>⟨[(0,.p (.ip (sheetOf p).cells)),(1,.j j),(2,.p (.str h)),(12,.p (YC its)),(13,.p (.int .i64 (its.map fun i=>AV.agg i.cells).length)),(14,.j k)],[]⟩) (fun k=>k<=its.length/\(its.drop k).find? (fun it=>it.s.E.any fun s=>h==s)=its.find? fun it=>it.s.E.any fun s=>h==s) (fun k=>its.length-k) 0 ⟨z1q _,rfl⟩ ?_;rintro k ⟨g,o⟩;rcases z1w k its.length with n|n
 .conv=>whnf
  repeat' ((first|refine cP (QJ _ _) ?_|(refine gX ?_;intros)|((first|apply bD|apply bB)<;>intro _<;>try omega))<;>conv=>whnf)
  .have y:=FG (p:=fun it:Item=>it.s.E.any fun s=>h==s) n (by assumption);rw[<-o,y];exact RetK.tup2 rfl (Sub.tt rfl)
  .exact nX (k+1) ⟨by omega,by rw[<-o,MM (p:=fun it:Item=>it.s.E.any fun s=>h==s) n (by assumption)]⟩
 .rw [<-o,FK n];have w:(p.A.map fun f=>AV.agg f.cells)[j]?=some (.agg f.cells):=by simp[v]
  conv=>whnf
  repeat' ((first|refine cP (QJ _ _) ?_|refine iT w ?_|((first|apply bD|apply bB)<;>intro _<;>try omega))<;>conv=>whnf)
  .exact RetK.tup2 (by simp[*]) (Sub.tt (by simp[*]))
  .exact RetK.tup2 (by simp[*]) (Sub.ff (by simp[*]))
def YG(f:Pr)(it:Item):Bool:=if it.s.kind=7\/it.s.kind=8 then !(it.loop==0)else if it.s.kind=10 then(atB f it.s.name).2 else true
def Eo(p:Pg)(j:Nat)(f:Pr)(i:p.A[j]?=some f)(h:cntP p.A<=1000)(it:Item)(m:it.D=j):aP 129 [.ip (sheetOf p).cells,.agg it.cells] (.bool (YG f it)):=by
 refine sC Rs func129 ?_;conv=>whnf
 repeat' ((first|refine cP (We p j f i h it.s.name) ?_ (ha:=.cons (Sub.refl _) (.cons (Sub.int m) (.cons (Sub.refl _) .nil)))|(apply bD<;>intro _<;>try omega))<;>conv=>whnf)
 all_goals first
  |exact RetK.bool (by simp[YG, *];rfl)
  |exact RetK.bool (by simp[YG, *])
  |exact RetK.tt (by simp[YG, *])
def EQ(p:Pg)(m:Fit p)(h:(XZ p).1=0):aP 127 [.agg p.cells] (.ip (sheetOf p).cells):=by
 refine sC Jz func127 ?_;conv=>whnf
 obtain⟨n,r,o⟩:=UA h;obtain⟨s,q,i⟩:=ZR n;repeat' ((first|refine cP (HN p m) ?_|refine cP (LC p (by omega) (by omega)) ?_|(apply bE<;>intro _<;>try omega))<;>conv=>whnf)
 exact RetK.p rfl
def L6(p:Pg)(i:Fit p)(h:(XZ p).1≠0):aP 127 [.agg p.cells] .nilp:=by
 refine sC Jz func127 ?_;conv=>whnf
 repeat' ((first|refine cP (HN p i) ?_|(apply bE<;>intro _<;>try omega))<;>conv=>whnf)
 exact RetK.p rfl
mutual
theorem q4s(D up nx loop:Int)(n:Nat):∀(t:S)(it:Item),it∈itS D up nx loop n t->it.D=D
 | .mk id kind E name pr x has args L M,it,h=>by
   rw[itS]at h;rcases z1g.1 h with rfl|h
   ·rfl
   ·rcases z0o.1 h with h|h
    ·exact LO _ _ _ _ _ L it h
    ·exact LO _ _ _ _ _ M it h
theorem LO(D up nx loop:Int)(n:Nat):∀(l:List S)(it:Item),it∈itL D up nx loop n l->it.D=D
 |[],it,h=>by rw[itL]at h;cases h
 | t::r,it,h=>by
   rw[itL]at h;rcases z0o.1 h with h|h
   ·exact q4s _ _ _ _ _ t it h
   ·exact LO _ _ _ _ _ r it h
end
def GQ(f:Pr):List Item->List Str->Except Int (List Str)
 |[],seen=>.ok seen
 | it::r,seen=>match YI seen it.s.E with
   |none=>.error it.s.id
   |some s=>bif YG f it then GQ f r s else .error it.s.id
def KH(p:Pg)(j:Nat):Option Int:=
 match p.A[j]?with
 |none=>none
 | some f=>match GQ f (itL (j:Nat) 0 (-1) 0 (QL p.A j) f.body) []with
   |.error id=>some id
   | .ok seen=>match YI seen f.fin with
     |none=>some 0
     |some _=>none
def X3(p:Pg):Int×Int:=
 if(XZ p).1≠0 then(1,0)else match(List.range p.A.length).findSome? (KH p)with
  |some a=>(7,a)
  |none=>(0,0)
def q4a(i:k<its.length)(h:YI seen its[k].s.E=none):GQ f (its.drop k) seen=.error its[k].s.id:=by
 rw[QP i,GQ,h]
def OQ{s:List Str}(i:k<its.length)(h:YI seen its[k].s.E=some s)(m:YG f its[k]=false):GQ f (its.drop k) seen=.error its[k].s.id:=by
 rw[QP i,GQ,h];simp only[m,z1o]
def OX{s:List Str}(i:k<its.length)(h:YI seen its[k].s.E=some s)(m:YG f its[k]=true):GQ f (its.drop k) seen=GQ f (its.drop (k+1)) s:=by
 rw[QP i,GQ,h];simp only[m,z1n]
def SR{l:List Pr}(t:j<l.length)(h:wPr l[j]<=21000){b:Int}{n:Nat}(i:k<(itL a b c d n l[j].body).length):(itL a b c d n l[j].body)[k].s.E.length<=21000:=by
 have m:(itL a b c d n l[j].body)[k].s∈flL l[j].body:=by
  rw[<-X1 a b c d n];exact z1z.2 ⟨_,z1h i,rfl⟩
 have o:=Hn _ _ m;have q:=R8 (itL a b c d n l[j].body)[k].s;have r:=PC (itL a b c d n l[j].body)[k].s.E;unfold wPr at h;omega
def Ei(p:Pg)(B:Fit p):aP 66 [.agg p.cells] (MP (X3 p).1 (X3 p).2):=by
 refine sC Rt func66 ?_;conv=>whnf
 rcases Decidable.em ((XZ p).1=0)with g|g;rotate_left 1
 ·
  repeat' ((first|refine cP (L6 p B g) ?_|refine z1s rfl ?_)<;>conv=>whnf)
  have e:X3 p=(1,0):=by unfold X3;rw[if_pos g]
  exact QI (by rw[e]) (by rw[e])
 obtain⟨O,T,P⟩:=UA g;obtain⟨U,Q,L⟩:=ZR O;have J:X3 p=match(List.range p.A.length).findSome? (KH p)with
  |some a=>(7,a)
  |none=>(0,0):=by unfold X3;rw[if_neg (by omega)]
 rw[J];have V:(p.A.map fun f=>AV.agg f.cells).length=p.A.length:=z0s _;repeat' ((first|(refine iM fun _=>?_)|refine cP (EQ p B g) ?_)<;>conv=>whnf)
 refine lI (fun j:Nat=>⟨[(2,.ptr 1 0),(3,.p (.ip (sheetOf p).cells)),(16,.p (.sl (p.A.map fun f=>.agg f.cells))),(17,.p (.int .i64 (p.A.map fun f=>AV.agg f.cells).length)),(18,.j j)],[(1,.obj 68 [.p (.int .i64 0),.j 0])]⟩) (fun j=>j<=p.A.length/\((List.range p.A.length).drop j).findSome? (KH p)=(List.range p.A.length).findSome? (KH p)) (fun j=>p.A.length-j) 0 ⟨z1q _,rfl⟩ ?_;rintro j ⟨R,y⟩;rcases z1w j p.A.length with t|t;rotate_left 1
 .have e:(List.range p.A.length).findSome? (KH p)=none:=by rw[<-y,Jn (by simpa using t)]
  rw[e];conv=>whnf
  repeat' ((first|refine z1s rfl ?_|(apply bD<;>intro _<;>try omega))<;>conv=>whnf)
  exact QI rfl rfl
 have z:=B.pr (z1h t);have o:j<(List.range p.A.length).length:=by simpa using t
 have r:(List.range p.A.length)[j]=j:=by simp
 have q:p.A[j]?=some p.A[j]:=by simp[t]
 conv=>whnf
 repeat' ((first|(refine gX ?_;intros)|refine cP (E4 p (f:=p.A[j]'t) q (by omega)) ?_|(apply bD<;>intro _<;>try omega))<;>conv=>whnf)
 have u:∀k (n:k<(itL (j:Nat) 0 (-1) 0 (QL p.A j) p.A[j].body).length),(itL (j:Nat) 0 (-1) 0 (QL p.A j) p.A[j].body)[k].s.E.length<=21000:=fun k n=>SR t z n;have v:∀k (n:k<(itL (j:Nat) 0 (-1) 0 (QL p.A j) p.A[j].body).length),(itL (j:Nat) 0 (-1) 0 (QL p.A j) p.A[j].body)[k].D=j:=fun k n=>LO _ _ _ _ _ _ _ (z1h n);have C:(itL (j:Nat) 0 (-1) 0 (QL p.A j) p.A[j].body).length<=200:=by
  have:=(QK p).2.2.2.2 j _ q;rw[WA];omega
 have h:KH p j=match GQ p.A[j] (itL (j:Nat) 0 (-1) 0 (QL p.A j) p.A[j].body) []with
  |.error id=>some id
  | .ok seen=>match YI seen p.A[j].fin with
    |none=>some 0
    |some _=>none:=by
  unfold KH;rw[q]
 generalize G:itL (j:Nat) 0 (-1) 0 (QL p.A j) p.A[j].body=its at u v C h⊢;have M:=YV its;refine lJ (fun i:Nat×List Str=>⟨[(2,.ptr 1 0),(3,.p (.ip (sheetOf p).cells)),(5,.p (.ip (p.A[j]'t).cells)),(6,.hd 0 0 i.2.length),(16,.p (.sl (p.A.map fun f=>.agg f.cells))),(17,.p (.int .i64 (p.A.map fun f=>AV.agg f.cells).length)),(18,.j j),(25,.p (YC its)),(26,.p (.int .i64 (its.map fun i=>AV.agg i.cells).length)),(27,.j i.1)],[(0,.own 9 1 (i.2.map .str)),(1,.obj 68 [.p (.int .i64 0),.j 0])]⟩) (fun i=>i.1<=its.length/\i.2.length<=21000*i.1/\GQ p.A[j] (its.drop i.1) i.2=GQ p.A[j] its []) (fun i=>its.length-i.1) (0,[]) (lM [(0,.own 9 1 [])]) ⟨z1q _,by simp,rfl⟩ ?_;rintro⟨k,w⟩ ⟨H,I,x⟩;simp only at H I x⊢;rcases z1w k its.length with n|n
 .have N:=u k n;conv=>whnf
  repeat' ((first|(refine gX ?_;intros)|refine cP (Eo p j p.A[j] q (by omega) its[k] (v k n)) ?_|((first|apply bD|apply bN)<;>intro _<;>try omega)|(refine CallK.heap [(2000,0)] 0 (by repeat' (first|exact z3a|refine z1e ?_ ?_|exact z2x _|exact z5y Sub.nils|exact z5y (Sub.tt rfl)|exact z5y (Sub.ff rfl)|exact z5y (Sub.int (by omega)))) (by refine z1i (j:=0) rfl rfl ?_ ?_;exact CSub.refl _;exact z4x) (TX w its[k].s.E (by omega)) rfl rfl (Ft (fun m=>?_) (fun m out=>?_))))<;>conv=>whnf)
  .exact nX (k+1,w++its[k].s.E) ⟨by simp only;omega,by simp;omega,by simp only;rw[<-x,OX n m (by assumption)]⟩
  .rw [<-x,OQ n m (by assumption)]at h;have e2:=YY (f:=KH p) o (by rw[r];exact h);rw[y]at e2;rw[e2];exact QI rfl rfl
  .rw [<-x,q4a n m]at h;have e2:=YY (f:=KH p) o (by rw[r];exact h);rw[y]at e2;rw[e2];exact QI rfl rfl
 .have F:p.A[j].fin.length<=21000:=by
   have:=PC p.A[j].fin;unfold wPr at z;omega
  rw[z1b n,GQ]at x;rw[<-x]at h;simp only at h;conv=>whnf
  repeat' ((first|refine gX ?_|(apply bD<;>intro _<;>try omega)|(refine CallK.heap [(2000,0)] 0 (by repeat' (first|exact z3a|refine z1e ?_ ?_|exact z2x _|exact z5y Sub.nils|exact z5y (Sub.tt rfl)|exact z5y (Sub.ff rfl)|exact z5y (Sub.int (by omega)))) (by refine z1i (j:=0) rfl rfl ?_ ?_;exact CSub.refl _;exact z4x) (TX w p.A[j].fin (by omega)) rfl rfl (Ft (fun m=>?_) (fun m out=>?_))))<;>conv=>whnf)
  .rw [m]at h;exact nX (j+1) ⟨by omega,by rw[<-y,Hf (f:=KH p) o (by rw[r];exact h)]⟩
  .rw [m]at h;have e2:=YY (f:=KH p) o (by rw[r];exact h);rw[y]at e2;rw[e2];exact QI rfl rfl
theorem BsK.pureL{sz:Nat}{out:List LV}{i m:Prop}(r:(es.all fun x=>x.cells.length==sz)=true)(q:out=(es.flatMap AV.cells).map .p)(o:i):BsK es sz out i m:=.pure (fun x h=>by simpa using z3x.1 r x h) q o
def FL(c:UInt8):aP 224 [.int .u8 c.toNat] (.bool (GL c)):=by
 refine sC Qj func224 ?_;conv=>whnf
 repeat' (apply bD<;>intro _<;>first|omega|conv=>whnf)
 .exact RetK.bool (by simp_all[GL];try omega)
 .exact RetK.ff (by simp_all[GL];try omega)
def Uz(c:UInt8):aP 225 [.int .u8 c.toNat] (.bool (Zq c)):=by
 refine sC Qy func225 ?_;conv=>whnf
 repeat' (apply bD<;>intro _<;>first|omega|conv=>whnf)
 .exact RetK.bool (by simp_all[Zq];try omega)
 .exact RetK.ff (by simp_all[Zq];try omega)
def wordsL:List Str:=[[103,108,111,98,97,108],[112,114,111,99],[118,97,114],[114,101,102],[105,102],[101,108,115,101],[119,104,105,108,101],[98,114,101,97,107],[99,111,110,116,105,110,117,101],[114,101,116,117,114,110],[103,111,116,111],[114,101,97,100],[112,114,105,110,116]]
def Ux:aP 279 [] (eStrs wordsL):=by
 refine sC Qu func279 ?_;conv=>whnf
 repeat' ((first|refine z1s rfl ?_|refine aD ?_|refine BsK.pureL rfl rfl ?_)<;>conv=>whnf)
 exact RetK.p rfl
def Es(s:Str):Js s=wordsL.any fun w=>w==s:=by
 rw[z4z];unfold Js wordsL;simp only[z4f,z2z,List.any_cons,List.any_nil,Bool.or_false,z4n,or_assoc,@eq_comm _ s]
def J5(s:Str):aP 226 [.str s] (.bool (Js s)):=by
 refine sC Xp func226 ?_;conv=>whnf
 rw[Es];repeat' ((first|(refine iM fun _=>?_)|refine cP Ux ?_)<;>conv=>whnf)
 have i:wordsL.length<=1000:=by decide
 generalize wordsL=l at i⊢;have n:(l.map AV.str).length=l.length:=z0s _;refine lI (fun j:Nat=>⟨[(0,.p (.str s)),(5,.p (eStrs l)),(6,.p (.int .i64 (l.map AV.str).length)),(7,.j j)],[]⟩) (fun j=>j<=l.length/\(l.drop j).any (fun w=>w==s)=l.any fun w=>w==s) (fun j=>l.length-j) 0 ⟨z1q _,rfl⟩ ?_;rintro j ⟨m,h⟩;conv=>whnf
 repeat' ((first|(refine gX ?_;intros)|((first|apply bD|apply bB)<;>intro _<;>try omega))<;>conv=>whnf)
 .exact RetK.tt (by rw[<-h,Z0 (p:=fun w=>w==s) (by omega) (by assumption)])
 .exact nX (j+1) ⟨by omega,by rw[<-h,X9 (p:=fun w=>w==s) (by omega) (by assumption)]⟩
 .exact RetK.ff (by rw[<-h,DZ (by omega)])
def ST{s:Str}{i:Nat}(h:s.length<=i):HF s i=i:=Vx fun m=>by omega
def ZJ(s:Str):aP 167 [.str s] (.bool (isName s)):=by
 refine sC Xb func167 ?_;conv=>whnf
 by_cases o:s=[]
 .subst o;have e:isName []=false:=by unfold isName;rw[dif_neg (by simp)]
  rw[e];repeat' ((first|(refine iM fun _=>?_)|((first|apply bD|apply bB)<;>intro _<;>try omega))<;>conv=>whnf)
  all_goals first
   |exact RetK.ff rfl
   |(exfalso;simp_all;done)
 have i:0<s.length:=z8y.2 o;have q:(s==(⟨#[]⟩:ByteArray).data.toList)=false:=by simpa using o
 repeat' ((first|(refine iM fun _=>?_)|refine cP (FL _) ?_|refine ByteK.at (by omega) ?_|((first|apply bD|apply bN|apply bB)<;>intro _<;>try omega))<;>conv=>whnf)
 .exfalso;rename_i h;rw[q]at h;cases h
 .exact RetK.ff (by unfold isName;rw[dif_neg (by omega)])
 rotate_left 1
 .exact RetK.ff (by unfold isName;rw[dif_pos (by omega)];simp_all)
 have m:GL s[0]=true:=by assumption
 have u:s.length<=8:=by omega
 have t:HF s 0=HF s 1:=(Q0 i (by unfold q4t;rw[m];rfl)).symm;have r:isName s=(decide (HF s 1=s.length) && !Js s):=by
  unfold isName;rw[dif_pos (by omega),m,t];rfl
 refine lI (fun j:Nat=>⟨[(0,.p (.str s)),(3,.j j)],[]⟩) (fun j=>1<=j/\j<=s.length/\HF s j=HF s 1) (fun j=>s.length-j) 1 ⟨z1l _,i,rfl⟩ ?_;rintro j ⟨v,w,n⟩;conv=>whnf
 repeat' ((first|(refine iM fun _=>?_)|refine cP (FL _) ?_|refine cP (Uz _) ?_|refine cP (J5 _) ?_|refine ByteK.at (by omega) ?_|refine wI ?_|((first|apply bD|apply bN)<;>intro _<;>try omega))<;>conv=>whnf)
 all_goals first
  |exact nX (j+1) ⟨by omega,by omega,by rw[Q0 (by omega) (by simp_all[q4t])];exact n⟩
  |exact RetK.ff (by rw[r,<-n,Vx fun _=>by simp_all[q4t]];simp;omega)
  |exact RetK.bool (by rw[r,<-n,ST (by omega),show j=s.length by omega];simp)
def JK(l:List Str):aP 166 [eStrs l] (.bool (namesB l)):=by
 refine sC Qb func166 ?_;conv=>whnf
 refine iM fun _=>?_;conv=>whnf
 refine lI (fun j:Nat=>⟨[(5,.p (eStrs l)),(6,.p (.int .i64 (l.map AV.str).length)),(7,.j j)],[]⟩) (fun j=>j<=l.length/\(l.drop j).all isName=namesB l) (fun j=>l.length-j) 0 ⟨z1q _,rfl⟩ ?_;rintro j ⟨i,h⟩;have m:(l.map AV.str).length=l.length:=z0s _;conv=>whnf
 repeat' ((first|refine cP (ZJ _) ?_|(refine gX ?_;intros)|((first|apply bD|apply bN)<;>intro _<;>try omega))<;>conv=>whnf)
 .exact nX (j+1) ⟨by omega,by rw[DX (by omega) (by assumption)];exact h⟩
 .exact RetK.ff (by rw[<-h,Wf (by omega) (by assumption)])
 .exact RetK.tt (by rw[<-h,DQ (by omega)])
def Uv(op:Int):aP 308 [.int .i64 op] (.int .i64 (Kk op)):=by
 refine sC Qf func308 ?_;conv=>whnf
 repeat' (apply bD<;>intro _<;>first|omega|conv=>whnf)
 all_goals exact RetK.int (by unfold Kk;(repeat' split)<;>omega)
def BS(x:X):aP 228 [.agg x.cells] (.bool (noneB x)):=by
 refine sC Xs func228 ?_;conv=>whnf
 repeat' ((first|(refine iM fun _=>?_)|((first|apply bD|apply bB)<;>intro _<;>try omega))<;>conv=>whnf)
 all_goals have h:((X.avs x.kids).length:Int)=x.kids.length:=by rw[X.avs_len]
 all_goals first
  |exact RetK.ff (by simp_all[noneB];done)
  |exact RetK.bool (by simp_all[noneB];done)
def BF(x:X):Bool:=decide (Kk x.op=(x.kids.length:Int))&&(decide (x.op=1)||decide (x.n=0))&&decide (0<=x.n)&&(decide (x.op=2) == !(x.name==[]))&&((x.name==[])||isName x.name)
def Qi:Nat->X->Bool
 |0,_=>true
 |k+1,x=>BF x&&x.kids.all (Qi k)
theorem Cc:∀(l:List X)(y:X),y∈l->wX y<=wXs l
 |[],y,h=>by cases h
 | a::r,y,h=>by
   rw[wXs];rcases z1g.1 h with rfl|h
   .omega
   .have:=Cc r y h;omega
def BT : ∀(k:Nat)(x:X)(_:wX x<k),aP 281 [.agg x.cells] (.bool (Qi k x)):=by
 intro k;induction k with
 |zero=>intro x h;omega
 | succ k s=>
   intro x w;have r:wX x=1+wXs x.kids:=by cases x;rw[wX];rfl
   have u:((X.avs x.kids).length:Int)=x.kids.length:=by rw[X.avs_len]
   refine sC Xr func281 ?_;conv=>whnf
   repeat' ((first|(refine iM fun _=>?_)|refine cP (Uv _) ?_|refine cP (ZJ _) ?_|refine dA ?_|refine FV ZI rfl rfl rfl rfl rfl ?_|((first|apply bD|apply bE|apply bN)<;>intro _<;>try omega))<;>conv=>whnf)
   all_goals simp only[show(ByteArray.mk #[]).data.toList=[]from rfl]at*
   all_goals first
    | (refine RetK.ff ?_
       rw[Qi,z6c];left;unfold BF;rw[show decide (0<=x.n)=false from z2r (by omega)];simp
       done)
    | (refine RetK.ff ?_
       rw[Qi,z6c];left;rename_i h;have q:(decide (x.op=2) == !(x.name==[]))=false:=by
        have e:decide (x.op=2)=(x.op==2):=rfl;rw[e]
        revert h
        cases(x.op==2)<;>cases(x.name==[])<;>decide
       unfold BF;rw[q];simp
       done)
    | (refine RetK.ff ?_
       rw[Qi,z6c];left;simp_all[BF]
       done)
    | (refine RetK.ff ?_
       rw[Qi,z6c];left;simp_all[BF];omega)
    | (have o:BF x=true:=by first
        |(simp_all[BF];done)
        |(simp_all[BF];omega)
       rw[show Qi (k+1) x=x.kids.all (Qi k) by rw[Qi,o];rfl])
   all_goals
    clear o;refine lI (fun j:Nat=>⟨[(1,.p (.ip x.cells)),(48,.p (.int .i64 (X.avs x.kids).length)),(49,.j j)],[]⟩) (fun j=>j<=x.kids.length/\(x.kids.drop j).all (Qi k)=x.kids.all (Qi k)) (fun j=>x.kids.length-j) 0 ⟨z1q _,rfl⟩ ?_;rintro j ⟨t,i⟩;rcases z1w j x.kids.length with m|m
    .have v:=Cc x.kids _ (z1h m);conv=>whnf
     repeat' ((first|(refine gX ?_;intros)|refine cP (s (x.kids[j]'m) (by omega)) ?_|((first|apply bD|apply bN)<;>intro _<;>try omega))<;>conv=>whnf)
     .exact nX (j+1) ⟨by omega,by rw[DX (by omega) (by assumption)];exact i⟩
     .exact RetK.ff (by rw[<-i,Wf (by omega) (by assumption)])
    .conv=>whnf
     repeat' (apply bD<;>intro _<;>first|omega|conv=>whnf)
     exact RetK.tt (by rw[<-i,DQ (by omega)])
def EV:List Nat->Nat
 |[]=>0
 |a::r=>max a (EV r)
def BV:Nat->X->Nat
 |0,_=>1
 |m+1,x=>1+EV (x.kids.map (BV m))
def SE{l:List Nat}{m:Nat}(h:∀a∈l,a<=m):EV l<=m:=by
 induction l with
 |nil=>exact z1q _
 | cons a r n=>
   have:=n fun b i=>h b (z1x _ i);have:=h a z1j;rw[EV];omega
theorem Mh:∀(m:Nat)(x:X),BV m x<=m+1
 |0,_=>z1l _
 | m+1,x=>by
   rw[BV];have:EV (x.kids.map (BV m))<=m+1:=SE fun a ha=>by
    obtain⟨y,_,rfl⟩:=z1z.1 ha;exact Mh m y
   omega
def BR:∀(m:Nat)(_:m<=1000)(x:X),aP 280 [.agg x.cells,.int .i64 m] (.int .i64 (BV m x)):=by
 intro m;induction m with
 | zero=>
   intro _ x;refine sC HU func280 ?_;conv=>whnf
   repeat' (apply bD<;>intro _<;>first|omega|conv=>whnf)
   exact RetK.int rfl
 | succ m r=>
   intro u x;have t:((X.avs x.kids).length:Int)=x.kids.length:=by rw[X.avs_len]
   refine sC HU func280 ?_;conv=>whnf
   repeat' (apply bD<;>intro _<;>first|omega|conv=>whnf)
   have q:EV (x.kids.map (BV m))<=m+1:=SE fun a ha=>by
    obtain⟨y,_,rfl⟩:=z1z.1 ha;exact Mh m y
   refine lI (fun y:Nat×Nat=>⟨[(1,.j (m+1:Nat)),(2,.p (.ip x.cells)),(5,.j y.2),(6,.j y.1)],[]⟩) (fun y=>y.1<=x.kids.length/\y.2<=m+1/\max y.2 (EV ((x.kids.drop y.1).map (BV m)))=EV (x.kids.map (BV m))) (fun y=>x.kids.length-y.1) (0,0) ⟨z1q _,z1q _,by simp⟩ ?_;rintro⟨j,d⟩ ⟨n,o,i⟩;simp only at n o i⊢;rcases z1w j x.kids.length with h|h
   .rw [z2v h,z1t,EV]at i;have s:=Mh m x.kids[j];conv=>whnf
    repeat' ((first|(refine gX ?_;intros)|refine cP (r (by omega) (x.kids[j]'h)) ?_|(apply bD<;>intro _<;>try omega))<;>conv=>whnf)
    all_goals first
     |exact nX (j+1,BV m x.kids[j]) ⟨by simp only;omega,by simp only;omega,by simp only;omega⟩
     |exact nX (j+1,d) ⟨by simp only;omega,by simp only;omega,by simp only;omega⟩
     |exact RetK.int (by rw[BV];omega)
   .rw [z1b h,z5h,EV]at i;conv=>whnf
    repeat' ((first|(refine gX ?_;intros)|(apply bD<;>intro _<;>try omega))<;>conv=>whnf)
    exact RetK.int (by rw[BV];omega)
def mayXR(x:X):Bool:=decide (BV 20 x<=20)&&Qi (wX x+1) x
def GD(x:X):aP 227 [.agg x.cells] (.bool (mayXR x)):=by
 refine sC JB func227 ?_;conv=>whnf
 repeat' ((first|refine cP (BR 20 (by omega) x) ?_|refine cP (BT (wX x+1) x (by omega)) ?_|(apply bD<;>intro _<;>try omega))<;>conv=>whnf)
 all_goals first
  |exact RetK.bool (by unfold mayXR;rw[z2t (by omega)];rfl)
  |exact RetK.ff (by unfold mayXR;rw[z2r (by omega)];rfl)
theorem Y4:∀(n:Nat)(x:X),UD n x=true->BV n x<=n/\∀k,Qi k x=true
 |0,x,h=>by rw[UD]at h;cases h
 | n+1,x,h=>by
   rw [UD]at h;simp only[z1p,z2z]at h;obtain⟨o,m⟩:=h;have i:(∀y∈x.kids,UD n y=true)/\BF x=true:=by
    split at m
    .rename_i s;simp only[z1p,z2z]at m;have q:x.kids=[]:=by
      rw[s]at o;have:Kk 1=0:=by decide
      rw[this]at o;exact List.length_eq_zero_iff.1 (by omega)
     refine⟨by rw[q];simp,?_⟩;unfold BF;rw[o,s,m.2];simp[m.1]
    split at m
    .rename_i s;simp only[z1p,z2z]at m;have q:x.kids=[]:=by
      rw[s]at o;have:Kk 2=0:=by decide
      rw[this]at o;exact List.length_eq_zero_iff.1 (by omega)
     have t:(x.name==[])=false:=by
      cases z:x.name with
      | nil=>
        have:=m.2;rw[z]at this;unfold isName at this;rw[dif_neg (by simp)]at this;cases this
      |cons a r=>rfl
     refine⟨by rw[q];simp,?_⟩;unfold BF;rw[o,s,m.2,t,m.1];simp
    .rename_i u v;simp only[z1p,z2z,z3x]at m;refine⟨m.2,?_⟩;unfold BF;rw[o,m.1.1,m.1.2];simp[u,v]
   refine⟨?_,fun k=>?_⟩
   .rw [BV];have:EV (x.kids.map (BV n))<=n:=SE fun a ha=>by
     obtain⟨y,w,rfl⟩:=z1z.1 ha;exact(Y4 n y (i.1 y w)).1
    omega
   .cases k with
    |zero=>rfl
    | succ k=>
      rw[Qi,i.2,z6z,z3x];exact fun y w=>(Y4 n y (i.1 y w)).2 k
def OP{x:X}(h:EU x=true):mayXR x=true:=by
 obtain⟨i,m⟩:=Y4 20 x h;unfold mayXR;rw[z2t i,m];rfl
def argR(a:Arg):Bool:=bif a.ref then isName a.name&&noneB a.x else(a.name==[])&&mayXR a.x
def Kb(a:Arg):aP 229 [.agg a.cells] (.bool (argR a)):=by
 refine sC Wq func229 ?_;conv=>whnf
 repeat' ((first|refine cP (ZJ _) ?_|refine cP (BS _) ?_|refine cP (GD _) ?_|(apply bB<;>intro _))<;>conv=>whnf)
 all_goals simp only[show(ByteArray.mk #[]).data.toList=[]from rfl]at*
 all_goals first
  |exact RetK.bool (by simp_all[argR])
  |exact RetK.ff (by simp_all[argR])
def x0h{a:Arg}(h:V4 a=true):argR a=true:=by
 unfold V4 GJ NK at h;unfold argR;cases i:a.ref with
 | true=>
   rw[i]at h;simpa using h
 | false=>
   rw[i]at h;simp only[z1o,Bool.not_false,z1n,z1p]at h;rw[h.1,OP h.2];rfl
end Go.Ab
