/- tree, flat, scope: the names of an expression, of a statement; what a name is. -/
import Derived.Test.YtmfnbgbblkhneaaGreatInoR8
set_option linter.unusedSimpArgs false
set_option linter.unusedVariables false
set_option maxRecDepth 100000
set_option maxHeartbeats 16000000
open List (drop_zero)
namespace Go.Ab
open Go.Proofs.Tryz
open Go.Proofs
variable {α β:Type}{H:Heap}{K:Prop}{a c d:Int}{b:Bool}{es:List AV}{f:Pr}{its:List Item}{j k:Nat}{l seen:List Str}{p:Pg}
theorem JD{n:Nat}(xs:List Str)(hn:n=es.length)(hb:es.length+xs.length<=8796093022208)(hK:K):AppK es (xs.map .str) n (xs.map AV.str).length 1 16 K:=
 .mk hn rfl (by rw[hn];simp;omega) (by rw[hn];simp[maxLen];omega) (fun x hx=>by obtain⟨y,_,rfl⟩:=q3s.1 hx;exact⟨rfl,rfl⟩) hK
theorem XW{n:Nat}{s:Str}(hn:n=es.length)(hb:es.length<=8796093022000)(hK:K):AppK es [.str s] n 1 1 16 K:=
 .mk hn rfl (by omega) (by simp only[maxLen];omega) (fun x hx=>by rcases q3r.1 hx with rfl;exact⟨rfl,rfl⟩) hK
theorem ZD{n:Nat}{s:Int}(hn:n=es.length)(hb:es.length<=8796093022000)(hK:K):AppK es [.int .i64 s] n 1 1 8 K:=
 .mk hn rfl (by omega) (by simp only[maxLen];omega) (fun x hx=>by rcases q3r.1 hx with rfl;exact⟨rfl,rfl⟩) hK
mutual
def Hq:X->List Str->List Str
 |.mk op _ name kids,out=>HS kids (if op=2/\(out.any fun s=>name==s)=false then out++[name]else out)
def HS:List X->List Str->List Str
 |[],out=>out
 |x::r,out=>HS r (Hq x out)
end
theorem Dc(x:X)(out:List Str):Hq x out=HS x.kids (if x.op=2/\(out.any fun s=>x.name==s)=false then out++[x.name]else out):=by
 cases x;rw[Hq];rfl
theorem Mb{l:List X}{out:List Str}(hj:j<l.length):HS (l.drop j) out=HS (l.drop (j+1)) (Hq l[j] out):=by
 rw[QH hj,HS]
theorem RR{l:List X}{out:List Str}(hj:l.length<=j):HS (l.drop j) out=out:=by
 rw[q4j hj,HS]
theorem LX{n:Nat}{x:X}(h:ZO (n+1) x=true):x.kids.length<=2/\(x.op=2->x.kids.length=0)/\∀k∈x.kids,ZO n k=true:=by
 rw[ZO]at h;simp only[q4k,q4o]at h;obtain⟨h1,h2⟩:=h;refine⟨?_,fun he=>?_,?_⟩
 ·unfold X8 at h1;(repeat' split at h1)<;>omega
 ·unfold X8 at h1;rw[if_pos (by omega)]at h1;omega
 ·by_cases h3:x.op=1
  ·have:x.kids.length=0:=by unfold X8 at h1;rw[if_pos (by omega)]at h1;omega
   rw[q5b this];simp
  ·by_cases h4:x.op=2
   ·have:x.kids.length=0:=by unfold X8 at h1;rw[if_pos (by omega)]at h1;omega
    rw[q5b this];simp
   ·rw[if_neg h3,if_neg h4]at h2;simp only[q4k]at h2;exact q5k.1 h2.2
theorem RS:∀(n:Nat)(x:X)(out:List Str),ZO n x=true->out.length<=(Hq x out).length/\(Hq x out).length<=out.length+2^n:=by
 intro n;induction n with
 |zero=>intro x out h;rw[ZO]at h;cases h
 | succ n ih=>
   intro x out h;obtain⟨h1,h2,h3⟩:=LX h;have key:∀(l:List X)(o:List Str),(∀k∈l,ZO n k=true)->o.length<=(HS l o).length/\(HS l o).length<=o.length+l.length*2^n:=by
    intro l;induction l with
    |nil=>intro o _;simp[HS]
    | cons k r ihl=>
      intro o hk;rw[HS];have h5:=ih k o (hk k (by simp));have h6:=ihl (Hq k o) fun k hk'=>hk k (by simp[hk']);simp only[q4m,q6q,Nat.one_mul];omega
   rw[Dc];have hp:2^(n+1)=2*2^n:=by rw[Nat.pow_succ];omega
   have hpos:0<2^n:=Nat.pow_pos (by decide);have h4:=key x.kids (if x.op=2/\(out.any fun s=>x.name==s)=false then out++[x.name]else out) h3;have h5:x.kids.length*2^n<=2*2^n:=q5j _ h1;split at h4
   ·rename_i hc;have:=h2 hc.1;rw[this]at h4;rw[if_pos hc];simp only[q3m,q4r]at h4;omega
   ·rename_i hc;rw[if_neg hc];omega
def R1(t:Nat)(out:List Str):Heap:=[(2000,.own t 1 (out.map .str))]
theorem V3:∀(n:Nat)(_:n<=20)(x:X)(_:ZO n x=true)(out:List Str)(_:out.length+2^n<=1073741824),
  SpecH prog 191 [.p (.agg x.cells),.hd 2000 0 out.length] (R1 9 out) (fun r H=>r=.hd 2000 0 (Hq x out).length/\H=R1 9 (Hq x out)):=by
 intro n;induction n with
 |zero=>intro _ x h;rw[ZO]at h;cases h
 | succ n ih=>
   intro hn x hx out ho;have hp:2^(n+1)=2*2^n:=by rw[Nat.pow_succ];omega
   have hpos:0<2^n:=Nat.pow_pos (by decide);obtain⟨hk1,hk2,hk3⟩:=LX hx;have hxl:=X.avs_len x.kids;refine sH Yt func191 rfl call191 ?_;conv=>whnf
   repeat' (first|((first|(refine iM fun _=>?_)|refine q3l rfl ?_|refine aD ?_|refine bP ?_|(refine XG (QX out x.name) (.cons (.hd rfl (by simp)) (.cons (.p (Sub.refl _)) .nil)) (by rintro _ rfl;rfl) ?_;rintro _ rfl)|refine q6g (by simp) rfl (by show(out.length+1)*16<=140737488355328;omega) (by show out.length+1<=9223372036854775807;omega) (fun x hx=>by rcases q3r.1 hx with rfl;exact⟨rfl,rfl⟩) ?_);conv=>whnf)|(apply bD<;>intro _<;>first|omega|conv=>whnf)|(apply bN<;>intro _<;>conv=>whnf))
   all_goals
    have hmul:∀j,j<x.kids.length->(x.kids.length-j)*2^n=(x.kids.length-(j+1))*2^n+2^n:=fun j hj=>by
     rw[show x.kids.length-j=(x.kids.length-(j+1))+1 by omega,q6q,Nat.one_mul]
    have hmul0:x.kids.length*2^n<=2*2^n:=q5j _ hk1;first
    |refine LoopK.inv QY (fun i:Nat×List Str=>⟨[(1,.hd 2000 0 i.2.length),(23,.p (.sl (X.avs x.kids))),(24,.p (.int .i64 (X.avs x.kids).length)),(25,.p (.int .i64 i.1))],R1 9 i.2⟩) (fun i=>i.1<=x.kids.length/\HS (x.kids.drop i.1) i.2=Hq x out/\i.2.length+(x.kids.length-i.1)*2^n<=1073741824) (fun i=>x.kids.length-i.1) (0,out++[x.name]) (Le.of_eq (by simp[R1];exact⟨rfl,rfl⟩)) ⟨q3o _,by simp only[drop_zero];rw[Dc,if_pos ⟨by assumption,by assumption⟩],by have:=hk2 (by assumption);simp[this];omega⟩ ?_
    |refine LoopK.inv QY (fun i:Nat×List Str=>⟨[(1,.hd 2000 0 i.2.length),(23,.p (.sl (X.avs x.kids))),(24,.p (.int .i64 (X.avs x.kids).length)),(25,.p (.int .i64 i.1))],R1 9 i.2⟩) (fun i=>i.1<=x.kids.length/\HS (x.kids.drop i.1) i.2=Hq x out/\i.2.length+(x.kids.length-i.1)*2^n<=1073741824) (fun i=>x.kids.length-i.1) (0,out) (Le.of_eq rfl) ⟨q3o _,by simp only[drop_zero];rw[Dc,if_neg (by simp[*])],by simp only[Nat.sub_zero];omega⟩ ?_
    rintro⟨j,acc⟩ ⟨h2,h3,h4⟩;simp only at h2 h3 h4⊢;conv=>whnf
    repeat' (first|((first|refine q3l rfl ?_|refine IdxK.xs (by omega) ?_);conv=>whnf)|(apply bD<;>intro _<;>first|omega|conv=>whnf))
    all_goals first
     | (rw[RR (by omega)]at h3
        exact⟨_,.refl _,by rw[h3];exact⟨rfl,rfl⟩⟩)
     | (have hj:j<x.kids.length:=by omega
        have hm:=hmul j hj;have hg:=RS n x.kids[j] acc (hk3 _ (q4u hj));refine CallK.heap [(2000,2000)] 0 (by repeat' (first|exact q4d|refine q3i ?_ ?_|exact q3e _|exact q4q Sub.nils|exact q4q (Sub.tt rfl)|exact q4q (Sub.ff rfl)|exact q4q (Sub.int (by omega)))) (by refine q3h (j:=2000) rfl rfl ?_ ?_;exact CSub.refl _;exact q4b) (ih (by omega) x.kids[j] (hk3 _ (q4u hj)) acc (by omega)) rfl rfl ?_;rintro l' H' ⟨rfl,rfl⟩;conv=>whnf
        refine wI ?_;conv=>whnf
        exact⟨(j+1,Hq x.kids[j] acc),⟨by simp only;omega,by simp only;rw[<-h3,Mb hj],by simp only;omega⟩,by simp only;omega,Le.of_eq rfl⟩)
def XI(x:X):List Str:=bif Li x then Hq x []else []
theorem VZ(x:X):(XI x).length<=1048576:=by
 unfold XI;cases h:Li x with
 |false=>simp
 | true=>
   have:=(RS 20 x [] h).2;simpa using this
theorem Q3(x:X):SpecP prog 148 [.agg x.cells] (fun r=>r=eStrs (XI x)):=by
 refine sB Qq func148 rfl call148 ?_;conv=>whnf
 repeat' (first|(refine cP (JV _) ?_;conv=>whnf)|(apply bN<;>intro _<;>conv=>whnf))
 ·refine CallK.nil 5 9 1 rfl (.cons rfl (.row .nil)) ?_;refine CallK.heap [(2000,5)] 0 (by repeat' (first|exact q4d|refine q3i ?_ ?_|exact q3e _|exact q4q Sub.nils|exact q4q (Sub.tt rfl)|exact q4q (Sub.ff rfl)|exact q4q (Sub.int (by omega)))) (by refine q3h (j:=5) rfl rfl ?_ ?_;exact CSub.refl _;exact q4b) (V3 20 (by omega) x (by assumption) [] (by simp)) rfl rfl ?_;rintro l' H' ⟨rfl,rfl⟩;conv=>whnf
  refine⟨_,.hd rfl (by simp),?_⟩;unfold XI;rw[show Li x=true by assumption];rfl
 ·refine⟨_,.p Sub.nils,?_⟩;unfold XI;rw[show Li x=false by assumption];rfl
def YO(a:Arg):List Str:=(bif a.ref then [a.name]else [])++XI a.x
def HI(t:S):List Str:=(bif t.kind≠10 && !(t.name==[])then [t.name]else [])++XI t.x
def XM(t:S):List Str:=HI t++t.args.flatMap YO
theorem L2(a:Arg):(YO a).length<=1048577:=by
 have:=VZ a.x;unfold YO;cases a.ref<;>simp<;>omega
theorem L3(t:S):(HI t).length<=1048577:=by
 have:=VZ t.x;unfold HI;cases(t.kind≠10 && !(t.name==[]):Bool)<;>simp<;>omega
theorem KE{α β:Type}{f:α->List β}{c:Nat}(h:∀a,(f a).length<=c):∀l:List α,(l.flatMap f).length<=l.length*c
 |[]=>by simp
 | x::r=>by
   have:=KE h r;have:=h x;simp only[q5o,q3m,q4m,q6q,Nat.one_mul];omega
def Mw(t:S)(j:Nat):List Str:=HI t++(t.args.take j).flatMap YO
theorem SW(t:S)(h:j<=t.args.length)(ha:t.args.length<=20000):(Mw t j).length<=21000000000:=by
 have h1:=L3 t;have h2:=KE L2 (t.args.take j);have h3:(t.args.take j).length*1048577<=20000*1048577:=q5j _ (by simp;omega);unfold Mw;simp only[q3m];omega
theorem Rw{t:S}(hj:j<t.args.length):Mw t (j+1)=Mw t j++YO t.args[j]:=by
 unfold Mw;rw[q4y hj,List.flatMap_append,q4c];simp
def Ut(t:S)(tS:Nat)(j:Nat):St:=⟨[(3,.hd 0 0 (Mw t j).length),(25,.p (.sl (t.args.map fun a=>.agg a.cells))),(26,.p (.int .i64 (t.args.map fun a=>AV.agg a.cells).length)),(27,.p (.int .i64 j))],[(0,.own tS 1 ((Mw t j).map .str))]⟩
theorem Uz(t:S)(ha:t.args.length<=20000):SpecP prog 179 [.agg t.cells] (fun r=>r=eStrs (XM t)):=by
 refine sB G0 func179 rfl call179 ?_;conv=>whnf
 repeat' (first|((first|(refine iM fun _=>?_)|refine cP (Q3 _) ?_|refine q3l rfl ?_|refine aD ?_|refine bP ?_|refine JD _ (by simp) (by have:=VZ t.x;simp;omega) ?_|refine XW (by simp) (by simp) ?_);conv=>whnf)|(apply bE<;>intro _<;>first|omega|conv=>whnf)|(apply bN<;>intro _<;>conv=>whnf))
 all_goals
  have hl:(t.args.map fun a=>AV.agg a.cells).length=t.args.length:=q3f _;refine LoopK.inv QY (Ut t 9) (fun j=>j<=t.args.length) (fun j=>t.args.length-j) 0 (Le.of_eq ?_) (q3o _) ?_
  ·first
    | (have e:Mw t 0=XI t.x:=by simp[Mw,HI,show t.kind=10 by assumption]
       rw[Ut,e];simp only[q5n,q3f,q3m,q4z,q7w];rfl)
    | (have e:Mw t 0=XI t.x:=by simp[Mw,HI,show t.name=[] by simpa using(show(t.name==[])=true by assumption)]
       rw[Ut,e];simp only[q5n,q3f,q3m,q4z,q7w];rfl)
    | (have e:Mw t 0=[t.name]++XI t.x:=by
        have:(t.name==[])=false:=by assumption
        simp[Mw,HI,show ¬t.kind=10 by assumption,this]
       rw[Ut,e];simp only[q5n,q3f,q3m,q4z,q7w];rfl)
  intro j h2;have hacc:=SW t h2 ha;conv=>whnf
  repeat' (first|((first|refine cP (Q3 _) ?_|refine q3l rfl ?_|refine aD ?_|refine bP ?_|(refine iA fun _=>?_)|refine wI ?_|refine JD _ (by simp) (by have:=VZ (t.args[j]'(by omega)).x;simp;omega) ?_|refine XW (by simp) (by simp;omega) ?_);conv=>whnf)|(apply bD<;>intro _<;>first|omega|conv=>whnf)|(apply bB<;>intro _<;>conv=>whnf))
  all_goals first
   |exact⟨_,.hd rfl (by simp),by
      have:t.args.take j=t.args:=q4g (by omega);rw[XM,<-this];rfl⟩
   | (have hj:j<t.args.length:=by omega
      have hst:=Rw hj;refine⟨j+1,by show j+1<=_;omega,by show t.args.length-(j+1)<t.args.length-j;omega,Le.of_eq ?_⟩;first
       | (have hn:YO t.args[j]=[t.args[j].name]++XI t.args[j].x:=by rw[YO,show t.args[j].ref=true by assumption];rfl
          rw[Ut,hst,hn];simp only[q3m,q4z,q3f,<-q4c,<-q5e];rfl)
       | (have hn:YO t.args[j]=XI t.args[j].x:=by rw[YO,show t.args[j].ref=false by assumption];rfl
          rw[Ut,hst,hn];simp only[q3m,q4z,q3f];rfl))
def SQ:List Str->Nat
 |[]=>0
 |s::r=>1+SQ r
mutual
def wX:X->Nat
 |.mk _ _ name kids=>1+wXs kids
def wXs:List X->Nat
 |[]=>0
 |x::r=>wX x+wXs r
end
def Kf:List Arg->Nat
 |[]=>0
 |a::r=>wX a.x+1+Kf r
mutual
def wS:S->Nat
 |.mk _ _ labels name proc x _ args thn els=>wX x+SQ labels+1+1+Kf args+wL thn+wL els
def wL:List S->Nat
 |[]=>0
 |s::r=>wS s+wL r
end
def Ok:List Param->Nat
 |[]=>0
 |a::r=>1+Ok r
def wPr(f:Pr):Nat:=1+SQ f.vars+SQ f.fin+Ok f.params+wL f.body
def EI:List Pr->Nat
 |[]=>0
 |f::r=>wPr f+EI r
def wPg(p:Pg):Nat:=SQ p.globals+EI p.procs
def Fit(p:Pg):Prop:=wPg p<=20000
theorem Kd:∀l:List Str,l.length<=SQ l
 |[]=>q3o _
 |s::r=>by have:=Kd r;simp only[q4m,SQ];omega
theorem MY:∀l:List Arg,l.length<=Kf l
 |[]=>q3o _
 |s::r=>by have:=MY r;simp only[q4m,Kf];omega
theorem Sn(s:S):wS s=wX s.x+SQ s.labels+1+1+Kf s.args+wL s.thn+wL s.els:=by
 cases s;rw[wS];rfl
mutual
theorem I8:∀s:S,WJ s<=wS s
 | .mk id kind labels name proc x has args thn els=>by
   have:=P8 thn;have:=P8 els;rw[WJ,wS];omega
theorem P8:∀l:List S,cntL l<=wL l
 |[]=>by rw[cntL,wL];exact q4h _
 | s::r=>by
   have:=I8 s;have:=P8 r;rw[cntL,wL];omega
end
theorem Sp:∀{l:List Pr}{f:Pr},f∈l->wPr f<=EI l
 | g::r,f,h=>by
   simp only[EI];rcases q3t.1 h with rfl|h
   ·omega
   ·have:=Sp h;omega
theorem Fit.pr(h:Fit p)(hf:f∈p.procs):wPr f<=20000:=by
 have:=Sp hf;unfold Fit wPg at h;omega
mutual
def flS:S->List S
 |.mk id kind labels name proc x has args thn els=>.mk id kind labels name proc x has args thn els::(flL thn++flL els)
def flL:List S->List S
 |[]=>[]
 |s::r=>flS s++flL r
end
theorem RK(s:S):flS s=s::(flL s.thn++flL s.els):=by
 cases s;rw[flS];rfl
mutual
theorem E7:∀s:S,(flS s).length=WJ s
 | .mk id kind labels name proc x has args thn els=>by
   rw[flS,WJ,q4m,q3m,Zn thn,Zn els];omega
theorem Zn:∀l:List S,(flL l).length=cntL l
 |[]=>by rw[flL,cntL];rfl
 |s::r=>by rw[flL,cntL,q3m,E7 s,Zn r]
end
mutual
theorem OZ:∀(s t:S),t∈flS s->wS t<=wS s
 | .mk id kind labels name proc x has args thn els,t,h=>by
   rw[flS]at h;rcases q3t.1 h with rfl|h
   ·exact q4h _
   ·rw[wS];rcases q3a.1 h with h|h
    ·have:=Dr thn t h;omega
    ·have:=Dr els t h;omega
theorem Dr:∀(l:List S)(t:S),t∈flL l->wS t<=wL l
 |[],t,h=>by rw[flL]at h;cases h
 | s::r,t,h=>by
   rw[flL]at h;rw[wL];rcases q3a.1 h with h|h
   ·have:=OZ s t h;omega
   ·have:=Dr r t h;omega
end

mutual
def itS(proc up nx loop:Int)(n:Nat):S->List Item
 | .mk id kind labels name pr x has args thn els=>
   ⟨.mk id kind labels name pr x has args thn els,proc,up,nx,loop⟩::(itL proc (n+1) (if kind=6 then n+1 else nx) (if kind=6 then n+1 else loop) (n+1) thn ++
     itL proc (n+1) (if kind=6 then n+1 else nx) (if kind=6 then n+1 else loop) (n+1+cntL thn) els)
def itL(proc up nx loop:Int)(n:Nat):List S->List Item
 |[]=>[]
 |t::r=>itS proc up (if r.isEmpty then nx else n+1+WJ t) loop n t++itL proc up nx loop (n+WJ t) r
end
mutual
theorem EQ(proc up nx loop:Int):∀(t:S)(acc:List Item),Xt proc up nx loop acc t=acc++itS proc up nx loop acc.length t
 | .mk id kind labels name pr x has args thn els,acc=>by
   rw[Xt,itS,NS _ _ _ _ thn,NS _ _ _ _ els];simp only[q3m,q4m,q6m,q4c,List.cons_append,q7w,ZP proc _ _ _ _ thn,q5n,q5e,q7o (cntL thn) 1]
theorem NS(proc up nx loop:Int):∀(l:List S)(acc:List Item),XF proc up nx loop acc l=acc++itL proc up nx loop acc.length l
 |[],acc=>by rw[XF,itL,q5c]
 | t::r,acc=>by
   rw[XF,itL,EQ _ _ _ _ t,NS _ _ _ _ r];simp only[q3m,q4c,T4 proc _ _ _ _ t]
theorem T4(proc up nx loop:Int)(n:Nat):∀t:S,(itS proc up nx loop n t).length=WJ t
 | .mk id kind labels name pr x has args thn els=>by
   rw[itS,WJ,q4m,q3m,ZP _ _ _ _ _ thn,ZP _ _ _ _ _ els];omega
theorem ZP(proc up nx loop:Int)(n:Nat):∀l:List S,(itL proc up nx loop n l).length=cntL l
 |[]=>by rw[itL,cntL];rfl
 |t::r=>by rw[itL,cntL,q3m,T4 _ _ _ _ _ t,ZP _ _ _ _ _ r]
end
mutual
theorem OK(proc up nx loop:Int)(n:Nat):∀t:S,(itS proc up nx loop n t).map Item.s=flS t
 | .mk id kind labels name pr x has args thn els=>by
   rw[itS,flS,q4t,q4z,NY _ _ _ _ _ thn,NY _ _ _ _ _ els]
theorem NY(proc up nx loop:Int)(n:Nat):∀l:List S,(itL proc up nx loop n l).map Item.s=flL l
 |[]=>by rw[itL,flL];rfl
 |t::r=>by rw[itL,flL,q4z,OK _ _ _ _ _ t,NY _ _ _ _ _ r]
end
def QL:List Pr->Nat->Nat
 |_,0=>0
 |[],_+1=>0
 |f::r,i+1=>cntL f.body+QL r i
theorem Hs:∀(l:List Pr)(i:Nat)(acc:List Item)(lo hi:List Int),lo.length=i->hi.length=i->
  (Vz i acc lo hi l).2.1.length=i+l.length/\(Vz i acc lo hi l).2.2.length=i+l.length/\
  (∀k,k<i->(Vz i acc lo hi l).2.1[k]?=lo[k]? /\(Vz i acc lo hi l).2.2[k]?=hi[k]?)/\∃L,(Vz i acc lo hi l).1=acc++L/\L.length=cntP l/\
  ∀(k:Nat)(f:Pr),l[k]?=some f->(Vz i acc lo hi l).2.1[i+k]?=some ((acc.length+QL l k:Nat)+1:Int)/\(Vz i acc lo hi l).2.2[i+k]?=some ((acc.length+QL l k+cntL f.body:Nat)+1:Int)/\
   QL l k+cntL f.body<=cntP l/\(L.take (QL l k+cntL f.body)).drop (QL l k)=itL (i+k:Nat) 0 (-1) 0 (acc.length+QL l k) f.body
 | [],i,acc,lo,hi,h1,h2=>by
   rw[Vz];exact⟨by simpa using h1,by simpa using h2,fun _ _=>⟨rfl,rfl⟩,[],by simp,rfl,fun k f h=>by simp at h⟩
 | f::r,i,acc,lo,hi,h1,h2=>by
   rw[Vz];have hrow:=NS i 0 (-1) 0 f.body acc;have hlen:=XY i 0 (-1) 0 acc f.body;obtain⟨h3,h4,h5,L,h6,h7,h8⟩:=Hs r (i+1) (XF i 0 (-1) 0 acc f.body) (lo++[(acc.length:Int)+1]) (hi++[((XF i 0 (-1) 0 acc f.body).length:Int)+1]) (by simp[h1]) (by simp[h2]);refine⟨by rw[h3,q4m];omega,by rw[h4,q4m];omega,fun k hk=>?_,itL i 0 (-1) 0 acc.length f.body++L,?_,?_,fun k g hg=>?_⟩
   ·obtain⟨h9,h10⟩:=h5 k (by omega);rw[h9,h10,q5v (by omega),q5v (by omega)];exact⟨rfl,rfl⟩
   ·rw[h6,hrow,q4c]
   ·rw[q3m,h7,ZP,cntP]
   ·cases k with
    | zero=>
      simp only[q8x,q6b]at hg;subst hg;obtain⟨h9,h10⟩:=h5 i (by omega);simp only[q7m,QL,q5n,drop_zero];refine⟨?_,?_,?_,?_⟩
      ·rw[h9,q5x (by omega),h1];simp
      ·rw[h10,q5x (by omega),h2,hlen];simp
      ·rw[cntP];omega
      ·rw[List.take_append_of_le_length (by rw[ZP];omega),q4g (by rw[ZP];omega)]
    | succ k=>
      simp only[q8q]at hg;obtain⟨h9,h10,h11,h12⟩:=h8 k g hg;rw[hlen]at h12;simp only[QL];refine⟨?_,?_,?_,?_⟩
      ·rw[show i+(k+1)=i+1+k by omega,h9,hlen];congr 2;omega
      ·rw[show i+(k+1)=i+1+k by omega,h10,hlen];congr 2;omega
      ·rw[cntP];omega
      ·rw[List.take_append,List.drop_append,ZP,q4g (by rw[ZP];omega),q4j (by rw[ZP];omega),q7w];simp only[ZP];rw[show cntL f.body+QL r k+cntL g.body-cntL f.body=QL r k+cntL g.body by omega,show cntL f.body+QL r k-cntL f.body=QL r k by omega,h12];rw[show i+(k+1)=i+1+k by omega,show acc.length+(cntL f.body+QL r k)=acc.length+cntL f.body+QL r k by omega]
theorem QU(p:Pg):(sheetOf p).p=p/\(sheetOf p).lo.length=p.procs.length/\(sheetOf p).hi.length=p.procs.length/\(sheetOf p).l.length=cntP p.procs/\
  ∀(k:Nat)(f:Pr),p.procs[k]?=some f->(sheetOf p).lo[k]?=some ((QL p.procs k:Nat)+1:Int)/\(sheetOf p).hi[k]?=some ((QL p.procs k+cntL f.body:Nat)+1:Int)/\
   QL p.procs k+cntL f.body<=cntP p.procs/\((sheetOf p).l.take (QL p.procs k+cntL f.body)).drop (QL p.procs k)=itL k 0 (-1) 0 (QL p.procs k) f.body:=by
 obtain⟨h3,h4,_,L,h6,h7,h8⟩:=Hs p.procs 0 [] [] [] rfl rfl;refine⟨rfl,by unfold sheetOf;simpa using h3,by unfold sheetOf;simpa using h4,by unfold sheetOf;simp[h6,h7],fun k f hk=>?_⟩;have:=h8 k f hk;unfold sheetOf;simp only[h6,q7w,q6m,q5n]at this⊢;exact this
mutual
theorem Nu(nest seen:Int):∀(s:S){m:Int},Fx nest seen s=some m->m=seen+WJ s
 | .mk id kind labels name proc x has args thn els,m,h=>by
   simp only[Fx]at h;split at h
   ·cases h
   split at h
   ·cases h
   cases hn:namesB labels<;>rw[hn]at h
   ·cases h
   cases hf:VF (.mk id kind labels name proc x has args thn els)<;>rw[hf]at h
   ·cases h
   simp only[q4v]at h;split at h
   ·rename_i m1 h1;have h2:=JQ (nest+1) (seen+1) thn h1;have h3:=JQ (nest+1) m1 els h;rw[WJ];omega
   ·cases h
theorem JQ(nest seen:Int):∀(l:List S){m:Int},YM nest seen l=some m->m=seen+cntL l
 | [],m,h=>by
   simp only[YM]at h;cases h;rw[cntL];simp
 | s::r,m,h=>by
   simp only[YM]at h;split at h
   ·cases h
   split at h
   ·rename_i m1 h1;have h2:=Nu nest seen s h1;have h3:=JQ nest m1 r h;rw[cntL];omega
   ·cases h
end
theorem Um:∀(l:List Pr){seen m:Int},seen<=200->XE seen l=some m->m=seen+cntP l/\m<=200
 |[],seen,m,h0,h=>by rw[XE]at h;cases h;simp[cntP];exact h0
 | f::r,seen,m,h0,h=>by
   rw[XE]at h;cases hm:DY f<;>rw[hm]at h
   ·cases h
   simp only[q4v]at h;split at h
   ·rename_i m1 h1;have h2:=JQ 1 seen f.body h1;have h3:=Wt 1 seen f.body h0 h1;have h4:=Um r (by omega) h;rw[cntP];omega
   ·cases h
theorem WT(h:HE p=true):p.globals.length<=16/\p.procs.length<=16/\cntP p.procs<=200:=by
 unfold HE at h;simp only[q4k,q4o]at h;obtain⟨⟨⟨h1,h2⟩,_⟩,h3⟩:=h;cases hm:XE 0 p.procs with
 |none=>rw[hm]at h3;cases h3
 | some m=>
   have:=Um p.procs (by decide) hm;omega
theorem B4(h:HE p=true)(hf:f∈p.procs):DY f=true:=by
 unfold HE at h;simp only[q4k]at h;have h3:=h.2;have key:∀(l:List Pr)(seen:Int),(XE seen l).isSome=true->∀f∈l,DY f=true:=fun l=>by
  induction l with
  |nil=>intro _ _ f hf;cases hf
  | cons g r ih=>
    intro seen h f hf;rw[XE]at h;cases hm:DY g<;>rw[hm]at h
    ·cases h
    simp only[q4v]at h;split at h
    ·rename_i m1 h1;rcases q3t.1 hf with rfl|hf
     ·exact hm
     ·exact ih _ h f hf
    ·cases h
 exact key _ _ h3 f hf
def X9(p:Pg)(f:Pr)(name:Str):Int:=
 match f.params.find? (fun a=>a.name==name)with
 |some a=>bif a.ref then 3 else 2
 |none=>bif f.vars.any (fun s=>name==s)then 4 else bif p.globals.any (fun s=>name==s)then 1 else 0
theorem LW{l:List α}{p:α->Bool}(hj:j<l.length)(h:p l[j]=false):(l.drop (j+1)).find? p=(l.drop j).find? p:=by
 rw[QH hj,List.find?_cons,h]
theorem FC{l:List α}{p:α->Bool}(hj:j<l.length)(h:p l[j]=true):(l.drop j).find? p=some l[j]:=by
 rw[QH hj,List.find?_cons,h]
theorem FT{l:List α}{p:α->Bool}(hj:l.length<=j):(l.drop j).find? p=none:=by
 rw[q4j hj];rfl
theorem Lw(p:Pg)(f:Pr)(name:Str):SpecP prog 59 [.agg p.cells,.agg f.cells,.str name] (fun r=>r=.int .i64 (X9 p f name)):=by
 refine sB G9 func59 rfl call59 ?_;conv=>whnf
 repeat' (refine iM fun _=>?_;conv=>whnf)
 have hl:(f.params.map fun a=>AV.agg a.cells).length=f.params.length:=q3f _;refine LoopK.inv QY (fun j:Nat=>⟨[(2,.p (.str name)),(3,.p (.ip p.cells)),(4,.p (.ip f.cells)),(10,.p (.sl (f.params.map fun a=>.agg a.cells))),(11,.p (.int .i64 (f.params.map fun a=>AV.agg a.cells).length)),(12,.p (.int .i64 j))],[]⟩) (fun j=>j<=f.params.length/\(f.params.drop j).find? (fun a=>a.name==name)=f.params.find? (fun a=>a.name==name)) (fun j=>f.params.length-j) 0 (Le.of_eq rfl) ⟨q3o _,rfl⟩ ?_;rintro j ⟨h2,h3⟩;conv=>whnf
 repeat' (first|((first|refine cP (QX _ _) ?_|refine q3l rfl ?_|(refine iA fun _=>?_)|refine wI ?_);conv=>whnf)|(apply bD<;>intro _<;>first|omega|conv=>whnf)|(apply bB<;>intro _<;>conv=>whnf))
 all_goals try have hj:j<f.params.length:=by omega
 all_goals first
  | (exfalso
     have h8:((f.params[j]'(by omega)).name==name)=true:=by assumption
     have h9:((f.params[j]'(by omega)).name==name)=false:=by assumption
     rw[h8]at h9;cases h9)
  | (have e:=FC (p:=fun a:Param=>a.name==name) (by omega) (by assumption)
     rw[h3]at e;exact RetK.int (by unfold X9;rw[e];simp[*]))
  |(refine⟨j+1,⟨by omega,by rw[<-h3,LW (p:=fun a:Param=>a.name==name) (by omega) (by assumption)]⟩,by omega,Le.of_eq rfl⟩)
  | (have e:f.params.find? (fun a=>a.name==name)=none:=by rw[<-h3,FT (by omega)]
     exact RetK.int (by unfold X9;rw[e];simp[*]))
def mainS:Str:=[109,97,105,110]
def YG(p:Pg)(f:Pr)(procs:List Str)(t:S):Bool:=(XM t).all (fun n=> !(X9 p f n==0))&&(decide (t.kind≠4)||(!(t.proc==mainS)&&procs.any fun s=>t.proc==s))
theorem Bv(p:Pg)(f:Pr)(procs:List Str)(t:S)(ha:t.args.length<=20000):SpecP prog 132 [.agg p.cells,.agg f.cells,eStrs procs,.agg t.cells] (fun r=>r=.bool (YG p f procs t)):=by
 refine sB Yb func132 rfl call132 ?_;conv=>whnf
 repeat' ((first|(refine iM fun _=>?_)|refine cP (Uz _ ha) ?_);conv=>whnf)
 have hl:((XM t).map AV.str).length=(XM t).length:=q3f _;refine LoopK.inv QY (fun j:Nat=>⟨[(2,.p (eStrs procs)),(4,.p (.ip p.cells)),(5,.p (.ip f.cells)),(7,.p (.ip t.cells)),(12,.p (eStrs (XM t))),(13,.p (.int .i64 ((XM t).map AV.str).length)),(14,.p (.int .i64 j))],[]⟩) (fun j=>j<=(XM t).length/\((XM t).drop j).all (fun n=> !(X9 p f n==0))=(XM t).all (fun n=> !(X9 p f n==0))) (fun j=>(XM t).length-j) 0 (Le.of_eq rfl) ⟨q3o _,rfl⟩ ?_;rintro j ⟨h2,h3⟩;conv=>whnf
 repeat' (first|((first|refine cP (Lw _ _ _) ?_|refine cP (QX _ _) ?_|(refine iA fun _=>?_)|refine wI ?_);conv=>whnf)|(apply bD<;>intro _<;>first|omega|conv=>whnf)|(apply bE<;>intro _<;>first|omega|conv=>whnf)|(apply bN<;>intro _<;>conv=>whnf))
 ·exact RetK.ff (by
   have e:=Vo (p:=fun n=> !(X9 p f n==0)) (l:=XM t) (j:=j) (by omega) (by simp;assumption);rw[YG,<-h3,e,Bool.false_and])
 ·exact⟨j+1,⟨by omega,by rw[<-h3,Zx (p:=fun n=> !(X9 p f n==0)) (by omega) (by simp;assumption)]⟩,by omega,Le.of_eq rfl⟩
 all_goals
  have e:(XM t).all (fun n=> !(X9 p f n==0))=true:=by rw[<-h3,Zq (by omega)]
 ·exact RetK.ff (by
   have h8:(t.proc==mainS)=true:=by assumption
   rw[YG,e,h8];simp[*])
 ·exact RetK.bool (by
   have h8:(t.proc==mainS)=false:=by assumption
   rw[YG,e,h8];simp[*])
 ·exact RetK.tt (by rw[YG,e];simp[*])
def U8(c at_:Int):AV:=.agg [.int .i64 c,.int .i64 at_]
def QB(p:Pg):List Str:=p.procs.map Pr.name
def WG(p:Pg):Bool:=VV p.globals||(VV (QB p)||(!((QB p).any fun s=>mainS==s)||match p.procs.find? (fun f=>mainS==f.name)with
 |some f=>decide (0<f.params.length)
 |none=>true))
def UZ(p:Pg)(f:Pr):Option Int:=
 bif VV (Wd f)||(Wd f).any (fun n=>p.globals.any fun s=>n==s)then some 0 else((flL f.body).find? fun t=> !YG p f (QB p) t).map S.id
def QI(p:Pg):Int×Int:=
 bif HE p then bif WG p then(5,0)else match p.procs.findSome? (UZ p)with
  |some a=>(5,a)
  |none=>(0,0)
 else(1,0)
theorem Pf{l:List α}{p:α->Bool}(h:l.any p=true):∃(k:Nat) (hk:k<l.length),idxF p l=k/\p l[k]=true/\l.find? p=some l[k]:=by
 have h1:l.findIdx p<l.length:=by
  rw[List.findIdx_lt_length];exact q5l.1 h
 refine⟨l.findIdx p,h1,by unfold idxF;rw[h];rfl,List.findIdx_getElem,?_⟩;rw[List.find?_eq_some_iff_getElem];exact⟨List.findIdx_getElem,l.findIdx p,h1,rfl,fun j hj=>by simpa using List.not_of_lt_findIdx hj⟩
theorem Po(h:(QB p).any (fun s=>mainS==s)=true):∃(k:Nat) (hk:k<p.procs.length),idxF (fun s=>mainS==s) (QB p)=k/\p.procs.find? (fun f=>mainS==f.name)=some p.procs[k]:=by
 have h':p.procs.any (fun f=>mainS==f.name)=true:=by simpa[QB,List.any_map,Function.comp_def]using h
 obtain⟨k,hk,h1,_,h2⟩:=Pf h';refine⟨k,hk,?_,h2⟩;rw[<-h1];unfold idxF;rw[h,h'];simp[QB,List.findIdx_map,Function.comp_def]
theorem M7(p:Pg)(hj:p.procs[j]?=some f)(hc:cntP p.procs<=1000):SpecP prog 131 [.ip (sheetOf p).cells,.int .i64 j] (fun r=>r=VH (itL j 0 (-1) 0 (QL p.procs j) f.body)):=by
 obtain⟨_,h2,h3,h4,h5⟩:=QU p;obtain⟨h6,h7,h8,h9⟩:=h5 j f hj;have:=NX (sheetOf p) j _ _ h6 h7 (by omega) (by omega) (by omega);rw[h9]at this;exact this
theorem WO(l:List Item):(l.map fun i=>AV.agg i.cells).length=l.length:=q3f _
theorem Zp{l:List α}{f:α->Option β}(hj:j<l.length)(h:f l[j]=none):(l.drop (j+1)).findSome? f=(l.drop j).findSome? f:=by
 rw[QH hj,List.findSome?_cons,h]
theorem VQ{l:List α}{f:α->Option β}{b:β}(hj:j<l.length)(h:f l[j]=some b):(l.drop j).findSome? f=some b:=by
 rw[QH hj,List.findSome?_cons,h]
theorem Qg{l:List α}{f:α->Option β}(hj:l.length<=j):(l.drop j).findSome? f=none:=by
 rw[q4j hj];rfl
theorem FS{q:S->Bool}(l:List Item):(l.find? fun it=>q it.s).map (fun it=>it.s.id)=((l.map Item.s).find? q).map S.id:=by
 rw[List.find?_map];cases h:l.find? (q∘Item.s)with
 |none=>rw[show(l.find? fun it=>q it.s)=none from h];rfl
 |some i=>rw[show(l.find? fun it=>q it.s)=some i from h];rfl
theorem T5{l:List Pr}(hj:j<l.length)(h:wPr l[j]<=20000){b:Int}{n:Nat}(hk:k<(itL a b c d n l[j].body).length):(itL a b c d n l[j].body)[k].s.args.length<=20000:=by
 have hm:(itL a b c d n l[j].body)[k].s∈flL l[j].body:=by
  rw[<-NY a b c d n];exact q3s.2 ⟨_,q4u hk,rfl⟩
 have h1:=Dr _ _ hm;have h2:=Sn (itL a b c d n l[j].body)[k].s;have h3:=MY (itL a b c d n l[j].body)[k].s.args;unfold wPr at h;omega
theorem QM{b:Int}(h:a=c)(h':b=d):RetK H (.p (.agg [.int .i64 a,.int .i64 b])) (fun r=>r=U8 c d):=⟨_,.p (Sub.refl _),by rw[h,h'];rfl⟩
theorem YD(p:Pg)(hf:Fit p):SpecP prog 81 [.agg p.cells] (fun r=>r=U8 (QI p).1 (QI p).2):=by
 refine sB Yd func81 rfl call81 ?_;conv=>whnf
 repeat' (first|((first|(refine iM fun _=>?_)|refine cP (Kg _) ?_|refine q3l rfl ?_);conv=>whnf)|(apply bN<;>intro _<;>conv=>whnf))
 rotate_left 1
 ·exact QM (by simp[QI, *]) (by simp[QI, *])
 have hm:HE p=true:=by assumption
 obtain⟨hg,hpl,hcn⟩:=WT hm;have hl:(p.procs.map fun f=>AV.agg f.cells).length=p.procs.length:=q3f _;have hnl:(QB p).length=p.procs.length:=by simp[QB]
 refine LoopK.inv QY (fun i:Nat×List Str=>⟨[(1,.p (.ip p.cells)),(2,.ptr 1 0),(3,.hd 0 0 i.2.length),(18,.p (.sl (p.procs.map fun f=>.agg f.cells))),(19,.p (.int .i64 (p.procs.map fun f=>AV.agg f.cells).length)),(20,.p (.int .i64 i.1))],[(0,.own 9 1 (i.2.map .str)),(1,.obj 87 [.p (.int .i64 0),.p (.int .i64 0)])]⟩)
  (fun i=>i.1<=p.procs.length/\i.2=(QB p).take i.1) (fun i=>p.procs.length-i.1) (0,[])
  (Le.mk [(0,.own 9 1 [])] (by simp[Chunk.new0];rfl) (by simp) (by simp) (.r (.r (.cons (.nil q3d) (.r (.r (.r .nil)))))) (.new q3d (.cons rfl (.refl _) .nil)))
  ⟨q3o _,by simp⟩ ?_
 rintro⟨j,acc⟩ ⟨h2,h3⟩;simp only at h2 h3⊢;have hal:acc.length<=16:=by rw[h3];simp;omega
 conv=>whnf
 repeat' (first|((first|refine q3l rfl ?_|refine aD ?_|refine bP ?_|(refine iA fun _=>?_)|refine wI ?_|refine XW (by simp) (by simp;omega) ?_|(refine XG (QO acc mainS) (.cons (.hd rfl (by simp)) (.cons (.p (Sub.refl _)) .nil)) (by rintro _ rfl;rfl) ?_;rintro _ rfl)|(refine XG (BR acc) (.cons (.hd rfl (by simp)) .nil) (by rintro _ rfl;rfl) ?_;rintro _ rfl)|refine cP (BR _) ?_);conv=>whnf)|(apply bD<;>intro _<;>first|omega|conv=>whnf)|(apply bB<;>intro _<;>conv=>whnf))
 ·exact⟨(j+1,acc++[p.procs[j].name]),⟨by simp only;omega,by simp only;rw[h3,q4y (by omega)];simp[QB]⟩,by simp only;omega,Le.of_eq (by simp only[q3m,q4z];rfl)⟩
 all_goals
  have hacc:acc=QB p:=by rw[h3,q4g (by omega)]
  clear h3;subst hacc
 ·have hb:WG p=true:=by unfold WG;rw[show VV p.globals=true by assumption];rfl
  exact QM (by unfold QI;rw[hm,hb];rfl) (by unfold QI;rw[hm,hb];rfl)
 ·have hb:WG p=true:=by unfold WG;rw[show VV p.globals=false by assumption,show VV (QB p)=true by assumption];rfl
  exact QM (by unfold QI;rw[hm,hb];rfl) (by unfold QI;rw[hm,hb];rfl)
 ·have hany:((QB p).any fun s=>mainS==s)=false:=by
   rw[<-LF];simp;omega
  have hb:WG p=true:=by unfold WG;rw[show VV p.globals=false by assumption,show VV (QB p)=false by assumption,hany];rfl
  exact QM (by unfold QI;rw[hm,hb];rfl) (by unfold QI;rw[hm,hb];rfl)
 have hany:((QB p).any fun s=>mainS==s)=true:=by
  rw[<-LF];simp;omega
 obtain⟨k,hk,hik,hfind⟩:=Po hany;have hlk:(p.procs.map fun f=>AV.agg f.cells)[k]?=some (.agg p.procs[k].cells):=by simp[hk]
 have hpl2:(p.procs[k].params.map fun a=>AV.agg a.cells).length=p.procs[k].params.length:=q3f _;refine IdxK.at hik hlk rfl ?_;conv=>whnf
 repeat' (first|((first|(refine iM fun _=>?_)|refine q3l rfl ?_|(refine CallK.pure (KI p (by omega) (by omega)) (.cons (Sub.refl _) .nil) ?_;rintro _ rfl));conv=>whnf)|(apply bD<;>intro _<;>first|omega|conv=>whnf))
 ·have hb:WG p=true:=by
   unfold WG;rw[show VV p.globals=false by assumption,show VV (QB p)=false by assumption,hany,hfind];have:0<p.procs[k].params.length:=by omega
   simp[this]
  exact QM (by unfold QI;rw[hm,hb];rfl) (by unfold QI;rw[hm,hb];rfl)
 have hb:WG p=false:=by
  unfold WG;rw[show VV p.globals=false by assumption,show VV (QB p)=false by assumption,hany,hfind];have:¬0<p.procs[k].params.length:=by omega
  simp[this]
 have hsc:QI p=match p.procs.findSome? (UZ p)with
  |some a=>(5,a)
  |none=>(0,0):=by unfold QI;rw[hm,hb];rfl
 rw[hsc];refine LoopK.inv QY (fun j:Nat=>⟨[(1,.p (.ip p.cells)),(2,.ptr 1 0),(3,.hd 0 0 (QB p).length),(7,.p (.ip (sheetOf p).cells)),(57,.p (.sl (p.procs.map fun f=>.agg f.cells))),(58,.p (.int .i64 (p.procs.map fun f=>AV.agg f.cells).length)),(59,.p (.int .i64 j))],[(0,.own 9 1 ((QB p).map .str)),(1,.obj 87 [.p (.int .i64 0),.p (.int .i64 0)])]⟩)
  (fun j=>j<=p.procs.length/\(p.procs.drop j).findSome? (UZ p)=p.procs.findSome? (UZ p)) (fun j=>p.procs.length-j) 0 (Le.of_eq rfl) ⟨q3o _,rfl⟩ ?_
 clear h2 hik hfind hlk hpl2;rintro j ⟨h2,h3⟩;rcases q4w j p.procs.length with hj|hj;rotate_left 1
 ·have e:p.procs.findSome? (UZ p)=none:=by rw[<-h3,Qg hj]
  rw[e];conv=>whnf
  repeat' (first|(refine q3l rfl ?_;conv=>whnf)|(apply bD<;>intro _<;>first|omega|conv=>whnf))
  exact QM rfl rfl
 have hfp:=hf.pr (q4u hj);have hmp:=KZ.1 (B4 hm (q4u hj));conv=>whnf
 repeat' (first|((first|(refine iM fun _=>?_)|refine cP (BR _) ?_|refine q3l rfl ?_|(refine iA fun _=>?_)|(refine CallK.pure (Fz (p.procs[j]'hj) (by have:=hmp.1;omega) (by have:=hmp.2.1;omega)) (.cons (Sub.refl _) .nil) ?_;rintro _ rfl)|refine cP (VY (Wd (p.procs[j]'hj)) 130 (.ip p.cells) (fun n=>p.globals.any fun s=>n==s) (K6 p)) ?_|(refine CallK.pure (M7 p (f:=p.procs[j]'hj) (by simp) (by omega)) (.cons (Sub.refl _) (.cons (Sub.refl _) .nil)) ?_;rintro _ rfl));conv=>whnf)|(apply bD<;>intro _<;>first|omega|conv=>whnf)|(apply bB<;>intro _<;>conv=>whnf))
 ·have e:UZ p p.procs[j]=some 0:=by
   unfold UZ;rw[show VV (Wd p.procs[j])=true by assumption];rfl
  have e2:=VQ hj e;rw[h3]at e2;rw[e2];exact QM rfl rfl
 ·have e:UZ p p.procs[j]=some 0:=by
   unfold UZ;rw[show VV (Wd p.procs[j])=false by assumption,show((Wd p.procs[j]).any fun n=>p.globals.any fun s=>n==s)=true by assumption];rfl
  have e2:=VQ hj e;rw[h3]at e2;rw[e2];exact QM rfl rfl
 have hsa:UZ p p.procs[j]=((flL p.procs[j].body).find? fun t=> !YG p p.procs[j] (QB p) t).map S.id:=by
  unfold UZ;rw[show VV (Wd p.procs[j])=false by assumption,show((Wd p.procs[j]).any fun n=>p.globals.any fun s=>n==s)=false by assumption];rfl
 have hitm:∀k (hk:k<(itL (j:Nat) 0 (-1) 0 (QL p.procs j) p.procs[j].body).length),(itL (j:Nat) 0 (-1) 0 (QL p.procs j) p.procs[j].body)[k].s.args.length<=20000:=fun k hk=>T5 hj hfp hk;rw[<-NY (j:Nat) 0 (-1) 0 (QL p.procs j),<-FS]at hsa;have hib:(itL (j:Nat) 0 (-1) 0 (QL p.procs j) p.procs[j].body).length<=20000:=by
  have:=P8 p.procs[j].body;unfold wPr at hfp;rw[ZP];omega
 generalize hits:itL (j:Nat) 0 (-1) 0 (QL p.procs j) p.procs[j].body=its at hsa hitm hib⊢;have hil:=WO its;refine LoopK.inv QY (fun k:Nat=>⟨[(1,.p (.ip p.cells)),(2,.ptr 1 0),(3,.hd 0 0 (QB p).length),(7,.p (.ip (sheetOf p).cells)),(9,.p (.ip (p.procs[j]'hj).cells)),(57,.p (.sl (p.procs.map fun f=>.agg f.cells))),(58,.p (.int .i64 (p.procs.map fun f=>AV.agg f.cells).length)),(59,.p (.int .i64 j)),(76,.p (VH its)),(77,.p (.int .i64 (its.map fun i=>AV.agg i.cells).length)),(78,.p (.int .i64 k))],[(0,.own 9 1 ((QB p).map .str)),(1,.obj 87 [.p (.int .i64 0),.p (.int .i64 0)])]⟩)
  (fun k=>k<=its.length/\(its.drop k).find? (fun it=> !YG p p.procs[j] (QB p) it.s)=its.find? fun it=> !YG p p.procs[j] (QB p) it.s) (fun k=>its.length-k) 0 (Le.of_eq rfl) ⟨q3o _,rfl⟩ ?_
 rintro k ⟨h5,h6⟩;rcases q4w k its.length with hk|hk;rotate_left 1
 ·rw[<-h6,FT hk]at hsa;conv=>whnf
  repeat' (first|(refine wI ?_;conv=>whnf)|(apply bD<;>intro _<;>first|omega|conv=>whnf))
  exact⟨j+1,⟨by omega,by rw[<-h3,Zp hj hsa]⟩,by omega,Le.of_eq rfl⟩
 have hka:=hitm k hk;conv=>whnf
 repeat' (first|((first|refine q3l rfl ?_|(refine iA fun _=>?_)|refine wI ?_|(refine XG (Bv p p.procs[j] (QB p) its[k].s hka) (.cons (.p (Sub.refl _)) (.cons (.p (Sub.refl _)) (.cons (.hd rfl (by simp)) (.cons (.p (Sub.refl _)) .nil)))) (by rintro _ rfl;rfl) ?_;rintro _ rfl));conv=>whnf)|(apply bD<;>intro _<;>first|omega|conv=>whnf)|(apply bN<;>intro _<;>conv=>whnf))
 ·exact⟨k+1,⟨by omega,by rw[<-h6,LW (p:=fun it:Item=> !YG p p.procs[j] (QB p) it.s) hk (by simp;assumption)]⟩,by omega,Le.of_eq rfl⟩
 ·have e3:=FC (p:=fun it:Item=> !YG p p.procs[j] (QB p) it.s) hk (by simp;assumption);rw[<-h6,e3]at hsa;have e2:=VQ hj hsa;rw[h3]at e2;rw[e2];exact QM rfl rfl
def I4:LV->Option Bool
 |.p .tt=>some true
 |.p .ff=>some false
 |.p (.bool b)=>some b
 |_=>none
theorem P1{σ:Mem}{β:Lab}{l:LV}{v:Value}(h:RepL σ β l v)(hb:I4 l=some b):v=.bool b:=by
 cases h with
 |p h=>cases h<;>simp[I4]at hb<;>subst hb<;>rfl
 |_=>simp[I4]at hb
theorem Gg{P:Program}{T:Tab}{hr:Bool}{s:St}{o:Oper}{K:LV->Prop}(hT:TabOK P T){t u:TypeId}{x y:Operand}(hop:o.op=.binOp .neq t x y u){i:TyI}(ht:T.get t=some i)(hd:i.desc=.bool){a:Bool}(hx:I4 (QR s.sl x)=some a)(hy:I4 (QR s.sl y)=some b)(hK:K (.p (.bool (a != b)))):ValO P hr s o K:=by
 refine⟨fun σ β ac w hs _=>⟨_,.bool (a != b),hK,.p (.bool _),fun w' _ _=>?_⟩⟩;have h1:=P1 (QZ hs x) hx;have h2:=P1 (QZ hs y) hy;have hu:=hT.of ht;rw[hd]at hu;have hg:(eqGuard .neq t x y (.bool a) (.bool b)).run P w'=.ok () w':=by unfold eqGuard;rfl
 have he:(Op.equal t (.bool a) (.bool b)).run P w'=.ok (a==b) w':=by
  have e:Op.equal t (.bool a) (.bool b)=Op.equalIn (9999+1) t (.bool a) (.bool b):=rfl;rw[e,Op.equalIn,Sem.run_bind,run_underlying hu,Result.andThen_ok];rfl
 simp only[execOp,hop,h1,h2,Sem.run_bind,hg,Result.andThen_ok,binOp];simp[he];cases a<;>cases b<;>rfl
def Lx(l:List Param)(args:List Arg):Bool:=decide (l.map Param.ref=args.map Arg.ref)
theorem Mj(l:List Param)(args:List Arg):SpecP prog 180 [.sl (l.map fun a=>.agg a.cells),RV args] (fun r=>r=.bool (Lx l args)):=by
 refine sB Ki func180 rfl call180 ?_;conv=>whnf
 repeat' (first|(refine iM fun _=>?_;conv=>whnf)|(apply bE<;>intro _<;>first|omega|conv=>whnf))
 all_goals
  have hl:(l.map fun a=>AV.agg a.cells).length=l.length:=q3f _;have hl2:(args.map fun a=>AV.agg a.cells).length=args.length:=q3f _
 ·have hlen:l.length=args.length:=by omega
  refine LoopK.inv QY (fun j:Nat=>⟨[(1,.p (RV args)),(12,.p (.sl (l.map fun a=>.agg a.cells))),(13,.p (.int .i64 (l.map fun a=>AV.agg a.cells).length)),(14,.p (.int .i64 j))],[]⟩) (fun j=>j<=l.length/\(l.map Param.ref).take j=(args.map Arg.ref).take j) (fun j=>l.length-j) 0 (Le.of_eq rfl) ⟨q3o _,rfl⟩ ?_;rintro j ⟨h2,h3⟩;rcases q4w j l.length with hj|hj
  ·conv=>whnf
   repeat' (first|((first|refine dA ?_|refine q3l rfl ?_|(refine iA fun _=>?_)|refine wI ?_|refine Gg QY rfl rfl rfl rfl rfl ?_);conv=>whnf)|(apply bD<;>intro _<;>first|omega|conv=>whnf)|(apply bE<;>intro _<;>first|omega|conv=>whnf))
   ·have hne:l[j].ref=(args[j]'(by omega)).ref:=by assumption
    exact⟨j+1,⟨by omega,by
     rw[q4y (by simp;omega),q4y (by simp;omega),h3];simp[hne]⟩,by omega,Le.of_eq rfl⟩
   ·have hne:¬l[j].ref=(args[j]'(by omega)).ref:=by assumption
    exact RetK.ff (by
     unfold Lx;rw[q6z];intro he;have:(l.map Param.ref)[j]?=(args.map Arg.ref)[j]?:=by rw[he]
     rw[q4x,q4x,q3b hj,q3b (by omega)]at this;simp at this;exact hne this)
  ·conv=>whnf
   repeat' (apply bD<;>intro _<;>first|omega|conv=>whnf)
   exact RetK.tt (by
    unfold Lx;rw[q4o]
    rwa[q4g (by simp;omega),q4g (by simp;omega)]at h3)
 ·exact RetK.ff (by
   unfold Lx;rw[q6z];intro he;have:=q5i List.length he;simp at this;omega)
def HM(p:Pg)(s:S):Bool:=decide (s.kind=4)&&match p.procs.find? (fun f=>f.name==s.proc)with
 |some f=>Lx f.params s.args
 |none=>false
theorem My(p:Pg)(s:S):SpecP prog 133 [.agg p.cells,.agg s.cells] (fun r=>r=.bool (HM p s)):=by
 refine sB Ke func133 rfl call133 ?_;conv=>whnf
 repeat' (first|(refine iM fun _=>?_;conv=>whnf)|(apply bE<;>intro _<;>first|omega|conv=>whnf))
 ·have hl:(p.procs.map fun f=>AV.agg f.cells).length=p.procs.length:=q3f _;refine LoopK.inv QY (fun j:Nat=>⟨[(3,.p (.ip s.cells)),(11,.p (.sl (p.procs.map fun f=>.agg f.cells))),(12,.p (.int .i64 (p.procs.map fun f=>AV.agg f.cells).length)),(13,.p (.int .i64 j))],[]⟩) (fun j=>j<=p.procs.length/\(p.procs.drop j).find? (fun f=>f.name==s.proc)=p.procs.find? (fun f=>f.name==s.proc)) (fun j=>p.procs.length-j) 0 (Le.of_eq rfl) ⟨q3o _,rfl⟩ ?_;rintro j ⟨h2,h3⟩;conv=>whnf
  repeat' (first|((first|refine cP (Mj _ _) ?_|refine q3l rfl ?_|(refine iA fun _=>?_)|refine wI ?_);conv=>whnf)|(apply bD<;>intro _<;>first|omega|conv=>whnf)|(apply bB<;>intro _<;>conv=>whnf))
  ·have e:=FC (p:=fun f:Pr=>f.name==s.proc) (l:=p.procs) (j:=j) (by omega) (by assumption);rw[h3]at e;exact RetK.bool (by unfold HM;rw[e];simp[*])
  ·exact⟨j+1,⟨by omega,by rw[<-h3,LW (p:=fun f:Pr=>f.name==s.proc) (by omega) (by assumption)]⟩,by omega,Le.of_eq rfl⟩
  ·have e:p.procs.find? (fun f=>f.name==s.proc)=none:=by rw[<-h3,FT (by omega)]
   exact RetK.ff (by unfold HM;rw[e];simp)
 ·exact RetK.ff (by unfold HM;simp[*])
def YP(p:Pg):List S:=p.procs.flatMap fun f=>flL f.body
theorem Ac:∀(l:List Pr)(i:Nat)(acc:List Item)(lo hi:List Int),(Vz i acc lo hi l).1.map Item.s=acc.map Item.s++l.flatMap fun f=>flL f.body
 |[],i,acc,lo,hi=>by rw[Vz];simp
 | f::r,i,acc,lo,hi=>by
   rw[Vz,Ac r,NS,q4z,NY,q5o,q4c]
theorem GK(p:Pg):(sheetOf p).l.map Item.s=YP p:=by
 have:=Ac p.procs 0 [] [] [];unfold sheetOf YP;simpa using this
theorem Lu(hf:Fit p)(hk:k<(sheetOf p).l.length):wS (sheetOf p).l[k].s<=20000:=by
 have hm:(sheetOf p).l[k].s∈YP p:=by
  rw[<-GK];exact q3s.2 ⟨_,q4u hk,rfl⟩
 unfold YP at hm;obtain⟨f,h1,h2⟩:=q5g.1 hm;have h3:=Dr _ _ h2;have h4:=hf.pr h1;unfold wPr at h4;omega
def UY(p:Pg):Int×Int:=
 if(QI p).1≠0 then(1,0)else match(YP p).find? fun t=>decide (t.kind=4) && !HM p t with
  |some t=>(6,t.id)
  |none=>(0,0)
theorem JX(h:(QI p).1=0):HE p=true/\WG p=false/\p.procs.findSome? (UZ p)=none:=by
 unfold QI at h;cases hm:HE p<;>rw[hm]at h
 ·cases h
 cases hb:WG p<;>rw[hb]at h
 ·refine⟨rfl,rfl,?_⟩;simp only[q4v,q4f]at h;split at h
  ·cases h
  ·assumption
 ·cases h
theorem Zu(p:Pg)(hf:Fit p):SpecP prog 82 [.agg p.cells] (fun r=>r=U8 (UY p).1 (UY p).2):=by
 refine sB Yj func82 rfl call82 ?_;conv=>whnf
 repeat' (first|((first|refine cP (YD p hf) ?_|refine q3l rfl ?_);conv=>whnf)|(apply bE<;>intro _<;>first|omega|conv=>whnf))
 rotate_left 1
 ·have e:UY p=(1,0):=by unfold UY;rw[if_pos (by assumption)]
  exact QM (by rw[e]) (by rw[e])
 have hs:(QI p).1=0:=by assumption
 obtain⟨hm,hb,hns⟩:=JX hs;obtain⟨hg,hpl,hcn⟩:=WT hm;have hA:UY p=match(YP p).find? fun t=>decide (t.kind=4) && !HM p t with
  |some t=>(6,t.id)
  |none=>(0,0):=by unfold UY;rw[if_neg (by omega)]
 repeat' ((first|(refine iM fun _=>?_)|(refine CallK.pure (KI p (by omega) (by omega)) (.cons (Sub.refl _) .nil) ?_;rintro _ rfl));conv=>whnf)
 have hil:=WO (sheetOf p).l;have hib:(sheetOf p).l.length<=200:=by have:=(QU p).2.2.2.1;omega
 have hfi:=FS (q:=fun t=>decide (t.kind=4) && !HM p t) (sheetOf p).l;rw[GK]at hfi;have hA2:UY p=match((sheetOf p).l.find? fun it=>decide (it.s.kind=4) && !HM p it.s).map (fun it=>it.s.id)with
  |some a=>(6,a)
  |none=>(0,0):=by
  rw[hA,hfi];cases(YP p).find? fun t=>decide (t.kind=4) && !HM p t<;>rfl
 rw[hA2];refine LoopK.inv QY (fun k:Nat=>⟨[(1,.p (.ip p.cells)),(2,.ptr 1 0),(14,.p (VH (sheetOf p).l)),(15,.p (.int .i64 ((sheetOf p).l.map fun i=>AV.agg i.cells).length)),(16,.p (.int .i64 k))],[(1,.obj 87 [.p (.int .i64 0),.p (.int .i64 0)])]⟩)
  (fun k=>k<=(sheetOf p).l.length/\((sheetOf p).l.drop k).find? (fun it=>decide (it.s.kind=4) && !HM p it.s)=(sheetOf p).l.find? fun it=>decide (it.s.kind=4) && !HM p it.s) (fun k=>(sheetOf p).l.length-k) 0 (Le.of_eq rfl) ⟨q3o _,rfl⟩ ?_
 rintro k ⟨h5,h6⟩;rcases q4w k (sheetOf p).l.length with hk|hk;rotate_left 1
 ·rw[<-h6,FT hk];conv=>whnf
  repeat' (first|(refine q3l rfl ?_;conv=>whnf)|(apply bD<;>intro _<;>first|omega|conv=>whnf))
  exact QM rfl rfl
 conv=>whnf
 repeat' (first|((first|refine cP (My _ _) ?_|refine q3l rfl ?_|(refine iA fun _=>?_)|refine wI ?_);conv=>whnf)|(apply bD<;>intro _<;>first|omega|conv=>whnf)|(apply bN<;>intro _<;>conv=>whnf))
 all_goals first
  | (have e3:=FC (p:=fun it:Item=>decide (it.s.kind=4) && !HM p it.s) hk (by simp[*])
     rw[<-h6,e3];exact QM rfl rfl)
  |exact⟨k+1,⟨by omega,by rw[<-h6,LW (p:=fun it:Item=>decide (it.s.kind=4) && !HM p it.s) hk (by simp[*])]⟩,by omega,Le.of_eq rfl⟩
def YK:List Str->List Str->Option (List Str)
 |seen,[]=>some seen
 |seen,n::r=>bif seen.any (fun s=>n==s)then none else YK (seen++[n]) r
theorem Cx(hj:j<l.length)(h:(seen.any fun s=>l[j]==s)=true):YK seen (l.drop j)=none:=by
 rw[QH hj,YK,h];rfl
theorem T7(hj:j<l.length)(h:(seen.any fun s=>l[j]==s)=false):YK seen (l.drop j)=YK (seen++[l[j]]) (l.drop (j+1)):=by
 rw[QH hj,YK,h];rfl
theorem Hd:∀{l seen out:List Str},YK seen l=some out->out=seen++l
 |[],seen,out,h=>by rw[YK]at h;cases h;simp
 | n::r,seen,out,h=>by
   rw[YK]at h;cases hc:(seen.any fun s=>n==s)<;>rw[hc]at h
   ·have:=Hd h;simpa using this
   ·cases h
def T8(t:Nat)(seen l:List Str)(r:LV)(H:Heap):Prop:=
 match YK seen l with
 |some out=>r=.tup [.hd 2000 0 out.length,.p .tt]/\H=R1 t out
 |none=>∃out,r=.tup [.hd 2000 0 out.length,.p .ff]/\H=R1 t out
theorem W3{t:Nat}{Q:LV->Heap->Prop}(h1:YK seen l=some (seen++l)->Q (.tup [.hd 2000 0 (seen++l).length,.p .tt]) (R1 t (seen++l)))(h2:YK seen l=none->∀out,Q (.tup [.hd 2000 0 out.length,.p .ff]) (R1 t out)):∀l' H',T8 t seen l l' H'->Q l' H':=by
 intro l' H' h;unfold T8 at h;cases hr:YK seen l with
 | some out=>
   rw[hr]at h;obtain⟨rfl,rfl⟩:=h;have:=Hd hr;subst this;exact h1 hr
 | none=>
   rw[hr]at h;obtain⟨out,rfl,rfl⟩:=h;exact h2 hr out
theorem Hb(seen l:List Str)(hlen:seen.length+l.length<=1000000000):
  SpecH prog 135 [.hd 2000 0 seen.length,.p (eStrs l)] (R1 9 seen) (T8 9 seen l):=by
 refine sH D9 func135 rfl call135 ?_;conv=>whnf
 repeat' (refine iM fun _=>?_;conv=>whnf)
 have hl:(l.map AV.str).length=l.length:=q3f _;refine LoopK.inv QY (fun i:Nat×List Str=>⟨[(0,.hd 2000 0 i.2.length),(8,.p (eStrs l)),(9,.p (.int .i64 (l.map AV.str).length)),(10,.p (.int .i64 i.1))],R1 9 i.2⟩) (fun i=>i.1<=l.length/\i.2.length+(l.length-i.1)=seen.length+l.length/\YK i.2 (l.drop i.1)=YK seen l) (fun i=>l.length-i.1) (0,seen) (Le.of_eq rfl) ⟨q3o _,by simp,rfl⟩ ?_;rintro⟨j,acc⟩ ⟨h2,h3,h4⟩;simp only at h2 h3 h4⊢;rcases q4w j l.length with hj|hj
 ·conv=>whnf
  repeat' (first|((first|refine q3l rfl ?_|refine aD ?_|refine bP ?_|(refine iA fun _=>?_)|refine wI ?_|(refine XG (QX acc (l[j]'hj)) (.cons (.hd rfl (by simp)) (.cons (.p (Sub.refl _)) .nil)) (by rintro _ rfl;rfl) ?_;rintro _ rfl)|refine XW (by simp) (by simp;omega) ?_);conv=>whnf)|(apply bD<;>intro _<;>first|omega|conv=>whnf)|(apply bB<;>intro _<;>conv=>whnf))
  ·exact⟨_,.refl _,by unfold T8;rw[<-h4,Cx hj (by assumption)];exact⟨acc,rfl,rfl⟩⟩
  ·exact⟨(j+1,acc++[l[j]]),⟨by simp only;omega,by simp;omega,by simp only;rw[<-h4,T7 hj (by assumption)]⟩,by simp only;omega,Le.of_eq (by simp only[R1,q3m,q4z];rfl)⟩
 ·conv=>whnf
  repeat' (apply bD<;>intro _<;>first|omega|conv=>whnf)
  rw[q4j hj,YK]at h4;exact⟨_,.refl _,by unfold T8;rw[<-h4];exact⟨rfl,rfl⟩⟩
def atB(f:Pr)(label:Str):Int×Bool:=
 match(flL f.body).find? fun t=>t.labels.any fun s=>label==s with
 |some t=>(t.id,true)
 |none=>bif f.fin.any fun s=>label==s then(-1,true)else(0,false)
theorem RetK.tup2{k:IntKind}{m n:Int}{x:AV}(h:m=n)(hb:Sub x (.bool b)):RetK H (.p (.tup [.int k m,x])) (fun r=>r=.tup [.int k n,.bool b]):=
 ⟨_,.p (Sub.tup (SubL.cons (Sub.int h) (SubL.cons hb SubL.nil))),rfl⟩
theorem KO(p:Pg)(j:Nat)(f:Pr)(hj:p.procs[j]?=some f)(hc:cntP p.procs<=1000)(label:Str):SpecP prog 122 [.ip (sheetOf p).cells,.int .i64 j,.str label] (fun r=>r=.tup [.int .i64 (atB f label).1,.bool (atB f label).2]):=by
 refine sB Xc func122 rfl call122 ?_;conv=>whnf
 repeat' ((first|(refine iM fun _=>?_)|refine cP (M7 p hj hc) ?_);conv=>whnf)
 have hfi:=FS (q:=fun t=>t.labels.any fun s=>label==s) (itL (j:Nat) 0 (-1) 0 (QL p.procs j) f.body);rw[NY]at hfi;have hib:(itL (j:Nat) 0 (-1) 0 (QL p.procs j) f.body).length<=1000:=by
  have:=(QU p).2.2.2.2 j f hj;rw[ZP];omega
 generalize hits:itL (j:Nat) 0 (-1) 0 (QL p.procs j) f.body=its at hfi hib⊢;have hil:=WO its;have hat:atB f label=match(its.find? fun it=>it.s.labels.any fun s=>label==s).map (fun it=>it.s.id)with
  |some a=>(a,true)
  |none=>bif f.fin.any fun s=>label==s then(-1,true)else(0,false):=by
  unfold atB;rw[hfi];cases(flL f.body).find? fun t=>t.labels.any fun s=>label==s<;>rfl
 rw[hat];refine LoopK.inv QY (fun k:Nat=>⟨[(0,.p (.ip (sheetOf p).cells)),(1,.p (.int .i64 j)),(2,.p (.str label)),(12,.p (VH its)),(13,.p (.int .i64 (its.map fun i=>AV.agg i.cells).length)),(14,.p (.int .i64 k))],[]⟩)
  (fun k=>k<=its.length/\(its.drop k).find? (fun it=>it.s.labels.any fun s=>label==s)=its.find? fun it=>it.s.labels.any fun s=>label==s) (fun k=>its.length-k) 0 (Le.of_eq rfl) ⟨q3o _,rfl⟩ ?_
 rintro k ⟨h5,h6⟩;rcases q4w k its.length with hk|hk
 ·conv=>whnf
  repeat' (first|((first|refine cP (QX _ _) ?_|refine q3l rfl ?_|(refine iA fun _=>?_)|refine wI ?_);conv=>whnf)|(apply bD<;>intro _<;>first|omega|conv=>whnf)|(apply bB<;>intro _<;>conv=>whnf))
  ·have e3:=FC (p:=fun it:Item=>it.s.labels.any fun s=>label==s) hk (by assumption);rw[<-h6,e3];exact RetK.tup2 rfl (Sub.tt rfl)
  ·exact⟨k+1,⟨by omega,by rw[<-h6,LW (p:=fun it:Item=>it.s.labels.any fun s=>label==s) hk (by assumption)]⟩,by omega,Le.of_eq rfl⟩
 ·rw[<-h6,FT hk];have hpj:(p.procs.map fun f=>AV.agg f.cells)[j]?=some (.agg f.cells):=by simp[hj]
  conv=>whnf
  repeat' (first|((first|refine cP (QX _ _) ?_|(refine IdxK.at rfl hpj rfl ?_));conv=>whnf)|(apply bD<;>intro _<;>first|omega|conv=>whnf)|(apply bB<;>intro _<;>conv=>whnf))
  ·exact RetK.tup2 (by simp[*]) (Sub.tt (by simp[*]))
  ·exact RetK.tup2 (by simp[*]) (Sub.ff (by simp[*]))
def YI(f:Pr)(it:Item):Bool:=if it.s.kind=7\/it.s.kind=8 then !(it.loop==0)else if it.s.kind=10 then(atB f it.s.name).2 else true
theorem Ma(p:Pg)(j:Nat)(f:Pr)(hj:p.procs[j]?=some f)(hc:cntP p.procs<=1000)(it:Item)(hp:it.proc=j):SpecP prog 136 [.ip (sheetOf p).cells,.agg it.cells] (fun r=>r=.bool (YI f it)):=by
 refine sB G6 func136 rfl call136 ?_;conv=>whnf
 repeat' (first|(refine CallK.pure (KO p j f hj hc it.s.name) (.cons (Sub.refl _) (.cons (Sub.int hp) (.cons (Sub.refl _) .nil))) ?_;rintro _ rfl;conv=>whnf)|(apply bD<;>intro _<;>first|omega|conv=>whnf))
 all_goals first
  |exact RetK.bool (by simp[YI, *];rfl)
  |exact RetK.bool (by simp[YI, *])
  |exact RetK.tt (by simp[YI, *])
theorem Me(p:Pg)(hf:Fit p)(h:(QI p).1=0):SpecP prog 134 [.agg p.cells] (fun r=>r=.ip (sheetOf p).cells):=by
 refine sB Q9 func134 rfl call134 ?_;conv=>whnf
 obtain⟨hm,hb,hns⟩:=JX h;obtain⟨hg,hpl,hcn⟩:=WT hm;repeat' (first|((first|refine cP (YD p hf) ?_|(refine CallK.pure (KI p (by omega) (by omega)) (.cons (Sub.refl _) .nil) ?_;rintro _ rfl));conv=>whnf)|(apply bE<;>intro _<;>first|omega|conv=>whnf))
 exact RetK.p rfl
theorem Jd(p:Pg)(hf:Fit p)(h:(QI p).1≠0):SpecP prog 134 [.agg p.cells] (fun r=>r=.nilp):=by
 refine sB Q9 func134 rfl call134 ?_;conv=>whnf
 repeat' (first|(refine cP (YD p hf) ?_;conv=>whnf)|(apply bE<;>intro _<;>first|omega|conv=>whnf))
 exact RetK.p rfl
mutual
theorem C9(proc up nx loop:Int)(n:Nat):∀(t:S)(it:Item),it∈itS proc up nx loop n t->it.proc=proc
 | .mk id kind labels name pr x has args thn els,it,h=>by
   rw[itS]at h;rcases q3t.1 h with rfl|h
   ·rfl
   ·rcases q3a.1 h with h|h
    ·exact FE _ _ _ _ _ thn it h
    ·exact FE _ _ _ _ _ els it h
theorem FE(proc up nx loop:Int)(n:Nat):∀(l:List S)(it:Item),it∈itL proc up nx loop n l->it.proc=proc
 |[],it,h=>by rw[itL]at h;cases h
 | t::r,it,h=>by
   rw[itL]at h;rcases q3a.1 h with h|h
   ·exact C9 _ _ _ _ _ t it h
   ·exact FE _ _ _ _ _ r it h
end
def DU(f:Pr):List Item->List Str->Except Int (List Str)
 |[],seen=>.ok seen
 | it::r,seen=>match YK seen it.s.labels with
   |none=>.error it.s.id
   |some s=>bif YI f it then DU f r s else .error it.s.id
def YE(p:Pg)(j:Nat):Option Int:=
 match p.procs[j]?with
 |none=>none
 | some f=>match DU f (itL (j:Nat) 0 (-1) 0 (QL p.procs j) f.body) []with
   |.error id=>some id
   | .ok seen=>match YK seen f.fin with
     |none=>some 0
     |some _=>none
def X7(p:Pg):Int×Int:=
 if(QI p).1≠0 then(1,0)else match(List.range p.procs.length).findSome? (YE p)with
  |some a=>(7,a)
  |none=>(0,0)
theorem Cz(hk:k<its.length)(h:YK seen its[k].s.labels=none):DU f (its.drop k) seen=.error its[k].s.id:=by
 rw[QH hk,DU,h]
theorem T9{s:List Str}(hk:k<its.length)(h:YK seen its[k].s.labels=some s)(hl:YI f its[k]=false):DU f (its.drop k) seen=.error its[k].s.id:=by
 rw[QH hk,DU,h];simp only[hl,q4f]
theorem Tq{s:List Str}(hk:k<its.length)(h:YK seen its[k].s.labels=some s)(hl:YI f its[k]=true):DU f (its.drop k) seen=DU f (its.drop (k+1)) s:=by
 rw[QH hk,DU,h];simp only[hl,q4v]
theorem B1{l:List Pr}(hj:j<l.length)(h:wPr l[j]<=20000){b:Int}{n:Nat}(hk:k<(itL a b c d n l[j].body).length):(itL a b c d n l[j].body)[k].s.labels.length<=20000:=by
 have hm:(itL a b c d n l[j].body)[k].s∈flL l[j].body:=by
  rw[<-NY a b c d n];exact q3s.2 ⟨_,q4u hk,rfl⟩
 have h1:=Dr _ _ hm;have h2:=Sn (itL a b c d n l[j].body)[k].s;have h3:=Kd (itL a b c d n l[j].body)[k].s.labels;unfold wPr at h;omega
theorem Ms(p:Pg)(hf:Fit p):SpecP prog 83 [.agg p.cells] (fun r=>r=U8 (X7 p).1 (X7 p).2):=by
 refine sB G5 func83 rfl call83 ?_;conv=>whnf
 rcases Decidable.em ((QI p).1=0)with hs|hs;rotate_left 1
 ·
  repeat' ((first|refine cP (Jd p hf hs) ?_|refine q3l rfl ?_);conv=>whnf)
  have e:X7 p=(1,0):=by unfold X7;rw[if_pos hs]
  exact QM (by rw[e]) (by rw[e])
 obtain⟨hm,hb,hns⟩:=JX hs;obtain⟨hg,hpl,hcn⟩:=WT hm;have hJ:X7 p=match(List.range p.procs.length).findSome? (YE p)with
  |some a=>(7,a)
  |none=>(0,0):=by unfold X7;rw[if_neg (by omega)]
 rw[hJ];have hl:(p.procs.map fun f=>AV.agg f.cells).length=p.procs.length:=q3f _;repeat' ((first|(refine iM fun _=>?_)|refine cP (Me p hf hs) ?_);conv=>whnf)
 refine LoopK.inv QY (fun j:Nat=>⟨[(2,.ptr 1 0),(3,.p (.ip (sheetOf p).cells)),(16,.p (.sl (p.procs.map fun f=>.agg f.cells))),(17,.p (.int .i64 (p.procs.map fun f=>AV.agg f.cells).length)),(18,.p (.int .i64 j))],[(1,.obj 87 [.p (.int .i64 0),.p (.int .i64 0)])]⟩)
  (fun j=>j<=p.procs.length/\((List.range p.procs.length).drop j).findSome? (YE p)=(List.range p.procs.length).findSome? (YE p)) (fun j=>p.procs.length-j) 0 (Le.of_eq rfl) ⟨q3o _,rfl⟩ ?_
 rintro j ⟨h2,h3⟩;rcases q4w j p.procs.length with hj|hj;rotate_left 1
 ·have e:(List.range p.procs.length).findSome? (YE p)=none:=by rw[<-h3,Qg (by simpa using hj)]
  rw[e];conv=>whnf
  repeat' (first|(refine q3l rfl ?_;conv=>whnf)|(apply bD<;>intro _<;>first|omega|conv=>whnf))
  exact QM rfl rfl
 have hfp:=hf.pr (q4u hj);have hjr:j<(List.range p.procs.length).length:=by simpa using hj
 have hrj:(List.range p.procs.length)[j]=j:=by simp
 have hpj:p.procs[j]?=some p.procs[j]:=by simp[hj]
 conv=>whnf
 repeat' (first|((first|(refine iM fun _=>?_)|refine q3l rfl ?_|(refine iA fun _=>?_)|(refine CallK.pure (M7 p (f:=p.procs[j]'hj) hpj (by omega)) (.cons (Sub.refl _) (.cons (Sub.refl _) .nil)) ?_;rintro _ rfl));conv=>whnf)|(apply bD<;>intro _<;>first|omega|conv=>whnf))
 have hlab:∀k (hk:k<(itL (j:Nat) 0 (-1) 0 (QL p.procs j) p.procs[j].body).length),(itL (j:Nat) 0 (-1) 0 (QL p.procs j) p.procs[j].body)[k].s.labels.length<=20000:=fun k hk=>B1 hj hfp hk;have hprc:∀k (hk:k<(itL (j:Nat) 0 (-1) 0 (QL p.procs j) p.procs[j].body).length),(itL (j:Nat) 0 (-1) 0 (QL p.procs j) p.procs[j].body)[k].proc=j:=fun k hk=>FE _ _ _ _ _ _ _ (q4u hk);have hib:(itL (j:Nat) 0 (-1) 0 (QL p.procs j) p.procs[j].body).length<=200:=by
  have:=(QU p).2.2.2.2 j _ hpj;rw[ZP];omega
 have hja:YE p j=match DU p.procs[j] (itL (j:Nat) 0 (-1) 0 (QL p.procs j) p.procs[j].body) []with
  |.error id=>some id
  | .ok seen=>match YK seen p.procs[j].fin with
    |none=>some 0
    |some _=>none:=by
  unfold YE;rw[hpj]
 generalize hits:itL (j:Nat) 0 (-1) 0 (QL p.procs j) p.procs[j].body=its at hlab hprc hib hja⊢;have hil:=WO its;refine LoopK.inv QY (fun i:Nat×List Str=>⟨[(2,.ptr 1 0),(3,.p (.ip (sheetOf p).cells)),(5,.p (.ip (p.procs[j]'hj).cells)),(6,.hd 0 0 i.2.length),(16,.p (.sl (p.procs.map fun f=>.agg f.cells))),(17,.p (.int .i64 (p.procs.map fun f=>AV.agg f.cells).length)),(18,.p (.int .i64 j)),(25,.p (VH its)),(26,.p (.int .i64 (its.map fun i=>AV.agg i.cells).length)),(27,.p (.int .i64 i.1))],[(0,.own 9 1 (i.2.map .str)),(1,.obj 87 [.p (.int .i64 0),.p (.int .i64 0)])]⟩)
  (fun i=>i.1<=its.length/\i.2.length<=20000*i.1/\DU p.procs[j] (its.drop i.1) i.2=DU p.procs[j] its []) (fun i=>its.length-i.1) (0,[])
  (Le.mk [(0,.own 9 1 [])] (by simp[Chunk.new0];rfl) (by simp) (by simp) (.r (.r (.r (.cons (.nil q3d) (.r (.r (.r (.r (.r (.r .nil)))))))))) (.new q3d (.cons rfl (.refl _) .nil)))
  ⟨q3o _,by simp,rfl⟩ ?_
 rintro⟨k,acc⟩ ⟨h5,h6,h7⟩;simp only at h5 h6 h7⊢;rcases q4w k its.length with hk|hk
 ·have hlk:=hlab k hk;conv=>whnf
  repeat' (first|((first|refine q3l rfl ?_|(refine iA fun _=>?_)|refine wI ?_|(refine CallK.pure (Ma p j p.procs[j] hpj (by omega) its[k] (hprc k hk)) (.cons (Sub.refl _) (.cons (Sub.refl _) .nil)) ?_;rintro _ rfl));conv=>whnf)|(apply bD<;>intro _<;>first|omega|conv=>whnf)|(apply bN<;>intro _<;>conv=>whnf)|(refine CallK.heap [(2000,0)] 0 (by repeat' (first|exact q4d|refine q3i ?_ ?_|exact q3e _|exact q4q Sub.nils|exact q4q (Sub.tt rfl)|exact q4q (Sub.ff rfl)|exact q4q (Sub.int (by omega)))) (by refine q3h (j:=0) rfl rfl ?_ ?_;exact CSub.refl _;exact q4b) (Hb acc its[k].s.labels (by omega)) rfl rfl (W3 (fun hjo=>?_) (fun hjo out=>?_))<;>conv=>whnf))
  ·exact⟨(k+1,acc++its[k].s.labels),⟨by simp only;omega,by simp;omega,by simp only;rw[<-h7,Tq hk hjo (by assumption)]⟩,by simp only;omega,Le.of_eq rfl⟩
  ·rw[<-h7,T9 hk hjo (by assumption)]at hja;have e2:=VQ (f:=YE p) hjr (by rw[hrj];exact hja);rw[h3]at e2;rw[e2];exact QM rfl rfl
  ·rw[<-h7,Cz hk hjo]at hja;have e2:=VQ (f:=YE p) hjr (by rw[hrj];exact hja);rw[h3]at e2;rw[e2];exact QM rfl rfl
 ·have hfin:p.procs[j].fin.length<=20000:=by
   have:=Kd p.procs[j].fin;unfold wPr at hfp;omega
  rw[q4j hk,DU]at h7;rw[<-h7]at hja;simp only at hja;conv=>whnf
  repeat' (first|((first|refine q3l rfl ?_|refine wI ?_);conv=>whnf)|(apply bD<;>intro _<;>first|omega|conv=>whnf)|(refine CallK.heap [(2000,0)] 0 (by repeat' (first|exact q4d|refine q3i ?_ ?_|exact q3e _|exact q4q Sub.nils|exact q4q (Sub.tt rfl)|exact q4q (Sub.ff rfl)|exact q4q (Sub.int (by omega)))) (by refine q3h (j:=0) rfl rfl ?_ ?_;exact CSub.refl _;exact q4b) (Hb acc p.procs[j].fin (by omega)) rfl rfl (W3 (fun hjo=>?_) (fun hjo out=>?_))<;>conv=>whnf))
  ·rw[hjo]at hja;exact⟨j+1,⟨by omega,by rw[<-h3,Zp (f:=YE p) hjr (by rw[hrj];exact hja)]⟩,by omega,Le.of_eq rfl⟩
  ·rw[hjo]at hja;have e2:=VQ (f:=YE p) hjr (by rw[hrj];exact hja);rw[h3]at e2;rw[e2];exact QM rfl rfl
theorem JB{sz:Nat}{out:List LV}{Kp Ko:Prop}(hx:(es.all fun x=>x.cells.length==sz)=true)(ho:out=(es.flatMap AV.cells).map .p)(hK:Kp):BsK es sz out Kp Ko:=.pure (fun x h=>by simpa using q5k.1 hx x h) ho hK
def w64(n:Int):Int:=IntKind.wrap .i64 n
def Rf(b:Bool):Int:=bif b then 1 else 0
def Se(op a:Int):Int×Bool:=if op=3 then(w64 (0-a),true)else if op=4 then(Rf (a==0),true)else(0,false)
def Ox(op a b:Int):Int×Bool:=if b=0 then(0,false)else if b = -1 then(if op=7 then(0,true)else if a = -9223372036854775808 then(a,true)else(w64 (0-a),true))else if op=7 then(a.tmod b,true)else(w64 (a.tdiv b),true)
def Oq(op a b:Int):Int×Bool:=if op=10 then(Rf (decide (a<b)),true)else if op=11 then(Rf (decide (a<=b)),true)else if op=12 then(Rf (decide (a>b)),true)else if op=13 then(Rf (decide (a≥b)),true)else if op=14 then(Rf (a==b),true)else if op=15 then(Rf (a != b),true)else(0,false)
def O0(op a b:Int):Int×Bool:=if op=8 then(w64 (a+b),true)else if op=9 then(w64 (a-b),true)else if op=5 then(w64 (a*b),true)else if op=6\/op=7 then Ox op a b else if op=16 then(Rf (a != 0&&b != 0),true)else if op=17 then(Rf (a != 0||b != 0),true)else Oq op a b
def Ay(r:Int×Bool):AV:=.tup [.int .i64 r.1,.bool r.2]
theorem QF{x:AV}{r:Int×Bool}(h1:a=r.1)(h2:Sub x (.bool r.2)):RetK H (.p (.tup [.int .i64 a,x])) (fun y=>y=Ay r):=RetK.tup2 h1 h2
theorem DW(b:Bool):SpecP prog 269 [.bool b] (fun r=>r=.int .i64 (Rf b)):=by
 refine sB M6 func269 rfl call269 ?_;conv=>whnf
 repeat' (apply bB<;>intro _<;>conv=>whnf)
 all_goals exact RetK.int (by simp_all[Rf])
theorem Lt(a:Int):SpecP prog 249 [.int .i64 a] (fun r=>r=.bool (a != 0)):=by
 refine sB Gu func249 rfl call249 ?_;conv=>whnf
 skip
 all_goals exact RetK.bool rfl
theorem A5(op a:Int):SpecP prog 248 [.int .i64 op,.int .i64 a] (fun r=>r=Ay (Se op a)):=by
 refine sB M4 func248 rfl call248 ?_;conv=>whnf
 repeat' (first|((first|refine cP (DW _) ?_|refine Wr.wrap ?_);conv=>whnf)|(apply bD<;>intro _<;>first|omega|conv=>whnf))
 all_goals first
  |exact QF (by unfold Se;rw[if_pos (by assumption)];rfl) (Sub.tt (by unfold Se;rw[if_pos (by assumption)]))
  |exact QF (by unfold Se;rw[if_neg (by assumption),if_pos (by assumption)]) (Sub.tt (by unfold Se;rw[if_neg (by assumption),if_pos (by assumption)]))
  |exact QF (by unfold Se;rw[if_neg (by assumption),if_neg (by assumption)]) (Sub.ff (by unfold Se;rw[if_neg (by assumption),if_neg (by assumption)]))
theorem Bt(op a b:Int):SpecP prog 270 [.int .i64 op,.int .i64 a,.int .i64 b] (fun r=>r=Ay (Ox op a b)):=by
 refine sB Ya func270 rfl call270 ?_;conv=>whnf
 unfold Ox;by_cases h0:b=0
 ·rw[if_pos h0];repeat' (apply bD<;>intro _<;>first|omega|conv=>whnf)
  all_goals exact QF rfl (Sub.ff rfl)
 rw[if_neg h0];by_cases h1:b = -1
 ·rw[if_pos h1];by_cases h7:op=7
  ·rw[if_pos h7];repeat' (apply bD<;>intro _<;>first|omega|conv=>whnf)
   all_goals exact QF rfl (Sub.tt rfl)
  rw[if_neg h7];by_cases hm:a = -9223372036854775808
  ·rw[if_pos hm];repeat' (apply bD<;>intro _<;>first|omega|conv=>whnf)
   all_goals exact QF rfl (Sub.tt rfl)
  rw[if_neg hm];repeat' (first|(refine Wr.wrap ?_;conv=>whnf)|(apply bD<;>intro _<;>first|omega|conv=>whnf))
  all_goals exact QF rfl (Sub.tt rfl)
 rw[if_neg h1];by_cases h7:op=7
 ·rw[if_pos h7];repeat' (first|(refine q3l h0 ?_;conv=>whnf)|(apply bD<;>intro _<;>first|omega|conv=>whnf))
  all_goals exact QF rfl (Sub.tt rfl)
 rw[if_neg h7];repeat' (first|((first|refine q3l h0 ?_|refine Wr.wrap ?_);conv=>whnf)|(apply bD<;>intro _<;>first|omega|conv=>whnf))
 all_goals exact QF rfl (Sub.tt rfl)
theorem Fs(op a b:Int):SpecP prog 271 [.int .i64 op,.int .i64 a,.int .i64 b] (fun r=>r=Ay (Oq op a b)):=by
 refine sB Vj func271 rfl call271 ?_;conv=>whnf
 repeat' (first|(refine cP (DW _) ?_;conv=>whnf)|(apply bD<;>intro _<;>first|omega|conv=>whnf))
 all_goals
  unfold Oq
  (repeat' first
    |rw[if_pos (by assumption)]
    |rw[if_neg (by assumption)])
  first
   |exact QF rfl (Sub.tt rfl)
   |exact QF rfl (Sub.ff rfl)
theorem A6(op a b:Int):SpecP prog 250 [.int .i64 op,.int .i64 a,.int .i64 b] (fun r=>r=Ay (O0 op a b)):=by
 refine sB M5 func250 rfl call250 ?_;conv=>whnf
 have hD:=Bt op a b;have hC:=Fs op a b;unfold O0;by_cases h8:op=8
 ·rw[if_pos h8];repeat' (first|(refine Wr.wrap ?_;conv=>whnf)|(apply bD<;>intro _<;>first|omega|conv=>whnf))
  all_goals exact QF rfl (Sub.tt rfl)
 rw[if_neg h8];by_cases h9:op=9
 ·rw[if_pos h9];repeat' (first|(refine Wr.wrap ?_;conv=>whnf)|(apply bD<;>intro _<;>first|omega|conv=>whnf))
  all_goals exact QF rfl (Sub.tt rfl)
 rw[if_neg h9];by_cases h5:op=5
 ·rw[if_pos h5];repeat' (first|(refine Wr.wrap ?_;conv=>whnf)|(apply bD<;>intro _<;>first|omega|conv=>whnf))
  all_goals exact QF rfl (Sub.tt rfl)
 rw[if_neg h5];by_cases h67:op=6\/op=7
 ·rw[if_pos h67];generalize Ox op a b=d at*
  repeat' (first|(refine cP hD ?_;conv=>whnf)|(apply bD<;>intro _<;>first|omega|conv=>whnf))
  all_goals first
   |exact QF rfl (Sub.refl _)
   |(exfalso;omega)
 rw[if_neg h67];by_cases h16:op=16
 ·rw[if_pos h16];repeat' (first|((first|refine cP (DW _) ?_|(refine CallK.pure (DW false) (.cons (Sub.ff rfl) .nil) ?_;rintro _ rfl));conv=>whnf)|(apply bD<;>intro _<;>first|omega|conv=>whnf)|(apply bE<;>intro _<;>first|omega|conv=>whnf))
  all_goals first
   |(exfalso;omega)
   |exact QF (by rw[show(a != 0)=true by simpa using(show ¬a=0 by assumption)];rfl) (Sub.tt rfl)
   |exact QF (by rw[show(a != 0)=false by simpa using(show a=0 by assumption)];rfl) (Sub.tt rfl)
   |exact QF (by simp_all;done) (Sub.tt rfl)
 rw[if_neg h16];by_cases h17:op=17
 ·rw[if_pos h17];repeat' (first|((first|refine cP (DW _) ?_|(refine CallK.pure (DW true) (.cons (Sub.tt rfl) .nil) ?_;rintro _ rfl));conv=>whnf)|(apply bD<;>intro _<;>first|omega|conv=>whnf)|(apply bE<;>intro _<;>first|omega|conv=>whnf))
  all_goals first
   |(exfalso;omega)
   |exact QF (by rw[show(a != 0)=true by simpa using(show ¬a=0 by assumption)];rfl) (Sub.tt rfl)
   |exact QF (by rw[show(a != 0)=false by simpa using(show a=0 by assumption)];rfl) (Sub.tt rfl)
   |exact QF (by simp_all;done) (Sub.tt rfl)
 rw[if_neg h17];generalize Oq op a b=d at*
 repeat' (first|(refine cP hC ?_;conv=>whnf)|(apply bD<;>intro _<;>first|omega|conv=>whnf))
 all_goals first
  |exact QF rfl (Sub.refl _)
  |(exfalso;omega)
def Vq(names:List Str)(vals:List Int)(s:Str):Int:=if 0<=idxF (fun y=>s==y) names/\idxF (fun y=>s==y) names<vals.length then vals.getD (idxF (fun y=>s==y) names).toNat 0 else 0
def evN(env:Str->Int):Nat->X->Int×Bool
 |0,_=>(0,false)
 | n+1,x=>if x.op=1 then(x.n,true)else if x.op=2 then(env x.name,true)else match x.kids with
   |[]=>(0,false)
   |[a]=>bif (evN env n a).2 then Se x.op (evN env n a).1 else(0,false)
   |a::b::_=>bif (evN env n a).2 then(if x.op=16/\(evN env n a).1=0 then(0,true)else if x.op=17/\(evN env n a).1≠0 then(1,true)else bif (evN env n b).2 then O0 x.op (evN env n a).1 (evN env n b).1 else(0,false))else(0,false)
def evX(env:Str->Int)(x:X):Int×Bool:=bif Li x then evN env 20 x else(0,false)
theorem Re{n:Nat}{x:X}(h:ZO (n+1) x=true)(h1:x.op≠1)(h2:x.op≠2):(∃a,x.kids=[a]/\ZO n a=true)\/∃a b,x.kids=[a,b]/\ZO n a=true/\ZO n b=true:=by
 obtain⟨h3,_,h5⟩:=LX h;have hk:(x.kids.length:Int)=X8 x.op:=by
  rw[ZO,q4k]at h;exact of_decide_eq_true h.1
 have h0:0<x.kids.length:=by
  unfold X8 at hk
  (repeat' split at hk)<;>omega
 match hq:x.kids,h0,h3,h5 with
 |[a],_,_,h5=>exact .inl ⟨a,rfl,h5 a (by simp)⟩
 |[a,b],_,_,h5=>exact .inr ⟨a,b,rfl,h5 a (by simp),h5 b (by simp)⟩
 |a::b::c::r,_,h3,_=>simp at h3
theorem E6:∀(n:Nat)(x:X)(_:ZO n x=true)(names:List Str)(vals:List Int),SpecP prog 218 [.agg x.cells,eStrs names,XU vals] (fun r=>r=Ay (evN (Vq names vals) n x)):=by
 intro n;induction n with
 |zero=>intro x h;rw[ZO]at h;cases h
 | succ n ih=>
   intro x hx names vals;have hIx:=QO names x.name;have hvl:(vals.map (AV.int .i64)).length=vals.length:=q3f _;refine sB R3 func218 rfl call218 ?_;conv=>whnf
   by_cases h1:x.op=1
   ·have e:evN (Vq names vals) (n+1) x=(x.n,true):=by rw[evN,if_pos h1]
    rw[e];repeat' (apply bD<;>intro _<;>first|omega|conv=>whnf)
    all_goals exact QF rfl (Sub.tt rfl)
   by_cases h2:x.op=2
   ·have e:evN (Vq names vals) (n+1) x=(Vq names vals x.name,true):=by rw[evN,if_neg h1,if_pos h2]
    rw[e];unfold Vq;generalize idxF (fun y=>x.name==y) names=ix at*
    by_cases h3:0<=ix/\ix<vals.length
    ·rw[if_pos h3];have hg:(vals.map (AV.int .i64))[ix.toNat]?=some (.int .i64 (vals.getD ix.toNat 0)):=by
      rw[q4x,q3p,q3b (by omega)];rfl
     repeat' (first|((first|(refine iM fun _=>?_)|refine cP hIx ?_|(refine IdxK.at (k:=ix.toNat) (by omega) hg rfl ?_));conv=>whnf)|(apply bD<;>intro _<;>first|omega|conv=>whnf))
     all_goals first
      |exact QF rfl (Sub.tt rfl)
      |(exfalso;omega)
    ·rw[if_neg h3];repeat' (first|((first|(refine iM fun _=>?_)|refine cP hIx ?_);conv=>whnf)|(apply bD<;>intro _<;>first|omega|conv=>whnf))
     all_goals first
      |(exfalso;omega)
      |exact QF rfl (Sub.tt rfl)
   rcases Re hx h1 h2 with⟨a,hk,ha⟩|⟨a,b,hk,ha,hb⟩
   ·have hA:=ih a ha names vals;have e:evN (Vq names vals) (n+1) x=bif (evN (Vq names vals) n a).2 then Se x.op (evN (Vq names vals) n a).1 else(0,false):=by rw[evN,if_neg h1,if_neg h2,hk]
    rw[e];have hg0:(X.avs x.kids)[0]?=some (.agg a.cells):=by rw[hk,X.avs_eq];rfl
    have hkl:(X.avs x.kids).length=1:=by rw[hk,X.avs_eq];rfl
    generalize evN (Vq names vals) n a=ea at*
    obtain⟨va,ta⟩:=ea;have hO:=A5 x.op va;generalize X.avs x.kids=ks at*
    cases ta;all_goals
     simp only[q4v,q4f];generalize Se x.op va=ov at*
     repeat' (first|((first|(refine iM fun _=>?_)|(refine IdxK.at (k:=0) rfl hg0 rfl ?_)|refine cP hA ?_|refine cP hO ?_|refine Br.tt ?_|refine Br.ff ?_);conv=>whnf)|(apply bD<;>intro _<;>first|omega|conv=>whnf))
     all_goals first
      |contradiction
      |exact QF rfl (Sub.refl _)
      |exact QF rfl (Sub.ff rfl)
      |(exfalso;omega)
   ·have hA:=ih a ha names vals;have hB:=ih b hb names vals;have e:evN (Vq names vals) (n+1) x=bif (evN (Vq names vals) n a).2 then(if x.op=16/\(evN (Vq names vals) n a).1=0 then(0,true)else if x.op=17/\(evN (Vq names vals) n a).1≠0 then(1,true)else bif (evN (Vq names vals) n b).2 then O0 x.op (evN (Vq names vals) n a).1 (evN (Vq names vals) n b).1 else(0,false))else(0,false):=by rw[evN,if_neg h1,if_neg h2,hk]
    rw[e];have hg0:(X.avs x.kids)[0]?=some (.agg a.cells):=by rw[hk,X.avs_eq];rfl
    have hg1:(X.avs x.kids)[1]?=some (.agg b.cells):=by rw[hk,X.avs_eq];rfl
    have hkl:(X.avs x.kids).length=2:=by rw[hk,X.avs_eq];rfl
    generalize evN (Vq names vals) n a=ea at*
    generalize evN (Vq names vals) n b=eb at*
    obtain⟨va,ta⟩:=ea;obtain⟨vb,tb⟩:=eb;have hO:=A6 x.op va vb;have hT:=Lt va;have hTe:(va != 0) = !decide (va=0):=by by_cases h:va=0<;>simp[h]
    rw[hTe]at hT;generalize X.avs x.kids=ks at*
    generalize O0 x.op va vb=ov at*
    cases ta<;>cases tb;all_goals
     simp only[q4v,q4f];by_cases h16:x.op=16/\va=0
     ·first
       |rw[if_pos h16]
       |skip
      repeat' (first|((first|(refine iM fun _=>?_)|(refine IdxK.at (k:=0) rfl hg0 rfl ?_)|(refine IdxK.at (k:=1) rfl hg1 rfl ?_)|refine cP hA ?_|refine cP hB ?_|refine cP hO ?_|refine cP hT ?_|refine Br.tt ?_|refine Br.ff ?_);conv=>whnf)|(apply bD<;>intro _<;>first|omega|conv=>whnf)|(apply bN<;>intro _<;>conv=>whnf))
      all_goals first
       |contradiction
       |exact QF rfl (Sub.tt rfl)
       |exact QF rfl (Sub.ff rfl)
       |(exfalso;omega)
       |(exfalso;have hh:(!decide (va=0))=true:=(by assumption);simp at hh;omega)
       |(exfalso;have hh:(!decide (va=0))=false:=(by assumption);simp at hh;omega)
     by_cases h17:x.op=17/\va≠0
     ·first
       |rw[if_neg h16,if_pos h17]
       |skip
      repeat' (first|((first|(refine iM fun _=>?_)|(refine IdxK.at (k:=0) rfl hg0 rfl ?_)|refine cP hA ?_|refine cP hT ?_|refine Br.tt ?_|refine Br.ff ?_);conv=>whnf)|(apply bD<;>intro _<;>first|omega|conv=>whnf)|(apply bE<;>intro _<;>first|omega|conv=>whnf))
      all_goals first
       |contradiction
       |exact QF rfl (Sub.tt rfl)
       |exact QF rfl (Sub.ff rfl)
       |(exfalso;omega)
       |(exfalso;have hh:(!decide (va=0))=true:=(by assumption);simp at hh;omega)
       |(exfalso;have hh:(!decide (va=0))=false:=(by assumption);simp at hh;omega)
     first
      |rw[if_neg h16,if_neg h17]
      |skip
     repeat' (first|((first|(refine iM fun _=>?_)|(refine IdxK.at (k:=0) rfl hg0 rfl ?_)|(refine IdxK.at (k:=1) rfl hg1 rfl ?_)|refine cP hA ?_|refine cP hB ?_|refine cP hO ?_|refine cP hT ?_|refine Br.tt ?_|refine Br.ff ?_);conv=>whnf)|(apply bD<;>intro _<;>first|omega|conv=>whnf)|(apply bE<;>intro _<;>first|omega|conv=>whnf)|(apply bN<;>intro _<;>conv=>whnf))
     all_goals first
      |contradiction
      |exact QF rfl (Sub.refl _)
      |exact QF rfl (Sub.ff rfl)
      |(exfalso;omega)
      |(exfalso;have hh:(!decide (va=0))=true:=(by assumption);simp at hh;omega)
      |(exfalso;have hh:(!decide (va=0))=false:=(by assumption);simp at hh;omega)
theorem E5(x:X)(names:List Str)(vals:List Int):SpecP prog 176 [.agg x.cells,eStrs names,XU vals] (fun r=>r=Ay (evX (Vq names vals) x)):=by
 refine sB R2 func176 rfl call176 ?_;conv=>whnf
 have hM:=JV x;unfold evX;cases hm:Li x with
 | false=>
   rw[hm]at hM;repeat' ((first|refine cP hM ?_|refine Br.tt ?_);conv=>whnf)
   all_goals first
    |contradiction
    |exact QF rfl (Sub.ff rfl)
 | true=>
   have hE:=E6 20 x hm names vals;rw[hm]at hM;rw[q4v];generalize evN (Vq names vals) 20 x=ev at*
   repeat' ((first|refine cP hM ?_|refine cP hE ?_|refine Br.ff ?_);conv=>whnf)
   all_goals first
    |contradiction
    |exact QF rfl (Sub.refl _)
end Go.Ab
