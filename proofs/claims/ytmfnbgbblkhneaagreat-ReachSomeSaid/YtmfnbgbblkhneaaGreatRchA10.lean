/- Weights; a sheet by its offsets; what a name is. -/
import Derived.Test.YtmfnbgbblkhneaaGreatRchA9
set_option linter.unusedSimpArgs false
set_option linter.unusedVariables false
set_option maxRecDepth 100000
set_option maxHeartbeats 16000000
namespace Go.Ab
open Go.Proofs.Tryz
open Go.Proofs
variable {α β:Type}{a c d:Int}{b:Bool}{f:Pr}{its:List Item}{j k:Nat}{l seen:List Str}{p:Pg}
def Av:List Str->Nat
 |[]=>0
 |s::r=>1+Av r
mutual
def wX:X->Nat
 |.mk _ _ name kids=>1+wXs kids
def wXs:List X->Nat
 |[]=>0
 |x::r=>wX x+wXs r
end
def X6:List Arg->Nat
 |[]=>0
 |a::r=>wX a.x+1+X6 r
mutual
def wS:S->Nat
 |.mk _ _ labels name proc x _ args thn els=>wX x+Av labels+1+1+X6 args+wL thn+wL els
def wL:List S->Nat
 |[]=>0
 |s::r=>wS s+wL r
end
def q3u:List Param->Nat
 |[]=>0
 |a::r=>1+q3u r
def wPr(f:Pr):Nat:=1+Av f.vars+Av f.fin+q3u f.params+wL f.body
def q0d:List Pr->Nat
 |[]=>0
 |f::r=>wPr f+q0d r
def wPg(p:Pg):Nat:=Av p.globals+q0d p.procs
def Fit(p:Pg):Prop:=wPg p<=20000
theorem Hs:∀l:List Str,l.length<=Av l
 |[]=>q7c _
 |s::r=>by have:=Hs r;simp only[q8s,Av];omega
theorem LD:∀l:List Arg,l.length<=X6 l
 |[]=>q7c _
 |s::r=>by have:=LD r;simp only[q8s,X6];omega
theorem A2(s:S):wS s=wX s.x+Av s.labels+1+1+X6 s.args+wL s.thn+wL s.els:=by
 cases s;rw[wS];rfl
mutual
theorem q0s:∀s:S,ZC s<=wS s
 | .mk id kind labels name proc x has args thn els=>by
   have:=My thn;have:=My els;rw[ZC,wS];omega
theorem My:∀l:List S,QU l<=wL l
 |[]=>by rw[QU,wL];exact q8z _
 | s::r=>by
   have:=q0s s;have:=My r;rw[QU,wL];omega
end
theorem A1:∀{l:List Pr}{f:Pr},f∈l->wPr f<=q0d l
 | g::r,f,h=>by
   simp only[q0d];rcases q7r.1 h with rfl|h
   ·omega
   ·have:=A1 h;omega
theorem Fit.pr(h:Fit p)(hf:f∈p.procs):wPr f<=20000:=by
 have:=A1 hf;unfold Fit wPg at h;omega
mutual
def flS:S->List S
 |.mk id kind labels name proc x has args thn els=>.mk id kind labels name proc x has args thn els::(flL thn++flL els)
def flL:List S->List S
 |[]=>[]
 |s::r=>flS s++flL r
end
theorem q1y(s:S):flS s=s::(flL s.thn++flL s.els):=by
 cases s;rw[flS];rfl
mutual
theorem O5:∀s:S,(flS s).length=ZC s
 | .mk id kind labels name proc x has args thn els=>by
   rw[flS,ZC,q8s,q7b,V5 thn,V5 els];omega
theorem V5:∀l:List S,(flL l).length=QU l
 |[]=>by rw[flL,QU];rfl
 |s::r=>by rw[flL,QU,q7b,O5 s,V5 r]
end
mutual
theorem q3b:∀(s t:S),t∈flS s->wS t<=wS s
 | .mk id kind labels name proc x has args thn els,t,h=>by
   rw[flS]at h;rcases q7r.1 h with rfl|h
   ·exact q8z _
   ·rw[wS];rcases q7a.1 h with h|h
    ·have:=N2 thn t h;omega
    ·have:=N2 els t h;omega
theorem N2:∀(l:List S)(t:S),t∈flL l->wS t<=wL l
 |[],t,h=>by rw[flL]at h;cases h
 | s::r,t,h=>by
   rw[flL]at h;rw[wL];rcases q7a.1 h with h|h
   ·have:=q3b s t h;omega
   ·have:=N2 r t h;omega
end

mutual
def itS(proc up nx loop:Int)(n:Nat):S->List Item
 | .mk id kind labels name pr x has args thn els=>
   ⟨.mk id kind labels name pr x has args thn els,proc,up,nx,loop⟩::(itL proc (n+1) (if kind=6 then n+1 else nx) (if kind=6 then n+1 else loop) (n+1) thn ++
     itL proc (n+1) (if kind=6 then n+1 else nx) (if kind=6 then n+1 else loop) (n+1+QU thn) els)
def itL(proc up nx loop:Int)(n:Nat):List S->List Item
 |[]=>[]
 |t::r=>itS proc up (if r.isEmpty then nx else n+1+ZC t) loop n t++itL proc up nx loop (n+ZC t) r
end
theorem Ih(proc up nx loop:Int)(n:Nat)(t:S):itS proc up nx loop n t=⟨t,proc,up,nx,loop⟩::(itL proc (n+1) (if t.kind=6 then n+1 else nx) (if t.kind=6 then n+1 else loop) (n+1) t.thn ++
   itL proc (n+1) (if t.kind=6 then n+1 else nx) (if t.kind=6 then n+1 else loop) (n+1+QU t.thn) t.els):=by
 cases t;rw[itS];rfl
mutual
theorem OV(proc up nx loop:Int):∀(t:S)(acc:List Item),W4 proc up nx loop acc t=acc++itS proc up nx loop acc.length t
 | .mk id kind labels name pr x has args thn els,acc=>by
   rw[W4,itS,LQ _ _ _ _ thn,LQ _ _ _ _ els];simp only[q7b,q8s,x1a,q8d,List.cons_append,x2j,ZF proc _ _ _ _ thn,x0j,x1x,x3r (QU thn) 1]
theorem LQ(proc up nx loop:Int):∀(l:List S)(acc:List Item),XD proc up nx loop acc l=acc++itL proc up nx loop acc.length l
 |[],acc=>by rw[XD,itL,q9h]
 | t::r,acc=>by
   rw[XD,itL,OV _ _ _ _ t,LQ _ _ _ _ r];simp only[q7b,q8d,Nz proc _ _ _ _ t]
theorem Nz(proc up nx loop:Int)(n:Nat):∀t:S,(itS proc up nx loop n t).length=ZC t
 | .mk id kind labels name pr x has args thn els=>by
   rw[itS,ZC,q8s,q7b,ZF _ _ _ _ _ thn,ZF _ _ _ _ _ els];omega
theorem ZF(proc up nx loop:Int)(n:Nat):∀l:List S,(itL proc up nx loop n l).length=QU l
 |[]=>by rw[itL,QU];rfl
 |t::r=>by rw[itL,QU,q7b,Nz _ _ _ _ _ t,ZF _ _ _ _ _ r]
end
mutual
theorem q3t(proc up nx loop:Int)(n:Nat):∀t:S,(itS proc up nx loop n t).map Item.s=flS t
 | .mk id kind labels name pr x has args thn els=>by
   rw[itS,flS,q8f,q7o,MF _ _ _ _ _ thn,MF _ _ _ _ _ els]
theorem MF(proc up nx loop:Int)(n:Nat):∀l:List S,(itL proc up nx loop n l).map Item.s=flL l
 |[]=>by rw[itL,flL];rfl
 |t::r=>by rw[itL,flL,q7o,q3t _ _ _ _ _ t,MF _ _ _ _ _ r]
end
def QM:List Pr->Nat->Nat
 |_,0=>0
 |[],_+1=>0
 |f::r,i+1=>QU f.body+QM r i
theorem Bz:∀(l:List Pr)(i:Nat)(acc:List Item)(lo hi:List Int),lo.length=i->hi.length=i->
  (Y4 i acc lo hi l).2.1.length=i+l.length/\(Y4 i acc lo hi l).2.2.length=i+l.length/\
  (∀k,k<i->(Y4 i acc lo hi l).2.1[k]?=lo[k]? /\(Y4 i acc lo hi l).2.2[k]?=hi[k]?)/\∃L,(Y4 i acc lo hi l).1=acc++L/\L.length=cntP l/\
  ∀(k:Nat)(f:Pr),l[k]?=some f->(Y4 i acc lo hi l).2.1[i+k]?=some ((acc.length+QM l k:Nat)+1:Int)/\(Y4 i acc lo hi l).2.2[i+k]?=some ((acc.length+QM l k+QU f.body:Nat)+1:Int)/\
   QM l k+QU f.body<=cntP l/\(L.take (QM l k+QU f.body)).drop (QM l k)=itL (i+k:Nat) 0 (-1) 0 (acc.length+QM l k) f.body
 | [],i,acc,lo,hi,h1,h2=>by
   rw[Y4];exact⟨by simpa using h1,by simpa using h2,fun _ _=>⟨rfl,rfl⟩,[],by simp,rfl,fun k f h=>by simp at h⟩
 | f::r,i,acc,lo,hi,h1,h2=>by
   rw[Y4];have hrow:=LQ i 0 (-1) 0 f.body acc;have hlen:=XJ i 0 (-1) 0 acc f.body;obtain⟨h3,h4,h5,L,h6,h7,h8⟩:=Bz r (i+1) (XD i 0 (-1) 0 acc f.body) (lo++[(acc.length:Int)+1]) (hi++[((XD i 0 (-1) 0 acc f.body).length:Int)+1]) (by simp[h1]) (by simp[h2]);refine⟨by rw[h3,q8s];omega,by rw[h4,q8s];omega,fun k hk=>?_,itL i 0 (-1) 0 acc.length f.body++L,?_,?_,fun k g hg=>?_⟩
   ·obtain⟨h9,h10⟩:=h5 k (by omega);rw[h9,h10,q9g (by omega),q9g (by omega)];exact⟨rfl,rfl⟩
   ·rw[h6,hrow,q8d]
   ·rw[q7b,h7,ZF,cntP]
   ·cases k with
    | zero=>
      simp only[x3w,x1w]at hg;subst hg;obtain⟨h9,h10⟩:=h5 i (by omega);simp only[x2l,QM,x0j,List.drop_zero];refine⟨?_,?_,?_,?_⟩
      ·rw[h9,q9w (by omega),h1];simp
      ·rw[h10,q9w (by omega),h2,hlen];simp
      ·rw[cntP];omega
      ·rw[List.take_append_of_le_length (by rw[ZF];omega),q8y (by rw[ZF];omega)]
    | succ k=>
      simp only[List.getElem?_cons_succ]at hg;obtain⟨h9,h10,h11,h12⟩:=h8 k g hg;rw[hlen]at h12;simp only[QM];refine⟨?_,?_,?_,?_⟩
      ·rw[show i+(k+1)=i+1+k by omega,h9,hlen];congr 2;omega
      ·rw[show i+(k+1)=i+1+k by omega,h10,hlen];congr 2;omega
      ·rw[cntP];omega
      ·rw[List.take_append,List.drop_append,ZF,q8y (by rw[ZF];omega),q8v (by rw[ZF];omega),x2j];simp only[ZF];rw[show QU f.body+QM r k+QU g.body-QU f.body=QM r k+QU g.body by omega,show QU f.body+QM r k-QU f.body=QM r k by omega,h12];rw[show i+(k+1)=i+1+k by omega,show acc.length+(QU f.body+QM r k)=acc.length+QU f.body+QM r k by omega]
theorem QV(p:Pg):(sheetOf p).p=p/\(sheetOf p).lo.length=p.procs.length/\(sheetOf p).hi.length=p.procs.length/\(sheetOf p).l.length=cntP p.procs/\
  ∀(k:Nat)(f:Pr),p.procs[k]?=some f->(sheetOf p).lo[k]?=some ((QM p.procs k:Nat)+1:Int)/\(sheetOf p).hi[k]?=some ((QM p.procs k+QU f.body:Nat)+1:Int)/\
   QM p.procs k+QU f.body<=cntP p.procs/\((sheetOf p).l.take (QM p.procs k+QU f.body)).drop (QM p.procs k)=itL k 0 (-1) 0 (QM p.procs k) f.body:=by
 obtain⟨h3,h4,_,L,h6,h7,h8⟩:=Bz p.procs 0 [] [] [] rfl rfl;refine⟨rfl,by unfold sheetOf;simpa using h3,by unfold sheetOf;simpa using h4,by unfold sheetOf;simp[h6,h7],fun k f hk=>?_⟩;have:=h8 k f hk;unfold sheetOf;simp only[h6,x2j,x1a,x0j]at this⊢;exact this
mutual
theorem R0(nest seen:Int):∀(s:S){m:Int},Bs nest seen s=some m->m=seen+ZC s
 | .mk id kind labels name proc x has args thn els,m,h=>by
   simp only[Bs]at h;split at h
   ·cases h
   split at h
   ·cases h
   cases hn:namesB labels<;>rw[hn]at h
   ·cases h
   cases hf:VR (.mk id kind labels name proc x has args thn els)<;>rw[hf]at h
   ·cases h
   simp only[q8g]at h;split at h
   ·rename_i m1 h1;have h2:=JR (nest+1) (seen+1) thn h1;have h3:=JR (nest+1) m1 els h;rw[ZC];omega
   ·cases h
theorem JR(nest seen:Int):∀(l:List S){m:Int},JY nest seen l=some m->m=seen+QU l
 | [],m,h=>by
   simp only[JY]at h;cases h;rw[QU];simp
 | s::r,m,h=>by
   simp only[JY]at h;split at h
   ·cases h
   split at h
   ·rename_i m1 h1;have h2:=R0 nest seen s h1;have h3:=JR nest m1 r h;rw[QU];omega
   ·cases h
end
theorem Jl:∀(l:List Pr){seen m:Int},seen<=200->XO seen l=some m->m=seen+cntP l/\m<=200
 |[],seen,m,h0,h=>by rw[XO]at h;cases h;simp[cntP];exact h0
 | f::r,seen,m,h0,h=>by
   rw[XO]at h;cases hm:DI f<;>rw[hm]at h
   ·cases h
   simp only[q8g]at h;split at h
   ·rename_i m1 h1;have h2:=JR 1 seen f.body h1;have h3:=Uj 1 seen f.body h0 h1;have h4:=Jl r (by omega) h;rw[cntP];omega
   ·cases h
theorem WC(h:HY p=true):p.globals.length<=16/\p.procs.length<=16/\cntP p.procs<=200:=by
 unfold HY at h;simp only[q8j,q8e]at h;obtain⟨⟨⟨h1,h2⟩,_⟩,h3⟩:=h;cases hm:XO 0 p.procs with
 |none=>rw[hm]at h3;cases h3
 | some m=>
   have:=Jl p.procs (by decide) hm;omega
theorem Nj(h:HY p=true)(hf:f∈p.procs):DI f=true:=by
 unfold HY at h;simp only[q8j]at h;have h3:=h.2;have key:∀(l:List Pr)(seen:Int),(XO seen l).isSome=true->∀f∈l,DI f=true:=fun l=>by
  induction l with
  |nil=>intro _ _ f hf;cases hf
  | cons g r ih=>
    intro seen h f hf;rw[XO]at h;cases hm:DI g<;>rw[hm]at h
    ·cases h
    simp only[q8g]at h;split at h
    ·rename_i m1 h1;rcases q7r.1 hf with rfl|hf
     ·exact hm
     ·exact ih _ h f hf
    ·cases h
 exact key _ _ h3 f hf
def FY(p:Pg)(f:Pr)(name:Str):Int:=
 match f.params.find? (fun a=>a.name==name)with
 |some a=>bif a.ref then 3 else 2
 |none=>bif f.vars.any (fun s=>name==s)then 4 else bif p.globals.any (fun s=>name==s)then 1 else 0
theorem Q9{l:List α}{p:α->Bool}(hj:j<l.length)(h:p l[j]=false):(l.drop (j+1)).find? p=(l.drop j).find? p:=by
 rw[QB hj,x2s,h]
theorem DW{l:List α}{p:α->Bool}(hj:j<l.length)(h:p l[j]=true):(l.drop j).find? p=some l[j]:=by
 rw[QB hj,x2s,h]
theorem DX{l:List α}{p:α->Bool}(hj:l.length<=j):(l.drop j).find? p=none:=by
 rw[q8v hj];rfl
theorem K6(p:Pg)(f:Pr)(name:Str):SpecP prog 59 [.agg p.cells,.agg f.cells,.str name] (fun r=>r=.int .i64 (FY p f name)):=by
 refine sB Fb func59 rfl call59 ?_;conv=>whnf
 repeat' (refine iM fun _=>?_;conv=>whnf)
 have hl:(f.params.map fun a=>AV.agg a.cells).length=f.params.length:=q7f _;refine LoopK.inv QK (fun j:Nat=>⟨[(2,.p (.str name)),(3,.p (.ip p.cells)),(4,.p (.ip f.cells)),(10,.p (.sl (f.params.map fun a=>.agg a.cells))),(11,.p (.int .i64 (f.params.map fun a=>AV.agg a.cells).length)),(12,.p (.int .i64 j))],[]⟩) (fun j=>j<=f.params.length/\(f.params.drop j).find? (fun a=>a.name==name)=f.params.find? (fun a=>a.name==name)) (fun j=>f.params.length-j) 0 (Le.of_eq rfl) ⟨q7c _,rfl⟩ ?_;rintro j ⟨h2,h3⟩;conv=>whnf
 repeat' (first|((first|refine cP (QW _ _) ?_|refine q7p rfl ?_|(refine iA fun _=>?_)|refine wI ?_);conv=>whnf)|(apply bD<;>intro _<;>first|omega|conv=>whnf)|(apply bB<;>intro _<;>conv=>whnf))
 all_goals try have hj:j<f.params.length:=by omega
 all_goals first
  | (exfalso
     have h8:((f.params[j]'(by omega)).name==name)=true:=by assumption
     have h9:((f.params[j]'(by omega)).name==name)=false:=by assumption
     rw[h8]at h9;cases h9)
  | (have e:=DW (p:=fun a:Param=>a.name==name) (by omega) (by assumption)
     rw[h3]at e;exact RetK.int (by unfold FY;rw[e];simp[*]))
  |(refine⟨j+1,⟨by omega,by rw[<-h3,Q9 (p:=fun a:Param=>a.name==name) (by omega) (by assumption)]⟩,by omega,Le.of_eq rfl⟩)
  | (have e:f.params.find? (fun a=>a.name==name)=none:=by rw[<-h3,DX (by omega)]
     exact RetK.int (by unfold FY;rw[e];simp[*]))
def mainS:Str:=[109,97,105,110]
def knownB(p:Pg)(f:Pr)(procs:List Str)(t:S):Bool:=(ZP t).all (fun n=> !(FY p f n==0))&&(decide (t.kind≠4)||(!(t.proc==mainS)&&procs.any fun s=>t.proc==s))
theorem Nl(p:Pg)(f:Pr)(procs:List Str)(t:S)(ha:t.args.length<=20000):SpecP prog 132 [.agg p.cells,.agg f.cells,eStrs procs,.agg t.cells] (fun r=>r=.bool (knownB p f procs t)):=by
 refine sB Ke func132 rfl call132 ?_;conv=>whnf
 repeat' ((first|(refine iM fun _=>?_)|refine cP (Jx _ ha) ?_);conv=>whnf)
 have hl:((ZP t).map AV.str).length=(ZP t).length:=q7f _;refine LoopK.inv QK (fun j:Nat=>⟨[(2,.p (eStrs procs)),(4,.p (.ip p.cells)),(5,.p (.ip f.cells)),(7,.p (.ip t.cells)),(12,.p (eStrs (ZP t))),(13,.p (.int .i64 ((ZP t).map AV.str).length)),(14,.p (.int .i64 j))],[]⟩) (fun j=>j<=(ZP t).length/\((ZP t).drop j).all (fun n=> !(FY p f n==0))=(ZP t).all (fun n=> !(FY p f n==0))) (fun j=>(ZP t).length-j) 0 (Le.of_eq rfl) ⟨q7c _,rfl⟩ ?_;rintro j ⟨h2,h3⟩;conv=>whnf
 repeat' (first|((first|refine cP (K6 _ _ _) ?_|refine cP (QW _ _) ?_|(refine iA fun _=>?_)|refine wI ?_);conv=>whnf)|(apply bD<;>intro _<;>first|omega|conv=>whnf)|(apply bE<;>intro _<;>first|omega|conv=>whnf)|(apply bN<;>intro _<;>conv=>whnf))
 ·exact RetK.ff (by
   have e:=Ya (p:=fun n=> !(FY p f n==0)) (l:=ZP t) (j:=j) (by omega) (by simp;assumption);rw[knownB,<-h3,e,Bool.false_and])
 ·exact⟨j+1,⟨by omega,by rw[<-h3,Wn (p:=fun n=> !(FY p f n==0)) (by omega) (by simp;assumption)]⟩,by omega,Le.of_eq rfl⟩
 all_goals
  have e:(ZP t).all (fun n=> !(FY p f n==0))=true:=by rw[<-h3,Wp (by omega)]
 ·exact RetK.ff (by
   have h8:(t.proc==mainS)=true:=by assumption
   rw[knownB,e,h8];simp[*])
 ·exact RetK.bool (by
   have h8:(t.proc==mainS)=false:=by assumption
   rw[knownB,e,h8];simp[*])
 ·exact RetK.tt (by rw[knownB,e];simp[*])
def J8(c at_:Int):AV:=.agg [.int .i64 c,.int .i64 at_]
def procsN(p:Pg):List Str:=p.procs.map Pr.name
def ZD(p:Pg):Bool:=ZH p.globals||(ZH (procsN p)||(!((procsN p).any fun s=>mainS==s)||match p.procs.find? (fun f=>mainS==f.name)with
 |some f=>decide (0<f.params.length)
 |none=>true))
def WF(p:Pg)(f:Pr):Option Int:=
 bif ZH (Ja f)||(Ja f).any (fun n=>p.globals.any fun s=>n==s)then some 0 else((flL f.body).find? fun t=> !knownB p f (procsN p) t).map S.id
def XZ(p:Pg):Int×Int:=
 bif HY p then bif ZD p then(5,0)else match p.procs.findSome? (WF p)with
  |some a=>(5,a)
  |none=>(0,0)
 else(1,0)
theorem Mo{l:List α}{p:α->Bool}(h:l.any p=true):∃(k:Nat) (hk:k<l.length),Qj p l=k/\p l[k]=true/\l.find? p=some l[k]:=by
 have h1:l.findIdx p<l.length:=by
  rw[List.findIdx_lt_length];exact q9c.1 h
 refine⟨l.findIdx p,h1,by unfold Qj;rw[h];rfl,List.findIdx_getElem,?_⟩;rw[List.find?_eq_some_iff_getElem];exact⟨List.findIdx_getElem,l.findIdx p,h1,rfl,fun j hj=>by simpa using List.not_of_lt_findIdx hj⟩
theorem Ej(h:(procsN p).any (fun s=>mainS==s)=true):∃(k:Nat) (hk:k<p.procs.length),Qj (fun s=>mainS==s) (procsN p)=k/\p.procs.find? (fun f=>mainS==f.name)=some p.procs[k]:=by
 have h':p.procs.any (fun f=>mainS==f.name)=true:=by simpa[procsN,List.any_map,Function.comp_def]using h
 obtain⟨k,hk,h1,_,h2⟩:=Mo h';refine⟨k,hk,?_,h2⟩;rw[<-h1];unfold Qj;rw[h,h'];simp[procsN,List.findIdx_map,Function.comp_def]
theorem Rc(p:Pg)(hj:p.procs[j]?=some f)(hc:cntP p.procs<=1000):SpecP prog 131 [.ip (sheetOf p).cells,.int .i64 j] (fun r=>r=VL (itL j 0 (-1) 0 (QM p.procs j) f.body)):=by
 obtain⟨_,h2,h3,h4,h5⟩:=QV p;obtain⟨h6,h7,h8,h9⟩:=h5 j f hj;have:=MZ (sheetOf p) j _ _ h6 h7 (by omega) (by omega) (by omega);rw[h9]at this;exact this
theorem VX(l:List Item):(l.map fun i=>AV.agg i.cells).length=l.length:=q7f _
theorem V3{l:List α}{f:α->Option β}(hj:j<l.length)(h:f l[j]=none):(l.drop (j+1)).findSome? f=(l.drop j).findSome? f:=by
 rw[QB hj,List.findSome?_cons,h]
theorem VZ{l:List α}{f:α->Option β}{b:β}(hj:j<l.length)(h:f l[j]=some b):(l.drop j).findSome? f=some b:=by
 rw[QB hj,List.findSome?_cons,h]
theorem Xl{l:List α}{f:α->Option β}(hj:l.length<=j):(l.drop j).findSome? f=none:=by
 rw[q8v hj];rfl
theorem DZ{q:S->Bool}(l:List Item):(l.find? fun it=>q it.s).map (fun it=>it.s.id)=((l.map Item.s).find? q).map S.id:=by
 rw[List.find?_map];cases h:l.find? (q∘Item.s)with
 |none=>rw[show(l.find? fun it=>q it.s)=none from h];rfl
 |some i=>rw[show(l.find? fun it=>q it.s)=some i from h];rfl
theorem Sc{l:List Pr}(hj:j<l.length)(h:wPr l[j]<=20000){b:Int}{n:Nat}(hk:k<(itL a b c d n l[j].body).length):(itL a b c d n l[j].body)[k].s.args.length<=20000:=by
 have hm:(itL a b c d n l[j].body)[k].s∈flL l[j].body:=by
  rw[<-MF a b c d n];exact q7s.2 ⟨_,q7i hk,rfl⟩
 have h1:=N2 _ _ hm;have h2:=A2 (itL a b c d n l[j].body)[k].s;have h3:=LD (itL a b c d n l[j].body)[k].s.args;unfold wPr at h;omega
theorem QE{H:Heap}{b:Int}(h:a=c)(h':b=d):RetK H (.p (.agg [.int .i64 a,.int .i64 b])) (fun r=>r=J8 c d):=⟨_,.p (Sub.refl _),by rw[h,h'];rfl⟩
theorem YO(p:Pg)(hf:Fit p):SpecP prog 81 [.agg p.cells] (fun r=>r=J8 (XZ p).1 (XZ p).2):=by
 refine sB Ka func81 rfl call81 ?_;conv=>whnf
 repeat' (first|((first|(refine iM fun _=>?_)|refine cP (Ht _) ?_|refine q7p rfl ?_);conv=>whnf)|(apply bN<;>intro _<;>conv=>whnf))
 rotate_left 1
 ·exact QE (by simp[XZ, *]) (by simp[XZ, *])
 have hm:HY p=true:=by assumption
 obtain⟨hg,hpl,hcn⟩:=WC hm;have hl:(p.procs.map fun f=>AV.agg f.cells).length=p.procs.length:=q7f _;have hnl:(procsN p).length=p.procs.length:=by simp[procsN]
 refine LoopK.inv QK (fun i:Nat×List Str=>⟨[(1,.p (.ip p.cells)),(2,.ptr 1 0),(3,.hd 0 0 i.2.length),(18,.p (.sl (p.procs.map fun f=>.agg f.cells))),(19,.p (.int .i64 (p.procs.map fun f=>AV.agg f.cells).length)),(20,.p (.int .i64 i.1))],[(0,.own 9 1 (i.2.map .str)),(1,.obj 87 [.p (.int .i64 0),.p (.int .i64 0)])]⟩)
  (fun i=>i.1<=p.procs.length/\i.2=(procsN p).take i.1) (fun i=>p.procs.length-i.1) (0,[])
  (Le.mk [(0,.own 9 1 [])] (by simp[Chunk.new0];rfl) (by simp) (by simp) (.r (.r (.cons (.nil q7d) (.r (.r (.r .nil)))))) (.new q7d (.cons rfl (.refl _) .nil)))
  ⟨q7c _,by simp⟩ ?_
 rintro⟨j,acc⟩ ⟨h2,h3⟩;simp only at h2 h3⊢;have hal:acc.length<=16:=by rw[h3];simp;omega
 conv=>whnf
 repeat' (first|((first|refine q7p rfl ?_|refine aD ?_|refine bP ?_|(refine iA fun _=>?_)|refine wI ?_|refine XQ (by simp) (by simp;omega) ?_|(refine XU (WQ acc mainS) (.cons (.hd rfl (by simp)) (.cons (.p (Sub.refl _)) .nil)) (by rintro _ rfl;rfl) ?_;rintro _ rfl)|(refine XU (PB acc) (.cons (.hd rfl (by simp)) .nil) (by rintro _ rfl;rfl) ?_;rintro _ rfl)|refine cP (PB _) ?_);conv=>whnf)|(apply bD<;>intro _<;>first|omega|conv=>whnf)|(apply bB<;>intro _<;>conv=>whnf))
 ·exact⟨(j+1,acc++[p.procs[j].name]),⟨by simp only;omega,by simp only;rw[h3,q8q (by omega)];simp[procsN]⟩,by simp only;omega,Le.of_eq (by simp only[q7b,q7o];rfl)⟩
 all_goals
  have hacc:acc=procsN p:=by rw[h3,q8y (by omega)]
  clear h3;subst hacc
 ·have hb:ZD p=true:=by unfold ZD;rw[show ZH p.globals=true by assumption];rfl
  exact QE (by unfold XZ;rw[hm,hb];rfl) (by unfold XZ;rw[hm,hb];rfl)
 ·have hb:ZD p=true:=by unfold ZD;rw[show ZH p.globals=false by assumption,show ZH (procsN p)=true by assumption];rfl
  exact QE (by unfold XZ;rw[hm,hb];rfl) (by unfold XZ;rw[hm,hb];rfl)
 ·have hany:((procsN p).any fun s=>mainS==s)=false:=by
   rw[<-Vn];simp;omega
  have hb:ZD p=true:=by unfold ZD;rw[show ZH p.globals=false by assumption,show ZH (procsN p)=false by assumption,hany];rfl
  exact QE (by unfold XZ;rw[hm,hb];rfl) (by unfold XZ;rw[hm,hb];rfl)
 have hany:((procsN p).any fun s=>mainS==s)=true:=by
  rw[<-Vn];simp;omega
 obtain⟨k,hk,hik,hfind⟩:=Ej hany;have hlk:(p.procs.map fun f=>AV.agg f.cells)[k]?=some (.agg p.procs[k].cells):=by simp[hk]
 have hpl2:(p.procs[k].params.map fun a=>AV.agg a.cells).length=p.procs[k].params.length:=q7f _;refine IdxK.at hik hlk rfl ?_;conv=>whnf
 repeat' (first|((first|(refine iM fun _=>?_)|refine q7p rfl ?_|(refine CallK.pure (JD p (by omega) (by omega)) (.cons (Sub.refl _) .nil) ?_;rintro _ rfl));conv=>whnf)|(apply bD<;>intro _<;>first|omega|conv=>whnf))
 ·have hb:ZD p=true:=by
   unfold ZD;rw[show ZH p.globals=false by assumption,show ZH (procsN p)=false by assumption,hany,hfind];have:0<p.procs[k].params.length:=by omega
   simp[this]
  exact QE (by unfold XZ;rw[hm,hb];rfl) (by unfold XZ;rw[hm,hb];rfl)
 have hb:ZD p=false:=by
  unfold ZD;rw[show ZH p.globals=false by assumption,show ZH (procsN p)=false by assumption,hany,hfind];have:¬0<p.procs[k].params.length:=by omega
  simp[this]
 have hsc:XZ p=match p.procs.findSome? (WF p)with
  |some a=>(5,a)
  |none=>(0,0):=by unfold XZ;rw[hm,hb];rfl
 rw[hsc];refine LoopK.inv QK (fun j:Nat=>⟨[(1,.p (.ip p.cells)),(2,.ptr 1 0),(3,.hd 0 0 (procsN p).length),(7,.p (.ip (sheetOf p).cells)),(57,.p (.sl (p.procs.map fun f=>.agg f.cells))),(58,.p (.int .i64 (p.procs.map fun f=>AV.agg f.cells).length)),(59,.p (.int .i64 j))],[(0,.own 9 1 ((procsN p).map .str)),(1,.obj 87 [.p (.int .i64 0),.p (.int .i64 0)])]⟩)
  (fun j=>j<=p.procs.length/\(p.procs.drop j).findSome? (WF p)=p.procs.findSome? (WF p)) (fun j=>p.procs.length-j) 0 (Le.of_eq rfl) ⟨q7c _,rfl⟩ ?_
 clear h2 hik hfind hlk hpl2;rintro j ⟨h2,h3⟩;rcases q7e j p.procs.length with hj|hj;rotate_left 1
 ·have e:p.procs.findSome? (WF p)=none:=by rw[<-h3,Xl hj]
  rw[e];conv=>whnf
  repeat' (first|(refine q7p rfl ?_;conv=>whnf)|(apply bD<;>intro _<;>first|omega|conv=>whnf))
  exact QE rfl rfl
 have hfp:=hf.pr (q7i hj);have hmp:=KR.1 (Nj hm (q7i hj));conv=>whnf
 repeat' (first|((first|(refine iM fun _=>?_)|refine cP (PB _) ?_|refine q7p rfl ?_|(refine iA fun _=>?_)|(refine CallK.pure (Cj (p.procs[j]'hj) (by have:=hmp.1;omega) (by have:=hmp.2.1;omega)) (.cons (Sub.refl _) .nil) ?_;rintro _ rfl)|refine cP (VF (Ja (p.procs[j]'hj)) 130 (.ip p.cells) (fun n=>p.globals.any fun s=>n==s) (Hg p)) ?_|(refine CallK.pure (Rc p (f:=p.procs[j]'hj) (by simp) (by omega)) (.cons (Sub.refl _) (.cons (Sub.refl _) .nil)) ?_;rintro _ rfl));conv=>whnf)|(apply bD<;>intro _<;>first|omega|conv=>whnf)|(apply bB<;>intro _<;>conv=>whnf))
 ·have e:WF p p.procs[j]=some 0:=by
   unfold WF;rw[show ZH (Ja p.procs[j])=true by assumption];rfl
  have e2:=VZ hj e;rw[h3]at e2;rw[e2];exact QE rfl rfl
 ·have e:WF p p.procs[j]=some 0:=by
   unfold WF;rw[show ZH (Ja p.procs[j])=false by assumption,show((Ja p.procs[j]).any fun n=>p.globals.any fun s=>n==s)=true by assumption];rfl
  have e2:=VZ hj e;rw[h3]at e2;rw[e2];exact QE rfl rfl
 have hsa:WF p p.procs[j]=((flL p.procs[j].body).find? fun t=> !knownB p p.procs[j] (procsN p) t).map S.id:=by
  unfold WF;rw[show ZH (Ja p.procs[j])=false by assumption,show((Ja p.procs[j]).any fun n=>p.globals.any fun s=>n==s)=false by assumption];rfl
 have hitm:∀k (hk:k<(itL (j:Nat) 0 (-1) 0 (QM p.procs j) p.procs[j].body).length),(itL (j:Nat) 0 (-1) 0 (QM p.procs j) p.procs[j].body)[k].s.args.length<=20000:=fun k hk=>Sc hj hfp hk;rw[<-MF (j:Nat) 0 (-1) 0 (QM p.procs j),<-DZ]at hsa;have hib:(itL (j:Nat) 0 (-1) 0 (QM p.procs j) p.procs[j].body).length<=20000:=by
  have:=My p.procs[j].body;unfold wPr at hfp;rw[ZF];omega
 generalize hits:itL (j:Nat) 0 (-1) 0 (QM p.procs j) p.procs[j].body=its at hsa hitm hib⊢;have hil:=VX its;refine LoopK.inv QK (fun k:Nat=>⟨[(1,.p (.ip p.cells)),(2,.ptr 1 0),(3,.hd 0 0 (procsN p).length),(7,.p (.ip (sheetOf p).cells)),(9,.p (.ip (p.procs[j]'hj).cells)),(57,.p (.sl (p.procs.map fun f=>.agg f.cells))),(58,.p (.int .i64 (p.procs.map fun f=>AV.agg f.cells).length)),(59,.p (.int .i64 j)),(76,.p (VL its)),(77,.p (.int .i64 (its.map fun i=>AV.agg i.cells).length)),(78,.p (.int .i64 k))],[(0,.own 9 1 ((procsN p).map .str)),(1,.obj 87 [.p (.int .i64 0),.p (.int .i64 0)])]⟩)
  (fun k=>k<=its.length/\(its.drop k).find? (fun it=> !knownB p p.procs[j] (procsN p) it.s)=its.find? fun it=> !knownB p p.procs[j] (procsN p) it.s) (fun k=>its.length-k) 0 (Le.of_eq rfl) ⟨q7c _,rfl⟩ ?_
 rintro k ⟨h5,h6⟩;rcases q7e k its.length with hk|hk;rotate_left 1
 ·rw[<-h6,DX hk]at hsa;conv=>whnf
  repeat' (first|(refine wI ?_;conv=>whnf)|(apply bD<;>intro _<;>first|omega|conv=>whnf))
  exact⟨j+1,⟨by omega,by rw[<-h3,V3 hj hsa]⟩,by omega,Le.of_eq rfl⟩
 have hka:=hitm k hk;conv=>whnf
 repeat' (first|((first|refine q7p rfl ?_|(refine iA fun _=>?_)|refine wI ?_|(refine XU (Nl p p.procs[j] (procsN p) its[k].s hka) (.cons (.p (Sub.refl _)) (.cons (.p (Sub.refl _)) (.cons (.hd rfl (by simp)) (.cons (.p (Sub.refl _)) .nil)))) (by rintro _ rfl;rfl) ?_;rintro _ rfl));conv=>whnf)|(apply bD<;>intro _<;>first|omega|conv=>whnf)|(apply bN<;>intro _<;>conv=>whnf))
 ·exact⟨k+1,⟨by omega,by rw[<-h6,Q9 (p:=fun it:Item=> !knownB p p.procs[j] (procsN p) it.s) hk (by simp;assumption)]⟩,by omega,Le.of_eq rfl⟩
 ·have e3:=DW (p:=fun it:Item=> !knownB p p.procs[j] (procsN p) it.s) hk (by simp;assumption);rw[<-h6,e3]at hsa;have e2:=VZ hj hsa;rw[h3]at e2;rw[e2];exact QE rfl rfl
def q0l:LV->Option Bool
 |.p .tt=>some true
 |.p .ff=>some false
 |.p (.bool b)=>some b
 |_=>none
theorem Mx{σ:Mem}{β:Lab}{l:LV}{v:Value}(h:RepL σ β l v)(hb:q0l l=some b):v=.bool b:=by
 cases h with
 |p h=>cases h<;>simp[q0l]at hb<;>subst hb<;>rfl
 |_=>simp[q0l]at hb
theorem D0{P:Program}{T:Tab}{hr:Bool}{s:St}{o:Oper}{K:LV->Prop}(hT:TabOK P T){t u:TypeId}{x y:Operand}(hop:o.op=.binOp .neq t x y u){i:TyI}(ht:T.get t=some i)(hd:i.desc=.bool){a:Bool}(hx:q0l (QL s.sl x)=some a)(hy:q0l (QL s.sl y)=some b)(hK:K (.p (.bool (a != b)))):ValO P hr s o K:=by
 refine⟨fun σ β ac w hs _=>⟨_,.bool (a != b),hK,.p (.bool _),fun w' _ _=>?_⟩⟩;have h1:=Mx (QZ hs x) hx;have h2:=Mx (QZ hs y) hy;have hu:=hT.of ht;rw[hd]at hu;have hg:(eqGuard .neq t x y (.bool a) (.bool b)).run P w'=.ok () w':=by unfold eqGuard;rfl
 have he:(Op.equal t (.bool a) (.bool b)).run P w'=.ok (a==b) w':=by
  have e:Op.equal t (.bool a) (.bool b)=Op.equalIn (9999+1) t (.bool a) (.bool b):=rfl;rw[e,Op.equalIn,Sem.run_bind,run_underlying hu,Result.andThen_ok];rfl
 simp only[execOp,hop,h1,h2,Sem.run_bind,hg,Result.andThen_ok,binOp];simp[he];cases a<;>cases b<;>rfl
def Tx(l:List Param)(args:List Arg):Bool:=decide (l.map Param.ref=args.map Arg.ref)
theorem RW(l:List Param)(args:List Arg):SpecP prog 180 [.sl (l.map fun a=>.agg a.cells),AG args] (fun r=>r=.bool (Tx l args)):=by
 refine sB Fz func180 rfl call180 ?_;conv=>whnf
 repeat' (first|(refine iM fun _=>?_;conv=>whnf)|(apply bE<;>intro _<;>first|omega|conv=>whnf))
 all_goals
  have hl:(l.map fun a=>AV.agg a.cells).length=l.length:=q7f _;have hl2:(args.map fun a=>AV.agg a.cells).length=args.length:=q7f _
 ·have hlen:l.length=args.length:=by omega
  refine LoopK.inv QK (fun j:Nat=>⟨[(1,.p (AG args)),(12,.p (.sl (l.map fun a=>.agg a.cells))),(13,.p (.int .i64 (l.map fun a=>AV.agg a.cells).length)),(14,.p (.int .i64 j))],[]⟩) (fun j=>j<=l.length/\(l.map Param.ref).take j=(args.map Arg.ref).take j) (fun j=>l.length-j) 0 (Le.of_eq rfl) ⟨q7c _,rfl⟩ ?_;rintro j ⟨h2,h3⟩;rcases q7e j l.length with hj|hj
  ·conv=>whnf
   repeat' (first|((first|refine dA ?_|refine q7p rfl ?_|(refine iA fun _=>?_)|refine wI ?_|refine D0 QK rfl rfl rfl rfl rfl ?_);conv=>whnf)|(apply bD<;>intro _<;>first|omega|conv=>whnf)|(apply bE<;>intro _<;>first|omega|conv=>whnf))
   ·have hne:l[j].ref=(args[j]'(by omega)).ref:=by assumption
    exact⟨j+1,⟨by omega,by
     rw[q8q (by simp;omega),q8q (by simp;omega),h3];simp[hne]⟩,by omega,Le.of_eq rfl⟩
   ·have hne:¬l[j].ref=(args[j]'(by omega)).ref:=by assumption
    exact RetK.ff (by
     unfold Tx;rw[q9s];intro he;have:(l.map Param.ref)[j]?=(args.map Arg.ref)[j]?:=by rw[he]
     rw[q7l,q7l,q7g hj,q7g (by omega)]at this;simp at this;exact hne this)
  ·conv=>whnf
   repeat' (apply bD<;>intro _<;>first|omega|conv=>whnf)
   exact RetK.tt (by
    unfold Tx;rw[q8e]
    rwa[q8y (by simp;omega),q8y (by simp;omega)]at h3)
 ·exact RetK.ff (by
   unfold Tx;rw[q9s];intro he;have:=q9e List.length he;simp at this;omega)
def HC(p:Pg)(s:S):Bool:=decide (s.kind=4)&&match p.procs.find? (fun f=>f.name==s.proc)with
 |some f=>Tx f.params s.args
 |none=>false
theorem RZ(p:Pg)(s:S):SpecP prog 133 [.agg p.cells,.agg s.cells] (fun r=>r=.bool (HC p s)):=by
 refine sB Fx func133 rfl call133 ?_;conv=>whnf
 repeat' (first|(refine iM fun _=>?_;conv=>whnf)|(apply bE<;>intro _<;>first|omega|conv=>whnf))
 ·have hl:(p.procs.map fun f=>AV.agg f.cells).length=p.procs.length:=q7f _;refine LoopK.inv QK (fun j:Nat=>⟨[(3,.p (.ip s.cells)),(11,.p (.sl (p.procs.map fun f=>.agg f.cells))),(12,.p (.int .i64 (p.procs.map fun f=>AV.agg f.cells).length)),(13,.p (.int .i64 j))],[]⟩) (fun j=>j<=p.procs.length/\(p.procs.drop j).find? (fun f=>f.name==s.proc)=p.procs.find? (fun f=>f.name==s.proc)) (fun j=>p.procs.length-j) 0 (Le.of_eq rfl) ⟨q7c _,rfl⟩ ?_;rintro j ⟨h2,h3⟩;conv=>whnf
  repeat' (first|((first|refine cP (RW _ _) ?_|refine q7p rfl ?_|(refine iA fun _=>?_)|refine wI ?_);conv=>whnf)|(apply bD<;>intro _<;>first|omega|conv=>whnf)|(apply bB<;>intro _<;>conv=>whnf))
  ·have e:=DW (p:=fun f:Pr=>f.name==s.proc) (l:=p.procs) (j:=j) (by omega) (by assumption);rw[h3]at e;exact RetK.bool (by unfold HC;rw[e];simp[*])
  ·exact⟨j+1,⟨by omega,by rw[<-h3,Q9 (p:=fun f:Pr=>f.name==s.proc) (by omega) (by assumption)]⟩,by omega,Le.of_eq rfl⟩
  ·have e:p.procs.find? (fun f=>f.name==s.proc)=none:=by rw[<-h3,DX (by omega)]
   exact RetK.ff (by unfold HC;rw[e];simp)
 ·exact RetK.ff (by unfold HC;simp[*])
def YZ(p:Pg):List S:=p.procs.flatMap fun f=>flL f.body
theorem It:∀(l:List Pr)(i:Nat)(acc:List Item)(lo hi:List Int),(Y4 i acc lo hi l).1.map Item.s=acc.map Item.s++l.flatMap fun f=>flL f.body
 |[],i,acc,lo,hi=>by rw[Y4];simp
 | f::r,i,acc,lo,hi=>by
   rw[Y4,It r,LQ,q7o,MF,q9m,q8d]
theorem JZ(p:Pg):(sheetOf p).l.map Item.s=YZ p:=by
 have:=It p.procs 0 [] [] [];unfold sheetOf YZ;simpa using this
theorem K8(hf:Fit p)(hk:k<(sheetOf p).l.length):wS (sheetOf p).l[k].s<=20000:=by
 have hm:(sheetOf p).l[k].s∈YZ p:=by
  rw[<-JZ];exact q7s.2 ⟨_,q7i hk,rfl⟩
 unfold YZ at hm;obtain⟨f,h1,h2⟩:=q8r.1 hm;have h3:=N2 _ _ h2;have h4:=hf.pr h1;unfold wPr at h4;omega
def UM(p:Pg):Int×Int:=
 if(XZ p).1≠0 then(1,0)else match(YZ p).find? fun t=>decide (t.kind=4) && !HC p t with
  |some t=>(6,t.id)
  |none=>(0,0)
theorem JT(h:(XZ p).1=0):HY p=true/\ZD p=false/\p.procs.findSome? (WF p)=none:=by
 unfold XZ at h;cases hm:HY p<;>rw[hm]at h
 ·cases h
 cases hb:ZD p<;>rw[hb]at h
 ·refine⟨rfl,rfl,?_⟩;simp only[q8g,q8b]at h;split at h
  ·cases h
  ·assumption
 ·cases h
theorem Wt(p:Pg)(hf:Fit p):SpecP prog 82 [.agg p.cells] (fun r=>r=J8 (UM p).1 (UM p).2):=by
 refine sB Kn func82 rfl call82 ?_;conv=>whnf
 repeat' (first|((first|refine cP (YO p hf) ?_|refine q7p rfl ?_);conv=>whnf)|(apply bE<;>intro _<;>first|omega|conv=>whnf))
 rotate_left 1
 ·have e:UM p=(1,0):=by unfold UM;rw[if_pos (by assumption)]
  exact QE (by rw[e]) (by rw[e])
 have hs:(XZ p).1=0:=by assumption
 obtain⟨hm,hb,hns⟩:=JT hs;obtain⟨hg,hpl,hcn⟩:=WC hm;have hA:UM p=match(YZ p).find? fun t=>decide (t.kind=4) && !HC p t with
  |some t=>(6,t.id)
  |none=>(0,0):=by unfold UM;rw[if_neg (by omega)]
 repeat' ((first|(refine iM fun _=>?_)|(refine CallK.pure (JD p (by omega) (by omega)) (.cons (Sub.refl _) .nil) ?_;rintro _ rfl));conv=>whnf)
 have hil:=VX (sheetOf p).l;have hib:(sheetOf p).l.length<=200:=by have:=(QV p).2.2.2.1;omega
 have hfi:=DZ (q:=fun t=>decide (t.kind=4) && !HC p t) (sheetOf p).l;rw[JZ]at hfi;have hA2:UM p=match((sheetOf p).l.find? fun it=>decide (it.s.kind=4) && !HC p it.s).map (fun it=>it.s.id)with
  |some a=>(6,a)
  |none=>(0,0):=by
  rw[hA,hfi];cases(YZ p).find? fun t=>decide (t.kind=4) && !HC p t<;>rfl
 rw[hA2];refine LoopK.inv QK (fun k:Nat=>⟨[(1,.p (.ip p.cells)),(2,.ptr 1 0),(14,.p (VL (sheetOf p).l)),(15,.p (.int .i64 ((sheetOf p).l.map fun i=>AV.agg i.cells).length)),(16,.p (.int .i64 k))],[(1,.obj 87 [.p (.int .i64 0),.p (.int .i64 0)])]⟩)
  (fun k=>k<=(sheetOf p).l.length/\((sheetOf p).l.drop k).find? (fun it=>decide (it.s.kind=4) && !HC p it.s)=(sheetOf p).l.find? fun it=>decide (it.s.kind=4) && !HC p it.s) (fun k=>(sheetOf p).l.length-k) 0 (Le.of_eq rfl) ⟨q7c _,rfl⟩ ?_
 rintro k ⟨h5,h6⟩;rcases q7e k (sheetOf p).l.length with hk|hk;rotate_left 1
 ·rw[<-h6,DX hk];conv=>whnf
  repeat' (first|(refine q7p rfl ?_;conv=>whnf)|(apply bD<;>intro _<;>first|omega|conv=>whnf))
  exact QE rfl rfl
 conv=>whnf
 repeat' (first|((first|refine cP (RZ _ _) ?_|refine q7p rfl ?_|(refine iA fun _=>?_)|refine wI ?_);conv=>whnf)|(apply bD<;>intro _<;>first|omega|conv=>whnf)|(apply bN<;>intro _<;>conv=>whnf))
 all_goals first
  | (have e3:=DW (p:=fun it:Item=>decide (it.s.kind=4) && !HC p it.s) hk (by simp[*])
     rw[<-h6,e3];exact QE rfl rfl)
  |exact⟨k+1,⟨by omega,by rw[<-h6,Q9 (p:=fun it:Item=>decide (it.s.kind=4) && !HC p it.s) hk (by simp[*])]⟩,by omega,Le.of_eq rfl⟩
def YC:List Str->List Str->Option (List Str)
 |seen,[]=>some seen
 |seen,n::r=>bif seen.any (fun s=>n==s)then none else YC (seen++[n]) r
theorem E0(hj:j<l.length)(h:(seen.any fun s=>l[j]==s)=true):YC seen (l.drop j)=none:=by
 rw[QB hj,YC,h];rfl
theorem Si(hj:j<l.length)(h:(seen.any fun s=>l[j]==s)=false):YC seen (l.drop j)=YC (seen++[l[j]]) (l.drop (j+1)):=by
 rw[QB hj,YC,h];rfl
theorem B5:∀{l seen out:List Str},YC seen l=some out->out=seen++l
 |[],seen,out,h=>by rw[YC]at h;cases h;simp
 | n::r,seen,out,h=>by
   rw[YC]at h;cases hc:(seen.any fun s=>n==s)<;>rw[hc]at h
   ·have:=B5 h;simpa using this
   ·cases h
def So(t:Nat)(seen l:List Str)(r:LV)(H:Heap):Prop:=
 match YC seen l with
 |some out=>r=.tup [.hd 2000 0 out.length,.p .tt]/\H=Ta t out
 |none=>∃out,r=.tup [.hd 2000 0 out.length,.p .ff]/\H=Ta t out
theorem Vs{t:Nat}{Q:LV->Heap->Prop}(h1:YC seen l=some (seen++l)->Q (.tup [.hd 2000 0 (seen++l).length,.p .tt]) (Ta t (seen++l)))(h2:YC seen l=none->∀out,Q (.tup [.hd 2000 0 out.length,.p .ff]) (Ta t out)):∀l' H',So t seen l l' H'->Q l' H':=by
 intro l' H' h;unfold So at h;cases hr:YC seen l with
 | some out=>
   rw[hr]at h;obtain⟨rfl,rfl⟩:=h;have:=B5 hr;subst this;exact h1 hr
 | none=>
   rw[hr]at h;obtain⟨out,rfl,rfl⟩:=h;exact h2 hr out
theorem B6(seen l:List Str)(hlen:seen.length+l.length<=1000000000):
  SpecH prog 135 [.hd 2000 0 seen.length,.p (eStrs l)] (Ta 9 seen) (So 9 seen l):=by
 refine sH Pm func135 rfl call135 ?_;conv=>whnf
 repeat' (refine iM fun _=>?_;conv=>whnf)
 have hl:(l.map AV.str).length=l.length:=q7f _;refine LoopK.inv QK (fun i:Nat×List Str=>⟨[(0,.hd 2000 0 i.2.length),(8,.p (eStrs l)),(9,.p (.int .i64 (l.map AV.str).length)),(10,.p (.int .i64 i.1))],Ta 9 i.2⟩) (fun i=>i.1<=l.length/\i.2.length+(l.length-i.1)=seen.length+l.length/\YC i.2 (l.drop i.1)=YC seen l) (fun i=>l.length-i.1) (0,seen) (Le.of_eq rfl) ⟨q7c _,by simp,rfl⟩ ?_;rintro⟨j,acc⟩ ⟨h2,h3,h4⟩;simp only at h2 h3 h4⊢;rcases q7e j l.length with hj|hj
 ·conv=>whnf
  repeat' (first|((first|refine q7p rfl ?_|refine aD ?_|refine bP ?_|(refine iA fun _=>?_)|refine wI ?_|(refine XU (QW acc (l[j]'hj)) (.cons (.hd rfl (by simp)) (.cons (.p (Sub.refl _)) .nil)) (by rintro _ rfl;rfl) ?_;rintro _ rfl)|refine XQ (by simp) (by simp;omega) ?_);conv=>whnf)|(apply bD<;>intro _<;>first|omega|conv=>whnf)|(apply bB<;>intro _<;>conv=>whnf))
  ·exact⟨_,.refl _,by unfold So;rw[<-h4,E0 hj (by assumption)];exact⟨acc,rfl,rfl⟩⟩
  ·exact⟨(j+1,acc++[l[j]]),⟨by simp only;omega,by simp;omega,by simp only;rw[<-h4,Si hj (by assumption)]⟩,by simp only;omega,Le.of_eq (by simp only[Ta,q7b,q7o];rfl)⟩
 ·conv=>whnf
  repeat' (apply bD<;>intro _<;>first|omega|conv=>whnf)
  rw[q8v hj,YC]at h4;exact⟨_,.refl _,by unfold So;rw[<-h4];exact⟨rfl,rfl⟩⟩
def atB(f:Pr)(label:Str):Int×Bool:=
 match(flL f.body).find? fun t=>t.labels.any fun s=>label==s with
 |some t=>(t.id,true)
 |none=>bif f.fin.any fun s=>label==s then(-1,true)else(0,false)
theorem RetK.tup2{H:Heap}{k:IntKind}{m n:Int}{x:AV}(h:m=n)(hb:Sub x (.bool b)):RetK H (.p (.tup [.int k m,x])) (fun r=>r=.tup [.int k n,.bool b]):=
 ⟨_,.p (Sub.tup (SubL.cons (Sub.int h) (SubL.cons hb SubL.nil))),rfl⟩
theorem MX(p:Pg)(j:Nat)(f:Pr)(hj:p.procs[j]?=some f)(hc:cntP p.procs<=1000)(label:Str):SpecP prog 122 [.ip (sheetOf p).cells,.int .i64 j,.str label] (fun r=>r=.tup [.int .i64 (atB f label).1,.bool (atB f label).2]):=by
 refine sB W8 func122 rfl call122 ?_;conv=>whnf
 repeat' ((first|(refine iM fun _=>?_)|refine cP (Rc p hj hc) ?_);conv=>whnf)
 have hfi:=DZ (q:=fun t=>t.labels.any fun s=>label==s) (itL (j:Nat) 0 (-1) 0 (QM p.procs j) f.body);rw[MF]at hfi;have hib:(itL (j:Nat) 0 (-1) 0 (QM p.procs j) f.body).length<=1000:=by
  have:=(QV p).2.2.2.2 j f hj;rw[ZF];omega
 generalize hits:itL (j:Nat) 0 (-1) 0 (QM p.procs j) f.body=its at hfi hib⊢;have hil:=VX its;have hat:atB f label=match(its.find? fun it=>it.s.labels.any fun s=>label==s).map (fun it=>it.s.id)with
  |some a=>(a,true)
  |none=>bif f.fin.any fun s=>label==s then(-1,true)else(0,false):=by
  unfold atB;rw[hfi];cases(flL f.body).find? fun t=>t.labels.any fun s=>label==s<;>rfl
 rw[hat];refine LoopK.inv QK (fun k:Nat=>⟨[(0,.p (.ip (sheetOf p).cells)),(1,.p (.int .i64 j)),(2,.p (.str label)),(12,.p (VL its)),(13,.p (.int .i64 (its.map fun i=>AV.agg i.cells).length)),(14,.p (.int .i64 k))],[]⟩)
  (fun k=>k<=its.length/\(its.drop k).find? (fun it=>it.s.labels.any fun s=>label==s)=its.find? fun it=>it.s.labels.any fun s=>label==s) (fun k=>its.length-k) 0 (Le.of_eq rfl) ⟨q7c _,rfl⟩ ?_
 rintro k ⟨h5,h6⟩;rcases q7e k its.length with hk|hk
 ·conv=>whnf
  repeat' (first|((first|refine cP (QW _ _) ?_|refine q7p rfl ?_|(refine iA fun _=>?_)|refine wI ?_);conv=>whnf)|(apply bD<;>intro _<;>first|omega|conv=>whnf)|(apply bB<;>intro _<;>conv=>whnf))
  ·have e3:=DW (p:=fun it:Item=>it.s.labels.any fun s=>label==s) hk (by assumption);rw[<-h6,e3];exact RetK.tup2 rfl (Sub.tt rfl)
  ·exact⟨k+1,⟨by omega,by rw[<-h6,Q9 (p:=fun it:Item=>it.s.labels.any fun s=>label==s) hk (by assumption)]⟩,by omega,Le.of_eq rfl⟩
 ·rw[<-h6,DX hk];have hpj:(p.procs.map fun f=>AV.agg f.cells)[j]?=some (.agg f.cells):=by simp[hj]
  conv=>whnf
  repeat' (first|((first|refine cP (QW _ _) ?_|(refine IdxK.at rfl hpj rfl ?_));conv=>whnf)|(apply bD<;>intro _<;>first|omega|conv=>whnf)|(apply bB<;>intro _<;>conv=>whnf))
  ·exact RetK.tup2 (by simp[*]) (Sub.tt (by simp[*]))
  ·exact RetK.tup2 (by simp[*]) (Sub.ff (by simp[*]))
def YA(f:Pr)(it:Item):Bool:=if it.s.kind=7\/it.s.kind=8 then !(it.loop==0)else if it.s.kind=10 then(atB f it.s.name).2 else true
theorem RT(p:Pg)(j:Nat)(f:Pr)(hj:p.procs[j]?=some f)(hc:cntP p.procs<=1000)(it:Item)(hp:it.proc=j):SpecP prog 136 [.ip (sheetOf p).cells,.agg it.cells] (fun r=>r=.bool (YA f it)):=by
 refine sB Fg func136 rfl call136 ?_;conv=>whnf
 repeat' (first|(refine CallK.pure (MX p j f hj hc it.s.name) (.cons (Sub.refl _) (.cons (Sub.int hp) (.cons (Sub.refl _) .nil))) ?_;rintro _ rfl;conv=>whnf)|(apply bD<;>intro _<;>first|omega|conv=>whnf))
 all_goals first
  |exact RetK.bool (by simp[YA, *];rfl)
  |exact RetK.bool (by simp[YA, *])
  |exact RetK.tt (by simp[YA, *])
theorem RS(p:Pg)(hf:Fit p)(h:(XZ p).1=0):SpecP prog 134 [.agg p.cells] (fun r=>r=.ip (sheetOf p).cells):=by
 refine sB Xu func134 rfl call134 ?_;conv=>whnf
 obtain⟨hm,hb,hns⟩:=JT h;obtain⟨hg,hpl,hcn⟩:=WC hm;repeat' (first|((first|refine cP (YO p hf) ?_|(refine CallK.pure (JD p (by omega) (by omega)) (.cons (Sub.refl _) .nil) ?_;rintro _ rfl));conv=>whnf)|(apply bE<;>intro _<;>first|omega|conv=>whnf))
 exact RetK.p rfl
theorem H3(p:Pg)(hf:Fit p)(h:(XZ p).1≠0):SpecP prog 134 [.agg p.cells] (fun r=>r=.nilp):=by
 refine sB Xu func134 rfl call134 ?_;conv=>whnf
 repeat' (first|(refine cP (YO p hf) ?_;conv=>whnf)|(apply bE<;>intro _<;>first|omega|conv=>whnf))
 exact RetK.p rfl
mutual
theorem AO(proc up nx loop:Int)(n:Nat):∀(t:S)(it:Item),it∈itS proc up nx loop n t->it.proc=proc
 | .mk id kind labels name pr x has args thn els,it,h=>by
   rw[itS]at h;rcases q7r.1 h with rfl|h
   ·rfl
   ·rcases q7a.1 h with h|h
    ·exact DK _ _ _ _ _ thn it h
    ·exact DK _ _ _ _ _ els it h
theorem DK(proc up nx loop:Int)(n:Nat):∀(l:List S)(it:Item),it∈itL proc up nx loop n l->it.proc=proc
 |[],it,h=>by rw[itL]at h;cases h
 | t::r,it,h=>by
   rw[itL]at h;rcases q7a.1 h with h|h
   ·exact AO _ _ _ _ _ t it h
   ·exact DK _ _ _ _ _ r it h
end
def DE(f:Pr):List Item->List Str->Except Int (List Str)
 |[],seen=>.ok seen
 | it::r,seen=>match YC seen it.s.labels with
   |none=>.error it.s.id
   |some s=>bif YA f it then DE f r s else .error it.s.id
def JP(p:Pg)(j:Nat):Option Int:=
 match p.procs[j]?with
 |none=>none
 | some f=>match DE f (itL (j:Nat) 0 (-1) 0 (QM p.procs j) f.body) []with
   |.error id=>some id
   | .ok seen=>match YC seen f.fin with
     |none=>some 0
     |some _=>none
def Zg(p:Pg):Int×Int:=
 if(XZ p).1≠0 then(1,0)else match(List.range p.procs.length).findSome? (JP p)with
  |some a=>(7,a)
  |none=>(0,0)
theorem E1(hk:k<its.length)(h:YC seen its[k].s.labels=none):DE f (its.drop k) seen=.error its[k].s.id:=by
 rw[QB hk,DE,h]
theorem SX{s:List Str}(hk:k<its.length)(h:YC seen its[k].s.labels=some s)(hl:YA f its[k]=false):DE f (its.drop k) seen=.error its[k].s.id:=by
 rw[QB hk,DE,h];simp only[hl,q8b]
theorem SZ{s:List Str}(hk:k<its.length)(h:YC seen its[k].s.labels=some s)(hl:YA f its[k]=true):DE f (its.drop k) seen=DE f (its.drop (k+1)) s:=by
 rw[QB hk,DE,h];simp only[hl,q8g]
theorem Nw{l:List Pr}(hj:j<l.length)(h:wPr l[j]<=20000){b:Int}{n:Nat}(hk:k<(itL a b c d n l[j].body).length):(itL a b c d n l[j].body)[k].s.labels.length<=20000:=by
 have hm:(itL a b c d n l[j].body)[k].s∈flL l[j].body:=by
  rw[<-MF a b c d n];exact q7s.2 ⟨_,q7i hk,rfl⟩
 have h1:=N2 _ _ hm;have h2:=A2 (itL a b c d n l[j].body)[k].s;have h3:=Hs (itL a b c d n l[j].body)[k].s.labels;unfold wPr at h;omega
theorem RR(p:Pg)(hf:Fit p):SpecP prog 83 [.agg p.cells] (fun r=>r=J8 (Zg p).1 (Zg p).2):=by
 refine sB Fk func83 rfl call83 ?_;conv=>whnf
 rcases Decidable.em ((XZ p).1=0)with hs|hs;rotate_left 1
 ·
  repeat' ((first|refine cP (H3 p hf hs) ?_|refine q7p rfl ?_);conv=>whnf)
  have e:Zg p=(1,0):=by unfold Zg;rw[if_pos hs]
  exact QE (by rw[e]) (by rw[e])
 obtain⟨hm,hb,hns⟩:=JT hs;obtain⟨hg,hpl,hcn⟩:=WC hm;have hJ:Zg p=match(List.range p.procs.length).findSome? (JP p)with
  |some a=>(7,a)
  |none=>(0,0):=by unfold Zg;rw[if_neg (by omega)]
 rw[hJ];have hl:(p.procs.map fun f=>AV.agg f.cells).length=p.procs.length:=q7f _;repeat' ((first|(refine iM fun _=>?_)|refine cP (RS p hf hs) ?_);conv=>whnf)
 refine LoopK.inv QK (fun j:Nat=>⟨[(2,.ptr 1 0),(3,.p (.ip (sheetOf p).cells)),(16,.p (.sl (p.procs.map fun f=>.agg f.cells))),(17,.p (.int .i64 (p.procs.map fun f=>AV.agg f.cells).length)),(18,.p (.int .i64 j))],[(1,.obj 87 [.p (.int .i64 0),.p (.int .i64 0)])]⟩)
  (fun j=>j<=p.procs.length/\((List.range p.procs.length).drop j).findSome? (JP p)=(List.range p.procs.length).findSome? (JP p)) (fun j=>p.procs.length-j) 0 (Le.of_eq rfl) ⟨q7c _,rfl⟩ ?_
 rintro j ⟨h2,h3⟩;rcases q7e j p.procs.length with hj|hj;rotate_left 1
 ·have e:(List.range p.procs.length).findSome? (JP p)=none:=by rw[<-h3,Xl (by simpa using hj)]
  rw[e];conv=>whnf
  repeat' (first|(refine q7p rfl ?_;conv=>whnf)|(apply bD<;>intro _<;>first|omega|conv=>whnf))
  exact QE rfl rfl
 have hfp:=hf.pr (q7i hj);have hjr:j<(List.range p.procs.length).length:=by simpa using hj
 have hrj:(List.range p.procs.length)[j]=j:=by simp
 have hpj:p.procs[j]?=some p.procs[j]:=by simp[hj]
 conv=>whnf
 repeat' (first|((first|(refine iM fun _=>?_)|refine q7p rfl ?_|(refine iA fun _=>?_)|(refine CallK.pure (Rc p (f:=p.procs[j]'hj) hpj (by omega)) (.cons (Sub.refl _) (.cons (Sub.refl _) .nil)) ?_;rintro _ rfl));conv=>whnf)|(apply bD<;>intro _<;>first|omega|conv=>whnf))
 have hlab:∀k (hk:k<(itL (j:Nat) 0 (-1) 0 (QM p.procs j) p.procs[j].body).length),(itL (j:Nat) 0 (-1) 0 (QM p.procs j) p.procs[j].body)[k].s.labels.length<=20000:=fun k hk=>Nw hj hfp hk;have hprc:∀k (hk:k<(itL (j:Nat) 0 (-1) 0 (QM p.procs j) p.procs[j].body).length),(itL (j:Nat) 0 (-1) 0 (QM p.procs j) p.procs[j].body)[k].proc=j:=fun k hk=>DK _ _ _ _ _ _ _ (q7i hk);have hib:(itL (j:Nat) 0 (-1) 0 (QM p.procs j) p.procs[j].body).length<=200:=by
  have:=(QV p).2.2.2.2 j _ hpj;rw[ZF];omega
 have hja:JP p j=match DE p.procs[j] (itL (j:Nat) 0 (-1) 0 (QM p.procs j) p.procs[j].body) []with
  |.error id=>some id
  | .ok seen=>match YC seen p.procs[j].fin with
    |none=>some 0
    |some _=>none:=by
  unfold JP;rw[hpj]
 generalize hits:itL (j:Nat) 0 (-1) 0 (QM p.procs j) p.procs[j].body=its at hlab hprc hib hja⊢;have hil:=VX its;refine LoopK.inv QK (fun i:Nat×List Str=>⟨[(2,.ptr 1 0),(3,.p (.ip (sheetOf p).cells)),(5,.p (.ip (p.procs[j]'hj).cells)),(6,.hd 0 0 i.2.length),(16,.p (.sl (p.procs.map fun f=>.agg f.cells))),(17,.p (.int .i64 (p.procs.map fun f=>AV.agg f.cells).length)),(18,.p (.int .i64 j)),(25,.p (VL its)),(26,.p (.int .i64 (its.map fun i=>AV.agg i.cells).length)),(27,.p (.int .i64 i.1))],[(0,.own 9 1 (i.2.map .str)),(1,.obj 87 [.p (.int .i64 0),.p (.int .i64 0)])]⟩)
  (fun i=>i.1<=its.length/\i.2.length<=20000*i.1/\DE p.procs[j] (its.drop i.1) i.2=DE p.procs[j] its []) (fun i=>its.length-i.1) (0,[])
  (Le.mk [(0,.own 9 1 [])] (by simp[Chunk.new0];rfl) (by simp) (by simp) (.r (.r (.r (.cons (.nil q7d) (.r (.r (.r (.r (.r (.r .nil)))))))))) (.new q7d (.cons rfl (.refl _) .nil)))
  ⟨q7c _,by simp,rfl⟩ ?_
 rintro⟨k,acc⟩ ⟨h5,h6,h7⟩;simp only at h5 h6 h7⊢;rcases q7e k its.length with hk|hk
 ·have hlk:=hlab k hk;conv=>whnf
  repeat' (first|((first|refine q7p rfl ?_|(refine iA fun _=>?_)|refine wI ?_|(refine CallK.pure (RT p j p.procs[j] hpj (by omega) its[k] (hprc k hk)) (.cons (Sub.refl _) (.cons (Sub.refl _) .nil)) ?_;rintro _ rfl));conv=>whnf)|(apply bD<;>intro _<;>first|omega|conv=>whnf)|(apply bN<;>intro _<;>conv=>whnf)|(refine CallK.heap [(2000,0)] 0 (by repeat' (first|exact q8c|refine q8w ?_ ?_|exact q8k _|exact q8m Sub.nils|exact q8m (Sub.tt rfl)|exact q8m (Sub.ff rfl)|exact q8m (Sub.int (by omega)))) (by refine q8x (j:=0) rfl rfl ?_ ?_;exact CSub.refl _;exact q8a) (B6 acc its[k].s.labels (by omega)) rfl rfl (Vs (fun hjo=>?_) (fun hjo out=>?_))<;>conv=>whnf))
  ·exact⟨(k+1,acc++its[k].s.labels),⟨by simp only;omega,by simp;omega,by simp only;rw[<-h7,SZ hk hjo (by assumption)]⟩,by simp only;omega,Le.of_eq rfl⟩
  ·rw[<-h7,SX hk hjo (by assumption)]at hja;have e2:=VZ (f:=JP p) hjr (by rw[hrj];exact hja);rw[h3]at e2;rw[e2];exact QE rfl rfl
  ·rw[<-h7,E1 hk hjo]at hja;have e2:=VZ (f:=JP p) hjr (by rw[hrj];exact hja);rw[h3]at e2;rw[e2];exact QE rfl rfl
 ·have hfin:p.procs[j].fin.length<=20000:=by
   have:=Hs p.procs[j].fin;unfold wPr at hfp;omega
  rw[q8v hk,DE]at h7;rw[<-h7]at hja;simp only at hja;conv=>whnf
  repeat' (first|((first|refine q7p rfl ?_|refine wI ?_);conv=>whnf)|(apply bD<;>intro _<;>first|omega|conv=>whnf)|(refine CallK.heap [(2000,0)] 0 (by repeat' (first|exact q8c|refine q8w ?_ ?_|exact q8k _|exact q8m Sub.nils|exact q8m (Sub.tt rfl)|exact q8m (Sub.ff rfl)|exact q8m (Sub.int (by omega)))) (by refine q8x (j:=0) rfl rfl ?_ ?_;exact CSub.refl _;exact q8a) (B6 acc p.procs[j].fin (by omega)) rfl rfl (Vs (fun hjo=>?_) (fun hjo out=>?_))<;>conv=>whnf))
  ·rw[hjo]at hja;exact⟨j+1,⟨by omega,by rw[<-h3,V3 (f:=JP p) hjr (by rw[hrj];exact hja)]⟩,by omega,Le.of_eq rfl⟩
  ·rw[hjo]at hja;have e2:=VZ (f:=JP p) hjr (by rw[hrj];exact hja);rw[h3]at e2;rw[e2];exact QE rfl rfl
theorem BsK.pureL{es:List AV}{sz:Nat}{out:List LV}{Kp Ko:Prop}(hx:(es.all fun x=>x.cells.length==sz)=true)(ho:out=(es.flatMap AV.cells).map .p)(hK:Kp):BsK es sz out Kp Ko:=.pure (fun x h=>by simpa using q9b.1 hx x h) ho hK
end Go.Ab
