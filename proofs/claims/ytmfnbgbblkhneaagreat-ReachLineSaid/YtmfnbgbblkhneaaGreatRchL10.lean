/- Weights; a sheet by its offsets; what a name is. -/
import Derived.Test.YtmfnbgbblkhneaaGreatRchL9
set_option linter.unusedSimpArgs false
set_option linter.unusedVariables false
set_option maxRecDepth 100000
set_option maxHeartbeats 16000000
namespace Go.Ab
open Go.Proofs.Tryz
open Go.Proofs
variable {α β:Type}{a c d:Int}{b:Bool}{f:Pr}{its:List Item}{j k:Nat}{l seen:List Str}{p:Pg}
def Ma:List Str->Nat
 |[]=>0
 |s::r=>1+Ma r
mutual
def wX:X->Nat
 |.mk _ _ name kids=>1+wXs kids
def wXs:List X->Nat
 |[]=>0
 |x::r=>wX x+wXs r
end
def BW:List Arg->Nat
 |[]=>0
 |a::r=>wX a.x+1+BW r
mutual
def wS:S->Nat
 |.mk _ _ labels name proc x _ args thn els=>wX x+Ma labels+1+1+BW args+wL thn+wL els
def wL:List S->Nat
 |[]=>0
 |s::r=>wS s+wL r
end
def q5k:List Param->Nat
 |[]=>0
 |a::r=>1+q5k r
def wPr(f:Pr):Nat:=1+Ma f.vars+Ma f.fin+q5k f.params+wL f.body
def ER:List Pr->Nat
 |[]=>0
 |f::r=>wPr f+ER r
def wPg(p:Pg):Nat:=Ma p.globals+ER p.procs
def Fit(p:Pg):Prop:=wPg p<=20000
theorem BO:∀l:List Str,l.length<=Ma l
 |[]=>x3z _
 |s::r=>by have:=BO r;simp only[x4q,Ma];omega
theorem BV:∀l:List Arg,l.length<=BW l
 |[]=>x3z _
 |s::r=>by have:=BV r;simp only[x4q,BW];omega
theorem TK:∀l:List Param,l.length<=q5k l
 |[]=>x3z _
 |s::r=>by have:=TK r;simp only[x4q,q5k];omega
theorem Mn(s:S):wS s=wX s.x+Ma s.labels+1+1+BW s.args+wL s.thn+wL s.els:=by
 cases s;rw[wS];rfl
mutual
theorem q5l:∀s:S,ZW s<=wS s
 | .mk id kind labels name proc x has args thn els=>by
   have:=Py thn;have:=Py els;rw[ZW,wS];omega
theorem Py:∀l:List S,cntL l<=wL l
 |[]=>by rw[cntL,wL];exact x3g _
 | s::r=>by
   have:=q5l s;have:=Py r;rw[cntL,wL];omega
end
theorem EL:∀{l:List Pr}{f:Pr},f∈l->wPr f<=ER l
 | g::r,f,h=>by
   simp only[ER];rcases x2i.1 h with rfl|h
   ·omega
   ·have:=EL h;omega
theorem Fit.pr(h:Fit p)(hf:f∈p.procs):wPr f<=20000:=by
 have:=EL hf;unfold Fit wPg at h;omega
mutual
def flS:S->List S
 |.mk id kind labels name proc x has args thn els=>.mk id kind labels name proc x has args thn els::(flL thn++flL els)
def flL:List S->List S
 |[]=>[]
 |s::r=>flS s++flL r
end
theorem HI(s:S):flS s=s::(flL s.thn++flL s.els):=by
 cases s;rw[flS];rfl
mutual
theorem q2r:∀s:S,(flS s).length=ZW s
 | .mk id kind labels name proc x has args thn els=>by
   rw[flS,ZW,x4q,x2s,Xn thn,Xn els];omega
theorem Xn:∀l:List S,(flL l).length=cntL l
 |[]=>by rw[flL,cntL];rfl
 |s::r=>by rw[flL,cntL,x2s,q2r s,Xn r]
end
mutual
theorem q8n:∀(s t:S),t∈flS s->wS t<=wS s
 | .mk id kind labels name proc x has args thn els,t,h=>by
   rw[flS]at h;rcases x2i.1 h with rfl|h
   ·exact x3g _
   ·rw[wS];rcases x3x.1 h with h|h
    ·have:=Pp thn t h;omega
    ·have:=Pp els t h;omega
theorem Pp:∀(l:List S)(t:S),t∈flL l->wS t<=wL l
 |[],t,h=>by rw[flL]at h;cases h
 | s::r,t,h=>by
   rw[flL]at h;rw[wL];rcases x3x.1 h with h|h
   ·have:=q8n s t h;omega
   ·have:=Pp r t h;omega
end

mutual
def itS(proc up nx loop:Int)(n:Nat):S->List Item
 | .mk id kind labels name pr x has args thn els=>
   ⟨.mk id kind labels name pr x has args thn els,proc,up,nx,loop⟩::(itL proc (n+1) (if kind=6 then n+1 else nx) (if kind=6 then n+1 else loop) (n+1) thn ++
     itL proc (n+1) (if kind=6 then n+1 else nx) (if kind=6 then n+1 else loop) (n+1+cntL thn) els)
def itL(proc up nx loop:Int)(n:Nat):List S->List Item
 |[]=>[]
 |t::r=>itS proc up (if r.isEmpty then nx else n+1+ZW t) loop n t++itL proc up nx loop (n+ZW t) r
end
theorem q1x(proc up nx loop:Int)(n:Nat)(t:S):itS proc up nx loop n t=⟨t,proc,up,nx,loop⟩::(itL proc (n+1) (if t.kind=6 then n+1 else nx) (if t.kind=6 then n+1 else loop) (n+1) t.thn ++
   itL proc (n+1) (if t.kind=6 then n+1 else nx) (if t.kind=6 then n+1 else loop) (n+1+cntL t.thn) t.els):=by
 cases t;rw[itS];rfl
mutual
theorem q4z(proc up nx loop:Int):∀(t:S)(acc:List Item),Vk proc up nx loop acc t=acc++itS proc up nx loop acc.length t
 | .mk id kind labels name pr x has args thn els,acc=>by
   rw[Vk,itS,Qb _ _ _ _ thn,Qb _ _ _ _ els];simp only[x2s,x4q,x7g,x3s,List.cons_append,x7h,ZT proc _ _ _ _ thn,x5m,x6z,x9j (cntL thn) 1]
theorem Qb(proc up nx loop:Int):∀(l:List S)(acc:List Item),XK proc up nx loop acc l=acc++itL proc up nx loop acc.length l
 |[],acc=>by rw[XK,itL,x4b]
 | t::r,acc=>by
   rw[XK,itL,q4z _ _ _ _ t,Qb _ _ _ _ r];simp only[x2s,x3s,A7 proc _ _ _ _ t]
theorem A7(proc up nx loop:Int)(n:Nat):∀t:S,(itS proc up nx loop n t).length=ZW t
 | .mk id kind labels name pr x has args thn els=>by
   rw[itS,ZW,x4q,x2s,ZT _ _ _ _ _ thn,ZT _ _ _ _ _ els];omega
theorem ZT(proc up nx loop:Int)(n:Nat):∀l:List S,(itL proc up nx loop n l).length=cntL l
 |[]=>by rw[itL,cntL];rfl
 |t::r=>by rw[itL,cntL,x2s,A7 _ _ _ _ _ t,ZT _ _ _ _ _ r]
end
mutual
theorem q8a(proc up nx loop:Int)(n:Nat):∀t:S,(itS proc up nx loop n t).map Item.s=flS t
 | .mk id kind labels name pr x has args thn els=>by
   rw[itS,flS,x3l,x3y,DD _ _ _ _ _ thn,DD _ _ _ _ _ els]
theorem DD(proc up nx loop:Int)(n:Nat):∀l:List S,(itL proc up nx loop n l).map Item.s=flL l
 |[]=>by rw[itL,flL];rfl
 |t::r=>by rw[itL,flL,x3y,q8a _ _ _ _ _ t,DD _ _ _ _ _ r]
end
def QB:List Pr->Nat->Nat
 |_,0=>0
 |[],_+1=>0
 |f::r,i+1=>cntL f.body+QB r i
theorem Nn:∀(l:List Pr)(i:Nat)(acc:List Item)(lo hi:List Int),lo.length=i->hi.length=i->
  (Jf i acc lo hi l).2.1.length=i+l.length/\(Jf i acc lo hi l).2.2.length=i+l.length/\
  (∀k,k<i->(Jf i acc lo hi l).2.1[k]?=lo[k]? /\(Jf i acc lo hi l).2.2[k]?=hi[k]?)/\∃L,(Jf i acc lo hi l).1=acc++L/\L.length=cntP l/\
  ∀(k:Nat)(f:Pr),l[k]?=some f->(Jf i acc lo hi l).2.1[i+k]?=some ((acc.length+QB l k:Nat)+1:Int)/\(Jf i acc lo hi l).2.2[i+k]?=some ((acc.length+QB l k+cntL f.body:Nat)+1:Int)/\
   QB l k+cntL f.body<=cntP l/\(L.take (QB l k+cntL f.body)).drop (QB l k)=itL (i+k:Nat) 0 (-1) 0 (acc.length+QB l k) f.body
 | [],i,acc,lo,hi,h1,h2=>by
   rw[Jf];exact⟨by simpa using h1,by simpa using h2,fun _ _=>⟨rfl,rfl⟩,[],by simp,rfl,fun k f h=>by simp at h⟩
 | f::r,i,acc,lo,hi,h1,h2=>by
   rw[Jf];have hrow:=Qb i 0 (-1) 0 f.body acc;have hlen:=XX i 0 (-1) 0 acc f.body;obtain⟨h3,h4,h5,L,h6,h7,h8⟩:=Nn r (i+1) (XK i 0 (-1) 0 acc f.body) (lo++[(acc.length:Int)+1]) (hi++[((XK i 0 (-1) 0 acc f.body).length:Int)+1]) (by simp[h1]) (by simp[h2]);refine⟨by rw[h3,x4q];omega,by rw[h4,x4q];omega,fun k hk=>?_,itL i 0 (-1) 0 acc.length f.body++L,?_,?_,fun k g hg=>?_⟩
   ·obtain⟨h9,h10⟩:=h5 k (by omega);rw[h9,h10,x4p (by omega),x4p (by omega)];exact⟨rfl,rfl⟩
   ·rw[h6,hrow,x3s]
   ·rw[x2s,h7,ZT,cntP]
   ·cases k with
    | zero=>
      simp only[x8n,x6r]at hg;subst hg;obtain⟨h9,h10⟩:=h5 i (by omega);simp only[x8u,QB,x5m,x9t];refine⟨?_,?_,?_,?_⟩
      ·rw[h9,x4u (by omega),h1];simp
      ·rw[h10,x4u (by omega),h2,hlen];simp
      ·rw[cntP];omega
      ·rw[List.take_append_of_le_length (by rw[ZT];omega),x3f (by rw[ZT];omega)]
    | succ k=>
      simp only[x8p]at hg;obtain⟨h9,h10,h11,h12⟩:=h8 k g hg;rw[hlen]at h12;simp only[QB];refine⟨?_,?_,?_,?_⟩
      ·rw[show i+(k+1)=i+1+k by omega,h9,hlen];congr 2;omega
      ·rw[show i+(k+1)=i+1+k by omega,h10,hlen];congr 2;omega
      ·rw[cntP];omega
      ·rw[List.take_append,List.drop_append,ZT,x3f (by rw[ZT];omega),x3b (by rw[ZT];omega),x7h];simp only[ZT];rw[show cntL f.body+QB r k+cntL g.body-cntL f.body=QB r k+cntL g.body by omega,show cntL f.body+QB r k-cntL f.body=QB r k by omega,h12];rw[show i+(k+1)=i+1+k by omega,show acc.length+(cntL f.body+QB r k)=acc.length+cntL f.body+QB r k by omega]
theorem QJ(p:Pg):(sheetOf p).p=p/\(sheetOf p).lo.length=p.procs.length/\(sheetOf p).hi.length=p.procs.length/\(sheetOf p).l.length=cntP p.procs/\
  ∀(k:Nat)(f:Pr),p.procs[k]?=some f->(sheetOf p).lo[k]?=some ((QB p.procs k:Nat)+1:Int)/\(sheetOf p).hi[k]?=some ((QB p.procs k+cntL f.body:Nat)+1:Int)/\
   QB p.procs k+cntL f.body<=cntP p.procs/\((sheetOf p).l.take (QB p.procs k+cntL f.body)).drop (QB p.procs k)=itL k 0 (-1) 0 (QB p.procs k) f.body:=by
 obtain⟨h3,h4,_,L,h6,h7,h8⟩:=Nn p.procs 0 [] [] [] rfl rfl;refine⟨rfl,by unfold sheetOf;simpa using h3,by unfold sheetOf;simpa using h4,by unfold sheetOf;simp[h6,h7],fun k f hk=>?_⟩;have:=h8 k f hk;unfold sheetOf;simp only[h6,x7h,x7g,x5m]at this⊢;exact this
mutual
theorem Tn(nest seen:Int):∀(s:S){m:Int},Jb nest seen s=some m->m=seen+ZW s
 | .mk id kind labels name proc x has args thn els,m,h=>by
   simp only[Jb]at h;split at h
   ·cases h
   split at h
   ·cases h
   cases hn:namesB labels<;>rw[hn]at h
   ·cases h
   cases hf:XA (.mk id kind labels name proc x has args thn els)<;>rw[hf]at h
   ·cases h
   simp only[x3p]at h;split at h
   ·rename_i m1 h1;have h2:=KF (nest+1) (seen+1) thn h1;have h3:=KF (nest+1) m1 els h;rw[ZW];omega
   ·cases h
theorem KF(nest seen:Int):∀(l:List S){m:Int},WY nest seen l=some m->m=seen+cntL l
 | [],m,h=>by
   simp only[WY]at h;cases h;rw[cntL];simp
 | s::r,m,h=>by
   simp only[WY]at h;split at h
   ·cases h
   split at h
   ·rename_i m1 h1;have h2:=Tn nest seen s h1;have h3:=KF nest m1 r h;rw[cntL];omega
   ·cases h
end
theorem Gg:∀(l:List Pr){seen m:Int},seen<=200->XG seen l=some m->m=seen+cntP l/\m<=200
 |[],seen,m,h0,h=>by rw[XG]at h;cases h;simp[cntP];exact h0
 | f::r,seen,m,h0,h=>by
   rw[XG]at h;cases hm:JX f<;>rw[hm]at h
   ·cases h
   simp only[x3p]at h;split at h
   ·rename_i m1 h1;have h2:=KF 1 seen f.body h1;have h3:=Yo 1 seen f.body h0 h1;have h4:=Gg r (by omega) h;rw[cntP];omega
   ·cases h
theorem VQ(h:YL p=true):p.globals.length<=16/\p.procs.length<=16/\cntP p.procs<=200:=by
 unfold YL at h;simp only[x3h,x3i]at h;obtain⟨⟨⟨h1,h2⟩,_⟩,h3⟩:=h;cases hm:XG 0 p.procs with
 |none=>rw[hm]at h3;cases h3
 | some m=>
   have:=Gg p.procs (by decide) hm;omega
theorem R0(h:YL p=true)(hf:f∈p.procs):JX f=true:=by
 unfold YL at h;simp only[x3h]at h;have h3:=h.2;have key:∀(l:List Pr)(seen:Int),(XG seen l).isSome=true->∀f∈l,JX f=true:=fun l=>by
  induction l with
  |nil=>intro _ _ f hf;cases hf
  | cons g r ih=>
    intro seen h f hf;rw[XG]at h;cases hm:JX g<;>rw[hm]at h
    ·cases h
    simp only[x3p]at h;split at h
    ·rename_i m1 h1;rcases x2i.1 hf with rfl|hf
     ·exact hm
     ·exact ih _ h f hf
    ·cases h
 exact key _ _ h3 f hf
def JQ(p:Pg)(f:Pr)(name:Str):Int:=
 match f.params.find? (fun a=>a.name==name)with
 |some a=>bif a.ref then 3 else 2
 |none=>bif f.vars.any (fun s=>name==s)then 4 else bif p.globals.any (fun s=>name==s)then 1 else 0
theorem Xp{l:List α}{p:α->Bool}(hj:j<l.length)(h:p l[j]=false):(l.drop (j+1)).find? p=(l.drop j).find? p:=by
 rw[QF hj,x7m,h]
theorem BN{l:List α}{p:α->Bool}(hj:j<l.length)(h:p l[j]=true):(l.drop j).find? p=some l[j]:=by
 rw[QF hj,x7m,h]
theorem BB{l:List α}{p:α->Bool}(hj:l.length<=j):(l.drop j).find? p=none:=by
 rw[x3b hj];rfl
theorem H3(p:Pg)(f:Pr)(name:Str):SpecP prog 59 [.agg p.cells,.agg f.cells,.str name] (fun r=>r=.int .i64 (JQ p f name)):=by
 refine sB Bl func59 rfl call59 ?_;conv=>whnf
 repeat' (refine iM fun _=>?_;conv=>whnf)
 have hl:(f.params.map fun a=>AV.agg a.cells).length=f.params.length:=x2m _;refine LoopK.inv QY (fun j:Nat=>⟨[(2,.p (.str name)),(3,.p (.ip p.cells)),(4,.p (.ip f.cells)),(10,.p (.sl (f.params.map fun a=>.agg a.cells))),(11,.p (.int .i64 (f.params.map fun a=>AV.agg a.cells).length)),(12,.p (.int .i64 j))],[]⟩) (fun j=>j<=f.params.length/\(f.params.drop j).find? (fun a=>a.name==name)=f.params.find? (fun a=>a.name==name)) (fun j=>f.params.length-j) 0 (Le.of_eq rfl) ⟨x3z _,rfl⟩ ?_;rintro j ⟨h2,h3⟩;conv=>whnf
 repeat' (first|((first|refine cP (QW _ _) ?_|refine x2t rfl ?_|(refine iA fun _=>?_)|refine wI ?_);conv=>whnf)|(apply bD<;>intro _<;>first|omega|conv=>whnf)|(apply bB<;>intro _<;>conv=>whnf))
 all_goals try have hj:j<f.params.length:=by omega
 all_goals first
  | (exfalso
     have h8:((f.params[j]'(by omega)).name==name)=true:=by assumption
     have h9:((f.params[j]'(by omega)).name==name)=false:=by assumption
     rw[h8]at h9;cases h9)
  | (have e:=BN (p:=fun a:Param=>a.name==name) (by omega) (by assumption)
     rw[h3]at e;exact RetK.int (by unfold JQ;rw[e];simp[*]))
  |(refine⟨j+1,⟨by omega,by rw[<-h3,Xp (p:=fun a:Param=>a.name==name) (by omega) (by assumption)]⟩,by omega,Le.of_eq rfl⟩)
  | (have e:f.params.find? (fun a=>a.name==name)=none:=by rw[<-h3,BB (by omega)]
     exact RetK.int (by unfold JQ;rw[e];simp[*]))
def mainS:Str:=[109,97,105,110]
def knownB(p:Pg)(f:Pr)(procs:List Str)(t:S):Bool:=(ZK t).all (fun n=> !(JQ p f n==0))&&(decide (t.kind≠4)||(!(t.proc==mainS)&&procs.any fun s=>t.proc==s))
theorem Rz(p:Pg)(f:Pr)(procs:List Str)(t:S)(ha:t.args.length<=20000):SpecP prog 132 [.agg p.cells,.agg f.cells,eStrs procs,.agg t.cells] (fun r=>r=.bool (knownB p f procs t)):=by
 refine sB Hl func132 rfl call132 ?_;conv=>whnf
 repeat' ((first|(refine iM fun _=>?_)|refine cP (Kn _ ha) ?_);conv=>whnf)
 have hl:((ZK t).map AV.str).length=(ZK t).length:=x2m _;refine LoopK.inv QY (fun j:Nat=>⟨[(2,.p (eStrs procs)),(4,.p (.ip p.cells)),(5,.p (.ip f.cells)),(7,.p (.ip t.cells)),(12,.p (eStrs (ZK t))),(13,.p (.int .i64 ((ZK t).map AV.str).length)),(14,.p (.int .i64 j))],[]⟩) (fun j=>j<=(ZK t).length/\((ZK t).drop j).all (fun n=> !(JQ p f n==0))=(ZK t).all (fun n=> !(JQ p f n==0))) (fun j=>(ZK t).length-j) 0 (Le.of_eq rfl) ⟨x3z _,rfl⟩ ?_;rintro j ⟨h2,h3⟩;conv=>whnf
 repeat' (first|((first|refine cP (H3 _ _ _) ?_|refine cP (QW _ _) ?_|(refine iA fun _=>?_)|refine wI ?_);conv=>whnf)|(apply bD<;>intro _<;>first|omega|conv=>whnf)|(apply bE<;>intro _<;>first|omega|conv=>whnf)|(apply bN<;>intro _<;>conv=>whnf))
 ·exact RetK.ff (by
   have e:=Zt (p:=fun n=> !(JQ p f n==0)) (l:=ZK t) (j:=j) (by omega) (by simp;assumption);rw[knownB,<-h3,e,Bool.false_and])
 ·exact⟨j+1,⟨by omega,by rw[<-h3,HW (p:=fun n=> !(JQ p f n==0)) (by omega) (by simp;assumption)]⟩,by omega,Le.of_eq rfl⟩
 all_goals
  have e:(ZK t).all (fun n=> !(JQ p f n==0))=true:=by rw[<-h3,HZ (by omega)]
 ·exact RetK.ff (by
   have h8:(t.proc==mainS)=true:=by assumption
   rw[knownB,e,h8];simp[*])
 ·exact RetK.bool (by
   have h8:(t.proc==mainS)=false:=by assumption
   rw[knownB,e,h8];simp[*])
 ·exact RetK.tt (by rw[knownB,e];simp[*])
def Kh(c at_:Int):AV:=.agg [.int .i64 c,.int .i64 at_]
def procsN(p:Pg):List Str:=p.procs.map Pr.name
def ZY(p:Pg):Bool:=ZN p.globals||(ZN (procsN p)||(!((procsN p).any fun s=>mainS==s)||match p.procs.find? (fun f=>mainS==f.name)with
 |some f=>decide (0<f.params.length)
 |none=>true))
def WM(p:Pg)(f:Pr):Option Int:=
 bif ZN (Jd f)||(Jd f).any (fun n=>p.globals.any fun s=>n==s)then some 0 else((flL f.body).find? fun t=> !knownB p f (procsN p) t).map S.id
def QA(p:Pg):Int×Int:=
 bif YL p then bif ZY p then(5,0)else match p.procs.findSome? (WM p)with
  |some a=>(5,a)
  |none=>(0,0)
 else(1,0)
theorem RN{l:List α}{p:α->Bool}(h:l.any p=true):∃(k:Nat) (hk:k<l.length),Xc p l=k/\p l[k]=true/\l.find? p=some l[k]:=by
 have h1:l.findIdx p<l.length:=by
  rw[List.findIdx_lt_length];exact x4o.1 h
 refine⟨l.findIdx p,h1,by unfold Xc;rw[h];rfl,List.findIdx_getElem,?_⟩;rw[List.find?_eq_some_iff_getElem];exact⟨List.findIdx_getElem,l.findIdx p,h1,rfl,fun j hj=>by simpa using List.not_of_lt_findIdx hj⟩
theorem T4(h:(procsN p).any (fun s=>mainS==s)=true):∃(k:Nat) (hk:k<p.procs.length),Xc (fun s=>mainS==s) (procsN p)=k/\p.procs.find? (fun f=>mainS==f.name)=some p.procs[k]:=by
 have h':p.procs.any (fun f=>mainS==f.name)=true:=by simpa[procsN,List.any_map,Function.comp_def]using h
 obtain⟨k,hk,h1,_,h2⟩:=RN h';refine⟨k,hk,?_,h2⟩;rw[<-h1];unfold Xc;rw[h,h'];simp[procsN,List.findIdx_map,Function.comp_def]
theorem TR(p:Pg)(hj:p.procs[j]?=some f)(hc:cntP p.procs<=1000):SpecP prog 131 [.ip (sheetOf p).cells,.int .i64 j] (fun r=>r=VS (itL j 0 (-1) 0 (QB p.procs j) f.body)):=by
 obtain⟨_,h2,h3,h4,h5⟩:=QJ p;obtain⟨h6,h7,h8,h9⟩:=h5 j f hj;have:=Q0 (sheetOf p) j _ _ h6 h7 (by omega) (by omega) (by omega);rw[h9]at this;exact this
theorem VV(l:List Item):(l.map fun i=>AV.agg i.cells).length=l.length:=x2m _
theorem Uy{l:List α}{f:α->Option β}(hj:j<l.length)(h:f l[j]=none):(l.drop (j+1)).findSome? f=(l.drop j).findSome? f:=by
 rw[QF hj,List.findSome?_cons,h]
theorem VU{l:List α}{f:α->Option β}{b:β}(hj:j<l.length)(h:f l[j]=some b):(l.drop j).findSome? f=some b:=by
 rw[QF hj,List.findSome?_cons,h]
theorem W2{l:List α}{f:α->Option β}(hj:l.length<=j):(l.drop j).findSome? f=none:=by
 rw[x3b hj];rfl
theorem BP{q:S->Bool}(l:List Item):(l.find? fun it=>q it.s).map (fun it=>it.s.id)=((l.map Item.s).find? q).map S.id:=by
 rw[List.find?_map];cases h:l.find? (q∘Item.s)with
 |none=>rw[show(l.find? fun it=>q it.s)=none from h];rfl
 |some i=>rw[show(l.find? fun it=>q it.s)=some i from h];rfl
theorem A8{l:List Pr}(hj:j<l.length)(h:wPr l[j]<=20000){b:Int}{n:Nat}(hk:k<(itL a b c d n l[j].body).length):(itL a b c d n l[j].body)[k].s.args.length<=20000:=by
 have hm:(itL a b c d n l[j].body)[k].s∈flL l[j].body:=by
  rw[<-DD a b c d n];exact x3q.2 ⟨_,x3w hk,rfl⟩
 have h1:=Pp _ _ hm;have h2:=Mn (itL a b c d n l[j].body)[k].s;have h3:=BV (itL a b c d n l[j].body)[k].s.args;unfold wPr at h;omega
theorem QS{H:Heap}{b:Int}(h:a=c)(h':b=d):RetK H (.p (.agg [.int .i64 a,.int .i64 b])) (fun r=>r=Kh c d):=⟨_,.p (Sub.refl _),by rw[h,h'];rfl⟩
theorem JE(p:Pg)(hf:Fit p):SpecP prog 81 [.agg p.cells] (fun r=>r=Kh (QA p).1 (QA p).2):=by
 refine sB Hm func81 rfl call81 ?_;conv=>whnf
 repeat' (first|((first|(refine iM fun _=>?_)|refine cP (Do _) ?_|refine x2t rfl ?_);conv=>whnf)|(apply bN<;>intro _<;>conv=>whnf))
 rotate_left 1
 ·exact QS (by simp[QA, *]) (by simp[QA, *])
 have hm:YL p=true:=by assumption
 obtain⟨hg,hpl,hcn⟩:=VQ hm;have hl:(p.procs.map fun f=>AV.agg f.cells).length=p.procs.length:=x2m _;have hnl:(procsN p).length=p.procs.length:=by simp[procsN]
 refine LoopK.inv QY (fun i:Nat×List Str=>⟨[(1,.p (.ip p.cells)),(2,.ptr 1 0),(3,.hd 0 0 i.2.length),(18,.p (.sl (p.procs.map fun f=>.agg f.cells))),(19,.p (.int .i64 (p.procs.map fun f=>AV.agg f.cells).length)),(20,.p (.int .i64 i.1))],[(0,.own 9 1 (i.2.map .str)),(1,.obj 87 [.p (.int .i64 0),.p (.int .i64 0)])]⟩)
  (fun i=>i.1<=p.procs.length/\i.2=(procsN p).take i.1) (fun i=>p.procs.length-i.1) (0,[])
  (Le.mk [(0,.own 9 1 [])] (by simp[Chunk.new0];rfl) (by simp) (by simp) (.r (.r (.cons (.nil x2r) (.r (.r (.r .nil)))))) (.new x2r (.cons rfl (.refl _) .nil)))
  ⟨x3z _,by simp⟩ ?_
 rintro⟨j,acc⟩ ⟨h2,h3⟩;simp only at h2 h3⊢;have hal:acc.length<=16:=by rw[h3];simp;omega
 conv=>whnf
 repeat' (first|((first|refine x2t rfl ?_|refine aD ?_|refine bP ?_|(refine iA fun _=>?_)|refine wI ?_|refine QI (by simp) (by simp;omega) ?_|(refine XB (WV acc mainS) (.cons (.hd rfl (by simp)) (.cons (.p (Sub.refl _)) .nil)) (by rintro _ rfl;rfl) ?_;rintro _ rfl)|(refine XB (MU acc) (.cons (.hd rfl (by simp)) .nil) (by rintro _ rfl;rfl) ?_;rintro _ rfl)|refine cP (MU _) ?_);conv=>whnf)|(apply bD<;>intro _<;>first|omega|conv=>whnf)|(apply bB<;>intro _<;>conv=>whnf))
 ·exact⟨(j+1,acc++[p.procs[j].name]),⟨by simp only;omega,by simp only;rw[h3,x3u (by omega)];simp[procsN]⟩,by simp only;omega,Le.of_eq (by simp only[x2s,x3y];rfl)⟩
 all_goals
  have hacc:acc=procsN p:=by rw[h3,x3f (by omega)]
  clear h3;subst hacc
 ·have hb:ZY p=true:=by unfold ZY;rw[show ZN p.globals=true by assumption];rfl
  exact QS (by unfold QA;rw[hm,hb];rfl) (by unfold QA;rw[hm,hb];rfl)
 ·have hb:ZY p=true:=by unfold ZY;rw[show ZN p.globals=false by assumption,show ZN (procsN p)=true by assumption];rfl
  exact QS (by unfold QA;rw[hm,hb];rfl) (by unfold QA;rw[hm,hb];rfl)
 ·have hany:((procsN p).any fun s=>mainS==s)=false:=by
   rw[<-Y2];simp;omega
  have hb:ZY p=true:=by unfold ZY;rw[show ZN p.globals=false by assumption,show ZN (procsN p)=false by assumption,hany];rfl
  exact QS (by unfold QA;rw[hm,hb];rfl) (by unfold QA;rw[hm,hb];rfl)
 have hany:((procsN p).any fun s=>mainS==s)=true:=by
  rw[<-Y2];simp;omega
 obtain⟨k,hk,hik,hfind⟩:=T4 hany;have hlk:(p.procs.map fun f=>AV.agg f.cells)[k]?=some (.agg p.procs[k].cells):=by simp[hk]
 have hpl2:(p.procs[k].params.map fun a=>AV.agg a.cells).length=p.procs[k].params.length:=x2m _;refine IdxK.at hik hlk rfl ?_;conv=>whnf
 repeat' (first|((first|(refine iM fun _=>?_)|refine x2t rfl ?_|(refine CallK.pure (BM p (by omega) (by omega)) (.cons (Sub.refl _) .nil) ?_;rintro _ rfl));conv=>whnf)|(apply bD<;>intro _<;>first|omega|conv=>whnf))
 ·have hb:ZY p=true:=by
   unfold ZY;rw[show ZN p.globals=false by assumption,show ZN (procsN p)=false by assumption,hany,hfind];have:0<p.procs[k].params.length:=by omega
   simp[this]
  exact QS (by unfold QA;rw[hm,hb];rfl) (by unfold QA;rw[hm,hb];rfl)
 have hb:ZY p=false:=by
  unfold ZY;rw[show ZN p.globals=false by assumption,show ZN (procsN p)=false by assumption,hany,hfind];have:¬0<p.procs[k].params.length:=by omega
  simp[this]
 have hsc:QA p=match p.procs.findSome? (WM p)with
  |some a=>(5,a)
  |none=>(0,0):=by unfold QA;rw[hm,hb];rfl
 rw[hsc];refine LoopK.inv QY (fun j:Nat=>⟨[(1,.p (.ip p.cells)),(2,.ptr 1 0),(3,.hd 0 0 (procsN p).length),(7,.p (.ip (sheetOf p).cells)),(57,.p (.sl (p.procs.map fun f=>.agg f.cells))),(58,.p (.int .i64 (p.procs.map fun f=>AV.agg f.cells).length)),(59,.p (.int .i64 j))],[(0,.own 9 1 ((procsN p).map .str)),(1,.obj 87 [.p (.int .i64 0),.p (.int .i64 0)])]⟩)
  (fun j=>j<=p.procs.length/\(p.procs.drop j).findSome? (WM p)=p.procs.findSome? (WM p)) (fun j=>p.procs.length-j) 0 (Le.of_eq rfl) ⟨x3z _,rfl⟩ ?_
 clear h2 hik hfind hlk hpl2;rintro j ⟨h2,h3⟩;rcases x3v j p.procs.length with hj|hj;rotate_left 1
 ·have e:p.procs.findSome? (WM p)=none:=by rw[<-h3,W2 hj]
  rw[e];conv=>whnf
  repeat' (first|(refine x2t rfl ?_;conv=>whnf)|(apply bD<;>intro _<;>first|omega|conv=>whnf))
  exact QS rfl rfl
 have hfp:=hf.pr (x3w hj);have hmp:=WC.1 (R0 hm (x3w hj));conv=>whnf
 repeat' (first|((first|(refine iM fun _=>?_)|refine cP (MU _) ?_|refine x2t rfl ?_|(refine iA fun _=>?_)|(refine CallK.pure (E8 (p.procs[j]'hj) (by have:=hmp.1;omega) (by have:=hmp.2.1;omega)) (.cons (Sub.refl _) .nil) ?_;rintro _ rfl)|refine cP (VP (Jd (p.procs[j]'hj)) 130 (.ip p.cells) (fun n=>p.globals.any fun s=>n==s) (Dm p)) ?_|(refine CallK.pure (TR p (f:=p.procs[j]'hj) (by simp) (by omega)) (.cons (Sub.refl _) (.cons (Sub.refl _) .nil)) ?_;rintro _ rfl));conv=>whnf)|(apply bD<;>intro _<;>first|omega|conv=>whnf)|(apply bB<;>intro _<;>conv=>whnf))
 ·have e:WM p p.procs[j]=some 0:=by
   unfold WM;rw[show ZN (Jd p.procs[j])=true by assumption];rfl
  have e2:=VU hj e;rw[h3]at e2;rw[e2];exact QS rfl rfl
 ·have e:WM p p.procs[j]=some 0:=by
   unfold WM;rw[show ZN (Jd p.procs[j])=false by assumption,show((Jd p.procs[j]).any fun n=>p.globals.any fun s=>n==s)=true by assumption];rfl
  have e2:=VU hj e;rw[h3]at e2;rw[e2];exact QS rfl rfl
 have hsa:WM p p.procs[j]=((flL p.procs[j].body).find? fun t=> !knownB p p.procs[j] (procsN p) t).map S.id:=by
  unfold WM;rw[show ZN (Jd p.procs[j])=false by assumption,show((Jd p.procs[j]).any fun n=>p.globals.any fun s=>n==s)=false by assumption];rfl
 have hitm:∀k (hk:k<(itL (j:Nat) 0 (-1) 0 (QB p.procs j) p.procs[j].body).length),(itL (j:Nat) 0 (-1) 0 (QB p.procs j) p.procs[j].body)[k].s.args.length<=20000:=fun k hk=>A8 hj hfp hk;rw[<-DD (j:Nat) 0 (-1) 0 (QB p.procs j),<-BP]at hsa;have hib:(itL (j:Nat) 0 (-1) 0 (QB p.procs j) p.procs[j].body).length<=20000:=by
  have:=Py p.procs[j].body;unfold wPr at hfp;rw[ZT];omega
 generalize hits:itL (j:Nat) 0 (-1) 0 (QB p.procs j) p.procs[j].body=its at hsa hitm hib⊢;have hil:=VV its;refine LoopK.inv QY (fun k:Nat=>⟨[(1,.p (.ip p.cells)),(2,.ptr 1 0),(3,.hd 0 0 (procsN p).length),(7,.p (.ip (sheetOf p).cells)),(9,.p (.ip (p.procs[j]'hj).cells)),(57,.p (.sl (p.procs.map fun f=>.agg f.cells))),(58,.p (.int .i64 (p.procs.map fun f=>AV.agg f.cells).length)),(59,.p (.int .i64 j)),(76,.p (VS its)),(77,.p (.int .i64 (its.map fun i=>AV.agg i.cells).length)),(78,.p (.int .i64 k))],[(0,.own 9 1 ((procsN p).map .str)),(1,.obj 87 [.p (.int .i64 0),.p (.int .i64 0)])]⟩)
  (fun k=>k<=its.length/\(its.drop k).find? (fun it=> !knownB p p.procs[j] (procsN p) it.s)=its.find? fun it=> !knownB p p.procs[j] (procsN p) it.s) (fun k=>its.length-k) 0 (Le.of_eq rfl) ⟨x3z _,rfl⟩ ?_
 rintro k ⟨h5,h6⟩;rcases x3v k its.length with hk|hk;rotate_left 1
 ·rw[<-h6,BB hk]at hsa;conv=>whnf
  repeat' (first|(refine wI ?_;conv=>whnf)|(apply bD<;>intro _<;>first|omega|conv=>whnf))
  exact⟨j+1,⟨by omega,by rw[<-h3,Uy hj hsa]⟩,by omega,Le.of_eq rfl⟩
 have hka:=hitm k hk;conv=>whnf
 repeat' (first|((first|refine x2t rfl ?_|(refine iA fun _=>?_)|refine wI ?_|(refine XB (Rz p p.procs[j] (procsN p) its[k].s hka) (.cons (.p (Sub.refl _)) (.cons (.p (Sub.refl _)) (.cons (.hd rfl (by simp)) (.cons (.p (Sub.refl _)) .nil)))) (by rintro _ rfl;rfl) ?_;rintro _ rfl));conv=>whnf)|(apply bD<;>intro _<;>first|omega|conv=>whnf)|(apply bN<;>intro _<;>conv=>whnf))
 ·exact⟨k+1,⟨by omega,by rw[<-h6,Xp (p:=fun it:Item=> !knownB p p.procs[j] (procsN p) it.s) hk (by simp;assumption)]⟩,by omega,Le.of_eq rfl⟩
 ·have e3:=BN (p:=fun it:Item=> !knownB p p.procs[j] (procsN p) it.s) hk (by simp;assumption);rw[<-h6,e3]at hsa;have e2:=VU hj hsa;rw[h3]at e2;rw[e2];exact QS rfl rfl
def q5p:LV->Option Bool
 |.p .tt=>some true
 |.p .ff=>some false
 |.p (.bool b)=>some b
 |_=>none
theorem Rc{σ:Mem}{β:Lab}{l:LV}{v:Value}(h:RepL σ β l v)(hb:q5p l=some b):v=.bool b:=by
 cases h with
 |p h=>cases h<;>simp[q5p]at hb<;>subst hb<;>rfl
 |_=>simp[q5p]at hb
theorem FE{P:Program}{T:Tab}{hr:Bool}{s:St}{o:Oper}{K:LV->Prop}(hT:TabOK P T){t u:TypeId}{x y:Operand}(hop:o.op=.binOp .neq t x y u){i:TyI}(ht:T.get t=some i)(hd:i.desc=.bool){a:Bool}(hx:q5p (QM s.sl x)=some a)(hy:q5p (QM s.sl y)=some b)(hK:K (.p (.bool (a != b)))):ValO P hr s o K:=by
 refine⟨fun σ β ac w hs _=>⟨_,.bool (a != b),hK,.p (.bool _),fun w' _ _=>?_⟩⟩;have h1:=Rc (QZ hs x) hx;have h2:=Rc (QZ hs y) hy;have hu:=hT.of ht;rw[hd]at hu;have hg:(eqGuard .neq t x y (.bool a) (.bool b)).run P w'=.ok () w':=by unfold eqGuard;rfl
 have he:(Op.equal t (.bool a) (.bool b)).run P w'=.ok (a==b) w':=by
  have e:Op.equal t (.bool a) (.bool b)=Op.equalIn (9999+1) t (.bool a) (.bool b):=rfl;rw[e,Op.equalIn,Sem.run_bind,run_underlying hu,Result.andThen_ok];rfl
 simp only[execOp,hop,h1,h2,Sem.run_bind,hg,Result.andThen_ok,binOp];simp[he];cases a<;>cases b<;>rfl
def SH(l:List Param)(args:List Arg):Bool:=decide (l.map Param.ref=args.map Arg.ref)
theorem S5(l:List Param)(args:List Arg):SpecP prog 180 [.sl (l.map fun a=>.agg a.cells),CX args] (fun r=>r=.bool (SH l args)):=by
 refine sB Bj func180 rfl call180 ?_;conv=>whnf
 repeat' (first|(refine iM fun _=>?_;conv=>whnf)|(apply bE<;>intro _<;>first|omega|conv=>whnf))
 all_goals
  have hl:(l.map fun a=>AV.agg a.cells).length=l.length:=x2m _;have hl2:(args.map fun a=>AV.agg a.cells).length=args.length:=x2m _
 ·have hlen:l.length=args.length:=by omega
  refine LoopK.inv QY (fun j:Nat=>⟨[(1,.p (CX args)),(12,.p (.sl (l.map fun a=>.agg a.cells))),(13,.p (.int .i64 (l.map fun a=>AV.agg a.cells).length)),(14,.p (.int .i64 j))],[]⟩) (fun j=>j<=l.length/\(l.map Param.ref).take j=(args.map Arg.ref).take j) (fun j=>l.length-j) 0 (Le.of_eq rfl) ⟨x3z _,rfl⟩ ?_;rintro j ⟨h2,h3⟩;rcases x3v j l.length with hj|hj
  ·conv=>whnf
   repeat' (first|((first|refine dA ?_|refine x2t rfl ?_|(refine iA fun _=>?_)|refine wI ?_|refine FE QY rfl rfl rfl rfl rfl ?_);conv=>whnf)|(apply bD<;>intro _<;>first|omega|conv=>whnf)|(apply bE<;>intro _<;>first|omega|conv=>whnf))
   ·have hne:l[j].ref=(args[j]'(by omega)).ref:=by assumption
    exact⟨j+1,⟨by omega,by
     rw[x3u (by simp;omega),x3u (by simp;omega),h3];simp[hne]⟩,by omega,Le.of_eq rfl⟩
   ·have hne:¬l[j].ref=(args[j]'(by omega)).ref:=by assumption
    exact RetK.ff (by
     unfold SH;rw[x5k];intro he;have:(l.map Param.ref)[j]?=(args.map Arg.ref)[j]?:=by rw[he]
     rw[x2e,x2e,x2n hj,x2n (by omega)]at this;simp at this;exact hne this)
  ·conv=>whnf
   repeat' (apply bD<;>intro _<;>first|omega|conv=>whnf)
   exact RetK.tt (by
    unfold SH;rw[x3i]
    rwa[x3f (by simp;omega),x3f (by simp;omega)]at h3)
 ·exact RetK.ff (by
   unfold SH;rw[x5k];intro he;have:=x5u List.length he;simp at this;omega)
def FB(p:Pg)(s:S):Bool:=decide (s.kind=4)&&match p.procs.find? (fun f=>f.name==s.proc)with
 |some f=>SH f.params s.args
 |none=>false
theorem S4(p:Pg)(s:S):SpecP prog 133 [.agg p.cells,.agg s.cells] (fun r=>r=.bool (FB p s)):=by
 refine sB By func133 rfl call133 ?_;conv=>whnf
 repeat' (first|(refine iM fun _=>?_;conv=>whnf)|(apply bE<;>intro _<;>first|omega|conv=>whnf))
 ·have hl:(p.procs.map fun f=>AV.agg f.cells).length=p.procs.length:=x2m _;refine LoopK.inv QY (fun j:Nat=>⟨[(3,.p (.ip s.cells)),(11,.p (.sl (p.procs.map fun f=>.agg f.cells))),(12,.p (.int .i64 (p.procs.map fun f=>AV.agg f.cells).length)),(13,.p (.int .i64 j))],[]⟩) (fun j=>j<=p.procs.length/\(p.procs.drop j).find? (fun f=>f.name==s.proc)=p.procs.find? (fun f=>f.name==s.proc)) (fun j=>p.procs.length-j) 0 (Le.of_eq rfl) ⟨x3z _,rfl⟩ ?_;rintro j ⟨h2,h3⟩;conv=>whnf
  repeat' (first|((first|refine cP (S5 _ _) ?_|refine x2t rfl ?_|(refine iA fun _=>?_)|refine wI ?_);conv=>whnf)|(apply bD<;>intro _<;>first|omega|conv=>whnf)|(apply bB<;>intro _<;>conv=>whnf))
  ·have e:=BN (p:=fun f:Pr=>f.name==s.proc) (l:=p.procs) (j:=j) (by omega) (by assumption);rw[h3]at e;exact RetK.bool (by unfold FB;rw[e];simp[*])
  ·exact⟨j+1,⟨by omega,by rw[<-h3,Xp (p:=fun f:Pr=>f.name==s.proc) (by omega) (by assumption)]⟩,by omega,Le.of_eq rfl⟩
  ·have e:p.procs.find? (fun f=>f.name==s.proc)=none:=by rw[<-h3,BB (by omega)]
   exact RetK.ff (by unfold FB;rw[e];simp)
 ·exact RetK.ff (by unfold FB;simp[*])
def VN(p:Pg):List S:=p.procs.flatMap fun f=>flL f.body
theorem q1k:∀(l:List Pr)(i:Nat)(acc:List Item)(lo hi:List Int),(Jf i acc lo hi l).1.map Item.s=acc.map Item.s++l.flatMap fun f=>flL f.body
 |[],i,acc,lo,hi=>by rw[Jf];simp
 | f::r,i,acc,lo,hi=>by
   rw[Jf,q1k r,Qb,x3y,DD,x4n,x3s]
theorem JO(p:Pg):(sheetOf p).l.map Item.s=VN p:=by
 have:=q1k p.procs 0 [] [] [];unfold sheetOf VN;simpa using this
theorem H5(hf:Fit p)(hk:k<(sheetOf p).l.length):wS (sheetOf p).l[k].s<=20000:=by
 have hm:(sheetOf p).l[k].s∈VN p:=by
  rw[<-JO];exact x3q.2 ⟨_,x3w hk,rfl⟩
 unfold VN at hm;obtain⟨f,h1,h2⟩:=x3c.1 hm;have h3:=Pp _ _ h2;have h4:=hf.pr h1;unfold wPr at h4;omega
def VZ(p:Pg):Int×Int:=
 if(QA p).1≠0 then(1,0)else match(VN p).find? fun t=>decide (t.kind=4) && !FB p t with
  |some t=>(6,t.id)
  |none=>(0,0)
theorem KD(h:(QA p).1=0):YL p=true/\ZY p=false/\p.procs.findSome? (WM p)=none:=by
 unfold QA at h;cases hm:YL p<;>rw[hm]at h
 ·cases h
 cases hb:ZY p<;>rw[hb]at h
 ·refine⟨rfl,rfl,?_⟩;simp only[x3p,x3t]at h;split at h
  ·cases h
  ·assumption
 ·cases h
theorem U3(p:Pg)(hf:Fit p):SpecP prog 82 [.agg p.cells] (fun r=>r=Kh (VZ p).1 (VZ p).2):=by
 refine sB Hh func82 rfl call82 ?_;conv=>whnf
 repeat' (first|((first|refine cP (JE p hf) ?_|refine x2t rfl ?_);conv=>whnf)|(apply bE<;>intro _<;>first|omega|conv=>whnf))
 rotate_left 1
 ·have e:VZ p=(1,0):=by unfold VZ;rw[if_pos (by assumption)]
  exact QS (by rw[e]) (by rw[e])
 have hs:(QA p).1=0:=by assumption
 obtain⟨hm,hb,hns⟩:=KD hs;obtain⟨hg,hpl,hcn⟩:=VQ hm;have hA:VZ p=match(VN p).find? fun t=>decide (t.kind=4) && !FB p t with
  |some t=>(6,t.id)
  |none=>(0,0):=by unfold VZ;rw[if_neg (by omega)]
 repeat' ((first|(refine iM fun _=>?_)|(refine CallK.pure (BM p (by omega) (by omega)) (.cons (Sub.refl _) .nil) ?_;rintro _ rfl));conv=>whnf)
 have hil:=VV (sheetOf p).l;have hib:(sheetOf p).l.length<=200:=by have:=(QJ p).2.2.2.1;omega
 have hfi:=BP (q:=fun t=>decide (t.kind=4) && !FB p t) (sheetOf p).l;rw[JO]at hfi;have hA2:VZ p=match((sheetOf p).l.find? fun it=>decide (it.s.kind=4) && !FB p it.s).map (fun it=>it.s.id)with
  |some a=>(6,a)
  |none=>(0,0):=by
  rw[hA,hfi];cases(VN p).find? fun t=>decide (t.kind=4) && !FB p t<;>rfl
 rw[hA2];refine LoopK.inv QY (fun k:Nat=>⟨[(1,.p (.ip p.cells)),(2,.ptr 1 0),(14,.p (VS (sheetOf p).l)),(15,.p (.int .i64 ((sheetOf p).l.map fun i=>AV.agg i.cells).length)),(16,.p (.int .i64 k))],[(1,.obj 87 [.p (.int .i64 0),.p (.int .i64 0)])]⟩)
  (fun k=>k<=(sheetOf p).l.length/\((sheetOf p).l.drop k).find? (fun it=>decide (it.s.kind=4) && !FB p it.s)=(sheetOf p).l.find? fun it=>decide (it.s.kind=4) && !FB p it.s) (fun k=>(sheetOf p).l.length-k) 0 (Le.of_eq rfl) ⟨x3z _,rfl⟩ ?_
 rintro k ⟨h5,h6⟩;rcases x3v k (sheetOf p).l.length with hk|hk;rotate_left 1
 ·rw[<-h6,BB hk];conv=>whnf
  repeat' (first|(refine x2t rfl ?_;conv=>whnf)|(apply bD<;>intro _<;>first|omega|conv=>whnf))
  exact QS rfl rfl
 conv=>whnf
 repeat' (first|((first|refine cP (S4 _ _) ?_|refine x2t rfl ?_|(refine iA fun _=>?_)|refine wI ?_);conv=>whnf)|(apply bD<;>intro _<;>first|omega|conv=>whnf)|(apply bN<;>intro _<;>conv=>whnf))
 all_goals first
  | (have e3:=BN (p:=fun it:Item=>decide (it.s.kind=4) && !FB p it.s) hk (by simp[*])
     rw[<-h6,e3];exact QS rfl rfl)
  |exact⟨k+1,⟨by omega,by rw[<-h6,Xp (p:=fun it:Item=>decide (it.s.kind=4) && !FB p it.s) hk (by simp[*])]⟩,by omega,Le.of_eq rfl⟩
def VC:List Str->List Str->Option (List Str)
 |seen,[]=>some seen
 |seen,n::r=>bif seen.any (fun s=>n==s)then none else VC (seen++[n]) r
theorem IC(hj:j<l.length)(h:(seen.any fun s=>l[j]==s)=true):VC seen (l.drop j)=none:=by
 rw[QF hj,VC,h];rfl
theorem Aq(hj:j<l.length)(h:(seen.any fun s=>l[j]==s)=false):VC seen (l.drop j)=VC (seen++[l[j]]) (l.drop (j+1)):=by
 rw[QF hj,VC,h];rfl
theorem Q9:∀{l seen out:List Str},VC seen l=some out->out=seen++l
 |[],seen,out,h=>by rw[VC]at h;cases h;simp
 | n::r,seen,out,h=>by
   rw[VC]at h;cases hc:(seen.any fun s=>n==s)<;>rw[hc]at h
   ·have:=Q9 h;simpa using this
   ·cases h
def Ax(t:Nat)(seen l:List Str)(r:LV)(H:Heap):Prop:=
 match VC seen l with
 |some out=>r=.tup [.hd 2000 0 out.length,.p .tt]/\H=C6 t out
 |none=>∃out,r=.tup [.hd 2000 0 out.length,.p .ff]/\H=C6 t out
theorem Y8{t:Nat}{Q:LV->Heap->Prop}(h1:VC seen l=some (seen++l)->Q (.tup [.hd 2000 0 (seen++l).length,.p .tt]) (C6 t (seen++l)))(h2:VC seen l=none->∀out,Q (.tup [.hd 2000 0 out.length,.p .ff]) (C6 t out)):∀l' H',Ax t seen l l' H'->Q l' H':=by
 intro l' H' h;unfold Ax at h;cases hr:VC seen l with
 | some out=>
   rw[hr]at h;obtain⟨rfl,rfl⟩:=h;have:=Q9 hr;subst this;exact h1 hr
 | none=>
   rw[hr]at h;obtain⟨out,rfl,rfl⟩:=h;exact h2 hr out
theorem Ng(seen l:List Str)(hlen:seen.length+l.length<=1000000000):
  SpecH prog 135 [.hd 2000 0 seen.length,.p (eStrs l)] (C6 9 seen) (Ax 9 seen l):=by
 refine sH L5 func135 rfl call135 ?_;conv=>whnf
 repeat' (refine iM fun _=>?_;conv=>whnf)
 have hl:(l.map AV.str).length=l.length:=x2m _;refine LoopK.inv QY (fun i:Nat×List Str=>⟨[(0,.hd 2000 0 i.2.length),(8,.p (eStrs l)),(9,.p (.int .i64 (l.map AV.str).length)),(10,.p (.int .i64 i.1))],C6 9 i.2⟩) (fun i=>i.1<=l.length/\i.2.length+(l.length-i.1)=seen.length+l.length/\VC i.2 (l.drop i.1)=VC seen l) (fun i=>l.length-i.1) (0,seen) (Le.of_eq rfl) ⟨x3z _,by simp,rfl⟩ ?_;rintro⟨j,acc⟩ ⟨h2,h3,h4⟩;simp only at h2 h3 h4⊢;rcases x3v j l.length with hj|hj
 ·conv=>whnf
  repeat' (first|((first|refine x2t rfl ?_|refine aD ?_|refine bP ?_|(refine iA fun _=>?_)|refine wI ?_|(refine XB (QW acc (l[j]'hj)) (.cons (.hd rfl (by simp)) (.cons (.p (Sub.refl _)) .nil)) (by rintro _ rfl;rfl) ?_;rintro _ rfl)|refine QI (by simp) (by simp;omega) ?_);conv=>whnf)|(apply bD<;>intro _<;>first|omega|conv=>whnf)|(apply bB<;>intro _<;>conv=>whnf))
  ·exact⟨_,.refl _,by unfold Ax;rw[<-h4,IC hj (by assumption)];exact⟨acc,rfl,rfl⟩⟩
  ·exact⟨(j+1,acc++[l[j]]),⟨by simp only;omega,by simp;omega,by simp only;rw[<-h4,Aq hj (by assumption)]⟩,by simp only;omega,Le.of_eq (by simp only[C6,x2s,x3y];rfl)⟩
 ·conv=>whnf
  repeat' (apply bD<;>intro _<;>first|omega|conv=>whnf)
  rw[x3b hj,VC]at h4;exact⟨_,.refl _,by unfold Ax;rw[<-h4];exact⟨rfl,rfl⟩⟩
def atB(f:Pr)(label:Str):Int×Bool:=
 match(flL f.body).find? fun t=>t.labels.any fun s=>label==s with
 |some t=>(t.id,true)
 |none=>bif f.fin.any fun s=>label==s then(-1,true)else(0,false)
theorem RetK.tup2{H:Heap}{k:IntKind}{m n:Int}{x:AV}(h:m=n)(hb:Sub x (.bool b)):RetK H (.p (.tup [.int k m,x])) (fun r=>r=.tup [.int k n,.bool b]):=
 ⟨_,.p (Sub.tup (SubL.cons (Sub.int h) (SubL.cons hb SubL.nil))),rfl⟩
theorem LO(p:Pg)(j:Nat)(f:Pr)(hj:p.procs[j]?=some f)(hc:cntP p.procs<=1000)(label:Str):SpecP prog 122 [.ip (sheetOf p).cells,.int .i64 j,.str label] (fun r=>r=.tup [.int .i64 (atB f label).1,.bool (atB f label).2]):=by
 refine sB Vp func122 rfl call122 ?_;conv=>whnf
 repeat' ((first|(refine iM fun _=>?_)|refine cP (TR p hj hc) ?_);conv=>whnf)
 have hfi:=BP (q:=fun t=>t.labels.any fun s=>label==s) (itL (j:Nat) 0 (-1) 0 (QB p.procs j) f.body);rw[DD]at hfi;have hib:(itL (j:Nat) 0 (-1) 0 (QB p.procs j) f.body).length<=1000:=by
  have:=(QJ p).2.2.2.2 j f hj;rw[ZT];omega
 generalize hits:itL (j:Nat) 0 (-1) 0 (QB p.procs j) f.body=its at hfi hib⊢;have hil:=VV its;have hat:atB f label=match(its.find? fun it=>it.s.labels.any fun s=>label==s).map (fun it=>it.s.id)with
  |some a=>(a,true)
  |none=>bif f.fin.any fun s=>label==s then(-1,true)else(0,false):=by
  unfold atB;rw[hfi];cases(flL f.body).find? fun t=>t.labels.any fun s=>label==s<;>rfl
 rw[hat];refine LoopK.inv QY (fun k:Nat=>⟨[(0,.p (.ip (sheetOf p).cells)),(1,.p (.int .i64 j)),(2,.p (.str label)),(12,.p (VS its)),(13,.p (.int .i64 (its.map fun i=>AV.agg i.cells).length)),(14,.p (.int .i64 k))],[]⟩)
  (fun k=>k<=its.length/\(its.drop k).find? (fun it=>it.s.labels.any fun s=>label==s)=its.find? fun it=>it.s.labels.any fun s=>label==s) (fun k=>its.length-k) 0 (Le.of_eq rfl) ⟨x3z _,rfl⟩ ?_
 rintro k ⟨h5,h6⟩;rcases x3v k its.length with hk|hk
 ·conv=>whnf
  repeat' (first|((first|refine cP (QW _ _) ?_|refine x2t rfl ?_|(refine iA fun _=>?_)|refine wI ?_);conv=>whnf)|(apply bD<;>intro _<;>first|omega|conv=>whnf)|(apply bB<;>intro _<;>conv=>whnf))
  ·have e3:=BN (p:=fun it:Item=>it.s.labels.any fun s=>label==s) hk (by assumption);rw[<-h6,e3];exact RetK.tup2 rfl (Sub.tt rfl)
  ·exact⟨k+1,⟨by omega,by rw[<-h6,Xp (p:=fun it:Item=>it.s.labels.any fun s=>label==s) hk (by assumption)]⟩,by omega,Le.of_eq rfl⟩
 ·rw[<-h6,BB hk];have hpj:(p.procs.map fun f=>AV.agg f.cells)[j]?=some (.agg f.cells):=by simp[hj]
  conv=>whnf
  repeat' (first|((first|refine cP (QW _ _) ?_|(refine IdxK.at rfl hpj rfl ?_));conv=>whnf)|(apply bD<;>intro _<;>first|omega|conv=>whnf)|(apply bB<;>intro _<;>conv=>whnf))
  ·exact RetK.tup2 (by simp[*]) (Sub.tt (by simp[*]))
  ·exact RetK.tup2 (by simp[*]) (Sub.ff (by simp[*]))
def VK(f:Pr)(it:Item):Bool:=if it.s.kind=7\/it.s.kind=8 then !(it.loop==0)else if it.s.kind=10 then(atB f it.s.name).2 else true
theorem Sp(p:Pg)(j:Nat)(f:Pr)(hj:p.procs[j]?=some f)(hc:cntP p.procs<=1000)(it:Item)(hp:it.proc=j):SpecP prog 136 [.ip (sheetOf p).cells,.agg it.cells] (fun r=>r=.bool (VK f it)):=by
 refine sB Bb func136 rfl call136 ?_;conv=>whnf
 repeat' (first|(refine CallK.pure (LO p j f hj hc it.s.name) (.cons (Sub.refl _) (.cons (Sub.int hp) (.cons (Sub.refl _) .nil))) ?_;rintro _ rfl;conv=>whnf)|(apply bD<;>intro _<;>first|omega|conv=>whnf))
 all_goals first
  |exact RetK.bool (by simp[VK, *];rfl)
  |exact RetK.bool (by simp[VK, *])
  |exact RetK.tt (by simp[VK, *])
theorem Sn(p:Pg)(hf:Fit p)(h:(QA p).1=0):SpecP prog 134 [.agg p.cells] (fun r=>r=.ip (sheetOf p).cells):=by
 refine sB Zp func134 rfl call134 ?_;conv=>whnf
 obtain⟨hm,hb,hns⟩:=KD h;obtain⟨hg,hpl,hcn⟩:=VQ hm;repeat' (first|((first|refine cP (JE p hf) ?_|(refine CallK.pure (BM p (by omega) (by omega)) (.cons (Sub.refl _) .nil) ?_;rintro _ rfl));conv=>whnf)|(apply bE<;>intro _<;>first|omega|conv=>whnf))
 exact RetK.p rfl
theorem D1(p:Pg)(hf:Fit p)(h:(QA p).1≠0):SpecP prog 134 [.agg p.cells] (fun r=>r=.nilp):=by
 refine sB Zp func134 rfl call134 ?_;conv=>whnf
 repeat' (first|(refine cP (JE p hf) ?_;conv=>whnf)|(apply bE<;>intro _<;>first|omega|conv=>whnf))
 exact RetK.p rfl
mutual
theorem IT(proc up nx loop:Int)(n:Nat):∀(t:S)(it:Item),it∈itS proc up nx loop n t->it.proc=proc
 | .mk id kind labels name pr x has args thn els,it,h=>by
   rw[itS]at h;rcases x2i.1 h with rfl|h
   ·rfl
   ·rcases x3x.1 h with h|h
    ·exact KK _ _ _ _ _ thn it h
    ·exact KK _ _ _ _ _ els it h
theorem KK(proc up nx loop:Int)(n:Nat):∀(l:List S)(it:Item),it∈itL proc up nx loop n l->it.proc=proc
 |[],it,h=>by rw[itL]at h;cases h
 | t::r,it,h=>by
   rw[itL]at h;rcases x3x.1 h with h|h
   ·exact IT _ _ _ _ _ t it h
   ·exact KK _ _ _ _ _ r it h
end
def YB(f:Pr):List Item->List Str->Except Int (List Str)
 |[],seen=>.ok seen
 | it::r,seen=>match VC seen it.s.labels with
   |none=>.error it.s.id
   |some s=>bif VK f it then YB f r s else .error it.s.id
def UI(p:Pg)(j:Nat):Option Int:=
 match p.procs[j]?with
 |none=>none
 | some f=>match YB f (itL (j:Nat) 0 (-1) 0 (QB p.procs j) f.body) []with
   |.error id=>some id
   | .ok seen=>match VC seen f.fin with
     |none=>some 0
     |some _=>none
def PG(p:Pg):Int×Int:=
 if(QA p).1≠0 then(1,0)else match(List.range p.procs.length).findSome? (UI p)with
  |some a=>(7,a)
  |none=>(0,0)
theorem IA(hk:k<its.length)(h:VC seen its[k].s.labels=none):YB f (its.drop k) seen=.error its[k].s.id:=by
 rw[QF hk,YB,h]
theorem Av{s:List Str}(hk:k<its.length)(h:VC seen its[k].s.labels=some s)(hl:VK f its[k]=false):YB f (its.drop k) seen=.error its[k].s.id:=by
 rw[QF hk,YB,h];simp only[hl,x3t]
theorem Au{s:List Str}(hk:k<its.length)(h:VC seen its[k].s.labels=some s)(hl:VK f its[k]=true):YB f (its.drop k) seen=YB f (its.drop (k+1)) s:=by
 rw[QF hk,YB,h];simp only[hl,x3p]
theorem Lm{l:List Pr}(hj:j<l.length)(h:wPr l[j]<=20000){b:Int}{n:Nat}(hk:k<(itL a b c d n l[j].body).length):(itL a b c d n l[j].body)[k].s.labels.length<=20000:=by
 have hm:(itL a b c d n l[j].body)[k].s∈flL l[j].body:=by
  rw[<-DD a b c d n];exact x3q.2 ⟨_,x3w hk,rfl⟩
 have h1:=Pp _ _ hm;have h2:=Mn (itL a b c d n l[j].body)[k].s;have h3:=BO (itL a b c d n l[j].body)[k].s.labels;unfold wPr at h;omega
theorem Sb(p:Pg)(hf:Fit p):SpecP prog 83 [.agg p.cells] (fun r=>r=Kh (PG p).1 (PG p).2):=by
 refine sB Bd func83 rfl call83 ?_;conv=>whnf
 rcases Decidable.em ((QA p).1=0)with hs|hs;rotate_left 1
 ·
  repeat' ((first|refine cP (D1 p hf hs) ?_|refine x2t rfl ?_);conv=>whnf)
  have e:PG p=(1,0):=by unfold PG;rw[if_pos hs]
  exact QS (by rw[e]) (by rw[e])
 obtain⟨hm,hb,hns⟩:=KD hs;obtain⟨hg,hpl,hcn⟩:=VQ hm;have hJ:PG p=match(List.range p.procs.length).findSome? (UI p)with
  |some a=>(7,a)
  |none=>(0,0):=by unfold PG;rw[if_neg (by omega)]
 rw[hJ];have hl:(p.procs.map fun f=>AV.agg f.cells).length=p.procs.length:=x2m _;repeat' ((first|(refine iM fun _=>?_)|refine cP (Sn p hf hs) ?_);conv=>whnf)
 refine LoopK.inv QY (fun j:Nat=>⟨[(2,.ptr 1 0),(3,.p (.ip (sheetOf p).cells)),(16,.p (.sl (p.procs.map fun f=>.agg f.cells))),(17,.p (.int .i64 (p.procs.map fun f=>AV.agg f.cells).length)),(18,.p (.int .i64 j))],[(1,.obj 87 [.p (.int .i64 0),.p (.int .i64 0)])]⟩)
  (fun j=>j<=p.procs.length/\((List.range p.procs.length).drop j).findSome? (UI p)=(List.range p.procs.length).findSome? (UI p)) (fun j=>p.procs.length-j) 0 (Le.of_eq rfl) ⟨x3z _,rfl⟩ ?_
 rintro j ⟨h2,h3⟩;rcases x3v j p.procs.length with hj|hj;rotate_left 1
 ·have e:(List.range p.procs.length).findSome? (UI p)=none:=by rw[<-h3,W2 (by simpa using hj)]
  rw[e];conv=>whnf
  repeat' (first|(refine x2t rfl ?_;conv=>whnf)|(apply bD<;>intro _<;>first|omega|conv=>whnf))
  exact QS rfl rfl
 have hfp:=hf.pr (x3w hj);have hjr:j<(List.range p.procs.length).length:=by simpa using hj
 have hrj:(List.range p.procs.length)[j]=j:=by simp
 have hpj:p.procs[j]?=some p.procs[j]:=by simp[hj]
 conv=>whnf
 repeat' (first|((first|(refine iM fun _=>?_)|refine x2t rfl ?_|(refine iA fun _=>?_)|(refine CallK.pure (TR p (f:=p.procs[j]'hj) hpj (by omega)) (.cons (Sub.refl _) (.cons (Sub.refl _) .nil)) ?_;rintro _ rfl));conv=>whnf)|(apply bD<;>intro _<;>first|omega|conv=>whnf))
 have hlab:∀k (hk:k<(itL (j:Nat) 0 (-1) 0 (QB p.procs j) p.procs[j].body).length),(itL (j:Nat) 0 (-1) 0 (QB p.procs j) p.procs[j].body)[k].s.labels.length<=20000:=fun k hk=>Lm hj hfp hk;have hprc:∀k (hk:k<(itL (j:Nat) 0 (-1) 0 (QB p.procs j) p.procs[j].body).length),(itL (j:Nat) 0 (-1) 0 (QB p.procs j) p.procs[j].body)[k].proc=j:=fun k hk=>KK _ _ _ _ _ _ _ (x3w hk);have hib:(itL (j:Nat) 0 (-1) 0 (QB p.procs j) p.procs[j].body).length<=200:=by
  have:=(QJ p).2.2.2.2 j _ hpj;rw[ZT];omega
 have hja:UI p j=match YB p.procs[j] (itL (j:Nat) 0 (-1) 0 (QB p.procs j) p.procs[j].body) []with
  |.error id=>some id
  | .ok seen=>match VC seen p.procs[j].fin with
    |none=>some 0
    |some _=>none:=by
  unfold UI;rw[hpj]
 generalize hits:itL (j:Nat) 0 (-1) 0 (QB p.procs j) p.procs[j].body=its at hlab hprc hib hja⊢;have hil:=VV its;refine LoopK.inv QY (fun i:Nat×List Str=>⟨[(2,.ptr 1 0),(3,.p (.ip (sheetOf p).cells)),(5,.p (.ip (p.procs[j]'hj).cells)),(6,.hd 0 0 i.2.length),(16,.p (.sl (p.procs.map fun f=>.agg f.cells))),(17,.p (.int .i64 (p.procs.map fun f=>AV.agg f.cells).length)),(18,.p (.int .i64 j)),(25,.p (VS its)),(26,.p (.int .i64 (its.map fun i=>AV.agg i.cells).length)),(27,.p (.int .i64 i.1))],[(0,.own 9 1 (i.2.map .str)),(1,.obj 87 [.p (.int .i64 0),.p (.int .i64 0)])]⟩)
  (fun i=>i.1<=its.length/\i.2.length<=20000*i.1/\YB p.procs[j] (its.drop i.1) i.2=YB p.procs[j] its []) (fun i=>its.length-i.1) (0,[])
  (Le.mk [(0,.own 9 1 [])] (by simp[Chunk.new0];rfl) (by simp) (by simp) (.r (.r (.r (.cons (.nil x2r) (.r (.r (.r (.r (.r (.r .nil)))))))))) (.new x2r (.cons rfl (.refl _) .nil)))
  ⟨x3z _,by simp,rfl⟩ ?_
 rintro⟨k,acc⟩ ⟨h5,h6,h7⟩;simp only at h5 h6 h7⊢;rcases x3v k its.length with hk|hk
 ·have hlk:=hlab k hk;conv=>whnf
  repeat' (first|((first|refine x2t rfl ?_|(refine iA fun _=>?_)|refine wI ?_|(refine CallK.pure (Sp p j p.procs[j] hpj (by omega) its[k] (hprc k hk)) (.cons (Sub.refl _) (.cons (Sub.refl _) .nil)) ?_;rintro _ rfl));conv=>whnf)|(apply bD<;>intro _<;>first|omega|conv=>whnf)|(apply bN<;>intro _<;>conv=>whnf)|(refine CallK.heap [(2000,0)] 0 (by repeat' (first|exact x4x|refine x3d ?_ ?_|exact x3n _|exact x3e Sub.nils|exact x3e (Sub.tt rfl)|exact x3e (Sub.ff rfl)|exact x3e (Sub.int (by omega)))) (by refine x3j (j:=0) rfl rfl ?_ ?_;exact CSub.refl _;exact x4z) (Ng acc its[k].s.labels (by omega)) rfl rfl (Y8 (fun hjo=>?_) (fun hjo out=>?_))<;>conv=>whnf))
  ·exact⟨(k+1,acc++its[k].s.labels),⟨by simp only;omega,by simp;omega,by simp only;rw[<-h7,Au hk hjo (by assumption)]⟩,by simp only;omega,Le.of_eq rfl⟩
  ·rw[<-h7,Av hk hjo (by assumption)]at hja;have e2:=VU (f:=UI p) hjr (by rw[hrj];exact hja);rw[h3]at e2;rw[e2];exact QS rfl rfl
  ·rw[<-h7,IA hk hjo]at hja;have e2:=VU (f:=UI p) hjr (by rw[hrj];exact hja);rw[h3]at e2;rw[e2];exact QS rfl rfl
 ·have hfin:p.procs[j].fin.length<=20000:=by
   have:=BO p.procs[j].fin;unfold wPr at hfp;omega
  rw[x3b hk,YB]at h7;rw[<-h7]at hja;simp only at hja;conv=>whnf
  repeat' (first|((first|refine x2t rfl ?_|refine wI ?_);conv=>whnf)|(apply bD<;>intro _<;>first|omega|conv=>whnf)|(refine CallK.heap [(2000,0)] 0 (by repeat' (first|exact x4x|refine x3d ?_ ?_|exact x3n _|exact x3e Sub.nils|exact x3e (Sub.tt rfl)|exact x3e (Sub.ff rfl)|exact x3e (Sub.int (by omega)))) (by refine x3j (j:=0) rfl rfl ?_ ?_;exact CSub.refl _;exact x4z) (Ng acc p.procs[j].fin (by omega)) rfl rfl (Y8 (fun hjo=>?_) (fun hjo out=>?_))<;>conv=>whnf))
  ·rw[hjo]at hja;exact⟨j+1,⟨by omega,by rw[<-h3,Uy (f:=UI p) hjr (by rw[hrj];exact hja)]⟩,by omega,Le.of_eq rfl⟩
  ·rw[hjo]at hja;have e2:=VU (f:=UI p) hjr (by rw[hrj];exact hja);rw[h3]at e2;rw[e2];exact QS rfl rfl
theorem BsK.pureL{es:List AV}{sz:Nat}{out:List LV}{Kp Ko:Prop}(hx:(es.all fun x=>x.cells.length==sz)=true)(ho:out=(es.flatMap AV.cells).map .p)(hK:Kp):BsK es sz out Kp Ko:=.pure (fun x h=>by simpa using x4d.1 hx x h) ho hK
end Go.Ab
