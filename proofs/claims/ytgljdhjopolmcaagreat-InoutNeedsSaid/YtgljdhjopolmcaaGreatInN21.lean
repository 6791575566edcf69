/- inout: the books of the two small programs. -/
import Derived.Laws.BytesString
import Derived.Test.YtgljdhjopolmcaaGreatInN20
set_option linter.all false
set_option maxRecDepth 100000
set_option maxHeartbeats 16000000
namespace Go.Ab
open Go.Proofs.Tryz
open Go.Proofs
variable {D I O U:List (List Str)}{f:Pr}
instance:DecidableRel ltT:=fun a b=>inferInstanceAs (Decidable (Op.bytesLess a b=true))
def x4z(m l:List Str):Bool:=decide (m.Pairwise ltT)&&m.all (fun s=>inS l s)&&l.all (fun s=>inS m s)
def q6o{m l:List Str}(h:x4z m l=true):WB l=m:=by
 unfold x4z at h;simp only[x9g,x9o,z0p]at h;exact(Pf h.1.1 fun s=>⟨fun i=>VV.1 (h.1.2 s i),fun i=>VV.1 (h.2 s i)⟩).symm
def q6i:List (List Str)->List (List Str)->Bool
 |[],[]=>true
 |m::ms,l::ls=>x4z m l&&q6i ms ls
 |_,_=>false
theorem Kj:∀{ms ls:List (List Str)},q6i ms ls=true->ls.map WB=ms
 |[],[],_=>rfl
 |[],_::_,h=>by cases h
 |_::_,[],h=>by cases h
 | m::ms,l::ls,h=>by
   rw[q6i,x9g]at h;rw[x9c,q6o h.1,Kj h.2]
def K2{p:Pg}(h:q6i D ((sheetOf p).l.map fun it=>FM (bkO p O) it.s)=true):dfB p O=D:=by
 have i:=Kj h;rw[z4u]at i;exact i
def N6{p:Pg}(h:q6i U ((sheetOf p).l.map fun it=>Xk (bkI p I) it.s)=true):usB p I=U:=by
 have i:=Kj h;rw[z4u]at i;exact i
def x7z(h:List Bool)(p:Pg)(i:Nat)(f:Pr)(D:List (List Str)):List Str:=(itsOf p i f).flatMap fun it=>bif h.getD (ixI p i f it.s.id).toNat false then(PL D it.s.id).filter (outB p f)else []
def x7q(h:List (Int×Int))(p:Pg)(i:Nat)(f:Pr)(D U:List (List Str))(o:List Str)(x:Str):Bool:=(BV 0 (WX (QI (cntL f.body+2) (h.filter fun t=>DP p i f D x t.1)).1 [0])).any (hitN p i f U o x)
def Py{p:Pg}{i l:List Bool}{f0 f1:Pr}(m:p.A=[f0,f1])(r:(QQ p 0 f0).live=i)(s:(QQ p 1 f1).live=l)(h:q6i O [x7z i p 0 f0 D,x7z l p 1 f1 D]=true):otB p D=O:=by
 rw[<-Kj h,<-r,<-s];unfold otB;have o:prA p 0=f0:=WQ (by rw[m];rfl);have q:prA p 1=f1:=WQ (by rw[m];rfl);rw[m];show [otA p D 0,otA p D 1]=_;unfold otA;rw[o,q];rfl
def Ti{p:Pg}{x2a x2e:List (Int×Int)}{f0 f1:Pr}(i:p.A=[f0,f1])(o:HW (QQ p 0 f0) f0=x2a)(q:HW (QQ p 1 f1) f1=x2e)(h:q6i I [(p.B++[tapeS]).filter (x7q x2a p 0 f0 D U (O.getD 0 [])),(p.B++[tapeS]).filter (x7q x2e p 1 f1 D U (O.getD 1 []))]=true):niB p D U O=I:=by
 rw[<-Kj h,<-o,<-q];unfold niB;have l:prA p 0=f0:=WQ (by rw[i];rfl);have m:prA p 1=f1:=WQ (by rw[i];rfl);rw[i];show [niA p D U O 0,niA p D U O 1]=_;unfold niA Se;rw[l,m];rfl
def Bt:Str:=[103]
def vS:Str:=[118]
def yS:Str:=[121]
def xS:Str:=[120]
def x3h:PM (QQ someP 0 f0) f0=[⟨0,1,1⟩,⟨1,2,1⟩,⟨2,3,1⟩,⟨3,4,1⟩,⟨4,-1,1⟩]:=by
 unfold PM UO;rw[x2q,x1l];exact MY (by unfold okSt;decide) (by decide) (by decide) (by decide)
def x4m:HW (QQ someP 0 f0) f0=[(0,1),(1,2),(2,3),(3,4),(4,5)]:=by
 unfold HW;rw[x3h]
 kernel_rfl
def x4l:HW (QQ someP 1 f1) f1=[(0,1),(1,2),(2,3),(2,4),(3,5),(4,5)]:=by
 unfold HW;rw[x3f]
 kernel_rfl
def x7v:(QQ someP 0 f0).live=[true,true,true,true,true,true]:=by
 unfold QQ;simp only[x1k]
 kernel_rfl
def x7u:(QQ someP 1 f1).live=[true,true,true,true,true,true]:=by
 unfold QQ;simp only[x1g]
 kernel_rfl
def sOx:List (List Str):=[[Bt],[yS]]
def sD0:List (List Str):=[[vS],[Bt],[],[],[yS],[],[],[retS]]
def sD:List (List Str):=[[vS],[Bt,vS],[],[],[yS],[],[],[retS]]
def sU:List (List Str):=[[],[vS],[vS],[Bt],[xS,yS],[yS],[],[yS]]
def some_book:BookR someP ⟨sheetOf someP,wysB someP,sD,sU,[[],[]],sOx⟩:=by
 have d0:dfB someP [[],[]]=sD0:=K2 (by kernel_rfl);have l:otB someP sD0=sOx:=Py (f0:=f0) (f1:=f1) rfl x7v x7u (by kernel_rfl);have d1:dfB someP sOx=sD:=K2 (by kernel_rfl);have m:otB someP sD=sOx:=Py (f0:=f0) (f1:=f1) rfl x7v x7u (by kernel_rfl);have h:usB someP [[],[]]=sU:=N6 (by kernel_rfl);have i:niB someP sD sU sOx=[[],[]]:=Ti (f0:=f0) (f1:=f1) rfl x4m x4l (by kernel_rfl);refine⟨rfl,rfl,⟨1,?_⟩,?_,d1.symm,⟨0,rfl⟩,?_,h.symm⟩
 .show sOx=otB someP (dfB someP [[],[]]);rw[d0,l]
 .show otB someP (dfB someP sOx)=sOx;rw[d1,m]
 .show niB someP sD (usB someP [[],[]]) sOx=[[],[]];rw[h,i]
def g0:Pr:=dP.A[0]'(by decide)
def g1:Pr:=dP.A[1]'(by decide)
def x3g:Fit dP:=by unfold Fit;decide
def x3k:QP dP=true:=by kernel_rfl
def q4j:WC (QK dP 0 g0)=[⟨0,1,1⟩,⟨1,2,1⟩,⟨2,3,1⟩,⟨3,4,1⟩,⟨4,-1,1⟩]:=by
 have h:QK dP 0 g0=[⟨0,1,1⟩,⟨1,2,1⟩,⟨2,3,1⟩,⟨3,4,1⟩,⟨4,-1,1⟩]:=by kernel_rfl
 rw[h];exact MY (by unfold okSt;decide) (by decide) (by decide) (by decide)
def q4k:WC (QK dP 1 g1)=[⟨0,5,1⟩,⟨5,6,1⟩,⟨6,7,1⟩,⟨6,8,1⟩,⟨7,-1,1⟩,⟨8,-1,1⟩]:=by
 have h:QK dP 1 g1=[⟨0,5,1⟩,⟨5,6,1⟩,⟨6,7,1⟩,⟨6,8,1⟩,⟨7,-1,1⟩,⟨8,-1,1⟩]:=by kernel_rfl
 rw[h];exact MY (by unfold okSt;decide) (by decide) (by decide) (by decide)
def q4g:(QQ dP 0 g0).real=[⟨0,1,1⟩,⟨1,2,1⟩,⟨2,3,1⟩,⟨3,4,1⟩,⟨4,-1,1⟩]:=q4j
def q4h:(QQ dP 1 g1).real=[⟨0,5,1⟩,⟨5,6,1⟩,⟨6,7,1⟩,⟨6,8,1⟩,⟨7,-1,1⟩,⟨8,-1,1⟩]:=q4k
def q9c:prsW (QQ dP 0 g0) g0=[(0,1),(1,2),(2,3),(3,4),(4,5)]:=by
 unfold prsW;rw[q4g]
 kernel_rfl
def q9a:prsW (QQ dP 1 g1) g1=[(0,1),(1,2),(2,3),(2,4),(3,5),(4,5)]:=by
 unfold prsW;rw[q4h]
 kernel_rfl
def q6j:trapsW (QQ dP 0 g0) g0=[]:=by
 unfold trapsW VA;rw[q9c]
 kernel_rfl
def q6k:trapsW (QQ dP 1 g1) g1=[]:=by
 unfold trapsW VA;rw[q9a]
 kernel_rfl
def q9m:PM (QQ dP 0 g0) g0=[⟨0,1,1⟩,⟨1,2,1⟩,⟨2,3,1⟩,⟨3,4,1⟩,⟨4,-1,1⟩]:=by
 unfold PM UO;rw[q6j,q4g];exact MY (by unfold okSt;decide) (by decide) (by decide) (by decide)
def q9t:HW (QQ dP 0 g0) g0=[(0,1),(1,2),(2,3),(3,4),(4,5)]:=by
 unfold HW;rw[q9m]
 kernel_rfl
def q9l:PM (QQ dP 1 g1) g1=[⟨0,5,1⟩,⟨5,6,1⟩,⟨6,7,1⟩,⟨6,8,1⟩,⟨7,-1,1⟩,⟨8,-1,1⟩]:=by
 unfold PM UO;rw[q6k,q4h];exact MY (by unfold okSt;decide) (by decide) (by decide) (by decide)
def q9s:HW (QQ dP 1 g1) g1=[(0,1),(1,2),(2,3),(2,4),(3,5),(4,5)]:=by
 unfold HW;rw[q9l]
 kernel_rfl
def x6r:(QQ dP 0 g0).live=[true,true,true,true,true,true]:=by
 unfold QQ;simp only[q4j]
 kernel_rfl
def x6t:(QQ dP 1 g1).live=[true,true,true,true,true,true]:=by
 unfold QQ;simp only[q4k]
 kernel_rfl
def tO1:List (List Str):=[[],[tapeS]]
def tO:List (List Str):=[[tapeS],[tapeS]]
def tD0:List (List Str):=[[vS],[],[],[],[tapeS,xS],[],[],[retS]]
def tD:List (List Str):=[[vS],[tapeS],[],[],[tapeS,xS],[],[],[retS]]
def tI1:List (List Str):=[[Bt],[tapeS,Bt]]
def tI:List (List Str):=[[tapeS,Bt],[tapeS,Bt]]
def tU0:List (List Str):=[[],[vS],[vS],[Bt],[tapeS],[yS],[],[Bt]]
def tU:List (List Str):=[[],[tapeS,Bt,vS],[vS],[Bt],[tapeS],[yS],[],[Bt]]
def d_book:BookR dP ⟨sheetOf dP,wysB dP,tD,tU,tI,tO⟩:=by
 have d0:dfB dP [[],[]]=tD0:=K2 (by kernel_rfl);have o:otB dP tD0=tO1:=Py (f0:=g0) (f1:=g1) rfl x6r x6t (by kernel_rfl);have d1:dfB dP tO1=tD:=K2 (by kernel_rfl);have i:otB dP tD=tO:=Py (f0:=g0) (f1:=g1) rfl x6r x6t (by kernel_rfl);have d2:dfB dP tO=tD:=K2 (by kernel_rfl);have q:usB dP [[],[]]=tU0:=N6 (by kernel_rfl);have m:niB dP tD tU0 tO=tI1:=Ti (f0:=g0) (f1:=g1) rfl q9t q9s (by kernel_rfl);have r:usB dP tI1=tU:=N6 (by kernel_rfl);have h:niB dP tD tU tO=tI:=Ti (f0:=g0) (f1:=g1) rfl q9t q9s (by kernel_rfl);have l:usB dP tI=tU:=N6 (by kernel_rfl);refine⟨rfl,rfl,⟨2,?_⟩,?_,d2.symm,⟨2,?_⟩,?_,l.symm⟩
 .show tO=otB dP (dfB dP (otB dP (dfB dP [[],[]])));rw[d0,o,d1,i]
 .show otB dP (dfB dP tO)=tO;rw[d2,i]
 .show tI=niB dP tD (usB dP (niB dP tD (usB dP [[],[]]) tO)) tO;rw[q,m,r,h]
 .show niB dP tD (usB dP tI) tO=tI;rw[l,h]
def x4g:T5 someP 2=[Bt,vS]:=by
 unfold T5;rw[if_pos ⟨N0,by decide,by rw[show(sheetOf someP).l.length=8 by kernel_rfl];decide⟩,<-some_book.eq];rfl
def x4h:TR someP 5=[xS,yS]:=by
 unfold TR;rw[if_pos ⟨N0,by decide,by rw[show(sheetOf someP).l.length=8 by kernel_rfl];decide⟩,<-some_book.eq];rfl
def x4f:outsN someP [112]=[yS]:=by
 have e:Gj someP [112]=1:=by kernel_rfl
 unfold outsN;rw[e,if_pos ⟨N0,by decide⟩,<-some_book.eq];rfl
def x4d:I6 dP [112]=[tapeS,Bt]:=by
 have e:Gj dP [112]=1:=by kernel_rfl
 unfold I6;rw[e,if_pos ⟨x3k,by decide⟩,<-d_book.eq];rfl
theorem XX:aP 15 [] .tt:=by
 have h:=A6 someP N1 2;rw[x4g]at h;have i:=A7 someP N1 5;rw[x4h]at i;have l:=Fc someP N1 [112];rw[x4f]at l;have m:=Ly dP x3g [112];rw[x4d]at m;have o:=ZR [Bt,vS] [Bt,vS];have q:=ZR [xS,yS] [xS,yS];have r:=ZR [yS] [yS];have s:=ZR [tapeS,Bt] [tapeS,Bt];simp only[decide_true]at o q r s;refine sC FR func15 ?_;conv=>whnf
 repeat' ((first|refine gX ?_|refine cP Uz ?_|refine cP LK ?_|refine cP h ?_|refine cP i ?_|refine cP l ?_|refine cP m ?_|refine BsK.pureL rfl rfl ?_|refine cP o ?_|refine cP q ?_|refine cP r ?_|refine cP s ?_|(apply bB<;>intro _))<;>conv=>whnf)
 all_goals first
  |exact absurd (show true=false by assumption) (by decide)
  |exact⟨_,.p (RT rfl),rfl⟩
  |exact RetK.tt rfl
  |exact⟨_,.p (Sub.refl _),rfl⟩
def q1i{p:Pg}{n:Str}(h:GY p f n≠0):n∈p.B\/n∈Vs f:=by
 unfold GY at h;unfold Vs;cases m:f.C.find? (fun a=>a.name==n)with
 | some a=>
   refine .inr (x9e _ (x8c.2 ⟨a,z1a m,by simpa using z3k m⟩))
 | none=>
   rw[m]at h;cases q:f.E.any (fun s=>n==s)with
   | true=>
     obtain⟨s,i,l⟩:=z0g.1 q;exact .inr (z0w _ (by rw[eq_of_beq l];exact i))
   | false=>
     cases o:p.B.any (fun s=>n==s)with
     | true=>
       obtain⟨s,i,l⟩:=z0g.1 o;exact .inl (by rw[eq_of_beq l];exact i)
     |false=>exact absurd (by simp only[q,o];rfl) h
def L8{p:Pg}(h:QP p=true){n:Str}(l:n∈p.B):isName n=true:=by
 have i:=(QU h).1;unfold YV at i;simp only[x9g]at i;exact z0p.1 i.1.2 n l
section
variable {p:Pg}{j:Nat}{f:Pr}
def Sx{t:S}:caO (bkO p O) t=O.getD (caI p t).toNat []:=rfl
def q6a{t:S}:inAt (bkI p I) t=I.getD (caI p t).toNat []:=rfl
def q9g(h:QP p=true)(q:p.A[j]?=some f){t:S}(r:t∈flL f.body):∃it,(sheetOf p).l[(t.id-1).toNat]?=some it/\it.s=t:=by
 have i:=TH h q r;unfold OA at i;obtain⟨it,m,o⟩:=z4n.1 i;exact⟨it,m,o⟩
def q6v(h:QP p=true)(l:p.A[j]?=some f){t:S}(m:t∈flL f.body)(O:List (List Str)):PL (dfB p O) t.id=WB (FM (bkO p O) t):=by
 obtain⟨it,i,rfl⟩:=q9g h l m;unfold PL dfB;rw[x8n,x9x,i];rfl
def x6h(h:QP p=true)(l:p.A[j]?=some f){t:S}(m:t∈flL f.body)(I:List (List Str)):PL (usB p I) t.id=WB (Xk (bkI p I) t):=by
 obtain⟨it,i,rfl⟩:=q9g h l m;unfold PL usB;rw[x8n,x9x,i];rfl
def IN(h:QP p=true)(r:rdO p O=O)(i:p.A[j]?=some f){t:S}(o:t∈flL f.body)(x:Rch (wR p j f) 0 t.id){n:Str}(v:n∈FM (bkO p O) t)(y:outB p f n=true):n∈O.getD j []:=by
 have m:j<p.A.length:=(x8t.1 i).1;have q:=WQ i;have l:t∈(itsOf p j f).map Item.s:=by
  show t∈(itL (j:Nat) 0 (-1) 0 (offN p.A j) f.body).map Item.s;rw[BL];exact o
 obtain⟨it,w,rfl⟩:=x8c.1 l;have u:=ZS (QU h).1 i o;rw[<-r];unfold rdO;rw[Gv m,q];refine⟨it,w,?_,?_,y⟩
 .unfold lvB;rw[q];exact(SH h i (.inr (.inr u))).2 x
 .rw [q6v h i o];exact ZE.2 v
def x0s{y:Int}(h:plP p j f y):idN p j f (ixI p j f y)=y:=C3 h
def Ie(h:QP p=true)(i:p.A[j]?=some f){x:Str}{a b:Int}(r:wR p j f a b)(q:DP p j f D x (ixI p j f a)=true):nR p j f D x (ixI p j f a) (ixI p j f b):=by
 have l:=(q4y h i).2 (.inl r);obtain⟨m,o⟩:=q6w h i l;exact⟨q,(q2r h i m o).2 l⟩
theorem x0t{o:List Str}{x:Str}(h:QP p=true)(v:p.A[j]?=some f){t:S}(w:t∈flL f.body)(y:x∈PL U t.id):hitN p j f U o x (ixI p j f t.id)=true:=by
 have s:=ZS (QU h).1 v w;have i:plP p j f t.id:=.inr (.inr s);have z:=GP i;unfold hitN;have r:¬ixI p j f t.id=(cntL f.body+2:Nat)-1:=fun u=>by
  have:=LL i (.inr (.inl rfl)) (u.trans ix_exit.symm);omega
 have m:0<ixI p j f t.id:=by
  rcases Int.lt_or_le 0 (ixI p j f t.id)with l|l
  ·exact l
  ·have q:ixI p j f t.id=ixI p j f 0:=by
    have:ixI p j f 0=0:=by unfold ixI YW;rw[if_pos rfl]
    omega
   have:=LL i (.inl rfl) q;omega
 rw[z0s r,z0r m];show inS (PL U (idN p j f (ixI p j f t.id))) x=true;rw[x0s i];exact VV.2 y
theorem C0{x:Str}(h:QP p=true)(w:p.A[j]?=some f){y:Int}(o:plP p j f y)(l:y ≠ -1)(i:DP p j f D x (ixI p j f y)=false):∃t∈flL f.body,t.id=y/\x∈PL D y:=by
 unfold DP at i;by_cases r:ixI p j f y=(cntL f.body+2:Nat)-1
 ·exact absurd (LL o (.inr (.inl rfl)) (r.trans ix_exit.symm)) l
 ·rw[z0s r]at i;by_cases m:0<ixI p j f y
  ·rw[z0r m]at i;have q:inS (PL D (idN p j f (ixI p j f y))) x=true:=by simpa using i
   rw[x0s o]at q;rcases o with rfl|rfl|⟨s,u⟩
   ·unfold ixI YW at m;rw[if_pos rfl]at m;omega
   ·exact absurd rfl l
   ·obtain⟨t,z,_,v⟩:=J9 h w s u;exact⟨t,z,v,VV.1 q⟩
  ·rw[z0s m]at i;cases i
end
def Oz{p:Pg}{m:Int}(h:Dg p m=true):QP p=true:=by
 unfold Dg at h;rw[x9g]at h;exact h.1
theorem X7(p:Pg)(m:Fit p)(h:Int):aP 16 [.agg p.cells,.int .i64 h] (.bool (Dg p h)):=by
 refine sC BA func16 ?_;conv=>whnf
 have i:=Jo p m;unfold Dg;cases hc:QP p with
 | false=>
   rw[hc]at i;repeat' ((first|(refine gX ?_;intros)|refine dA ?_|refine cP i ?_|((first|apply bD|apply bE|apply bN|apply bB)<;>intro _<;>try omega))<;>conv=>whnf)
   all_goals first
    |contradiction
    |exact RetK.ff rfl
 | true=>
   rw[hc]at i;have l:=(XQ hc).2.2;have hT:=AD p (by omega);repeat' ((first|(refine gX ?_;intros)|refine dA ?_|refine cP i ?_|refine cP hT ?_|((first|apply bD|apply bE|apply bN|apply bB)<;>intro _<;>try omega))<;>conv=>whnf)
   all_goals first
    |contradiction
    |exact RetK.bool rfl
theorem TQ{p:Pg}(h:QP p=true){k:Nat}(hk:p.A[k]?=some f):Gj p f.name=(k:Nat)/\outsN p f.name=(bookOf p).M.getD k []/\I6 p f.name=(bookOf p).ins.getD k []:=by
 have q:f.name∈procsN p:=x8c.2 ⟨f,x9y hk,rfl⟩;obtain⟨m,i,l,_,r,o⟩:=Vd q;obtain⟨rfl,_⟩:=DN h (x8p i) hk o;have e:Gj p f.name=(m:Nat):=l;refine⟨e,?_,?_⟩
 ·unfold outsN;rw[if_pos ⟨h,by omega⟩,e];rfl
 ·unfold I6;rw[if_pos ⟨h,by omega⟩,e];rfl
section
variable {F:List (List Str)->List (List Str)}{n:Nat}{L O:List (List Str)}
end
def x1t{n i:Nat}{x:Str}:¬x∈(List.replicate n ([]:List Str)).getD i []:=fun h=>by
 rw[x8n,z0q]at h;split at h<;>cases h
section
variable {p:Pg}
end
section
variable {p:Pg}{j:Nat}{f:Pr}
end
mutual
theorem x1y:∀(t:S)(a b:Nat),nmS a (nmS b t)=nmS a t
 |.mk id kind F name D x has args I L,a,b=>by rw[nmS,nmS,nmS,D7 I,D7 L,Qg]
theorem D7:∀(l:List S)(a b:Nat),nmL a (nmL b l)=nmL a l
 |[],a,b=>by rw[nmL,nmL]
 |t::r,a,b=>by rw[nmL,nmL,nmL,x1y t,D7 r,Er]
end
def X00:X:=.mk 0 0 [] []
def nmX(n:Str):X:=.mk 2 0 n []
def zrS:Str:=[122,114]
def zvS(i:Nat):Str:=[122,118,UInt8.ofNat (48+i)]
def rdT(n:Str):S:=.mk 0 2 [] n [] X00 false [] [] []
def prT(n:Str):S:=.mk 0 3 [] [] [] (nmX n) false [] [] []
def CL(x:Param)(i:Nat):Arg:=if x.ref=true then⟨true,zvS i,X00⟩else⟨false,[],nmX (zvS i)⟩
def UH(l:List Param):List Arg:=(List.range l.length).map fun i=>CL (l.getD i ⟨[],false⟩) i
def CA(f:Pr):S:=.mk 0 4 [] zrS f.name X00 false (UH f.C) [] []
def zvL(f:Pr):List Str:=(List.range f.C.length).map zvS
def GZ(p:Pg)(f:Pr):List S:=(p.B++zvL f).map rdT++CA f::(zrS::(zvL f++p.B)).map prT
def OR(p:Pg)(f:Pr):Pr:=⟨mainS,[],zrS::zvL f,GZ p f,[]⟩
def VG(p:Pg)(f g:Pr):Pr:=if g.name==mainS then OR p f else g
def K3(p:Pg)(f:Pr):Pg:=⟨p.B,p.A.map (VG p f)⟩
def drvP(p:Pg)(f:Pr):Pg:=q7n (K3 p f)
section
variable {p:Pg}{f:Pr}
def Fu(g:Pr):(VG p f g).name=g.name:=by
 unfold VG;split
 .rename_i h;exact(eq_of_beq h).symm
 .rfl
def T9:(drvP p f).A.length=p.A.length:=by
 show(Vr 0 _).length=_;rw[KS];exact x8b _
def Ur{j:Nat}{g:Pr}(h:p.A[j]?=some g):∃n,(drvP p f).A[j]?=some ⟨(VG p f g).name,(VG p f g).C,(VG p f g).E,nmL n (VG p f g).body,(VG p f g).fin⟩:=by
 have i:(K3 p f).A[j]?=some (VG p f g):=by
  show(p.A.map _)[j]?=_;rw[x9x,h];rfl
 exact⟨_,Gq _ 0 j _ i⟩
def q6y{j:Nat}{i:Pr}(h:(drvP p f).A[j]?=some i):∃g,p.A[j]?=some g:=by
 have:=(x8t.1 h).1;rw[T9]at this;exact⟨_,x8p this⟩
def EU:(drvP p f).A.map Pr.name=p.A.map Pr.name:=by
 refine List.ext_getElem (by rw[x8b,x8b,T9]) fun i h l=>?_;rw[x8b]at h l;obtain⟨n,m⟩:=Ur (f:=f) (x8p l);rw[x8p h]at m;rw[z2l,z2l,z0y m];exact Fu _
def Bb(n:Str):idxF (fun g:Pr=>g.name==n) (drvP p f).A=idxF (fun g:Pr=>g.name==n) p.A:=by
 have key:∀l:List Pr,idxF (fun g:Pr=>g.name==n) l=idxF (fun s=>s==n) (l.map Pr.name):=fun l=>by
  unfold idxF;rw[List.any_map,List.findIdx_map];rfl
 rw[key,key,EU]
def q0l(B:QP p=true)(G:QP (drvP p f)=true){j:Nat}{g:Pr}(u:p.A[j]?=some g)(T:g.name≠mainS):∀n,n∈(bookOf (drvP p f)).M.getD j []->n∈(bookOf p).M.getD j []:=by
 obtain⟨k,hk⟩:=(KL G).M;rw[hk];have H:∀k,∀(j:Nat)(g:Pr),p.A[j]?=some g->g.name≠mainS->∀n,n∈(itO (drvP p f) k).getD j []->n∈(bookOf p).M.getD j []:=fun k=>by
  induction k with
  |zero=>exact fun j g _ _ n h=>absurd h x1t
  | succ k ih=>
    intro j g u T n h;have R:j<(drvP p f).A.length:=by rw[T9];exact(x8t.1 u).1
    obtain⟨m,o⟩:=Ur (f:=f) u;have Q:VG p f g=g:=if_neg (by simpa using T);rw[Q]at o;obtain⟨J,q⟩ : ∃J:Pr,J=⟨g.name,g.C,g.E,nmL m g.body,g.fin⟩:=⟨_,rfl⟩;rw[<-q]at o;have h:n∈(rdO (drvP p f) (itO (drvP p f) k)).getD j []:=h;unfold rdO at h;obtain⟨it,h1,K,i,N⟩:=(Gv R).1 h;rw[WQ o]at h1 N;have ht:it.s∈flL J.body:=YP h1;rw[q6v G o ht,ZE]at i;have hl:Rch (wR (drvP p f) j J) 0 it.s.id:=by
     unfold lvB at K;rw[WQ o]at K;exact(SH G o (.inr (.inr (ZS (QU G).1 o ht)))).1 K
    have V:∀(l:List S)(a b:Nat),nmL a (nmL b l)=nmL a l:=D7;obtain⟨t,t1,t2,t3,t4,t5,t6⟩:=q7j B G u o (by rw[q];exact V _ _ _) (by rw[q];exact Qg _ _) (by rw[q]) ht;have ho:outB p g n=true:=by
     rw[q]at N;exact N
    refine IN B (KL B).fixO u t1 (t6 hl) ?_ ho;unfold FM at i⊢;rw[t2,t3];split at i
    .rename_i k1;rw[if_pos k1];exact i
    rename_i k1;rw[if_neg k1];split at i
    .rename_i k2;rw[if_pos k2];exact i
    rename_i k2;rw[if_neg k2];split at i
    .rename_i k9;rw[if_pos k9];exact i
    rename_i k9;rw[if_neg k9];split at i
    .rename_i k4;rw[if_pos k4];have Z:t∈WI p:=z0j.2 ⟨g,x9y u,t1⟩;obtain⟨c,u1,u2,u3,u4,u5⟩:=KX B Z (by rw[t2];exact k4);have z:(prA p c).name≠mainS:=fun e=>by
      have w:=UN (QU B).2.1 (x9y u) t1;unfold knownB at w;rw[x9g,z3x]at w;rcases w.2 with r|r
      .rw [z3a]at r;exact r (by rw[t2];exact k4)
      .rw [x9g]at r;rw[<-u4,e]at r;simp at r
     have ec:caI (drvP p f) it.s=(c:Nat):=by
      show idxF _ _=_;rw[Bb,<-t4];exact u2
     obtain⟨m2,y⟩:=Ur (f:=f) (Y3 u1);rw[show VG p f (prA p c)=prA p c from if_neg (by simpa using z)]at y;have P:(caP (drvP p f) it.s).C=(prA p c).C:=by
      unfold caP;rw[ec,x8n,z1r,y];rfl
     have d:(caP p t).C=(prA p c).C:=by rw[u3]
     show n∈Mj p t (caP p t) (caO (bkO p (bookOf p).M) t);have i:n∈Mj (drvP p f) it.s (caP (drvP p f) it.s) (caO (bkO (drvP p f) (itO (drvP p f) k)) it.s):=i;rw[Sx,ec,z1r]at i;rw[Sx,u2,z1r];have v:=ih c (prA p c) (Y3 u1) z;unfold Mj at i⊢;rw[t3,t5];rcases x8e.1 i with i|i
     .refine x9e _ ?_;rcases x8e.1 i with i|i
      .exact x9e _ i
      .refine z0w _ ?_;obtain⟨x,x1,⟨x2,x3⟩,x4⟩:=MJ.1 i;rw[P]at x1;have Y:n∈Ac t (caP p t) ((bookOf p).M.getD c []) t.args.length:=MJ.2 ⟨x,by rw[d,t5];exact x1,⟨x2,v _ x3⟩,x4⟩;unfold Ac at Y⊢;rw[t5]at Y⊢;exact Y
     .obtain ⟨r,h6⟩:=z0u.1 i;exact z0w _ (z0u.2 ⟨v _ r,h6⟩)
    .cases i
 exact H k j g u T
end
def CG{P:Program}{T:Tab}{Y:Bool}{s:St}{o:Oper}{K:LV->Prop}(hT:TabOK P T){src l:TypeId}{x:Operand}(d:o.op=.convert src l x){i j k:TyI}{e:TypeId}(R:T.get src=some i)(h:T.get l=some j)(hk:T.get e=some k)(H:i.desc=.slice e)(J:j.desc=.string)(M:k.desc=.int .u8){n:Int}(hx:QR s.sl x=.p (.sl [.int .u8 n]))(N:K (.p (.str [UInt8.ofNat n.toNat]))):ValO P Y s o K:=by
 refine⟨fun σ β B w Z _=>?_⟩;have m:=QW Z x;rw[hx]at m;have q:=hT.of R;have r:=hT.of h;have t:=hT.of hk;rw[H]at q;rw[J]at r;rw[M]at t;have A:∃(b off cap:Nat) (cells:Array Value),B.eval x=.slice (some ⟨b,off,none⟩) 1 cap/\σ b=some cells/\cells[off]?=some (.int .u8 n):=by
  generalize B.eval x=v at m;cases m with
  | p m=>
    cases m with
    | sl _ b off cap sz cells u z E G hsz hc g=>
      have y:=hc 0 _ 0 _ rfl rfl;have C:=g 0 _ 0 _ rfl rfl;rw[Nat.zero_mul,z2o]at y;generalize u 0 0=v at y C;cases C;exact⟨b,off,cap,cells,rfl,z,y⟩
 obtain⟨b,off,cap,cells,A,z,hc⟩:=A;refine⟨_,.string ⟨[UInt8.ofNat n.toNat].toArray⟩,N,.p (.str _ (by simp[maxLen])),fun w' V _=>?_⟩;obtain⟨te,fr,Q⟩:=V b cells z;have c:(loadCells ⟨b,off,none⟩ 1).run P w'=.ok ([n].map (Value.int .u8)).toArray w':=run_loadCells_list (P:=P) w' ⟨b,off,none⟩ [Value.int .u8 n] fun j v h=>by
  match j,h with
  | 0,h=>
    cases h;show w'.cell? ⟨b,off+0,none⟩=_;simp[World.cell?,Q,hc]
  |j+1,h=>simp at h
 have a:=run_bytesToString (P:=P) w' ⟨b,off,none⟩ 1 cap [n] c;simp only[execOp,d,A,convert,Sem.run_bind,run_underlying q,run_underlying r,run_underlying t,Result.andThen_ok,a];rfl
theorem q9x{i:Nat}(h:i<=9):(IntKind.wrap .u8 (48+(i:Int))).toNat=48+i:=by
 have:i=0\/i=1\/i=2\/i=3\/i=4\/i=5\/i=6\/i=7\/i=8\/i=9:=by omega
 rcases this with rfl|rfl|rfl|rfl|rfl|rfl|rfl|rfl|rfl|rfl<;>rfl
def Ux(i:Nat)(h:i<=9):aP 46 [.int .i64 i] (.str (zvS i)):=by
 refine sC Q5 func46 ?_;conv=>whnf
 repeat' ((first|refine gX ?_|refine CG ZP rfl rfl rfl rfl rfl rfl rfl rfl ?_|refine Wr.wrap ?_|refine x9p (by show 3<=maxLen;decide) ?_)<;>conv=>whnf)
 all_goals first
  |exact RetK.p (by rw[q9x h];rfl)
theorem x3y{p:Pg}(y:Fit p)(hc:QP p=true):CopyF p:=by
 obtain⟨u,v,w⟩:=q8b y hc;have x:=(XQ hc).2.2;refine⟨u,v,fun f h=>?_⟩;obtain⟨o,q,r,_,s⟩:=w f h;have a:=Zx _ _ h;obtain⟨j,z,l⟩:=z0v.1 h;have i:p.A[j]?=some f:=by rw[x8p z,l]
 exact⟨o,q,r,by omega,fun t m=>⟨s t m,by have:=(ZS (QU hc).1 i m).1;omega⟩⟩
inductive RwL(k:Nat)(es:List AV):LV->LV->Prop
 |keep {l:LV} (hf:l.free k=true):RwL k es l l
 |row {n:Nat} (hn:n=es.length):RwL k es (.hd k 0 n) (.p (.sl es))
inductive RwC(k:Nat)(es:List AV):List LV->List LV->Prop
 |nil:RwC k es [] []
 |cons {l l':LV} {r r':List LV} (h:RwL k es l l') (hr:RwC k es r r'):RwC k es (l::r) (l'::r')
theorem RwC.get{k:Nat}{es:List AV}{ls i:List LV}(h:RwC k es ls i):i.length=ls.length/\∀(j:Nat)(l':LV),i[j]?=some l'->∃l,ls[j]?=some l/\RwL k es l l':=by
 induction h with
 |nil=>exact⟨rfl,by simp⟩
 | cons h q o=>
   refine⟨by simp[o.1],fun j l' m=>?_⟩;cases j with
   |zero=>simp at m;subst m;exact⟨_,rfl,h⟩
   |succ j=>exact o.2 j l' (by simpa using m)
inductive RwS(k:Nat)(es:List AV):List (Nat×LV)->List (Nat×LV)->Prop
 |nil:RwS k es [] []
 |cons {i:Nat} {l l':LV} {r r':List (Nat×LV)} (h:RwL k es l l') (hr:RwS k es r r'):RwS k es ((i,l)::r) ((i,l')::r')
theorem RwS.get{k:Nat}{es:List AV}{sl sl':List (Nat×LV)}(h:RwS k es sl sl')(i:Nat):RwL k es (getS sl i) (getS sl' i):=by
 induction h with
 |nil=>exact .keep rfl
 | @cons j l l' r q h o m=>
   simp only[getS];cases j==i
   .exact m
   .exact h
inductive RwH(k:Nat)(es:List AV):Heap->Heap->Prop
 |nil:RwH k es [] []
 |drop {e:TypeId} {sz:Nat} {es':List AV} {H H':Heap} (h:RwH k es H H'):RwH k es ((k,.own e sz es')::H) H'
 |own {j:Nat} {e:TypeId} {sz:Nat} {es':List AV} {H H':Heap} (hj:j≠k) (h:RwH k es H H'):RwH k es ((j,.own e sz es')::H) ((j,.own e sz es')::H')
 |ext {j:Nat} {d:XC} {H H':Heap} (hj:j≠k) (h:RwH k es H H'):RwH k es ((j,.ext d)::H) ((j,.ext d)::H')
 |obj {j:Nat} {e:TypeId} {cs cs':List LV} {H H':Heap} (hj:j≠k) (hc:RwC k es cs cs') (h:RwH k es H H'):RwH k es ((j,.obj e cs)::H) ((j,.obj e cs')::H')
inductive CRw(k:Nat)(es:List AV):Chunk->Chunk->Prop
 |own {e:TypeId} {sz:Nat} {es':List AV}:CRw k es (.own e sz es') (.own e sz es')
 |ext {d:XC}:CRw k es (.ext d) (.ext d)
 |obj {e:TypeId} {cs cs':List LV} (hc:RwC k es cs cs'):CRw k es (.obj e cs) (.obj e cs')
theorem RwH.get{k:Nat}{es:List AV}{H H':Heap}(h:RwH k es H H'):(H'.map (·.1)).Sublist (H.map (·.1))/\∀j c',(j,c')∈H'->j≠k/\∃c,(j,c)∈H/\CRw k es c c':=by
 induction h with
 |nil=>exact⟨.slnil,by simp⟩
 |drop h l=>exact⟨l.1.cons _,fun j c' r=>let ⟨m,c,o,q⟩:=l.2 j c' r;⟨m,c,x8r _ o,q⟩⟩
 | own r h l=>
   refine⟨l.1.cons_cons _,fun j c' i=>?_⟩;rcases x8s.1 i with t|i
   .cases t;exact⟨r,_,x8l,.own⟩
   .obtain ⟨m,c,o,q⟩:=l.2 j c' i;exact⟨m,c,x8r _ o,q⟩
 | ext r h l=>
   refine⟨l.1.cons_cons _,fun j c' i=>?_⟩;rcases x8s.1 i with t|i
   .cases t;exact⟨r,_,x8l,.ext⟩
   .obtain ⟨m,c,o,q⟩:=l.2 j c' i;exact⟨m,c,x8r _ o,q⟩
 | obj r hc h l=>
   refine⟨l.1.cons_cons _,fun j c' i=>?_⟩;rcases x8s.1 i with t|i
   .cases t;exact⟨r,_,x8l,.obj hc⟩
   .obtain ⟨m,c,o,q⟩:=l.2 j c' i;exact⟨m,c,x8r _ o,q⟩
theorem NT{N:Nat}{sl sl':List (Nat×LV)}{H H':Heap}{k:Nat}{e:TypeId}{sz:Nat}{es:List AV}(hg:getH H k=some (.own e sz es))(hs:RwS k es sl sl')(hh:RwH k es H H'):Le N ⟨sl,H⟩ ⟨sl',H'⟩:=fun σ β a w t=>by
 obtain⟨d,z⟩:=hh.get;have hnd:=d.nodup t.heap.nodup;have s:∀j∈H'.map (·.1),j∈H.map (·.1):=fun j o=>d.subset o;rcases VD.1 (t.heap.chunks k _ (QF hg))with⟨R,rfl⟩|⟨i,vs,T,hisz,hb,hn,hle',hmax,hE⟩
 ·have C:∀{l l':LV}{v:Value},RwL k [] l l'->RepL σ β l v->RepL σ β l' v:=fun {l l' v} hw g=>by
   cases hw with
   |keep=>exact g
   | row hn=>
     rcases g.hdI with⟨_,_,_,he⟩|⟨i,_,hk,_⟩
     ·rw[he];exact .p .nilsl
     ·rw[R]at hk;cases hk
  refine⟨σ,β,⟨t.size,t.defers,fun j=>C (hs.get j) (t.G j),⟨t.heap.mem,fun j c' o=>?_,hnd,fun j o=>t.heap.apart j (s j o),fun j o j' V=>t.heap.inj j (s j o) j' (s j' V)⟩⟩,Mem.le_refl σ,Frm.refl _ _,fun _ h0 y=>absurd h0 y,fun b ⟨j,o,r⟩=>.inl ⟨j,s j o,r⟩,fun _ _ _=>rfl⟩;obtain⟨_,c,J,Q⟩:=z j c' o;have h:=t.heap.chunks j c J;cases Q with
  |own=>exact h
  |ext=>exact h
  | obj hc=>
    obtain⟨i',B,q1,q2,q3,q4⟩:=h;obtain⟨q5,q6⟩:=hc.get;refine⟨i',B,q1,q2,by omega,fun m l' Y=>?_⟩;obtain⟨l,q7,q8⟩:=q6 m l' Y;obtain⟨u,q9,A⟩:=q4 m l q7;exact⟨u,q9,C q8 A⟩
 ·have C:∀τ:Mem,σ.le τ->τ i.blk=some vs->∀{l l':LV}{v:Value},RwL k es l l'->RepL σ β l v->RepL τ β l' v:=fun τ q M {l l' v} hw g=>by
   cases hw with
   |keep=>exact g.mono q
   | row Z=>
     rcases g.hdI with⟨hk,_⟩|⟨i',oo,hk,C,P,rfl⟩
     ·rw[T]at hk;cases hk
     ·rw[T]at hk;cases hk;have hoo:oo=0:=by
       rcases P with P|P
       ·simpa using P
       ·omega
      subst hoo Z;obtain⟨u,hu⟩ : ∃u:Nat->Nat->Value,∀(m:Nat)(x:AV)(j:Nat)(c:AV),es[m]?=some x->x.cells[j]?=some c->vs[m*sz+j]?=some (u m j)/\Rep σ c (u m j):=by
       refine⟨fun m j=>(vs[m*sz+j]?).getD undef,fun m x j c K o=>?_⟩;obtain⟨v,y,J⟩:=hE.rep m x j c K o;rw[z0z]at y;split at y
       ·have E:vs[m*sz+j]?=some v:=by simpa using y
        exact⟨by simp[E],by simpa[E]using J⟩
       ·cases y
      exact .p (.sl es i.blk 0 _ sz vs u M (by omega) (by omega) hE.size (fun m x j c K o=>by simpa using(hu m x j c K o).1) fun m x j c K o=>(hu m x j c K o).2.mono q)
  refine t.lay T (XU hg) hb (fun τ q M j v g=>C τ q M (hs.get j) g) (fun τ q M j c' o=>?_) hnd;obtain⟨y,c,J,Q⟩:=z j c' o;refine⟨y,c,J,fun h=>?_⟩;cases Q with
  |own=>exact h.mono q fun _ _ _ _=>rfl
  |ext=>exact h.mono q fun _ _ _ _=>rfl
  | obj hc=>
    obtain⟨i',B,q1,q2,q3,q4⟩:=h;obtain⟨q5,q6⟩:=hc.get;refine⟨i',B,q1,q2,by omega,fun m l' Y=>?_⟩;obtain⟨l,q7,q8⟩:=q6 m l' Y;obtain⟨u,q9,A⟩:=q4 m l q7;exact⟨u,q9,C τ q M q8 A⟩
theorem q5f:∀a b:List S,wL (a++b)=wL a+wL b
 |[],b=>by rw[z1g,wL,z0t]
 |s::r,b=>by rw[z3v,wL,wL,q5f r b,z1j]
theorem x2y:∀l:List Str,wL (l.map rdT)=3*l.length
 |[]=>by rw[z3p,wL];rfl
 | n::r=>by
   rw[x9c,wL,x2y r,x9f];have:wS (rdT n)=3:=rfl;omega
theorem x2u:∀l:List Str,wL (l.map prT)=3*l.length
 |[]=>by rw[z3p,wL];rfl
 | n::r=>by
   rw[x9c,wL,x2u r,x9f];have:wS (prT n)=3:=rfl;omega
theorem Rn:∀l:List Arg,(∀a∈l,wX a.x=1)->Wq l=2*l.length
 |[],_=>rfl
 | a::r,h=>by
   have i:=h a x8l;have m:=Rn r fun b o=>h b (x8r _ o);rw[Wq,i,m,x9f];omega
def q4w(x:Param)(i:Nat):wX (CL x i).x=1:=by unfold CL;split<;>rfl
def Mw{l:List Param}{a:Arg}(h:a∈UH l):∃x i,a=CL x i:=by
 unfold UH at h;obtain⟨i,_,rfl⟩:=x8c.1 h;exact⟨_,_,rfl⟩
def Bw(l:List Param):(UH l).length=l.length:=by unfold UH;simp
def AL(f:Pr):(zvL f).length=f.C.length:=by unfold zvL;simp
theorem q5d:∀l:List Str,Rm l=l.length
 |[]=>rfl
 |s::r=>by rw[Rm,q5d r,x9f];omega
theorem q9e(p:Pg)(f:Pr):wPr (OR p f)=8+9*f.C.length+6*p.B.length:=by
 have l:wS (CA f)=3+2*f.C.length:=by
  have h:=Rn (UH f.C) fun a ha=>by obtain⟨x,i,rfl⟩:=Mw ha;exact q4w x i
  rw[Bw]at h;show 1+0+1+1+Wq (UH f.C)+0+0=_;rw[h];omega
 have m:=AL f;show 1+Rm (zrS::zvL f)+0+0+wL (GZ p f)=_;unfold GZ;rw[q5d,q5f,wL,x2y,x2u,l];simp only[x8m,x9f,m];omega
theorem q4f(p:Pg)(f:Pr):cntL (GZ p f)=2*(p.B.length+f.C.length)+2:=by
 have key:∀l:List S,(∀s∈l,XL s=1)->cntL l=l.length:=fun l=>by
  induction l with
  |nil=>intro _;rfl
  | cons s r q=>
    intro h;rw[cntL,h s x8l,q fun t m=>h t (x8r _ m),x9f];omega
 have o:=AL f;rw[key _ fun s i=>?_]
 ·unfold GZ;simp only[x8m,x8b,x9f,o];omega
 ·unfold GZ at i;rcases x8e.1 i with i|i
  ·obtain⟨n,_,rfl⟩:=x8c.1 i;rfl
  ·rcases x8s.1 i with rfl|i
   ·rfl
   ·obtain⟨n,_,rfl⟩:=x8c.1 i;rfl
theorem Tq(p:Pg)(f:Pr)(w:Pr->Nat)(s:List Pr->Nat)(q:s []=0)(o:∀g r,s (g::r)=w g+s r):∀l:List Pr,(l.map Pr.name).Nodup->s (l.map (VG p f))<=s l+w (OR p f)
 |[],_=>by rw[z3p,q];omega
 | g::r,hn=>by
   rw[x9c,z0n]at hn;rw[x9c,o,o];by_cases m:g.name=mainS
   ·have e:r.map (VG p f)=r:=by
     have t:r.map (VG p f)=r.map id:=z5q fun h v=>by
      unfold VG;rw[if_neg fun u=>hn.1 (by rw[m,<-eq_of_beq u];exact z2f v)];rfl
     rw[t,List.map_id]
    have i:VG p f g=OR p f:=if_pos (by rw[m];exact z0d _);rw[e,i];omega
   ·have i:VG p f g=g:=if_neg (by simpa using m);have:=Tq p f w s q o r hn.2;rw[i];omega
def C5{p:Pg}(hc:QP p=true):(p.A.map Pr.name).Nodup:=by
 obtain⟨_,i,_⟩:=QU hc;obtain⟨_,h,_⟩:=WV i;unfold XI at h;simp only[z3u]at h;exact Jq h.2.1
mutual
theorem x2j:∀(t:S)(n:Nat),wS (nmS n t)=wS t
 |.mk id kind F name D x has args I L,n=>by rw[nmS,wS,wS,Ct I,Ct L]
theorem Ct:∀(l:List S)(n:Nat),wL (nmL n l)=wL l
 |[],n=>by rw[nmL]
 |t::r,n=>by rw[nmL,wL,wL,x2j t,Ct r]
end
theorem OH:∀(l:List Pr)(n:Nat),AN (Vr n l)=AN l
 |[],n=>rfl
 | g::r,n=>by
   rw[Vr,AN,AN,OH r];show 1+Rm g.E+Rm g.fin+q3c g.C+wL (nmL n g.body)+_=_;rw[Ct];rfl
section
variable {p:Pg}{f:Pr}{k:Nat}(hc:QP p=true)(hk:p.A[k]? = some f)
include hc hk
theorem EY:wPr (OR p f)<=1000:=by
 have h:=(XQ hc).1;have i:f.C.length<=8:=((ZA (QU hc).1).pr f (x9y hk)).1;rw[q9e];omega
theorem EW(o:gPg p<=20000):Fit (drvP p f):=by
 have h:=Tq p f wPr AN rfl (fun g r=>rfl) p.A (C5 hc);have i:=EY hc hk;have l:=x2h p;show Rm p.B+AN (Vr 0 (p.A.map (VG p f)))<=21000;rw[OH];have m:wPg p=Rm p.B+AN p.A:=rfl;omega
theorem q6u:cntP (K3 p f).A<=100000:=by
 have h:=Tq p f (fun g=>cntL g.body) cntP rfl (fun g r=>rfl) p.A (C5 hc);have i:=(XQ hc).1;have l:=(XQ hc).2.2;have m:f.C.length<=8:=((ZA (QU hc).1).pr f (x9y hk)).1;have o:=q4f p f;show cntP (p.A.map (VG p f))<=_;have q:cntL (OR p f).body=cntL (GZ p f):=rfl;omega
theorem q0m(w:CopyF p):CopyF (K3 p f):=by
 have E:=(XQ hc).1;have G:f.C.length<=8:=((ZA (QU hc).1).pr f (x9y hk)).1;refine⟨by show(p.A.map _).length<=_;rw[x8b];exact w.A,w.B,fun g c=>?_⟩;obtain⟨g0,v,rfl⟩:=x8c.1 (show g∈p.A.map (VG p f)from c);by_cases y:g0.name=mainS
 ·rw [show VG p f g0=OR p f from if_pos (by rw[y];exact z0d _)];have H:=AL f;refine⟨by show(zrS::zvL f).length<=_;rw[x9f];omega,by show(0:Nat)<=_;omega,by show(0:Nat)<=_;omega,by show cntL (GZ p f)<=_;rw[q4f];omega,fun t o=>?_⟩;have key:∀l:List S,(∀s∈l,s.I=[]/\s.L=[])->∀t∈flL l,t∈l:=fun l=>by
   induction l with
   |nil=>intro _ t h;rw[flL]at h;cases h
   | cons s r e=>
     intro h t o;obtain⟨z,b⟩:=h s x8l;rw[flL,Sk,z,b,flL]at o;rcases x8e.1 o with o|o
     ·rcases x8s.1 o with rfl|o
      ·exact x8l
      ·cases o
     ·exact x8r _ (e (fun u d=>h u (x8r _ d)) t o)
  have q:∀s∈GZ p f,(s.I=[]/\s.L=[])/\okC s/\s.id ≠ -1:=fun s m=>by
   unfold GZ at m;rcases x8e.1 m with m|m
   ·obtain⟨n,_,rfl⟩:=x8c.1 m;exact⟨⟨rfl,rfl⟩,⟨by show 1<=_;omega,by show(0:Nat)<=_;omega,by show(0:Nat)<=_;omega,fun a ha=>by cases ha⟩,by show(0:Int) ≠ -1;decide⟩
   ·rcases x8s.1 m with rfl|m
    ·refine⟨⟨rfl,rfl⟩,⟨by show 1<=_;omega,by show(0:Nat)<=_;omega,by show(UH f.C).length<=_;rw[Bw];omega,fun a ha=>?_⟩,by show(0:Int) ≠ -1;decide⟩;obtain⟨x,i,rfl⟩:=Mw (show a∈UH f.C from ha);rw[q4w];omega
    ·obtain⟨n,_,rfl⟩:=x8c.1 m;exact⟨⟨rfl,rfl⟩,⟨by show 1<=_;omega,by show(0:Nat)<=_;omega,by show(0:Nat)<=_;omega,fun a ha=>by cases ha⟩,by show(0:Int) ≠ -1;decide⟩
  exact(q t (key _ (fun s m=>(q s m).1) t o)).2
 ·rw[show VG p f g0=g0 from if_neg (by simpa using y)];exact w.pr g0 v
end
theorem HU(p:Pg):aP 17 [.agg p.cells,.str mainS] (.tup [.agg [.nils,.nils],.ff]):=by
 refine sC YQ func17 ?_;conv=>whnf
 have h:=JO p mainS;generalize(Hn p mainS).1=g at*
 generalize(Hn p mainS).2=ok at*
 cases ok;all_goals
  repeat' ((first|(refine gX ?_;intros)|refine dA ?_|refine cP h ?_|((first|apply bD|apply bE|apply bN|apply bB)<;>intro _<;>try omega))<;>conv=>whnf)
  all_goals first
   |contradiction
   |exact⟨_,.p (Sub.refl _),rfl⟩
   |(exfalso;simp_all;done)
def dvB(p:Pg)(f:Pr)(i j:Nat):List AV:=S.avs (((p.B.take i)++(zvL f).take j).map rdT)
def dvV(f:Pr)(j:Nat):List AV:=(zrS::(zvL f).take j).map AV.str
def dvA(f:Pr)(j:Nat):List AV:=((UH f.C).take j).map fun a=>AV.agg a.cells
def dvT(p:Pg)(f:Pr)(j i:Nat):List AV:=S.avs ((zrS::((zvL f).take j++p.B.take i)).map prT)
def dvM(h nb:Nat)(b:LV):List LV:=[.p (.str mainS),.p .nils,.hd 0 0 h,b,.p .nils]
def dvC(f:Pr)(a:LV):List LV:=[.p (.int .i64 0),.p (.int .i64 4),.p .nils,.p (.str zrS),.p (.str f.name),.p (.int .i64 0),.p (.int .i64 0),.p (.str []),.p .nils,.p .ff,a,.p .nils,.p .nils]
def OM{j:Nat}(h:j<f.C.length):(zvL f).take (j+1)=(zvL f).take j++[zvS j]:=by
 have i:j<(zvL f).length:=by rw[AL];exact h
 rw[x9v i];congr 2;unfold zvL at i⊢;rw[z2l,List.getElem_range]
def x3l{p:Pg}{i:Nat}(h:i<p.B.length):dvB p f (i+1) 0=dvB p f i 0++[.agg (rdT p.B[i]).cells]:=by
 unfold dvB;rw[x9v h,z3q,z0k,z0k,S.avs_eq,S.avs_eq,x8a,x8a];rfl
def x3r{p:Pg}{i j:Nat}(h:j<f.C.length):dvB p f i (j+1)=dvB p f i j++[.agg (rdT (zvS j)).cells]:=by
 unfold dvB;rw[OM h,<-x9l,S.avs_eq,S.avs_eq,x8a,x8a];rfl
def x3c{j:Nat}(h:j<f.C.length):dvV f (j+1)=dvV f j++[.str (zvS j)]:=by
 unfold dvV;rw[OM h,<-z3v,x8a];rfl
def x3n{j:Nat}(h:j<f.C.length):dvA f (j+1)=dvA f j++[.agg (CL f.C[j] j).cells]:=by
 have i:j<(UH f.C).length:=by rw[Bw];exact h
 unfold dvA;have l:(UH f.C)[j]=CL f.C[j] j:=by
  unfold UH at i⊢;rw[z2l,List.getElem_range,x8n,x8p h];rfl
 rw[x9v i,x8a,l];rfl
def x3s{p:Pg}{j:Nat}(h:j<f.C.length):dvT p f (j+1) 0=dvT p f j 0++[.agg (prT (zvS j)).cells]:=by
 unfold dvT;rw[OM h,z3q,z0k,z0k,<-z3v,S.avs_eq,S.avs_eq,x8a,x8a];rfl
def x3t{p:Pg}{j i:Nat}(h:i<p.B.length):dvT p f j (i+1)=dvT p f j i++[.agg (prT p.B[i]).cells]:=by
 unfold dvT;rw[x9v h,<-x9l,<-z3v,S.avs_eq,S.avs_eq,x8a,x8a];rfl
def x3m(p:Pg)(f:Pr):dvB p f 0 0=[]:=by unfold dvB;rw[S.avs_eq];rfl
def x0q(p:Pg)(f:Pr):dvT p f 0 0=[.agg (prT zrS).cells]:=by unfold dvT;rw[S.avs_eq];rfl
def x0x(f:Pr):dvV f 0=[.str zrS]:=rfl
def x3p(f:Pr):dvA f 0=[]:=rfl
theorem Tx(p:Pg)(f:Pr)(i j:Nat):(dvB p f i j).length<=i+j:=by unfold dvB;rw[S.avs_eq];simp;omega
theorem Tz(p:Pg)(f:Pr)(j i:Nat):(dvT p f j i).length<=j+i+1:=by unfold dvT;rw[S.avs_eq];simp;omega
theorem q6h(f:Pr)(j:Nat):(dvV f j).length<=j+1:=by unfold dvV;simp;omega
theorem q6g(f:Pr)(j:Nat):(dvA f j).length<=j:=by unfold dvA;simp;omega
def U4{a b:List AV}(h:SubL a b):∀(j:Nat)(c':AV),b[j]?=some c'->∃c,a[j]?=some c/\Sub c c':=fun _ _ hc=>h.get hc
def dvN(v b:LV):List LV:=[.p (.str mainS),.p .nils,v,b,.p .nils]
def prN(n:Str):List AV:=[.int .i64 0,.int .i64 3,.nils,.str [],.str [],.int .i64 2,.int .i64 0,.str n,.nils,.ff,.nils,.nils,.nils]
def rdN(n:Str):List AV:=[.int .i64 0,.int .i64 2,.nils,.str n,.str [],.int .i64 0,.int .i64 0,.str [],.nils,.ff,.nils,.nils,.nils]
def agN(b:Bool)(n:Str):List AV:=bif b then [.tt,.str n,.int .i64 0,.int .i64 0,.str [],.nils]else [.ff,.str [],.int .i64 2,.int .i64 0,.str n,.nils]
theorem ElS.pr(es:List AV)(n:Str):ElS (es++[.agg (prN n)]) (es++[.agg (prT n).cells]):=
 ElS.snoc (ElS.refl es) rfl (U4 (by unfold prN;repeat' first|exact Sub.refl _|exact Sub.nils|exact Sub.ff rfl|apply SubL.cons|exact SubL.nil))
theorem ElS.rd(es:List AV)(n:Str):ElS (es++[.agg (rdN n)]) (es++[.agg (rdT n).cells]):=
 ElS.snoc (ElS.refl es) rfl (U4 (by unfold rdN;repeat' first|exact Sub.refl _|exact Sub.nils|exact Sub.ff rfl|apply SubL.cons|exact SubL.nil))
theorem ElS.ag(es:List AV)(x:Param)(j:Nat):ElS (es++[.agg (agN x.ref (zvS j))]) (es++[.agg (CL x j).cells]):=by
 unfold CL;cases i:x.ref with
 | true=>
   rw[if_pos rfl];exact ElS.snoc (ElS.refl es) rfl (U4 (by unfold agN;rw[x9z];repeat' first|exact Sub.refl _|exact Sub.nils|exact Sub.tt rfl|apply SubL.cons|exact SubL.nil))
 | false=>
   rw[if_neg (by decide)];exact ElS.snoc (ElS.refl es) rfl (U4 (by unfold agN;rw[x9k];repeat' first|exact Sub.refl _|exact Sub.nils|exact Sub.ff rfl|apply SubL.cons|exact SubL.nil))
def caN(f:Pr):List AV:=[.int .i64 0,.int .i64 4,.nils,.str zrS,.str f.name,.int .i64 0,.int .i64 0,.str [],.nils,.ff,.sl (dvA f f.C.length),.nils,.nils]
def q5l{a o b q:List AV}(h:ElS a o)(k:ElS b q):ElS (a++b) (o++q):=by
 refine⟨by rw[x8m,x8m,h.1,k.1],fun m y l=>?_⟩;rcases x8o m o.length with i|i
 .rw [x9d i]at l;rw[x9d (by rw[<-h.1];exact i)];exact h.2 m y l
 .rw [x9n i]at l;rw[x9n (by rw[<-h.1];exact i),<-h.1];exact k.2 _ y l
def q9v(f:Pr)(a b:List AV):ElS (a++[.agg (caN f)]++b) (a++[.agg (CA f).cells]++b):=by
 have e:(CA f).cells=[.int .i64 0,.int .i64 4,.sl [],.str zrS,.str f.name,.int .i64 0,.int .i64 0,.str [],.sl [],.bool false,.sl (dvA f f.C.length),.sl [],.sl []]:=by
  unfold dvA;rw[x9u (by rw[Bw];exact x9h _)];rfl
 rw[e];exact q5l (ElS.snoc (ElS.refl a) rfl (U4 (by unfold caN;repeat' first|exact Sub.refl _|exact Sub.nils|exact Sub.ff rfl|apply SubL.cons|exact SubL.nil))) (ElS.refl b)
def x0z(p:Pg)(f:Pr):dvB p f p.B.length f.C.length++[.agg (CA f).cells]++dvT p f f.C.length p.B.length=S.avs (GZ p f):=by
 unfold dvB dvT;rw[x9u (x9h _),x9u (Nat.le_of_eq (AL f)),S.avs_eq,S.avs_eq,S.avs_eq];unfold GZ;simp only[x8a,x9c,x9l,z3v,z1g]
def VX(p:Pg)(f:Pr)(j:Nat):List Pr:=(p.A.take j).map (VG p f)++p.A.drop j
theorem Fy(p:Pg)(f:Pr){j:Nat}(h:j<=p.A.length):(VX p f j).length=p.A.length:=by
 unfold VX;rw[x8m,x8b,x9s,z1d];omega
theorem A0(p:Pg)(f:Pr){j:Nat}(h:j<p.A.length):(VX p f j)[j]?=some p.A[j]:=by
 unfold VX;rw[x9n (by rw[x8b,x9s];omega),x8b,x9s,z1v];rw[show j+(j-min j p.A.length)=j by omega,x8p h]
theorem T8(p:Pg)(f:Pr){j:Nat}(h:j<p.A.length):VX p f (j+1)=(VX p f j).set j (VG p f p.A[j]):=by
 unfold VX;have i:((p.A.take j).map (VG p f)).length=j:=by rw[x8b,x9s];omega
 rw[z4c _ _ (by omega),i,z3n,x9i h,List.set_cons_zero,x9v h,x8a];simp
def OO{es:List AV}{j:Nat}{x q:AV}(s:q.cells.length=x.cells.length)(hc:∀(i:Nat)(c':AV),q.cells[i]?=some c'->∃c,x.cells[i]?=some c/\Sub c c'):ElS (es.set j x) (es.set j q):=by
 refine⟨by simp,fun m y l=>?_⟩;rw[z1o]at l⊢;split at l
 .rename_i h;split at l
  .cases l;rename_i r;exact⟨x,by rw[if_pos h,if_pos r],s,hc⟩
  .cases l
 .rename_i h;exact⟨y,by rw[if_neg h];exact l,rfl,fun i c' o=>⟨c',o,Sub.refl _⟩⟩
theorem LG(p:Pg)(hf:Fit p)(hc:QP p=true)(hg:gPg p<=20000)(k:Nat)(f:Pr)(hk:p.A[k]?=some f)(hm:f.name≠mainS):aP 17 [.agg p.cells,.str f.name] (.tup [.agg (drvP p f).cells,.bool (QP (drvP p f))]):=by
 refine sC YQ func17 ?_;conv=>whnf
 obtain⟨k',hk',hw⟩:=q3e hc (x9y hk);obtain⟨rfl,_⟩:=DN hc hk' hk rfl;have Y:=JO p f.name;rw[(IS hw hk).2]at Y;simp only at Y;have hpl:f.C.length<=8:=((ZA (QU hc).1).pr f (x9y hk)).1;have hgl:=(XQ hc).1;have hmb:(f.name==[109,97,105,110])=false:=by simpa using(show ¬f.name=[109,97,105,110]from hm)
 have hpm:(f.C.map fun x=>AV.agg x.cells).length=f.C.length:=x8b _;have hgm:(p.B.map AV.str).length=p.B.length:=x8b _;repeat' ((first|(refine iM fun _=>?_)|refine dA ?_|refine x9p rfl ?_|refine aD ?_|refine aR ?_|(refine iA fun _=>?_)|refine IdxK.xs (by omega) ?_|refine RR (by omega) ?_|refine ByteK.at (by omega) ?_|refine wI ?_|refine cP Y ?_|refine z4w (fun x y=>by rcases x9q.1 y with rfl;rfl) rfl ?_|((first|apply bD|apply bE|apply bN|apply bB)<;>intro _<;>try omega))<;>conv=>whnf)
 all_goals try contradiction
 all_goals try (exfalso;omega)
 all_goals try (exfalso;simp_all;done)
 refine lJ (fun i:Nat=>⟨[(2,.p (.ip p.cells)),(4,.ptr 1 0),(6,.p (.ip f.cells)),(8,.ptr 2 0),(9,.ptr 3 0),(10,.hd 4 0 1),(47,.p (eStrs p.B)),(48,.p (.int .i64 (p.B.map AV.str).length)),(49,.j i)],[(4,.own 103 13 (dvT p f 0 0)),(3,.obj 103 (dvC f (.p .nils))),(2,.obj 62 (dvM 1 0 (.hd 5 0 (dvB p f i 0).length))),(0,.own 9 1 (dvV f 0)),(1,.obj 25 [.p .nils,.p .nils]),(5,.own 103 13 (dvB p f i 0))]⟩) (fun i=>i<=p.B.length) (fun i=>p.B.length-i) 0 (by
   rw[x3m,x0q,x0x];exact(lM [(5,.own 103 13 [])] (hH:=.cons rfl (.refl _) (.cons rfl (.refl _) (.cons rfl (.obj (.r (.r (.r (.cons (.nil x8l) (.r .nil)))))) (.cons rfl (.refl _) (.cons rfl (.refl _) (.new x8l .nil))))))).trans (Le.L (.L (ElS.pr [] zrS) (.same (.same (.same (.same (.same .nil)))))))) (x8i _) ?_
 intro i hi;rcases x8o i p.B.length with M|M
 ·have Q:=x3l (f:=f) M;have c:=Tx p f i 0;generalize dvB p f i 0=accB at*
  conv=>whnf
  repeat' ((first|(refine gX ?_;intros)|refine dA ?_|refine pA (es:=accB) 1 208 rfl ?_|((first|apply bD|apply bE|apply bN|apply bB)<;>intro _<;>try omega))<;>conv=>whnf)
  all_goals first
   |exact⟨i+1,M,by omega,(Le.L (.same (.same (.same (.same (.same (.L (ElS.rd accB _) .nil))))))).trans (Le.of_eq (by rw[Q,x8m];rfl))⟩
 obtain rfl:i=p.B.length:=by omega
 conv=>whnf
 repeat' ((first|(refine gX ?_;intros)|refine dA ?_|((first|apply bD|apply bE|apply bN|apply bB)<;>intro _<;>try omega))<;>conv=>whnf)
 refine lJ (fun j:Nat=>⟨[(2,.p (.ip p.cells)),(4,.ptr 1 0),(8,.ptr 2 0),(9,.ptr 3 0),(10,.hd 4 0 (dvT p f j 0).length),(62,.p (.sl (f.C.map fun x=>AV.agg x.cells))),(63,.p (.int .i64 (f.C.map fun x=>AV.agg x.cells).length)),(64,.j j)],[(4,.own 103 13 (dvT p f j 0)),(3,.obj 103 (dvC f (.hd 6 0 (dvA f j).length))),(2,.obj 62 (dvM (dvV f j).length 0 (.hd 5 0 (dvB p f p.B.length j).length))),(0,.own 9 1 (dvV f j)),(1,.obj 25 [.p .nils,.p .nils]),(5,.own 103 13 (dvB p f p.B.length j)),(6,.own 106 6 (dvA f j))]⟩) (fun j=>j<=f.C.length) (fun j=>f.C.length-j) 0 (by
   rw[x0q,x0x,x3p];exact lM [(6,.own 106 6 [])] (hH:=.cons rfl (.refl _) (.cons rfl (.obj (.r (.r (.r (.r (.r (.r (.r (.r (.r (.r (.cons (.nil x8l) (.r (.r .nil)))))))))))))) (.cons rfl (.refl _) (.cons rfl (.refl _) (.cons rfl (.refl _) (.cons rfl (.refl _) (.new x8l .nil)))))))) (x8i _) ?_
 intro j hj;rcases x8o j f.C.length with v|v
 ·have hB:=x3r (p:=p) (i:=p.B.length) v;have hV:=x3c v;have P:=x3n v;have hT:=x3s (p:=p) v;have lB:=Tx p f p.B.length j;have lV:=q6h f j;have lA:=q6g f j;have lT:=Tz p f j 0;have V:=Ux j (by omega);have eg:(f.C.map fun x=>AV.agg x.cells)[j]?=some (.agg f.C[j].cells):=by rw[x9x,x8p v];rfl
  generalize dvB p f p.B.length j=accB at*
  generalize dvV f j=accV at*
  have E:=ElS.ag (dvA f j) f.C[j] j;generalize dvA f j=accA at*
  generalize dvT p f j 0=accT at*
  generalize f.C[j]=x at*
  generalize(f.C.map fun x=>AV.agg x.cells)=ps at*
  cases hr:x.ref;all_goals
   rw[hr]at E;conv=>whnf
   repeat' ((first|(refine gX ?_;intros)|refine dA ?_|refine cP V ?_|refine WU (es:=accV) rfl (by omega) ?_|refine pA (es:=accB) 1 208 rfl ?_|refine pA (es:=accT) 1 208 rfl ?_|refine pA (es:=accA) 1 80 rfl ?_|((first|apply bD|apply bE|apply bN|apply bB)<;>intro _<;>try omega)|refine iT eg ?_)<;>conv=>whnf)
   all_goals first
    |contradiction
    |exact absurd (hr.symm.trans (by assumption)) (by decide)
    |exact⟨j+1,v,by omega,(Le.L (.L (ElS.pr accT _) (.same (.same (.same (.same (.L (ElS.rd accB _) (.L E .nil)))))))).trans (Le.of_eq (by rw[hB,hV,P,hT];simp only[x8m];rfl))⟩
 obtain rfl:j=f.C.length:=by omega
 conv=>whnf
 repeat' ((first|(refine gX ?_;intros)|refine dA ?_|((first|apply bD|apply bE|apply bN|apply bB)<;>intro _<;>try omega))<;>conv=>whnf)
 refine lJ (fun i:Nat=>⟨[(2,.p (.ip p.cells)),(4,.ptr 1 0),(8,.ptr 2 0),(9,.ptr 3 0),(10,.hd 4 0 (dvT p f f.C.length i).length),(109,.p (eStrs p.B)),(110,.p (.int .i64 (p.B.map AV.str).length)),(111,.j i)],[(4,.own 103 13 (dvT p f f.C.length i)),(3,.obj 103 (dvC f (.p (.sl (dvA f f.C.length))))),(2,.obj 62 (dvN (.p (.sl (dvV f f.C.length))) (.hd 5 0 (dvB p f p.B.length f.C.length).length))),(1,.obj 25 [.p .nils,.p .nils]),(5,.own 103 13 (dvB p f p.B.length f.C.length))]⟩) (fun i=>i<=p.B.length) (fun i=>p.B.length-i) 0 ((NT (k:=6) rfl (.cons (.keep rfl) (.cons (.keep rfl) (.cons (.keep rfl) (.cons (.keep rfl) (.cons (.keep rfl) (.cons (.keep rfl) (.cons (.keep rfl) (.cons (.keep rfl) .nil)))))))) (.own (by decide) (.obj (by decide) (.cons (.keep rfl) (.cons (.keep rfl) (.cons (.keep rfl) (.cons (.keep rfl) (.cons (.keep rfl) (.cons (.keep rfl) (.cons (.keep rfl) (.cons (.keep rfl) (.cons (.keep rfl) (.cons (.keep rfl) (.cons (.row rfl) (.cons (.keep rfl) (.cons (.keep rfl) .nil))))))))))))) (.obj (by decide) (.cons (.keep rfl) (.cons (.keep rfl) (.cons (.keep rfl) (.cons (.keep rfl) (.cons (.keep rfl) .nil))))) (.own (by decide) (.obj (by decide) (.cons (.keep rfl) (.cons (.keep rfl) .nil)) (.own (by decide) (.drop .nil)))))))).trans
   (NT (k:=0) rfl (.cons (.keep rfl) (.cons (.keep rfl) (.cons (.keep rfl) (.cons (.keep rfl) (.cons (.keep rfl) (.cons (.keep rfl) (.cons (.keep rfl) (.cons (.keep rfl) .nil)))))))) (.own (by decide) (.obj (by decide) (.cons (.keep rfl) (.cons (.keep rfl) (.cons (.keep rfl) (.cons (.keep rfl) (.cons (.keep rfl) (.cons (.keep rfl) (.cons (.keep rfl) (.cons (.keep rfl) (.cons (.keep rfl) (.cons (.keep rfl) (.cons (.keep rfl) (.cons (.keep rfl) (.cons (.keep rfl) .nil))))))))))))) (.obj (by decide) (.cons (.keep rfl) (.cons (.keep rfl) (.cons (.row rfl) (.cons (.keep rfl) (.cons (.keep rfl) .nil))))) (.drop (.obj (by decide) (.cons (.keep rfl) (.cons (.keep rfl) .nil)) (.own (by decide) .nil)))))))) (x8i _) ?_
 intro i hi;rcases x8o i p.B.length with N|N
 ·have hTi:=x3t (f:=f) (j:=f.C.length) N;have hTl:=Tz p f f.C.length i;generalize dvT p f f.C.length i=accT at*
  conv=>whnf
  repeat' ((first|(refine gX ?_;intros)|refine dA ?_|refine pA (es:=accT) 1 208 rfl ?_|((first|apply bD|apply bE|apply bN|apply bB)<;>intro _<;>try omega))<;>conv=>whnf)
  all_goals first
   |exact⟨i+1,N,by omega,(Le.L (.L (ElS.pr accT _) (.same (.same (.same (.same .nil)))))).trans (Le.of_eq (by rw[hTi,x8m];rfl))⟩
 obtain rfl:i=p.B.length:=by omega
 have lB:=Tx p f p.B.length f.C.length;have lT:=Tz p f f.C.length p.B.length;have hTe:∀x∈dvT p f f.C.length p.B.length,∃s:S,x=.agg s.cells:=fun x y=>by
  unfold dvT at y;rw[S.avs_eq]at y;obtain⟨s,_,rfl⟩:=x8c.1 y;exact⟨s,rfl⟩
 have a:=x0z p f;have d:=x3y hf hc;have R:=FG p d;generalize dvT p f f.C.length p.B.length=accT at*
 generalize dvB p f p.B.length f.C.length=accB at*
 conv=>whnf
 repeat' ((first|(refine gX ?_;intros)|refine dA ?_|refine pA (es:=accB) 1 208 rfl ?_|refine z5w (by rw[x8m]) rfl (by show(accB.length+1+accT.length)*208<=140737488355328;omega) (by show accB.length+1+accT.length<=9223372036854775807;omega) (fun x y=>by obtain⟨s,rfl⟩:=hTe x y;exact⟨rfl,rfl⟩) ?_|(refine cH [] 20 R ?_ (hH:=z1x))|((first|apply bD|apply bE|apply bN|apply bB)<;>intro _<;>try omega))<;>conv=>whnf)
 have hes:ElS (accB++[.agg (caN f)]++accT) (S.avs (GZ p f)):=by
  rw[<-a];exact q9v f accB accT
 have c:accB.length+1+accT.length=(S.avs (GZ p f)).length:=by
  rw[<-a];simp;omega
 have hRl:=fun j h=>Fy p f (j:=j) h;have Z:=fun j h=>A0 p f (j:=j) h;have hRs:=fun j h=>T8 p f (j:=j) h;have T:=GX (K3 p f) (q0m hc hk d) (q6u hc hk);have hRt:=Wg (drvP p f) (EW hc hk hg);have K:0<p.A.length:=by have:=(x8t.1 hk).1;omega
 have P:VX p f p.A.length=(K3 p f).A:=by
  unfold VX K3;rw[z3s,List.drop_length,z0k]
 have J:p.A.length=((VX p f p.A.length).map fun g=>AV.agg g.cells).length:=by rw[x8b,Fy p f (x9h _)]
 refine lJ (fun x:Nat×Bool=>bif x.2 then⟨[(4,.ptr 1 0),(8,.ptr 2 0),(18,.ptr 0 0),(134,.j p.A.length),(135,.j x.1)],[(0,.obj 25 [.p (eStrs p.B),.p (.sl ((VX p f p.A.length).map fun g=>.agg g.cells))]),(2,.obj 62 (dvN (.p (.sl (dvV f f.C.length))) (.p (eSs (GZ p f))))),(1,.obj 25 [.p .nils,.p .nils])]⟩
   else⟨[(4,.ptr 1 0),(8,.ptr 2 0),(18,.ptr 0 0),(134,.j p.A.length),(135,.j x.1)],[(0,.obj 25 [.p (eStrs p.B),.hd 26 0 p.A.length]),(26,.own 62 5 ((VX p f x.1).map fun g=>.agg g.cells)),(2,.obj 62 (dvN (.p (.sl (dvV f f.C.length))) (.p (eSs (GZ p f))))),(1,.obj 25 [.p .nils,.p .nils])]⟩) (fun x=>x.1<=p.A.length/\(x.2=true->x.1=p.A.length)/\(x.2=false->x.1<p.A.length)) (fun x=>p.A.length-x.1) (0,false) ((Le.L (.same (.same (.same (.same (.L hes .nil)))))).trans (NT (k:=5) rfl (.cons (.keep rfl) (.cons (.keep rfl) (.cons (.keep rfl) (.cons (.keep rfl) (.cons (.keep rfl) .nil))))) (.obj (by decide) (.cons (.keep rfl) (.cons (.keep rfl) .nil)) (.own (by decide) (.obj (by decide) (.cons (.keep rfl) (.cons (.keep rfl) (.cons (.keep rfl) (.cons (.row c) (.cons (.keep rfl) .nil))))) (.obj (by decide) (.cons (.keep rfl) (.cons (.keep rfl) .nil)) (.drop .nil))))))) ⟨x8i _,(fun h=>by cases h),fun _=>K⟩ ?_
 rintro⟨j,b⟩ ⟨hj,G,H⟩;simp only at hj G H;have hrl:=hRl j hj;cases b with
 |false=>
 ·have u:=H rfl;have l:((VX p f j).map fun g=>AV.agg g.cells)[j]?=some (.agg p.A[j].cells):=by rw[x9x,Z j u];rfl
  have m:((VX p f j).map fun g=>AV.agg g.cells).set j (.agg (VG p f p.A[j]).cells)=(VX p f (j+1)).map fun g=>.agg g.cells:=by rw[hRs j u,<-z0o]
  generalize((VX p f j).map fun g=>AV.agg g.cells)=row at l m⊢;obtain⟨g,hg2⟩ : ∃g,g=p.A[j]:=⟨_,rfl⟩;rw[<-hg2]at l m;cases t:g.name==mainS with
  | false=>
    have q:row=(VX p f (j+1)).map fun g=>.agg g.cells:=by
     rw[<-m,show VG p f g=g from if_neg (by rw[t];decide)];refine(z3m fun i=>?_).symm;rw[z1o];split
     ·rename_i hij;subst hij;split
      ·exact l.symm
      ·rename_i hlt;rw[z0x (by omega)]
     ·rfl
    conv=>whnf
    repeat' ((first|(refine gX ?_;intros)|refine dA ?_|refine z2b j rfl u ?_|refine z4b j 0 (.agg g.cells) (by show(0+j)*5+0=j*5+0;omega) l ?_|((first|apply bD|apply bE|apply bN|apply bB)<;>intro _<;>try omega))<;>conv=>whnf)
    all_goals first
     |exact absurd (t.symm.trans (show(g.name==mainS)=true by assumption)) (by decide)
     | (rcases x8o (j+1) p.A.length with z|z
        ·exact⟨(j+1,false),⟨u,(fun h=>by cases h),fun _=>z⟩,by simp only;omega,Le.of_eq (by rw[q];rfl)⟩
        ·have o:j+1=p.A.length:=by omega
         have e10:VX p f (j+1)=VX p f p.A.length:=by rw[o]
         exact⟨(j+1,true),⟨u,fun _=>o,(fun h=>by cases h)⟩,by simp only;omega,(Le.of_eq (by rw[q,e10];rfl)).trans (NT (k:=26) rfl (.cons (.keep rfl) (.cons (.keep rfl) (.cons (.keep rfl) (.cons (.keep rfl) (.cons (.keep rfl) .nil))))) (.obj (by decide) (.cons (.keep rfl) (.cons (.row J) .nil)) (.drop (.obj (by decide) (.cons (.keep rfl) (.cons (.keep rfl) (.cons (.keep rfl) (.cons (.keep rfl) (.cons (.keep rfl) .nil))))) (.obj (by decide) (.cons (.keep rfl) (.cons (.keep rfl) .nil)) .nil)))))⟩)
  | true =>
    have hmm:VG p f g=OR p f:=if_pos t;rw[hmm]at m;have w:ElS (row.set j (.agg [.str mainS,.nils,.sl (dvV f f.C.length),eSs (GZ p f),.nils])) ((VX p f (j+1)).map fun g=>.agg g.cells):=by
     rw[<-m];have e:(OR p f).cells=[.str mainS,.sl [],.sl (dvV f f.C.length),eSs (GZ p f),.sl []]:=by
      unfold dvV;rw[x9u (Nat.le_of_eq (AL f))];rfl
     rw[e];exact OO rfl (U4 (by repeat' first|exact Sub.refl _|exact Sub.nils|apply SubL.cons|exact SubL.nil))
    conv=>whnf
    repeat' ((first|(refine gX ?_;intros)|refine dA ?_|refine z2b j rfl u ?_|refine z4b j 0 (.agg g.cells) (by show(0+j)*5+0=j*5+0;omega) l ?_|refine z3h j 0 (.agg g.cells) (.agg [.str mainS,.nils,.sl (dvV f f.C.length),eSs (GZ p f),.nils]) (by show(0+j)*5+0=j*5+0;omega) l (z3w rfl) rfl ?_|((first|apply bD|apply bE|apply bN|apply bB)<;>intro _<;>try omega))<;>conv=>whnf)
    all_goals first
     |exact absurd (t.symm.trans (show(g.name==mainS)=false by assumption)) (by decide)
     | (rcases x8o (j+1) p.A.length with z|z
        ·exact⟨(j+1,false),⟨u,(fun h=>by cases h),fun _=>z⟩,by simp only;omega,Le.L (.same (.L w (.same (.same .nil))))⟩
        ·have o:j+1=p.A.length:=by omega
         have e10:VX p f (j+1)=VX p f p.A.length:=by rw[o]
         exact⟨(j+1,true),⟨u,fun _=>o,(fun h=>by cases h)⟩,by simp only;omega,(Le.L (.same (.L (by rw[e10]at w;exact w) (.same (.same .nil))))).trans (NT (k:=26) rfl (.cons (.keep rfl) (.cons (.keep rfl) (.cons (.keep rfl) (.cons (.keep rfl) (.cons (.keep rfl) .nil))))) (.obj (by decide) (.cons (.keep rfl) (.cons (.row J) .nil)) (.drop (.obj (by decide) (.cons (.keep rfl) (.cons (.keep rfl) (.cons (.keep rfl) (.cons (.keep rfl) (.cons (.keep rfl) .nil))))) (.obj (by decide) (.cons (.keep rfl) (.cons (.keep rfl) .nil)) .nil)))))⟩)
 | true=>
   obtain rfl:=G rfl;rw[P]at*
   generalize QP (drvP p f)=qb at*
   conv=>whnf
   repeat' ((first|(refine gX ?_;intros)|refine dA ?_|refine cP T ?_|refine cP hRt ?_|((first|apply bD|apply bE|apply bN|apply bB)<;>intro _<;>try omega)|refine x9p ?_ ?_)<;>conv=>whnf)
   all_goals first
    |exact⟨_,.p (Sub.refl _),rfl⟩
def w64(n:Int):Int:=IntKind.wrap .i64 n
def Ek(b:Bool):Int:=bif b then 1 else 0
def OC(op a:Int):Int×Bool:=if op=3 then(w64 (0-a),true)else if op=4 then(Ek (a==0),true)else(0,false)
def x2r(op a b:Int):Int×Bool:=if b=0 then(0,false)else if b = -1 then(if op=7 then(0,true)else if a = -9223372036854775808 then(a,true)else(w64 (0-a),true))else if op=7 then(a.tmod b,true)else(w64 (a.tdiv b),true)
def x2l(op a b:Int):Int×Bool:=if op=10 then(Ek (decide (a<b)),true)else if op=11 then(Ek (decide (a<=b)),true)else if op=12 then(Ek (decide (a>b)),true)else if op=13 then(Ek (decide (a≥b)),true)else if op=14 then(Ek (a==b),true)else if op=15 then(Ek (a != b),true)else(0,false)
def x2z(op a b:Int):Int×Bool:=if op=8 then(w64 (a+b),true)else if op=9 then(w64 (a-b),true)else if op=5 then(w64 (a*b),true)else if op=6\/op=7 then x2r op a b else if op=16 then(Ek (a != 0&&b != 0),true)else if op=17 then(Ek (a != 0||b != 0),true)else x2l op a b
def q4d(r:Int×Bool):AV:=.tup [.int .i64 r.1,.bool r.2]
def QB{H:Heap}{a:Int}{x:AV}{r:Int×Bool}(h:a=r.1)(i:Sub x (.bool r.2)):RetK H (.p (.tup [.int .i64 a,x])) (fun y=>y=q4d r):=RetK.tup2 h i
theorem MH(b:Bool):aP 310 [.bool b] (.int .i64 (Ek b)):=by
 refine sC CU func310 ?_;conv=>whnf
 repeat' (apply bB<;>intro _<;>conv=>whnf)
 all_goals exact RetK.int (by simp_all[Ek])
def AM(a:Int):aP 284 [.int .i64 a] (.bool (a != 0)):=by
 refine sC M4 func284 ?_;conv=>whnf
 skip
 all_goals exact RetK.bool rfl
theorem q3i(op a:Int):aP 283 [.int .i64 op,.int .i64 a] (q4d (OC op a)):=by
 refine sC CW func283 ?_;conv=>whnf
 repeat' ((first|refine cP (MH _) ?_|refine Wr.wrap ?_|(apply bD<;>intro _<;>try omega))<;>conv=>whnf)
 all_goals first
  |exact QB (by unfold OC;rw[if_pos (by assumption)];rfl) (Sub.tt (by unfold OC;rw[if_pos (by assumption)]))
  |exact QB (by unfold OC;rw[if_neg (by assumption),if_pos (by assumption)]) (Sub.tt (by unfold OC;rw[if_neg (by assumption),if_pos (by assumption)]))
  |exact QB (by unfold OC;rw[if_neg (by assumption),if_neg (by assumption)]) (Sub.ff (by unfold OC;rw[if_neg (by assumption),if_neg (by assumption)]))
theorem TA(op a b:Int):aP 311 [.int .i64 op,.int .i64 a,.int .i64 b] (q4d (x2r op a b)):=by
 refine sC B7 func311 ?_;conv=>whnf
 unfold x2r;by_cases i:b=0
 ·rw[if_pos i];repeat' (apply bD<;>intro _<;>first|omega|conv=>whnf)
  all_goals exact QB rfl (Sub.ff rfl)
 rw[if_neg i];by_cases l:b = -1
 ·rw[if_pos l];by_cases h:op=7
  ·rw[if_pos h];repeat' (apply bD<;>intro _<;>first|omega|conv=>whnf)
   all_goals exact QB rfl (Sub.tt rfl)
  rw[if_neg h];by_cases m:a = -9223372036854775808
  ·rw[if_pos m];repeat' (apply bD<;>intro _<;>first|omega|conv=>whnf)
   all_goals exact QB rfl (Sub.tt rfl)
  rw[if_neg m];repeat' ((first|refine Wr.wrap ?_|(apply bD<;>intro _<;>try omega))<;>conv=>whnf)
  all_goals exact QB rfl (Sub.tt rfl)
 rw[if_neg l];by_cases h:op=7
 ·rw[if_pos h];repeat' ((first|refine x9p i ?_|(apply bD<;>intro _<;>try omega))<;>conv=>whnf)
  all_goals exact QB rfl (Sub.tt rfl)
 rw[if_neg h];repeat' ((first|refine x9p i ?_|refine Wr.wrap ?_|(apply bD<;>intro _<;>try omega))<;>conv=>whnf)
 all_goals exact QB rfl (Sub.tt rfl)
theorem Rt(op a b:Int):aP 312 [.int .i64 op,.int .i64 a,.int .i64 b] (q4d (x2l op a b)):=by
 refine sC Hv func312 ?_;conv=>whnf
 repeat' ((first|refine cP (MH _) ?_|(apply bD<;>intro _<;>try omega))<;>conv=>whnf)
 all_goals
  unfold x2l
  (repeat' first
    |rw[if_pos (by assumption)]
    |rw[if_neg (by assumption)])
  first
   |exact QB rfl (Sub.tt rfl)
   |exact QB rfl (Sub.ff rfl)
theorem q3o(op a b:Int):aP 285 [.int .i64 op,.int .i64 a,.int .i64 b] (q4d (x2z op a b)):=by
 refine sC CV func285 ?_;conv=>whnf
 have s:=TA op a b;have r:=Rt op a b;unfold x2z;by_cases o:op=8
 ·rw[if_pos o];repeat' ((first|refine Wr.wrap ?_|(apply bD<;>intro _<;>try omega))<;>conv=>whnf)
  all_goals exact QB rfl (Sub.tt rfl)
 rw[if_neg o];by_cases q:op=9
 ·rw[if_pos q];repeat' ((first|refine Wr.wrap ?_|(apply bD<;>intro _<;>try omega))<;>conv=>whnf)
  all_goals exact QB rfl (Sub.tt rfl)
 rw[if_neg q];by_cases m:op=5
 ·rw[if_pos m];repeat' ((first|refine Wr.wrap ?_|(apply bD<;>intro _<;>try omega))<;>conv=>whnf)
  all_goals exact QB rfl (Sub.tt rfl)
 rw[if_neg m];by_cases l:op=6\/op=7
 ·rw[if_pos l];generalize x2r op a b=d at*
  repeat' ((first|refine cP s ?_|(apply bD<;>intro _<;>try omega))<;>conv=>whnf)
  all_goals first
   |exact QB rfl (Sub.refl _)
   |(exfalso;omega)
 rw[if_neg l];by_cases h:op=16
 ·rw[if_pos h];repeat' ((first|refine cP (MH _) ?_|refine cP (MH false) ?_|((first|apply bD|apply bE)<;>intro _<;>try omega))<;>conv=>whnf)
  all_goals first
   |(exfalso;omega)
   |exact QB (by rw[show(a != 0)=true by simpa using(show ¬a=0 by assumption)];rfl) (Sub.tt rfl)
   |exact QB (by rw[show(a != 0)=false by simpa using(show a=0 by assumption)];rfl) (Sub.tt rfl)
   |exact QB (by simp_all;done) (Sub.tt rfl)
 rw[if_neg h];by_cases i:op=17
 ·rw[if_pos i];repeat' ((first|refine cP (MH _) ?_|refine cP (MH true) ?_|((first|apply bD|apply bE)<;>intro _<;>try omega))<;>conv=>whnf)
  all_goals first
   |(exfalso;omega)
   |exact QB (by rw[show(a != 0)=true by simpa using(show ¬a=0 by assumption)];rfl) (Sub.tt rfl)
   |exact QB (by rw[show(a != 0)=false by simpa using(show a=0 by assumption)];rfl) (Sub.tt rfl)
   |exact QB (by simp_all;done) (Sub.tt rfl)
 rw[if_neg i];generalize x2l op a b=d at*
 repeat' ((first|refine cP r ?_|(apply bD<;>intro _<;>try omega))<;>conv=>whnf)
 all_goals first
  |exact QB rfl (Sub.refl _)
  |(exfalso;omega)
def Us(h:List Str)(i:List Int)(s:Str):Int:=if 0<=idxF (fun y=>s==y) h/\idxF (fun y=>s==y) h<i.length then i.getD (idxF (fun y=>s==y) h).toNat 0 else 0
def evN(h:Str->Int):Nat->X->Int×Bool
 |0,_=>(0,false)
 | n+1,x=>if x.op=1 then(x.n,true)else if x.op=2 then(h x.name,true)else match x.kids with
   |[]=>(0,false)
   |[a]=>bif (evN h n a).2 then OC x.op (evN h n a).1 else(0,false)
   |a::b::_=>bif (evN h n a).2 then(if x.op=16/\(evN h n a).1=0 then(0,true)else if x.op=17/\(evN h n a).1≠0 then(1,true)else bif (evN h n b).2 then x2z x.op (evN h n a).1 (evN h n b).1 else(0,false))else(0,false)
def evX(h:Str->Int)(x:X):Int×Bool:=bif J0 x then evN h 20 x else(0,false)
theorem Ec{n:Nat}{x:X}(h:WW (n+1) x=true)(o:x.op≠1)(q:x.op≠2):(∃a,x.kids=[a]/\WW n a=true)\/∃a b,x.kids=[a,b]/\WW n a=true/\WW n b=true:=by
 obtain⟨l,_,i⟩:=NE h;have hk:(x.kids.length:Int)=Zp x.op:=by
  rw[WW,x9g]at h;exact of_decide_eq_true h.1
 have m:0<x.kids.length:=by
  unfold Zp at hk
  (repeat' split at hk)<;>omega
 match hq:x.kids,m,l,i with
 |[a],_,_,i=>exact .inl ⟨a,rfl,i a (by simp)⟩
 |[a,b],_,_,i=>exact .inr ⟨a,b,rfl,i a (by simp),i b (by simp)⟩
 |a::b::c::r,_,l,_=>simp at l
theorem q6n:∀(n:Nat)(x:X)(_:WW n x=true)(i:List Str)(l:List Int),aP 241 [.agg x.cells,eStrs i,XZ l] (q4d (evN (Us i l) n x)):=by
 intro n;induction n with
 |zero=>intro x h;rw[WW]at h;cases h
 | succ n A=>
   intro x M i l;have v:=XW i x.name;have K:(l.map (AV.int .i64)).length=l.length:=x8b _;refine sC AE func241 ?_;conv=>whnf
   by_cases s:x.op=1
   ·have e:evN (Us i l) (n+1) x=(x.n,true):=by rw[evN,if_pos s]
    rw[e];repeat' (apply bD<;>intro _<;>first|omega|conv=>whnf)
    all_goals exact QB rfl (Sub.tt rfl)
   by_cases z:x.op=2
   ·have e:evN (Us i l) (n+1) x=(Us i l x.name,true):=by rw[evN,if_neg s,if_pos z]
    rw[e];unfold Us;generalize idxF (fun y=>x.name==y) i=ix at*
    by_cases C:0<=ix/\ix<l.length
    ·rw[if_pos C];have J:(l.map (AV.int .i64))[ix.toNat]?=some (.int .i64 (l.getD ix.toNat 0)):=by
      rw[x9x,x8n,x8p (by omega)];rfl
     repeat' ((first|(refine iM fun _=>?_)|refine cP v ?_|refine iT J ?_|(apply bD<;>intro _<;>try omega))<;>conv=>whnf)
     all_goals first
      |exact QB rfl (Sub.tt rfl)
      |(exfalso;omega)
    ·rw[if_neg C];repeat' ((first|(refine iM fun _=>?_)|refine cP v ?_|(apply bD<;>intro _<;>try omega))<;>conv=>whnf)
     all_goals first
      |(exfalso;omega)
      |exact QB rfl (Sub.tt rfl)
   rcases Ec M s z with⟨a,hk,ha⟩|⟨a,b,hk,ha,H⟩
   ·have u:=A a ha i l;have e:evN (Us i l) (n+1) x=bif (evN (Us i l) n a).2 then OC x.op (evN (Us i l) n a).1 else(0,false):=by rw[evN,if_neg s,if_neg z,hk]
    rw[e];have o:(X.avs x.kids)[0]?=some (.agg a.cells):=by rw[hk,X.avs_eq];rfl
    have g:(X.avs x.kids).length=1:=by rw[hk,X.avs_eq];rfl
    generalize evN (Us i l) n a=ea at*
    obtain⟨m,B⟩:=ea;have c:=q3i x.op m;generalize X.avs x.kids=ks at*
    cases B;all_goals
     simp only[x9z,x9k];generalize OC x.op m=ov at*
     repeat' ((first|(refine iM fun _=>?_)|refine iT o ?_|refine cP u ?_|refine cP c ?_|refine Br.tt ?_|refine Br.ff ?_|(apply bD<;>intro _<;>try omega))<;>conv=>whnf)
     all_goals first
      |contradiction
      |exact QB rfl (Sub.refl _)
      |exact QB rfl (Sub.ff rfl)
      |(exfalso;omega)
   ·have u:=A a ha i l;have E:=A b H i l;have e:evN (Us i l) (n+1) x=bif (evN (Us i l) n a).2 then(if x.op=16/\(evN (Us i l) n a).1=0 then(0,true)else if x.op=17/\(evN (Us i l) n a).1≠0 then(1,true)else bif (evN (Us i l) n b).2 then x2z x.op (evN (Us i l) n a).1 (evN (Us i l) n b).1 else(0,false))else(0,false):=by rw[evN,if_neg s,if_neg z,hk]
    rw[e];have o:(X.avs x.kids)[0]?=some (.agg a.cells):=by rw[hk,X.avs_eq];rfl
    have w:(X.avs x.kids)[1]?=some (.agg b.cells):=by rw[hk,X.avs_eq];rfl
    have g:(X.avs x.kids).length=2:=by rw[hk,X.avs_eq];rfl
    generalize evN (Us i l) n a=ea at*
    generalize evN (Us i l) n b=eb at*
    obtain⟨m,B⟩:=ea;obtain⟨G,N⟩:=eb;have c:=q3o x.op m G;have hT:=AM m;have d:(m != 0) = !decide (m=0):=by by_cases h:m=0<;>simp[h]
    rw[d]at hT;generalize X.avs x.kids=ks at*
    generalize x2z x.op m G=ov at*
    cases B<;>cases N;all_goals
     simp only[x9z,x9k];by_cases r:x.op=16/\m=0
     ·first
       |rw[if_pos r]
       |skip
      repeat' ((first|(refine iM fun _=>?_)|refine iT o ?_|refine iT w ?_|refine cP u ?_|refine cP E ?_|refine cP c ?_|refine cP hT ?_|refine Br.tt ?_|refine Br.ff ?_|((first|apply bD|apply bN)<;>intro _<;>try omega))<;>conv=>whnf)
      all_goals first
       |contradiction
       |exact QB rfl (Sub.tt rfl)
       |exact QB rfl (Sub.ff rfl)
       |(exfalso;omega)
       |(exfalso;have q:(!decide (m=0))=true:=(by assumption);simp at q;omega)
       |(exfalso;have q:(!decide (m=0))=false:=(by assumption);simp at q;omega)
     by_cases t:x.op=17/\m≠0
     ·first
       |rw[if_neg r,if_pos t]
       |skip
      repeat' ((first|(refine iM fun _=>?_)|refine iT o ?_|refine cP u ?_|refine cP hT ?_|refine Br.tt ?_|refine Br.ff ?_|((first|apply bD|apply bE)<;>intro _<;>try omega))<;>conv=>whnf)
      all_goals first
       |contradiction
       |exact QB rfl (Sub.tt rfl)
       |exact QB rfl (Sub.ff rfl)
       |(exfalso;omega)
       |(exfalso;have q:(!decide (m=0))=true:=(by assumption);simp at q;omega)
       |(exfalso;have q:(!decide (m=0))=false:=(by assumption);simp at q;omega)
     first
      |rw[if_neg r,if_neg t]
      |skip
     repeat' ((first|(refine iM fun _=>?_)|refine iT o ?_|refine iT w ?_|refine cP u ?_|refine cP E ?_|refine cP c ?_|refine cP hT ?_|refine Br.tt ?_|refine Br.ff ?_|((first|apply bD|apply bE|apply bN)<;>intro _<;>try omega))<;>conv=>whnf)
     all_goals first
      |contradiction
      |exact QB rfl (Sub.refl _)
      |exact QB rfl (Sub.ff rfl)
      |(exfalso;omega)
      |(exfalso;have q:(!decide (m=0))=true:=(by assumption);simp at q;omega)
      |(exfalso;have q:(!decide (m=0))=false:=(by assumption);simp at q;omega)
theorem q6p(x:X)(h:List Str)(i:List Int):aP 178 [.agg x.cells,eStrs h,XZ i] (q4d (evX (Us h i) x)):=by
 refine sC AA func178 ?_;conv=>whnf
 have l:=GM x;unfold evX;cases m:J0 x with
 | false=>
   rw[m]at l;repeat' ((first|refine cP l ?_|refine Br.tt ?_)<;>conv=>whnf)
   all_goals first
    |contradiction
    |exact QB rfl (Sub.ff rfl)
 | true=>
   have o:=q6n 20 x m h i;rw[m]at l;rw[x9z];generalize evN (Us h i) 20 x=ev at*
   repeat' ((first|refine cP l ?_|refine cP o ?_|refine Br.ff ?_)<;>conv=>whnf)
   all_goals first
    |contradiction
    |exact QB rfl (Sub.refl _)
def varsS(p:Pg)(f:Pr):List Str:=p.B++Vs f
theorem Aa(p:Pg)(b:YV p=true)(k:Nat)(f:Pr)(hk:p.A[k]?=some f)(G:∀(j:Nat)(g:Pr),p.A[j]?=some g->g.name=f.name->j=k)(t:f.C.length<=1000)(u:f.E.length<=1000)(H:p.B.length<=1000):aP 106 [.agg p.cells,.str f.name] (eStrs (varsS p f)):=by
 refine sC Nt func106 ?_;conv=>whnf
 have s:=N5 p;rw[b]at s;have z:k<p.A.length:=(x8t.1 hk).1;have v:=R9 f t u;have o:SpecH prog 144 ([eStrs p.B].map .p) [] (OneRow (H9 p.B) (p.B=[])):=WL p.B (by omega);have d:(Vs f).length<=100000:=by
  unfold Vs;rw[x8m,x8b];omega
 have e:(p.A.map fun f=>AV.agg f.cells).length=p.A.length:=x8b _;have i:eStrs (varsS p f)=.sl (p.B.map AV.str++(Vs f).map AV.str):=by unfold varsS eStrs;rw[x8a]
 rw[i];repeat' ((first|(refine iM fun _=>?_)|refine cP s ?_|refine Br.ff ?_)<;>conv=>whnf)
 all_goals first
  |contradiction
  |skip
 refine lI (fun j:Nat=>⟨[(1,.p (.str f.name)),(2,.p (.ip p.cells)),(11,.p (.sl (p.A.map fun f=>.agg f.cells))),(12,.p (.int .i64 (p.A.map fun f=>AV.agg f.cells).length)),(13,.j j)],[]⟩) (fun j=>j<=k) (fun j=>k-j) 0 (x8i _) ?_;intro j J;have r:j<p.A.length:=by omega
 have l:p.A[j]?=some p.A[j]:=x8p r;rcases x8o j k with a|y
 ·have c:(p.A[j].name==f.name)=false:=z2t.2 fun w=>by
   have:=G j _ l w;omega
  conv=>whnf
  repeat' ((first|refine dA ?_|(refine gX ?_;intros)|((first|apply bD|apply bB)<;>intro _<;>try omega))<;>conv=>whnf)
  all_goals first
   |exact nX (j+1) (by omega)
   |(exfalso;simp_all;done)
 ·obtain rfl:j=k:=by omega
  have h:p.A[j]=f:=by rw[l]at hk;exact z0y hk
  have q:aP 120 [.agg p.A[j].cells] (eStrs (Vs f)):=by rw[h];exact v
  have x:(p.A[j].name==f.name)=true:=by rw[h];exact z0d _
  generalize Vs f=ol at*
  conv=>whnf
  repeat' (first|((first|refine dA ?_|refine x9p rfl ?_|refine aD ?_|(refine iA fun _=>?_)|refine wI ?_|refine cP q ?_|refine ZT _ (by simp) (by simp;omega) ?_);conv=>whnf)|(apply bD<;>intro _<;>first|omega|conv=>whnf)|(apply bB<;>intro _<;>conv=>whnf)|(refine KU 0 rfl o (.cons (.p (Sub.refl _)) .nil) (fun m=>?_) ?_;rotate_left;rintro _ _ _ _ ⟨rfl,rfl,rfl⟩;all_goals conv=>whnf))
  all_goals first
   |(exfalso;simp_all;done)
   |exact⟨_,.hd rfl (by simp),rfl⟩
   |(rw[m];exact⟨_,.hd rfl (by simp),rfl⟩)
end Go.Ab
