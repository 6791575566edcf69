/- inout's small program that needs a global and the input. -/
import Derived.Test.YtmfnbgbblkhneaaGreatInoR10
import Derived.Test.YtmfnbgbblkhneaaGreatInoR16
import Derived.Test.YtmfnbgbblkhneaaGreatInoR18
import Derived.Test.YtmfnbgbblkhneaaGreatInoR19
import Derived.Test.YtmfnbgbblkhneaaGreatInoR20
import Derived.Test.YtmfnbgbblkhneaaGreatInoR21
set_option linter.unusedSimpArgs false
set_option linter.unusedVariables false
set_option maxRecDepth 100000
set_option maxHeartbeats 16000000
namespace Go.Ab
open Go.Proofs.Tryz
open Go.Proofs
variable {D O:List (List Str)}{k:Nat}{p:Pg}
theorem D0{P:Program}{N:Nat}{g:FuncId}{args:List LV}{dst:Option Nat}{s:St}{K:St->Prop}{avs:List AV}(H1 H0:Heap)(sl0:List (Nat×LV))(hH:s.H=H1++H0)(ha:FrzL H1 args avs)(hsl:∀i,getS sl0 i=getS s.sl i\/getS sl0 i=.p .any)(h:CallK P N g (avs.map .p) dst ⟨sl0,H0⟩ K):CallK P N g args dst s K:=by
 refine⟨fun σ β a w hr vals hn hv=>?_⟩;obtain⟨hlen,hget⟩:=ha.get;have hheap:=hr.heap;rw[hH]at hheap;have hl1:∀k,k∈H1.map (·.1)->k∈(H1++H0).map (·.1):=fun k hk=>by rw[q4z];exact q4i _ hk
 have hl0:∀k,k∈H0.map (·.1)->k∈(H1++H0).map (·.1):=fun k hk=>by rw[q4z];exact q5y _ hk
 have hnd:=hheap.nodup;rw[q4z,q6j]at hnd;have hr1:HRel σ β H1 w:=⟨hheap.mem,fun k c hc=>hheap.chunks k c (q4i _ hc),hnd.1,fun k hk=>hheap.apart k (hl1 k hk),fun k hk k' hk'=>hheap.inj k (hl1 k hk) k' (hl1 k' hk')⟩;obtain⟨τ,h5,h6,h7,h8⟩:=NZ hr1;have hno:∀b,owns β H1 b->owns β H0 b->False:=fun b ⟨k,hk,i,hi,hb⟩ ⟨k',hk',i',hi',hb'⟩=>by
  have he:=hheap.inj k (hl1 k hk) k' (hl0 k' hk') i i' hi hi' b hb hb';exact hnd.2.2 k hk k' hk' he
 have hrel:Rel N τ β ⟨sl0,H0⟩ a w:=by
  refine⟨hr.size,hr.defers,fun i=>?_,⟨h6,fun k c hc=>(hheap.chunks k c (q5y _ hc)).mono h5 fun _ _ _ _=>rfl,hnd.2.1,fun k hk i hi b hb=>?_,fun k hk k' hk'=>hheap.inj k (hl0 k hk) k' (hl0 k' hk')⟩⟩
  ·rcases hsl i with he|he
   ·show RepL τ β (getS sl0 i) _;rw[he];exact(hr.slots i).mono h5
   ·show RepL τ β (getS sl0 i) _;rw[he];exact .p (.any _)
  ·have h9:=hheap.apart k (hl0 k hk) i hi b hb;refine⟨?_,h9.2⟩;cases hq:τ b with
   |none=>rfl
   | some c=>
     rcases h7 b (by rw[hq];simp)with h10|h10
     ·exact absurd h9.1 h10
     ·exact(hno b h10 ⟨k,hk,i,hi,hb⟩).elim
 have hlat:Later σ β s.H w τ β H0 w:=by
  rw[hH];refine⟨h5,Frm.refl _ _,fun b h0 h1=>?_,fun b ⟨k,hk,r⟩=>.inl ⟨k,hl0 k hk,r⟩,fun _ _ _=>rfl⟩;rcases h7 b h1 with h2|⟨k,hk,r⟩
  ·exact absurd h0 h2
  ·exact .inl ⟨k,hl1 k hk,r⟩
 obtain⟨q1,q2⟩:=h.ok τ β a w hrel vals (by rw[q3f,<-hlen];exact hn) fun j l hj=>by
  rw[q4x]at hj;cases hq:avs[j]?with
  |none=>rw[hq]at hj;cases hj
  | some c=>
    rw[hq]at hj;cases hj;obtain⟨l,h1,h2⟩:=hget j c hq;exact .p (h8 l _ c (hv j l h1) h2)
 exact⟨q1,q2.mono fun e w' ⟨u,σ',β',s',he,hK,hr',hl'⟩=>⟨u,σ',β',s',he,hK,hr',hlat.trans hl'⟩⟩
def d0P:Pg:=⟨[[103]],[
 ⟨[109,97,105,110],[],[[118]],[
   .mk 1 1 [] [118] [] (.mk 1 2 [] []) false [] [] [],
   .mk 2 4 [] [] [112] (.mk 0 0 [] []) false [⟨false,[],.mk 1 3 [] []⟩,⟨true,[118],.mk 0 0 [] []⟩] [] [],
   .mk 3 3 [] [] [] (.mk 2 0 [118] []) false [] [] [],
   .mk 4 3 [] [] [] (.mk 2 0 [103] []) false [] [] []],[]⟩,
 ⟨[112],[⟨[120],false⟩,⟨[121],true⟩],[],[
   .mk 0 2 [] [120] [] (.mk 0 0 [] []) false [] [] [],
   .mk 6 5 [] [] [] (.mk 12 0 [] [.mk 2 0 [121] [],.mk 1 9 [] []]) false [] [.mk 7 10 [] [101] [] (.mk 0 0 [] []) false [] [] []] [],
   .mk 8 9 [] [] [] (.mk 2 0 [103] []) true [] [] []],[[101]]⟩]⟩
def dP:Pg:=⟨[[103]],[
 ⟨[109,97,105,110],[],[[118]],[
   .mk 1 1 [] [118] [] (.mk 1 2 [] []) false [] [] [],
   .mk 2 4 [] [] [112] (.mk 0 0 [] []) false [⟨false,[],.mk 1 3 [] []⟩,⟨true,[118],.mk 0 0 [] []⟩] [] [],
   .mk 3 3 [] [] [] (.mk 2 0 [118] []) false [] [] [],
   .mk 4 3 [] [] [] (.mk 2 0 [103] []) false [] [] []],[]⟩,
 ⟨[112],[⟨[120],false⟩,⟨[121],true⟩],[],[
   .mk 5 2 [] [120] [] (.mk 0 0 [] []) false [] [] [],
   .mk 6 5 [] [] [] (.mk 12 0 [] [.mk 2 0 [121] [],.mk 1 9 [] []]) false [] [.mk 7 10 [] [101] [] (.mk 0 0 [] []) false [] [] []] [],
   .mk 8 9 [] [] [] (.mk 2 0 [103] []) true [] [] []],[[101]]⟩]⟩
theorem Iz:EC d0P=dP:=by kernel_rfl
theorem AO:CopyF d0P:=by
 refine⟨by decide,by decide,fun f hf=>?_⟩;have h2:f=d0P.procs[0]\/f=d0P.procs[1]:=by simpa[d0P]using hf
 have h3:∀t∈flL d0P.procs[0].body,okC t/\t.id ≠ -1:=by unfold okC;decide
 have h4:∀t∈flL d0P.procs[1].body,okC t/\t.id ≠ -1:=by unfold okC;decide
 rcases h2 with rfl|rfl
 ·exact⟨by decide,by decide,by decide,by decide,h3⟩
 ·exact⟨by decide,by decide,by decide,by decide,h4⟩
theorem Pu{H:Heap}{n:Nat}{e sz:Nat}{es es':List AV}(hg:getH H k=some (.own e sz es))(hn:n=es.length)(hs:SubE es es'):Frz H (.hd k 0 n) (.sl es'):=.sub (.hd hg hn) (Sub.sl hs)
def O9:List AV:=(bd1.set 0 (rwS 0 2 [120] [] x0 .ff .nils .nils .nils)).set 2 (rwS 8 9 [] [] [.int .i64 2,.int .i64 0,.str [103],.nils] .tt .nils .nils .nils)
def O8:List AV:=bd0.set 1 (rwS 2 4 [] [112] x0 .ff (.sl [.agg ([.ff,.str []]++(X.mk 1 3 [] []).cells),.agg ([.tt,.str [118]]++x0)]) .nils .nils)
def Oz:Heap:=[(1,.obj 25 [.p (.sl [.str [103]]),.hd 25 0 2]),(25,.obj 45 (prc 21 23)),(23,.own 55 13 O9),(21,.own 55 13 O8)]
theorem q2h:SubE O8 [.agg d0P.procs[0].body[0].cells,.agg d0P.procs[0].body[1].cells,.agg d0P.procs[0].body[2].cells,.agg d0P.procs[0].body[3].cells]:=by repeat' (first|exact SubL.nil|exact SubE.nil|exact Sub.nils|exact Sub.ff rfl|exact Sub.tt rfl|refine SubL.cons ?_ ?_|refine SubE.cons ?_ ?_|exact Sub.refl _|refine Sub.agg ?_|refine Sub.sl ?_)
theorem q2f:SubE O9 [.agg d0P.procs[1].body[0].cells,.agg d0P.procs[1].body[1].cells,.agg d0P.procs[1].body[2].cells]:=by repeat' (first|exact SubL.nil|exact SubE.nil|exact Sub.nils|exact Sub.ff rfl|exact Sub.tt rfl|refine SubL.cons ?_ ?_|refine SubE.cons ?_ ?_|exact Sub.refl _|refine Sub.agg ?_|refine Sub.sl ?_)
theorem Ix:Frz Oz (.agg [.p (.sl [.str [103]]),.hd 25 0 2]) (.agg d0P.cells):=by
 have f0:Frz Oz (.hd 21 0 4) (eSs d0P.procs[0].body):=Pu (es:=O8) rfl rfl q2h;have f1:Frz Oz (.hd 23 0 3) (eSs d0P.procs[1].body):=Pu (es:=O9) rfl rfl q2f;have fp:Frz Oz (.hd 25 0 2) (.sl (d0P.procs.map fun f=>.agg f.cells)):=by
  refine Frz.hdo (sz:=5) (ls:=prc 21 23) (cs:=d0P.procs[0].cells++d0P.procs[1].cells) rfl rfl (fun j l c h1 h2=>?_) rfl (fun m x hx=>?_) (fun m x j c hx hj=>?_)
  ·match j,h1,h2 with
   |0,h1,h2=>cases h1;cases h2;exact .p (Sub.refl _)
   |1,h1,h2=>cases h1;cases h2;exact .p Sub.nils
   |2,h1,h2=>cases h1;cases h2;exact .p (Sub.refl _)
   |3,h1,h2=>cases h1;cases h2;exact f0
   |4,h1,h2=>cases h1;cases h2;exact .p Sub.nils
   |5,h1,h2=>cases h1;cases h2;exact .p (Sub.refl _)
   |6,h1,h2=>cases h1;cases h2;exact .p (by repeat' (first|exact SubL.nil|exact SubE.nil|exact Sub.nils|exact Sub.ff rfl|exact Sub.tt rfl|refine SubL.cons ?_ ?_|refine SubE.cons ?_ ?_|exact Sub.refl _|refine Sub.agg ?_|refine Sub.sl ?_))
   |7,h1,h2=>cases h1;cases h2;exact .p Sub.nils
   |8,h1,h2=>cases h1;cases h2;exact f1
   |9,h1,h2=>cases h1;cases h2;exact .p (Sub.refl _)
   |j+10,h1,h2=>cases h1
  ·match m,hx with
   |0,hx=>cases hx;rfl
   |1,hx=>cases hx;rfl
   |m+2,hx=>cases hx
  ·match m,hx with
   | 0,hx=>
     cases hx
     match j,hj with
     |0,hj=>exact hj
     |1,hj=>exact hj
     |2,hj=>exact hj
     |3,hj=>exact hj
     |4,hj=>exact hj
     |j+5,hj=>cases hj
   | 1,hx=>
     cases hx
     match j,hj with
     |0,hj=>exact hj
     |1,hj=>exact hj
     |2,hj=>exact hj
     |3,hj=>exact hj
     |4,hj=>exact hj
     |j+5,hj=>cases hj
   |m+2,hx=>cases hx
 refine .agg rfl fun j l c h1 h2=>?_
 match j,h1,h2 with
 |0,h1,h2=>cases h1;cases h2;exact .p (Sub.refl _)
 |1,h1,h2=>cases h1;cases h2;exact fp
 |j+2,h1,h2=>cases h1
theorem DH:SpecP prog 74 [] (fun r=>r=.agg dP.cells):=by
 have hN:=PQ d0P AO (by decide);rw[Iz]at hN;refine SpecP.body ⟨QP [(5,[0]),(4,[0,1]),(3,[0,1]),(2,[0,1]),(1,[0,1]),(0,[0])],QV [],QW []⟩ QY func74 rfl call74 (by show 0<=_;decide) ?_;conv=>whnf
 repeat' (first|((first|refine q3l rfl ?_|refine q5z 0 rfl (by decide) ?_|refine q5z 1 rfl (by decide) ?_|refine q5z 2 rfl (by decide) ?_|refine q7z 0 0 _ (rwS 0 2 [120] [] x0 .ff .nils .nils .nils) rfl rfl (by decide) rfl ?_|refine q7z 2 5 _ (rwS 8 9 [] [] [.int .i64 2,.int .i64 0,.str [103],.nils] .tt .nils .nils .nils) rfl rfl (by decide) rfl ?_|refine q7z 1 3 _ (rwS 2 4 [] [112] x0 .ff (.sl [.agg ([.ff,.str []]++(X.mk 1 3 [] []).cells),.agg ([.tt,.str [118]]++x0)]) .nils .nils) rfl rfl (by decide) rfl ?_);conv=>whnf)|(refine CallK.heap [] 20 q4d q4b CL rfl rfl ?_;rintro l' H' ⟨rfl,rfl⟩;conv=>whnf))
 refine D0 [(1,.obj 25 [.p (.sl [.str [103]]),.hd 25 0 2]),(25,.obj 45 (prc 21 23)),(23,.own 55 13 O9),(21,.own 55 13 O8)] [(0,.obj 25 [.p .nils,.p .nils])] [(0,.ptr 0 0)] rfl (avs:=[.agg d0P.cells]) (.cons Ix .nil) (fun i=>by
  cases i with
  |zero=>exact .inl rfl
  |succ i=>exact .inr rfl) ?_
 refine CallK.pure hN (.cons (Sub.refl _) .nil) ?_;rintro _ rfl;conv=>whnf
 repeat' (refine q3l rfl ?_;conv=>whnf)
 all_goals first
  |exact⟨_,.p (Sub.refl _),rfl⟩
  |exact RetK.p rfl
instance:DecidableRel ltT:=fun a b=>inferInstanceAs (Decidable (Op.bytesLess a b=true))
def OJ(m l:List Str):Bool:=decide (m.Pairwise ltT)&&m.all (fun s=>inS l s)&&l.all (fun s=>inS m s)
theorem Eu{m l:List Str}(h:OJ m l=true):UQ l=m:=by
 unfold OJ at h;simp only[q4k,q4o,q5k]at h;exact(CY h.1.1 fun s=>⟨fun hs=>HA.1 (h.1.2 s hs),fun hs=>HA.1 (h.2 s hs)⟩).symm
def Ev:List (List Str)->List (List Str)->Bool
 |[],[]=>true
 |m::ms,l::ls=>OJ m l&&Ev ms ls
 |_,_=>false
theorem W0:∀{ms ls:List (List Str)},Ev ms ls=true->ls.map UQ=ms
 |[],[],_=>rfl
 |[],_::_,h=>by cases h
 |_::_,[],h=>by cases h
 | m::ms,l::ls,h=>by
   rw[Ev,q4k]at h;rw[q4t,Eu h.1,W0 h.2]
theorem Zf(h:Ev D ((sheetOf p).l.map fun it=>HV (bkO p O) it.s)=true):dfB p O=D:=by
 have h1:=W0 h;rw[q8c]at h1;exact h1
theorem Kh{I U:List (List Str)}(h:Ev U ((sheetOf p).l.map fun it=>Q5 (bkI p I) it.s)=true):usB p I=U:=by
 have h1:=W0 h;rw[q8c]at h1;exact h1
def q1o(lv:List Bool)(p:Pg)(i:Nat)(f:Pr)(D:List (List Str)):List Str:=(itsOf p i f).flatMap fun it=>bif lv.getD (ixI p i f it.s.id).toNat false then(PE D it.s.id).filter (outB p f)else []
def q1e(prs:List (Int×Int))(p:Pg)(i:Nat)(f:Pr)(D U:List (List Str))(o:List Str)(x:Str):Bool:=(GT 0 (ZF (QC (cntL f.body+2) (prs.filter fun t=>NN p i f D x t.1)).1 [0])).any (hitN p i f U o x)
theorem Js{lv0 lv1:List Bool}{f0 f1:Pr}(hp:p.procs=[f0,f1])(h0:(QQ p 0 f0).live=lv0)(h1:(QQ p 1 f1).live=lv1)(h:Ev O [q1o lv0 p 0 f0 D,q1o lv1 p 1 f1 D]=true):otB p D=O:=by
 rw[<-W0 h,<-h0,<-h1];unfold otB;have e0:prA p 0=f0:=UT (by rw[hp];rfl);have e1:prA p 1=f1:=UT (by rw[hp];rfl);rw[hp];show [otA p D 0,otA p D 1]=_;unfold otA;rw[e0,e1];rfl
theorem B9{U I:List (List Str)}{Ov Ou:List (Int×Int)}{f0 f1:Pr}(hp:p.procs=[f0,f1])(h0:JF (QQ p 0 f0) f0=Ov)(h1:JF (QQ p 1 f1) f1=Ou)(h:Ev I [(p.globals++[XD]).filter (q1e Ov p 0 f0 D U (O.getD 0 [])),(p.globals++[XD]).filter (q1e Ou p 1 f1 D U (O.getD 1 []))]=true):niB p D U O=I:=by
 rw[<-W0 h,<-h0,<-h1];unfold niB;have e0:prA p 0=f0:=UT (by rw[hp];rfl);have e1:prA p 1=f1:=UT (by rw[hp];rfl);rw[hp];show [niA p D U O 0,niA p D U O 1]=_;unfold niA Pb;rw[e0,e1];rfl
def Jq:Str:=[103]
def vS:Str:=[118]
def yS:Str:=[121]
def xS:Str:=[120]
theorem Oe:HN (QQ someP 0 f0) f0=[⟨0,1,1⟩,⟨1,2,1⟩,⟨2,3,1⟩,⟨3,4,1⟩,⟨4,-1,1⟩]:=by
 unfold HN VT;rw[IE,IT];exact FO (by unfold okSt;decide) (by decide) (by decide) (by decide)
theorem OR:JF (QQ someP 0 f0) f0=[(0,1),(1,2),(2,3),(3,4),(4,5)]:=by
 unfold JF;rw[Oe]
 kernel_rfl
theorem OT:JF (QQ someP 1 f1) f1=[(0,1),(1,2),(2,3),(2,4),(3,5),(4,5)]:=by
 unfold JF;rw[Oi]
 kernel_rfl
theorem q2q:(QQ someP 0 f0).live=[true,true,true,true,true,true]:=by
 unfold QQ;simp only[IF]
 kernel_rfl
theorem q2x:(QQ someP 1 f1).live=[true,true,true,true,true,true]:=by
 unfold QQ;simp only[ID]
 kernel_rfl
def sO:List (List Str):=[[Jq],[yS]]
def sD0:List (List Str):=[[vS],[Jq],[],[],[yS],[],[],[Ei]]
def sD:List (List Str):=[[vS],[Jq,vS],[],[],[yS],[],[],[Ei]]
def sU:List (List Str):=[[],[vS],[vS],[Jq],[xS,yS],[yS],[],[yS]]
theorem some_book:BookR someP ⟨sheetOf someP,wysB someP,sD,sU,[[],[]],sO⟩:=by
 have d0:dfB someP [[],[]]=sD0:=Zf (by kernel_rfl);have o1:otB someP sD0=sO:=Js (f0:=f0) (f1:=f1) rfl q2q q2x (by kernel_rfl);have d1:dfB someP sO=sD:=Zf (by kernel_rfl);have o2:otB someP sD=sO:=Js (f0:=f0) (f1:=f1) rfl q2q q2x (by kernel_rfl);have u0:usB someP [[],[]]=sU:=Kh (by kernel_rfl);have i1:niB someP sD sU sO=[[],[]]:=B9 (f0:=f0) (f1:=f1) rfl OR OT (by kernel_rfl);refine⟨rfl,rfl,⟨1,?_⟩,?_,d1.symm,⟨0,rfl⟩,?_,u0.symm⟩
 ·show sO=otB someP (dfB someP [[],[]]);rw[d0,o1]
 ·show otB someP (dfB someP sO)=sO;rw[d1,o2]
 ·show niB someP sD (usB someP [[],[]]) sO=[[],[]];rw[u0,i1]
def g0:Pr:=dP.procs[0]'(by decide)
def g1:Pr:=dP.procs[1]'(by decide)
theorem Oa:Fit dP:=by unfold Fit;decide
theorem Oc:XX dP=true:=by kernel_rfl
theorem Az:WX (QK dP 0 g0)=[⟨0,1,1⟩,⟨1,2,1⟩,⟨2,3,1⟩,⟨3,4,1⟩,⟨4,-1,1⟩]:=by
 have h1:QK dP 0 g0=[⟨0,1,1⟩,⟨1,2,1⟩,⟨2,3,1⟩,⟨3,4,1⟩,⟨4,-1,1⟩]:=by kernel_rfl
 rw[h1];exact FO (by unfold okSt;decide) (by decide) (by decide) (by decide)
theorem Aw:WX (QK dP 1 g1)=[⟨0,5,1⟩,⟨5,6,1⟩,⟨6,7,1⟩,⟨6,8,1⟩,⟨7,-1,1⟩,⟨8,-1,1⟩]:=by
 have h1:QK dP 1 g1=[⟨0,5,1⟩,⟨5,6,1⟩,⟨6,7,1⟩,⟨6,8,1⟩,⟨7,-1,1⟩,⟨8,-1,1⟩]:=by kernel_rfl
 rw[h1];exact FO (by unfold okSt;decide) (by decide) (by decide) (by decide)
theorem Av:(QQ dP 0 g0).real=[⟨0,1,1⟩,⟨1,2,1⟩,⟨2,3,1⟩,⟨3,4,1⟩,⟨4,-1,1⟩]:=Az
theorem Au:(QQ dP 1 g1).real=[⟨0,5,1⟩,⟨5,6,1⟩,⟨6,7,1⟩,⟨6,8,1⟩,⟨7,-1,1⟩,⟨8,-1,1⟩]:=Aw
theorem Ig:prsW (QQ dP 0 g0) g0=[(0,1),(1,2),(2,3),(3,4),(4,5)]:=by
 unfold prsW;rw[Av]
 kernel_rfl
theorem Ih:prsW (QQ dP 1 g1) g1=[(0,1),(1,2),(2,3),(2,4),(3,5),(4,5)]:=by
 unfold prsW;rw[Au]
 kernel_rfl
theorem E1:trapsW (QQ dP 0 g0) g0=[]:=by
 unfold trapsW WE;rw[Ig]
 kernel_rfl
theorem E2:trapsW (QQ dP 1 g1) g1=[]:=by
 unfold trapsW WE;rw[Ih]
 kernel_rfl
theorem Iv:HN (QQ dP 0 g0) g0=[⟨0,1,1⟩,⟨1,2,1⟩,⟨2,3,1⟩,⟨3,4,1⟩,⟨4,-1,1⟩]:=by
 unfold HN VT;rw[E1,Av];exact FO (by unfold okSt;decide) (by decide) (by decide) (by decide)
theorem Ij:JF (QQ dP 0 g0) g0=[(0,1),(1,2),(2,3),(3,4),(4,5)]:=by
 unfold JF;rw[Iv]
 kernel_rfl
theorem Iu:HN (QQ dP 1 g1) g1=[⟨0,5,1⟩,⟨5,6,1⟩,⟨6,7,1⟩,⟨6,8,1⟩,⟨7,-1,1⟩,⟨8,-1,1⟩]:=by
 unfold HN VT;rw[E2,Au];exact FO (by unfold okSt;decide) (by decide) (by decide) (by decide)
theorem Ik:JF (QQ dP 1 g1) g1=[(0,1),(1,2),(2,3),(2,4),(3,5),(4,5)]:=by
 unfold JF;rw[Iu]
 kernel_rfl
theorem q1l:(QQ dP 0 g0).live=[true,true,true,true,true,true]:=by
 unfold QQ;simp only[Az]
 kernel_rfl
theorem q1r:(QQ dP 1 g1).live=[true,true,true,true,true,true]:=by
 unfold QQ;simp only[Aw]
 kernel_rfl
def tO1:List (List Str):=[[],[XD]]
def tO:List (List Str):=[[XD],[XD]]
def tD0:List (List Str):=[[vS],[],[],[],[XD,xS],[],[],[Ei]]
def tD:List (List Str):=[[vS],[XD],[],[],[XD,xS],[],[],[Ei]]
def tI1:List (List Str):=[[Jq],[XD,Jq]]
def tI:List (List Str):=[[XD,Jq],[XD,Jq]]
def tU0:List (List Str):=[[],[vS],[vS],[Jq],[XD],[yS],[],[Jq]]
def tU:List (List Str):=[[],[XD,Jq,vS],[vS],[Jq],[XD],[yS],[],[Jq]]
theorem d_book:BookR dP ⟨sheetOf dP,wysB dP,tD,tU,tI,tO⟩:=by
 have d0:dfB dP [[],[]]=tD0:=Zf (by kernel_rfl);have o1:otB dP tD0=tO1:=Js (f0:=g0) (f1:=g1) rfl q1l q1r (by kernel_rfl);have d1:dfB dP tO1=tD:=Zf (by kernel_rfl);have o2:otB dP tD=tO:=Js (f0:=g0) (f1:=g1) rfl q1l q1r (by kernel_rfl);have d2:dfB dP tO=tD:=Zf (by kernel_rfl);have u0:usB dP [[],[]]=tU0:=Kh (by kernel_rfl);have i1:niB dP tD tU0 tO=tI1:=B9 (f0:=g0) (f1:=g1) rfl Ij Ik (by kernel_rfl);have u1:usB dP tI1=tU:=Kh (by kernel_rfl);have i2:niB dP tD tU tO=tI:=B9 (f0:=g0) (f1:=g1) rfl Ij Ik (by kernel_rfl);have u2:usB dP tI=tU:=Kh (by kernel_rfl);refine⟨rfl,rfl,⟨2,?_⟩,?_,d2.symm,⟨2,?_⟩,?_,u2.symm⟩
 ·show tO=otB dP (dfB dP (otB dP (dfB dP [[],[]])));rw[d0,o1,d1,o2]
 ·show otB dP (dfB dP tO)=tO;rw[d2,o2]
 ·show tI=niB dP tD (usB dP (niB dP tD (usB dP [[],[]]) tO)) tO;rw[u0,i1,u1,i2]
 ·show niB dP tD (usB dP tI) tO=tI;rw[u2,i2]
theorem OF:Dn someP 2=[Jq,vS]:=by
 unfold Dn;rw[if_pos ⟨Kz,by decide,by rw[show(sheetOf someP).l.length=8 by kernel_rfl];decide⟩,<-some_book.eq];rfl
theorem OD:Bn someP 5=[xS,yS]:=by
 unfold Bn;rw[if_pos ⟨Kz,by decide,by rw[show(sheetOf someP).l.length=8 by kernel_rfl];decide⟩,<-some_book.eq];rfl
theorem OB:BM someP [112]=[yS]:=by
 have e:Wn someP [112]=1:=by kernel_rfl
 unfold BM;rw[e,if_pos ⟨Kz,by decide⟩,<-some_book.eq];rfl
theorem OP:C5 dP [112]=[XD,Jq]:=by
 have e:Wn dP [112]=1:=by kernel_rfl
 unfold C5;rw[e,if_pos ⟨Oc,by decide⟩,<-d_book.eq];rfl
theorem ZZ:SpecP prog 39 [] (fun r=>r=.tt):=by
 have h1:=Ml someP Kw 2;rw[OF]at h1;have h2:=Mr someP Kw 5;rw[OD]at h2;have h3:=Uk someP Kw [112];rw[OB]at h3;have h4:=T2 dP Oa [112];rw[OP]at h4;have q1:=ZK [Jq,vS] [Jq,vS];have q2:=ZK [xS,yS] [xS,yS];have q3:=ZK [yS] [yS];have q4:=ZK [XD,Jq] [XD,Jq];simp only[decide_true]at q1 q2 q3 q4;refine sB KN func39 rfl call39 ?_;conv=>whnf
 repeat' (first|((first|refine q3l rfl ?_|refine aD ?_|refine bP ?_|refine cP Q7 ?_|refine cP DH ?_|refine cP h1 ?_|refine cP h2 ?_|refine cP h3 ?_|refine cP h4 ?_|refine JB rfl rfl ?_|refine cP q1 ?_|refine cP q2 ?_|refine cP q3 ?_|refine cP q4 ?_);conv=>whnf)|(apply bB<;>intro _<;>conv=>whnf))
 all_goals first
  |exact absurd (show true=false by assumption) (by decide)
  |exact⟨_,.p (Dy rfl),rfl⟩
  |exact RetK.tt rfl
  |exact⟨_,.p (Sub.refl _),rfl⟩
theorem TS{m:Int}(h:Y6 p m=true):XX p=true:=by
 unfold Y6 at h;rw[q4k]at h;exact h.1
theorem BE(p:Pg)(hf:Fit p)(most:Int):SpecP prog 40 [.agg p.cells,.int .i64 most] (fun r=>r=.bool (Y6 p most)):=by
 refine sB HG func40 rfl call40 ?_;conv=>whnf
 have hC:=Zk p hf;unfold Y6;cases hc:XX p with
 | false=>
   rw[hc]at hC;repeat' (first|((first|(refine iM fun _=>?_)|refine dA ?_|refine q3l rfl ?_|refine aD ?_|refine aR ?_|refine bP ?_|(refine iA fun _=>?_)|refine IdxK.xs (by omega) ?_|refine QN (by omega) ?_|(refine ByteK.at (by omega) ?_)|refine wI ?_|refine cP hC ?_);conv=>whnf)|(apply bD<;>intro _<;>first|omega|conv=>whnf)|(apply bE<;>intro _<;>first|omega|conv=>whnf)|(apply bN<;>intro _<;>conv=>whnf)|(apply bB<;>intro _<;>conv=>whnf))
   all_goals first
    |contradiction
    |exact RetK.ff rfl
 | true=>
   rw[hc]at hC;have hcn:=(XS hc).2.2;have hT:=Lm p (by omega);repeat' (first|((first|(refine iM fun _=>?_)|refine dA ?_|refine q3l rfl ?_|refine aD ?_|refine aR ?_|refine bP ?_|(refine iA fun _=>?_)|refine IdxK.xs (by omega) ?_|refine QN (by omega) ?_|(refine ByteK.at (by omega) ?_)|refine wI ?_|refine cP hC ?_|refine cP hT ?_);conv=>whnf)|(apply bD<;>intro _<;>first|omega|conv=>whnf)|(apply bE<;>intro _<;>first|omega|conv=>whnf)|(apply bN<;>intro _<;>conv=>whnf)|(apply bB<;>intro _<;>conv=>whnf))
   all_goals first
    |contradiction
    |exact RetK.bool rfl
theorem Ea(h:XX p=true){f:Pr}(hk:p.procs[k]?=some f):Wn p f.name=(k:Nat)/\BM p f.name=(QS p).outs.getD k []/\C5 p f.name=(QS p).ins.getD k []:=by
 have hm:f.name∈QB p:=q3s.2 ⟨f,q4n hk,rfl⟩;obtain⟨m,hm1,h1,_,h3,h4⟩:=Jj hm;obtain⟨rfl,_⟩:=Xm h (q3b hm1) hk h4;have e:Wn p f.name=(m:Nat):=h1;refine⟨e,?_,?_⟩
 ·unfold BM;rw[if_pos ⟨h,by omega⟩,e];rfl
 ·unfold C5;rw[if_pos ⟨h,by omega⟩,e];rfl
def NoT(p:Pg)(M:Mc):Prop:=(∀f∈M.stack,XD∉(QS p).outs.getD f.proc [])/\M.reads=0
def NoC(p:Pg):Cf->Prop
 |.next _ M=>NoT p M
 |.back _ M=>NoT p M
 |.fin M=>M.reads=0/\M.fin≠3
section
variable {p:Pg}(hc:XX p=true)
include hc
theorem Em{g:Pr}(hk:p.procs[k]?=some g){it:Item}(hi:it∈itsOf p k g)(hl:Rch (eR p k g) 0 it.s.id)(h:XD∉(QS p).outs.getD k []):it.s.kind≠2/\(it.s.kind=4->XD∉(QS p).outs.getD (PR p it.s) []):=by
 have ht:=KQ hi;have key:¬(it.s.kind=2\/(it.s.kind=4/\XD∈(QS p).outs.getD (caI p it.s).toNat [])):=fun h2=>
  h (IL hc (ME hc).fixO hk ht (q2y hl) ((CE hc (q4n hk) ht).2 h2) (N3.2 (.inl (.inl rfl))))
 exact⟨fun h2=>key (.inl h2),fun h4 h5=>key (.inr ⟨h4,h5⟩)⟩
omit hc in
theorem OQ(tape watch:List Int){M:Mc}{f:Fm}{g:Pr}{it:Item}(h2:it.s.kind≠2)(h0:M.fin=0)(h1:M.reads=0):doM p tape watch M f g it=doM p [] watch M f g it/\(doM p [] watch M f g it).2.reads=0/\((doM p [] watch M f g it).2.fin=0\/(doM p [] watch M f g it).2.fin=4):=by
 have key:∀v,(QJ watch M it.s.id v).reads=0/\((QJ watch M it.s.id v).fin=0\/(QJ watch M it.s.id v).fin=4):=fun v=>by
  obtain⟨_,_,e3,_,e5,_⟩:=ZT watch M it.s.id v;exact⟨e5.trans h1,.inl (e3.trans h0)⟩
 unfold doM;rw[if_neg h2,if_neg h2];refine⟨rfl,?_⟩;split
 ·exact key []
 split
 ·exact key []
 split
 ·exact key []
 cases(QA M f it.s.x).2 with
 |false=>exact⟨h1,.inr rfl⟩
 | true=>
   rw[q4v];split
   ·exact key _
   split
   ·exact key _
   split
   ·exact key _
   split
   ·exact key _
   ·exact key _
theorem OM(tape watch:List Int){fuel:Int}{c:Cf}(hG:MF p fuel c)(hI:AM p c)(hN:NoC p c):goC p tape watch fuel c=goC p [] watch fuel c/\NoC p (goC p [] watch fuel c):=by
 cases c with
 |fin M=>exact⟨rfl,hN⟩
 | back gv M=>
   refine⟨rfl,?_⟩;have hN:NoT p M:=hN;have hf:M.fin=0:=hG.1.fin;show NoC p (GP p gv M);unfold GP;split
   ·exact⟨hN.2,by show(1:Int)≠3;decide⟩
   ·split
    ·exact⟨hN.2,by omega⟩
    ·have key:NoT p (popM M M.stack.dropLast):=⟨fun f hf=>hN.1 f (List.dropLast_subset _ hf),hN.2⟩;show NoT p (if _ then _ else _);split
     ·exact key
     ·exact key
 | next a M=>
   obtain⟨hGd,h0,h1,hat⟩:=hG;have hI:InvM p M a:=hI;have hN:NoT p M:=hN;simp only[goC];by_cases ha:a = -1
   ·rw[if_pos ha,if_pos ha];exact⟨rfl,hN⟩
   rw[if_neg ha,if_neg ha];by_cases hf:M.steps=fuel
   ·rw[if_pos hf,if_pos hf];exact⟨rfl,hN.2,by show(2:Int)≠3;decide⟩
   rw[if_neg hf,if_neg hf];rcases hat with h2|⟨g,it,hg,_,hit,hi,hid⟩
   ·exact absurd h2 ha
   rw[hit];simp only;have hG1:Good p (ZG M) M.steps:=hGd.same rfl (q4h _) hGd.fin hGd.r0 hGd.rd hGd.tr hGd.ou;have hk1:p.procs[(XT (ZG M)).proc]?=some g:=hg;have hi1:it∈itsOf p (XT (ZG M)).proc g:=hi;obtain⟨st,hst⟩:=hG1.top;obtain⟨g',h3,h4⟩:=hI.pos (XT M).proc a (by obtain⟨st,hs⟩:=hGd.top;rw[hs];exact .top);rw[hg]at h3;cases h3;rw[<-hid]at h4;have htop:XT (ZG M)∈(ZG M).stack:=by
    have e:=hst;generalize XT (ZG M)=F at e;rw[e];simp
   obtain⟨n2,n4⟩:=Em hc hk1 hi1 h4 (hN.1 _ htop);unfold stI;by_cases h4:it.s.kind=4
   ·rw [if_pos h4,if_pos h4];refine⟨rfl,?_⟩;have ht:=KQ hi1;obtain⟨a1,a2,a3,a4,a5,a6,a7,a8⟩:=Zv (f:=XT (ZG M)) it.s.args [] (ZG M) (fun a ha hr=>(V5 hc hG1 hk1 ht (SF ha hr)).2) (fun v hv=>by cases hv);have n4:=n4 h4;unfold KS;generalize argsM (XT (ZG M)) it.s.args [] (ZG M)=ar at*
    obtain⟨ps,M1,ok⟩:=ar;simp only at a1 a2 a3 a4 a5 a6 a7 a8⊢;unfold La;cases ok with
    | false=>
      have h8:M1.fin=4:=a8 rfl;rw[q4f,if_neg (by show ¬M1.fin=0;omega)];exact⟨a4.trans hN.2,by show M1.fin≠3;omega⟩
    | true=>
      rw[q4v];split
      ·exact⟨a4.trans hN.2,by show(5:Int)≠3;decide⟩
      ·have e1:=ZT watch M1 it.s.id [];split
       ·refine⟨fun f hf=>?_,e1.2.2.2.2.1.trans (a4.trans hN.2)⟩;have hf:f∈(QJ watch M1 it.s.id []).stack++[⟨PR p it.s,varsS p (prA p (PR p it.s)),List.range p.globals.length++ps++List.range' (QJ watch M1 it.s.id []).mem.length (prA p (PR p it.s)).vars.length,it.s.id⟩]:=hf;rcases q3a.1 hf with hf|hf
        ·rw[e1.1,a1]at hf;exact hN.1 f hf
        ·rw[q3r.1 hf];exact n4
       ·rename_i hz;exfalso;refine hz ?_;show(QJ watch M1 it.s.id []).fin=0;rw[e1.2.2.1,(a7 rfl).1];exact hGd.fin
   rw[if_neg h4,if_neg h4];by_cases h9:it.s.kind=9
   ·rw [if_pos h9,if_pos h9];refine⟨rfl,?_⟩;obtain⟨u1,u2⟩:=TG watch hG1 it.s rfl;have hrd:(Jo watch (ZG M) (XT (ZG M)) it.s).2.reads=0/\((Jo watch (ZG M) (XT (ZG M)) it.s).2.fin=0\/(Jo watch (ZG M) (XT (ZG M)) it.s).2.fin=4):=by
     have key:∀v,(QJ watch (ZG M) it.s.id v).reads=0/\((QJ watch (ZG M) it.s.id v).fin=0\/(QJ watch (ZG M) it.s.id v).fin=4):=fun v=>by
      obtain⟨_,_,e3,_,e5,_⟩:=ZT watch (ZG M) it.s.id v;exact⟨e5.trans hN.2,.inl (e3.trans hGd.fin)⟩
     unfold Jo;cases it.s.has with
     |false=>exact key []
     | true=>
       rw[q4v];cases(QA (ZG M) (XT (ZG M)) it.s.x).2 with
       |false=>exact⟨hN.2,.inr rfl⟩
       |true=>exact key _
    generalize Jo watch (ZG M) (XT (ZG M)) it.s=r at*
    unfold Gp;split
    ·rename_i hz;exact⟨fun f hf=>by rw[(u2 hz).2]at hf;exact hN.1 f hf,hrd.1⟩
    ·exact⟨hrd.1,by omega⟩
   rw[if_neg h9,if_neg h9];obtain⟨d1,d2,d3⟩:=OQ (p:=p) tape watch (M:=ZG M) (f:=XT (ZG M)) (g:=prA p (XT (ZG M)).proc) (it:=it) n2 hGd.fin hN.2;rw[d1];refine⟨rfl,?_⟩;rw[UT hk1]at d2 d3⊢;obtain⟨u1,u2⟩:=E0 hc [] watch hG1 hk1 hi1 h4 h9 rfl;generalize doM p [] watch (ZG M) (XT (ZG M)) g it=r at*
   unfold La;split
   ·rename_i hz;exact⟨fun f hf=>by rw[(u2 hz).2.2]at hf;exact hN.1 f hf,d2⟩
   ·exact⟨d2,by omega⟩
theorem Cm(h:XD∉BM p mainS):NoC p (JW p):=by
 obtain⟨h1,h2,h3⟩:=Ud hc;refine⟨fun f hf=>?_,rfl⟩;have hf:f∈([]:List Fm)++[⟨mainN p,varsS p (prA p (mainN p)),List.range p.globals.length++[]++List.range' (M00 p).mem.length (prA p (mainN p)).vars.length,0⟩]:=hf;rw[q3r.1 hf];rw[<-Hm hc,(Ea hc h2).2.1]at h;exact h
theorem Tn(tape watch:List Int){fuel:Int}(h0:0<=fuel)(h:XD∉BM p mainS):∀n,HW p tape watch fuel n (JW p)=HW p [] watch fuel n (JW p)/\NoC p (HW p [] watch fuel n (JW p))
 |0=>⟨rfl,Cm hc h⟩
 | n+1=>by
   obtain⟨h1,h2⟩:=EX hc [] watch h0 n;obtain⟨h3,h4⟩:=Tn tape watch h0 h n;rw[UK,UK,h3];exact OM hc tape watch h1 h2 h4
theorem IH(tape watch:List Int){fuel:Int}(h0:0<=fuel)(h:XD∉BM p mainS){n m:Nat}{M M':Mc}(h1:HW p tape watch fuel n (JW p)=.fin M)(h2:HW p [] watch fuel m (JW p)=.fin M'):M'=M/\M.reads=0/\M.fin≠3:=by
 obtain⟨h3,h4⟩:=Tn hc tape watch h0 h n;have h5:=h1;rw[h3]at h5;have h6:=Cq p [] watch fuel _ h2 h5;refine⟨h6,?_⟩;rw[h5]at h4;exact h4
end
theorem UA(l:List Int):SpecP prog 125 [XU l,XU l] (fun r=>r=.tt):=by
 refine sB HQ func125 rfl call125 ?_;conv=>whnf
 have hl:(l.map (AV.int .i64)).length=l.length:=q3f _;repeat' (first|((first|(refine iM fun _=>?_)|refine dA ?_|refine q3l rfl ?_|refine aD ?_|refine aR ?_|refine bP ?_|(refine iA fun _=>?_)|refine IdxK.xs (by omega) ?_|refine QN (by omega) ?_|(refine ByteK.at (by omega) ?_)|refine wI ?_);conv=>whnf)|(apply bD<;>intro _<;>first|omega|conv=>whnf)|(apply bE<;>intro _<;>first|omega|conv=>whnf)|(apply bN<;>intro _<;>conv=>whnf)|(apply bB<;>intro _<;>conv=>whnf))
 all_goals try (exfalso;omega)
 refine LoopK.inv QY (fun j:Nat=>⟨[(0,.p (XU l)),(1,.p (XU l)),(12,.p (.int .i64 (l.map (AV.int .i64)).length)),(13,.p (.int .i64 j))],[]⟩) (fun j=>j<=l.length) (fun j=>l.length-j) 0 (Le.of_eq rfl) (q3o _) ?_;intro j hj;rcases q4w j l.length with hj2|hj2
 ·conv=>whnf
  repeat' (first|((first|(refine iM fun _=>?_)|refine dA ?_|refine q3l rfl ?_|refine aD ?_|refine aR ?_|refine bP ?_|(refine iA fun _=>?_)|refine IdxK.xs (by omega) ?_|refine QN (by omega) ?_|(refine ByteK.at (by omega) ?_)|refine wI ?_);conv=>whnf)|(apply bD<;>intro _<;>first|omega|conv=>whnf)|(apply bE<;>intro _<;>first|omega|conv=>whnf)|(apply bN<;>intro _<;>conv=>whnf)|(apply bB<;>intro _<;>conv=>whnf))
  all_goals first
   |contradiction
   |(exfalso;simp_all;done)
   |exact⟨j+1,hj2,by omega,Le.of_eq rfl⟩
 ·conv=>whnf
  repeat' (first|((first|(refine iM fun _=>?_)|refine dA ?_|refine q3l rfl ?_|refine aD ?_|refine aR ?_|refine bP ?_|(refine iA fun _=>?_)|refine IdxK.xs (by omega) ?_|refine QN (by omega) ?_|(refine ByteK.at (by omega) ?_)|refine wI ?_);conv=>whnf)|(apply bD<;>intro _<;>first|omega|conv=>whnf)|(apply bE<;>intro _<;>first|omega|conv=>whnf)|(apply bN<;>intro _<;>conv=>whnf)|(apply bB<;>intro _<;>conv=>whnf))
  exact⟨_,.p (Sub.refl _),rfl⟩
theorem FD(l:List (Int×List Int)):SpecP prog 76 [.sl (l.map evA),.sl (l.map evA)] (fun r=>r=.tt):=by
 refine sB KM func76 rfl call76 ?_;conv=>whnf
 have hl:(l.map evA).length=l.length:=q3f _;repeat' (first|((first|(refine iM fun _=>?_)|refine dA ?_|refine q3l rfl ?_|refine aD ?_|refine aR ?_|refine bP ?_|(refine iA fun _=>?_)|refine IdxK.xs (by omega) ?_|refine QN (by omega) ?_|(refine ByteK.at (by omega) ?_)|refine wI ?_);conv=>whnf)|(apply bD<;>intro _<;>first|omega|conv=>whnf)|(apply bE<;>intro _<;>first|omega|conv=>whnf)|(apply bN<;>intro _<;>conv=>whnf)|(apply bB<;>intro _<;>conv=>whnf))
 all_goals try (exfalso;omega)
 refine LoopK.inv QY (fun j:Nat=>⟨[(0,.p (.sl (l.map evA))),(1,.p (.sl (l.map evA))),(12,.p (.int .i64 (l.map evA).length)),(13,.p (.int .i64 j))],[]⟩) (fun j=>j<=l.length) (fun j=>l.length-j) 0 (Le.of_eq rfl) (q3o _) ?_;intro j hj;rcases q4w j l.length with hj2|hj2
 ·have hE:=UA l[j].2;conv=>whnf
  repeat' (first|((first|(refine iM fun _=>?_)|refine dA ?_|refine q3l rfl ?_|refine aD ?_|refine aR ?_|refine bP ?_|(refine iA fun _=>?_)|refine IdxK.xs (by omega) ?_|refine QN (by omega) ?_|(refine ByteK.at (by omega) ?_)|refine wI ?_|refine cP hE ?_);conv=>whnf)|(apply bD<;>intro _<;>first|omega|conv=>whnf)|(apply bE<;>intro _<;>first|omega|conv=>whnf)|(apply bN<;>intro _<;>conv=>whnf)|(apply bB<;>intro _<;>conv=>whnf))
  all_goals first
   |contradiction
   |(exfalso;simp_all;done)
   |exact⟨j+1,hj2,by omega,Le.of_eq rfl⟩
 ·conv=>whnf
  repeat' (first|((first|(refine iM fun _=>?_)|refine dA ?_|refine q3l rfl ?_|refine aD ?_|refine aR ?_|refine bP ?_|(refine iA fun _=>?_)|refine IdxK.xs (by omega) ?_|refine QN (by omega) ?_|(refine ByteK.at (by omega) ?_)|refine wI ?_);conv=>whnf)|(apply bD<;>intro _<;>first|omega|conv=>whnf)|(apply bE<;>intro _<;>first|omega|conv=>whnf)|(apply bN<;>intro _<;>conv=>whnf)|(apply bB<;>intro _<;>conv=>whnf))
  exact⟨_,.p (Sub.refl _),rfl⟩
theorem BI(a b c:Int)(o:List Int)(T:AV):SpecP prog 75 [.agg [.int .i64 a,.int .i64 b,.int .i64 c,XU o,T],.agg [.int .i64 a,.int .i64 b,.int .i64 c,XU o,T]] (fun r=>r=.tt):=by
 refine sB HH func75 rfl call75 ?_;conv=>whnf
 have hE:=UA o;repeat' (first|((first|(refine iM fun _=>?_)|refine dA ?_|refine q3l rfl ?_|refine aD ?_|refine aR ?_|refine bP ?_|(refine iA fun _=>?_)|refine IdxK.xs (by omega) ?_|refine QN (by omega) ?_|(refine ByteK.at (by omega) ?_)|refine wI ?_|refine cP hE ?_);conv=>whnf)|(apply bD<;>intro _<;>first|omega|conv=>whnf)|(apply bE<;>intro _<;>first|omega|conv=>whnf)|(apply bN<;>intro _<;>conv=>whnf)|(apply bB<;>intro _<;>conv=>whnf))
 all_goals first
  |contradiction
  |(exfalso;simp_all;done)
  |exact⟨_,.p (Sub.refl _),rfl⟩
theorem BO(a b c:Int)(o:List Int)(l:List (Int×List Int)):SpecP prog 41 [.agg [.int .i64 a,.int .i64 b,.int .i64 c,XU o,.sl (l.map evA)],.agg [.int .i64 a,.int .i64 b,.int .i64 c,XU o,.sl (l.map evA)]] (fun r=>r=.tt):=by
 refine sB HF func41 rfl call41 ?_;conv=>whnf
 have hE:=FD l;have hO:=BI a b c o (.sl (l.map evA));repeat' (first|((first|(refine iM fun _=>?_)|refine dA ?_|refine q3l rfl ?_|refine aD ?_|refine aR ?_|refine bP ?_|(refine iA fun _=>?_)|refine IdxK.xs (by omega) ?_|refine QN (by omega) ?_|(refine ByteK.at (by omega) ?_)|refine wI ?_|refine cP hO ?_|refine cP hE ?_);conv=>whnf)|(apply bD<;>intro _<;>first|omega|conv=>whnf)|(apply bE<;>intro _<;>first|omega|conv=>whnf)|(apply bN<;>intro _<;>conv=>whnf)|(apply bB<;>intro _<;>conv=>whnf))
 all_goals first
  |contradiction
  |(exfalso;simp_all;done)
  |exact⟨_,.p (Sub.refl _),rfl⟩
theorem GD(p:Pg)(tape:List Int)(fuel:Int):SpecP prog 9 [.agg p.cells,XU tape,.int .i64 fuel] (fun r=>r=.tt):=by
 refine sB JY func9 rfl call9 ?_;conv=>whnf
 cases hfb:Ag p with
 | false=>
   have hno:¬gPg p<=20000:=by unfold Ag at hfb;simpa using hfb
   repeat' (first|((first|(refine iM fun _=>?_)|refine cP (WV _) ?_|refine dA ?_|refine q3l rfl ?_|refine aD ?_|refine aR ?_|refine bP ?_|(refine iA fun _=>?_)|refine IdxK.xs (by omega) ?_|refine QN (by omega) ?_|(refine ByteK.at (by omega) ?_)|refine wI ?_|refine cP ZZ ?_);conv=>whnf)|(apply bD<;>intro _<;>first|omega|conv=>whnf)|(apply bE<;>intro _<;>first|omega|conv=>whnf)|(apply bN<;>intro _<;>conv=>whnf)|(apply bB<;>intro _<;>conv=>whnf))
   all_goals first
    |exact⟨_,.p (Sub.refl _),rfl⟩
    |(exfalso;simp_all;done)
 | true=>
   have hf:Fit p:=Ir hfb;have hfit:gPg p<=20000:=by unfold Ag at hfb;simpa using hfb
   have hS:=BE p hf 60;have htm:(tape.map (AV.int .i64)).length=tape.length:=q3f _;by_cases hok:Y6 p 60=true/\0<=fuel/\fuel<=300/\tape.length<=100
   ·obtain⟨hs,hf0,hf1,htl⟩:=hok;rw[hs]at hS;have hc:=TS hs;have hR1:=(AZ p hf tape [] (by omega) fuel).mono (R':=Of p tape [] fuel) fun r h=>h.1 ⟨hc,hf0,by omega⟩;have hR2:=(AZ p hf [] [] (by simp) fuel).mono (R':=Of p [] [] fuel) fun r h=>h.1 ⟨hc,hf0,by omega⟩;have hO:=Uk p hf mainS;have hI:=V7 (BM p mainS) XD;have hQ:=fun M:Mc=>BO M.fin M.steps M.reads M.out M.trace;have hNo:=fun(h:inS (BM p mainS) XD=false) n m M M'=>IH hc tape [] hf0 (fun h2=>by rw[HA.2 h2]at h;cases h) (n:=n) (m:=m) (M:=M) (M':=M');cases hin:inS (BM p mainS) XD with
    | true=>
      rw[hin]at hI;repeat' (first|((first|(refine iM fun _=>?_)|refine cP (WV _) ?_|refine dA ?_|refine q3l rfl ?_|refine aD ?_|refine aR ?_|refine bP ?_|(refine iA fun _=>?_)|refine IdxK.xs (by omega) ?_|refine QN (by omega) ?_|(refine ByteK.at (by omega) ?_)|refine wI ?_|refine cP ZZ ?_|refine cP hS ?_|(refine CallK.pure hR1 (.cons (Sub.refl _) (.cons (Sub.refl _) (.cons (Sub.refl _) (.cons Sub.nils .nil)))) ?_;rintro _ ⟨n,M,hn,rfl⟩)|(refine CallK.pure hR2 (.cons (Sub.refl _) (.cons Sub.nils (.cons (Sub.refl _) (.cons Sub.nils .nil)))) ?_;rintro _ ⟨n2,M2,hn2,rfl⟩)|refine cP hO ?_|refine cP hI ?_);conv=>whnf)|(apply bD<;>intro _<;>first|omega|conv=>whnf)|(apply bE<;>intro _<;>first|omega|conv=>whnf)|(apply bN<;>intro _<;>conv=>whnf)|(apply bB<;>intro _<;>conv=>whnf)|(refine q3l ?_ ?_<;>conv=>whnf))
      all_goals first
       |contradiction
       |(exfalso;omega)
       |exact⟨_,.p (Sub.refl _),rfl⟩
    | false=>
      rw[hin]at hI;repeat' (first|((first|(refine iM fun _=>?_)|refine cP (WV _) ?_|refine dA ?_|refine q3l rfl ?_|refine aD ?_|refine aR ?_|refine bP ?_|(refine iA fun _=>?_)|refine IdxK.xs (by omega) ?_|refine QN (by omega) ?_|(refine ByteK.at (by omega) ?_)|refine wI ?_|refine cP ZZ ?_|refine cP hS ?_|(refine CallK.pure hR1 (.cons (Sub.refl _) (.cons (Sub.refl _) (.cons (Sub.refl _) (.cons Sub.nils .nil)))) ?_;rintro _ ⟨n,M,hn,rfl⟩)|(refine CallK.pure hR2 (.cons (Sub.refl _) (.cons Sub.nils (.cons (Sub.refl _) (.cons Sub.nils .nil)))) ?_;rintro _ ⟨n2,M2,hn2,rfl⟩;obtain⟨rfl,hrd,hfn⟩:=hNo hin _ _ _ _ hn hn2)|refine cP hO ?_|refine cP hI ?_|refine cP (hQ _) ?_);conv=>whnf)|(apply bD<;>intro _<;>first|omega|conv=>whnf)|(apply bE<;>intro _<;>first|omega|conv=>whnf)|(apply bN<;>intro _<;>conv=>whnf)|(apply bB<;>intro _<;>conv=>whnf)|(refine q3l ?_ ?_<;>conv=>whnf))
      all_goals first
       |contradiction
       |(exfalso;omega)
       |exact⟨_,.p (Sub.refl _),rfl⟩
       |exact⟨_,.p (Dy rfl),rfl⟩
   ·cases hs:Y6 p 60;all_goals
     rw[hs]at hS hok;repeat' (first|((first|(refine iM fun _=>?_)|refine cP (WV _) ?_|refine dA ?_|refine q3l rfl ?_|refine aD ?_|refine aR ?_|refine bP ?_|(refine iA fun _=>?_)|refine IdxK.xs (by omega) ?_|refine QN (by omega) ?_|(refine ByteK.at (by omega) ?_)|refine wI ?_|refine cP ZZ ?_|refine cP hS ?_);conv=>whnf)|(apply bD<;>intro _<;>first|omega|conv=>whnf)|(apply bE<;>intro _<;>first|omega|conv=>whnf)|(apply bN<;>intro _<;>conv=>whnf)|(apply bB<;>intro _<;>conv=>whnf))
     all_goals first
      |contradiction
      |exact⟨_,.p (Sub.refl _),rfl⟩
      |exact absurd ⟨rfl,by omega,by omega,by omega⟩ hok
end Go.Ab
