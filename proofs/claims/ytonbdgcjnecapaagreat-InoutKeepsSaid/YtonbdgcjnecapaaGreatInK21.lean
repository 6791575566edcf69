/- inout's small program that needs a global and the input. -/
import Derived.Laws.BytesString
import Derived.Test.YtonbdgcjnecapaaGreatInK14
import Derived.Test.YtonbdgcjnecapaaGreatInK16
import Derived.Test.YtonbdgcjnecapaaGreatInK17
import Derived.Test.YtonbdgcjnecapaaGreatInK19
import Derived.Test.YtonbdgcjnecapaaGreatInK20
set_option linter.all false
set_option maxRecDepth 100000
set_option maxHeartbeats 16000000
namespace Go.Ab
open Go.Proofs.Tryz
open Go.Proofs
variable {D O:List (List Str)}{f:Pr}
def R8{P:Program}{N:Nat}{g:FuncId}{args:List LV}{C:Option Nat}{s:St}{K:St->Prop}{avs:List AV}(d z:Heap)(q:List (Nat×LV))(hH:s.H=d++z)(ha:FrzL d args avs)(hsl:∀i,getS q i=getS s.sl i\/getS q i=.p .any)(h:CallK P N g (avs.map .p) C ⟨q,z⟩ K):CallK P N g args C s K:=by
 refine⟨fun σ β a w Y T hn hv=>?_⟩;obtain⟨M,E⟩:=ha.get;have m:=Y.heap;rw[hH]at m;have v:∀k,k∈d.map (·.1)->k∈(d++z).map (·.1):=fun k hk=>by rw[x6l];exact x7e _ hk
 have t:∀k,k∈z.map (·.1)->k∈(d++z).map (·.1):=fun k hk=>by rw[x6l];exact x8u _ hk
 have x:=m.nodup;rw[x6l,x8b]at x;have hr1:HRel σ β d w:=⟨m.mem,fun k c hc=>m.chunks k c (x7e _ hc),x.1,fun k hk=>m.apart k (v k hk),fun k hk y o=>m.inj k (v k hk) y (v y o)⟩;obtain⟨τ,h5,h6,h7,h8⟩:=PU hr1;have hno:∀b,owns β d b->owns β z b->False:=fun b ⟨k,hk,i,V,U⟩ ⟨y,o,i',hi',hb'⟩=>by
  have B:=m.inj k (v k hk) y (t y o) i i' V hi' b U hb';exact x.2.2 k hk y o B
 have R:Rel N τ β ⟨q,z⟩ a w:=by
  refine⟨Y.size,Y.defers,fun i=>?_,⟨h6,fun k c hc=>(m.chunks k c (x8u _ hc)).mono h5 fun _ _ _ _=>rfl,x.2.1,fun k hk i V b U=>?_,fun k hk y o=>m.inj k (t k hk) y (t y o)⟩⟩
  .rcases hsl i with B|B
   .show RepL τ β (getS q i) _;rw[B];exact(Y.G i).mono h5
   .show RepL τ β (getS q i) _;rw[B];exact .p (.any _)
  .have h9:=m.apart k (t k hk) i V b U;refine⟨?_,h9.2⟩;cases Q:τ b with
   |none=>rfl
   | some c=>
     rcases h7 b (by rw[Q];simp)with A|A
     .exact absurd h9.1 A
     .exact (hno b A ⟨k,hk,i,V,U⟩).elim
 have J:Later σ β s.H w τ β z w:=by
  rw[hH];refine⟨h5,Frm.refl _ _,fun b h0 Z=>?_,fun b ⟨k,hk,r⟩=>.inl ⟨k,t k hk,r⟩,fun _ _ _=>rfl⟩;rcases h7 b Z with h2|⟨k,hk,r⟩
  .exact absurd h0 h2
  .exact .inl ⟨k,v k hk,r⟩
 obtain⟨q1,q2⟩:=h.ok τ β a w R T (by rw[x6j,<-M];exact hn) fun j l I=>by
  rw[x6a]at I;cases Q:avs[j]?with
  |none=>rw[Q]at I;cases I
  | some c=>
    rw[Q]at I;cases I;obtain⟨l,Z,h2⟩:=E j c Q;exact .p (h8 l _ c (hv j l Z) h2)
 exact⟨q1,q2.mono fun e w' ⟨u,σ',β',s',B,hK,hr',hl'⟩=>⟨u,σ',β',s',B,hK,hr',J.trans hl'⟩⟩
def d0P:Pg:=⟨[[103]],[
 ⟨[109,97,105,110],[],[[118]],[
   .mk 1 1 [] [118] [] (.mk 1 2 [] []) false [] [] [],
   .mk 2 4 [] [] [112] (.mk 0 0 [] []) false [⟨false,[],.mk 1 3 [] []⟩,⟨true,[118],.mk 0 0 [] []⟩] [] [],
   .mk 3 3 [] [] [] (.mk 2 0 [118] []) false [] [] [],
   .mk 4 3 [] [] [] (.mk 2 0 [103] []) false [] [] []],[]⟩,
 ⟨[112],[⟨[120],false⟩,⟨[121],true⟩],[],[
   .mk 0 2 [] [120] [] (.mk 0 0 [] []) false [] [] [],
   .mk 6 5 [] [] [] (.mk 12 0 [] [.mk 2 0 [121] [],.mk 1 9 [] []]) false [] [.mk 7 10 [] [101] [] (.mk 0 0 [] []) false [] [] []] [],
   .mk 8 9 [] [] [] (.mk 2 0 [103] []) true [] [] []],[[101]]⟩]⟩
def dP:Pg:=⟨[[103]],[
 ⟨[109,97,105,110],[],[[118]],[
   .mk 1 1 [] [118] [] (.mk 1 2 [] []) false [] [] [],
   .mk 2 4 [] [] [112] (.mk 0 0 [] []) false [⟨false,[],.mk 1 3 [] []⟩,⟨true,[118],.mk 0 0 [] []⟩] [] [],
   .mk 3 3 [] [] [] (.mk 2 0 [118] []) false [] [] [],
   .mk 4 3 [] [] [] (.mk 2 0 [103] []) false [] [] []],[]⟩,
 ⟨[112],[⟨[120],false⟩,⟨[121],true⟩],[],[
   .mk 5 2 [] [120] [] (.mk 0 0 [] []) false [] [] [],
   .mk 6 5 [] [] [] (.mk 12 0 [] [.mk 2 0 [121] [],.mk 1 9 [] []]) false [] [.mk 7 10 [] [101] [] (.mk 0 0 [] []) false [] [] []] [],
   .mk 8 9 [] [] [] (.mk 2 0 [103] []) true [] [] []],[[101]]⟩]⟩
def q7m:q5h d0P=dP:=by kernel_rfl
def q3o:CopyF d0P:=by
 refine⟨by decide,by decide,fun f m=>?_⟩;have h:f=d0P.A[0]\/f=d0P.A[1]:=by simpa[d0P]using m
 have i:∀t∈flL d0P.A[0].body,okC t/\t.id ≠ -1:=by unfold okC;decide
 have l:∀t∈flL d0P.A[1].body,okC t/\t.id ≠ -1:=by unfold okC;decide
 rcases h with rfl|rfl
 .exact ⟨by decide,by decide,by decide,by decide,i⟩
 .exact ⟨by decide,by decide,by decide,by decide,l⟩
def TB{H:Heap}{k n:Nat}{e sz:Nat}{es es':List AV}(h:getH H k=some (.own e sz es))(i:n=es.length)(l:SubE es es'):Frz H (.hd k 0 n) (.sl es'):=.sub (.hd h i) (Sub.sl l)
def x0k:List AV:=(bd1.set 0 (rwS 0 2 [120] [] x0 .ff .nils .nils .nils)).set 2 (rwS 8 9 [] [] [.int .i64 2,.int .i64 0,.str [103],.nils] .tt .nils .nils .nils)
def x0j:List AV:=bd0.set 1 (rwS 2 4 [] [112] x0 .ff (.sl [.agg ([.ff,.str []]++(X.mk 1 3 [] []).cells),.agg ([.tt,.str [118]]++x0)]) .nils .nils)
def x0f:Heap:=[(1,.obj 25 [.p (.sl [.str [103]]),.hd 25 0 2]),(25,.obj 44 (prc 21 23)),(23,.own 117 13 x0k),(21,.own 117 13 x0j)]
def x5w:SubE x0j [.agg d0P.A[0].body[0].cells,.agg d0P.A[0].body[1].cells,.agg d0P.A[0].body[2].cells,.agg d0P.A[0].body[3].cells]:=by repeat' (first|exact SubL.nil|exact SubE.nil|exact Sub.nils|exact Sub.ff rfl|exact Sub.tt rfl|refine SubL.cons ?_ ?_|refine SubE.cons ?_ ?_|exact Sub.refl _|refine Sub.agg ?_|refine Sub.sl ?_)
def x5v:SubE x0k [.agg d0P.A[1].body[0].cells,.agg d0P.A[1].body[1].cells,.agg d0P.A[1].body[2].cells]:=by repeat' (first|exact SubL.nil|exact SubE.nil|exact Sub.nils|exact Sub.ff rfl|exact Sub.tt rfl|refine SubL.cons ?_ ?_|refine SubE.cons ?_ ?_|exact Sub.refl _|refine Sub.agg ?_|refine Sub.sl ?_)
def q7n:Frz x0f (.agg [.p (.sl [.str [103]]),.hd 25 0 2]) (.agg d0P.cells):=by
 have f0:Frz x0f (.hd 21 0 4) (eSs d0P.A[0].body):=TB (es:=x0j) rfl rfl x5w;have f1:Frz x0f (.hd 23 0 3) (eSs d0P.A[1].body):=TB (es:=x0k) rfl rfl x5v;have r:Frz x0f (.hd 25 0 2) (.sl (d0P.A.map fun f=>.agg f.cells)):=by
  refine Frz.hdo (sz:=5) (ls:=prc 21 23) (cs:=d0P.A[0].cells++d0P.A[1].cells) rfl rfl (fun j l c h i=>?_) rfl (fun m x q=>?_) (fun m x j c q o=>?_)
  .match j,h,i with
   |0,h,i=>cases h;cases i;exact .p (Sub.refl _)
   |1,h,i=>cases h;cases i;exact .p Sub.nils
   |2,h,i=>cases h;cases i;exact .p (Sub.refl _)
   |3,h,i=>cases h;cases i;exact f0
   |4,h,i=>cases h;cases i;exact .p Sub.nils
   |5,h,i=>cases h;cases i;exact .p (Sub.refl _)
   |6,h,i=>cases h;cases i;exact .p (by repeat' (first|exact SubL.nil|exact SubE.nil|exact Sub.nils|exact Sub.ff rfl|exact Sub.tt rfl|refine SubL.cons ?_ ?_|refine SubE.cons ?_ ?_|exact Sub.refl _|refine Sub.agg ?_|refine Sub.sl ?_))
   |7,h,i=>cases h;cases i;exact .p Sub.nils
   |8,h,i=>cases h;cases i;exact f1
   |9,h,i=>cases h;cases i;exact .p (Sub.refl _)
   |j+10,h,i=>cases h
  .match m,q with
   |0,q=>cases q;rfl
   |1,q=>cases q;rfl
   |m+2,q=>cases q
  .match m,q with
   | 0,q=>
     cases q
     match j,o with
     |0,o=>exact o
     |1,o=>exact o
     |2,o=>exact o
     |3,o=>exact o
     |4,o=>exact o
     |j+5,o=>cases o
   | 1,q=>
     cases q
     match j,o with
     |0,o=>exact o
     |1,o=>exact o
     |2,o=>exact o
     |3,o=>exact o
     |4,o=>exact o
     |j+5,o=>cases o
   |m+2,q=>cases q
 refine .agg rfl fun j l c h i=>?_
 match j,h,i with
 |0,h,i=>cases h;cases i;exact .p (Sub.refl _)
 |1,h,i=>cases h;cases i;exact r
 |j+2,h,i=>cases h
def MP:SpecP prog 70 [] (fun r=>r=.agg dP.cells):=by
 have h:=KL d0P q3o (by decide);rw[q7m]at h;refine SpecP.body ⟨VC [(5,[0]),(4,[0,1]),(3,[0,1]),(2,[0,1]),(1,[0,1]),(0,[0])],QZ [],QX []⟩ QW func70 rfl call70 (by show 0<=_;decide) ?_;conv=>whnf
 repeat' (first|((first|refine x6d rfl ?_|refine x8q 0 rfl (by decide) ?_|refine x8q 1 rfl (by decide) ?_|refine x8q 2 rfl (by decide) ?_|refine z0j 0 0 _ (rwS 0 2 [120] [] x0 .ff .nils .nils .nils) rfl rfl (by decide) rfl ?_|refine z0j 2 5 _ (rwS 8 9 [] [] [.int .i64 2,.int .i64 0,.str [103],.nils] .tt .nils .nils .nils) rfl rfl (by decide) rfl ?_|refine z0j 1 3 _ (rwS 2 4 [] [112] x0 .ff (.sl [.agg ([.ff,.str []]++(X.mk 1 3 [] []).cells),.agg ([.tt,.str [118]]++x0)]) .nils .nils) rfl rfl (by decide) rfl ?_);conv=>whnf)|(refine CallK.heap [] 20 x7h x7f q1v rfl rfl ?_;rintro l' H' ⟨rfl,rfl⟩;conv=>whnf))
 refine R8 [(1,.obj 25 [.p (.sl [.str [103]]),.hd 25 0 2]),(25,.obj 44 (prc 21 23)),(23,.own 117 13 x0k),(21,.own 117 13 x0j)] [(0,.obj 25 [.p .nils,.p .nils])] [(0,.ptr 0 0)] rfl (avs:=[.agg d0P.cells]) (.cons q7n .nil) (fun i=>by
  cases i with
  |zero=>exact .inl rfl
  |succ i=>exact .inr rfl) ?_
 refine CallK.pure h (.cons (Sub.refl _) .nil) ?_;rintro _ rfl;conv=>whnf
 repeat' (refine x6d rfl ?_;conv=>whnf)
 all_goals first
  |exact⟨_,.p (Sub.refl _),rfl⟩
  |exact RetK.p rfl
instance:DecidableRel ltT:=fun a b=>inferInstanceAs (Decidable (Op.bytesLess a b=true))
def x1c(m l:List Str):Bool:=decide (m.Pairwise ltT)&&m.all (fun s=>inS l s)&&l.all (fun s=>inS m s)
def q4c{m l:List Str}(h:x1c m l=true):WN l=m:=by
 unfold x1c at h;simp only[x7y,x7s,x8h]at h;exact(Bt h.1.1 fun s=>⟨fun i=>JG.1 (h.1.2 s i),fun i=>JG.1 (h.2 s i)⟩).symm
def q4s:List (List Str)->List (List Str)->Bool
 |[],[]=>true
 |m::ms,l::ls=>x1c m l&&q4s ms ls
 |_,_=>false
theorem Jn:∀{ms ls:List (List Str)},q4s ms ls=true->ls.map WN=ms
 |[],[],_=>rfl
 |[],_::_,h=>by cases h
 |_::_,[],h=>by cases h
 | m::ms,l::ls,h=>by
   rw[q4s,x7y]at h;rw[x7l,q4c h.1,Jn h.2]
def Jz{p:Pg}(h:q4s D ((sheetOf p).l.map fun it=>PQ (bkO p O) it.s)=true):dfB p O=D:=by
 have i:=Jn h;rw[z1s]at i;exact i
def Pv{p:Pg}{I U:List (List Str)}(h:q4s U ((sheetOf p).l.map fun it=>Vh (bkI p I) it.s)=true):usB p I=U:=by
 have i:=Jn h;rw[z1s]at i;exact i
def x4l(h:List Bool)(p:Pg)(i:Nat)(f:Pr)(D:List (List Str)):List Str:=(itsOf p i f).flatMap fun it=>bif h.getD (ixI p i f it.s.id).toNat false then(Xd D it.s.id).filter (outB p f)else []
def x4n(h:List (Int×Int))(p:Pg)(i:Nat)(f:Pr)(D U:List (List Str))(o:List Str)(x:Str):Bool:=(DS 0 (ZO (QO (cntL f.body+2) (h.filter fun t=>Z6 p i f D x t.1)).1 [0])).any (hitN p i f U o x)
def Bp{p:Pg}{i l:List Bool}{f0 f1:Pr}(m:p.A=[f0,f1])(r:(QQ p 0 f0).live=i)(s:(QQ p 1 f1).live=l)(h:q4s O [x4l i p 0 f0 D,x4l l p 1 f1 D]=true):otB p D=O:=by
 rw[<-Jn h,<-r,<-s];unfold otB;have o:prA p 0=f0:=WP (by rw[m];rfl);have q:prA p 1=f1:=WP (by rw[m];rfl);rw[m];show [otA p D 0,otA p D 1]=_;unfold otA;rw[o,q];rfl
def T1{p:Pg}{U I:List (List Str)}{x0p x0n:List (Int×Int)}{f0 f1:Pr}(i:p.A=[f0,f1])(o:GC (QQ p 0 f0) f0=x0p)(q:GC (QQ p 1 f1) f1=x0n)(h:q4s I [(p.B++[WO]).filter (x4n x0p p 0 f0 D U (O.getD 0 [])),(p.B++[WO]).filter (x4n x0n p 1 f1 D U (O.getD 1 []))]=true):niB p D U O=I:=by
 rw[<-Jn h,<-o,<-q];unfold niB;have l:prA p 0=f0:=WP (by rw[i];rfl);have m:prA p 1=f1:=WP (by rw[i];rfl);rw[i];show [niA p D U O 0,niA p D U O 1]=_;unfold niA TA;rw[l,m];rfl
def B3:Str:=[103]
def vS:Str:=[118]
def yS:Str:=[121]
def xS:Str:=[120]
def x1w:BO (QQ someP 0 f0) f0=[⟨0,1,1⟩,⟨1,2,1⟩,⟨2,3,1⟩,⟨3,4,1⟩,⟨4,-1,1⟩]:=by
 unfold BO UI;rw[q9t,q9b];exact NP (by unfold okSt;decide) (by decide) (by decide) (by decide)
def x2j:GC (QQ someP 0 f0) f0=[(0,1),(1,2),(2,3),(3,4),(4,5)]:=by
 unfold GC;rw[x1w]
 kernel_rfl
def x2k:GC (QQ someP 1 f1) f1=[(0,1),(1,2),(2,3),(2,4),(3,5),(4,5)]:=by
 unfold GC;rw[x1v]
 kernel_rfl
def x4t:(QQ someP 0 f0).live=[true,true,true,true,true,true]:=by
 unfold QQ;simp only[q9w]
 kernel_rfl
def x4s:(QQ someP 1 f1).live=[true,true,true,true,true,true]:=by
 unfold QQ;simp only[q9v]
 kernel_rfl
def sO:List (List Str):=[[B3],[yS]]
def sD0:List (List Str):=[[vS],[B3],[],[],[yS],[],[],[q5i]]
def sD:List (List Str):=[[vS],[B3,vS],[],[],[yS],[],[],[q5i]]
def sU:List (List Str):=[[],[vS],[vS],[B3],[xS,yS],[yS],[],[yS]]
def some_book:BookR someP ⟨sheetOf someP,wysB someP,sD,sU,[[],[]],sO⟩:=by
 have d0:dfB someP [[],[]]=sD0:=Jz (by kernel_rfl);have l:otB someP sD0=sO:=Bp (f0:=f0) (f1:=f1) rfl x4t x4s (by kernel_rfl);have d1:dfB someP sO=sD:=Jz (by kernel_rfl);have m:otB someP sD=sO:=Bp (f0:=f0) (f1:=f1) rfl x4t x4s (by kernel_rfl);have h:usB someP [[],[]]=sU:=Pv (by kernel_rfl);have i:niB someP sD sU sO=[[],[]]:=T1 (f0:=f0) (f1:=f1) rfl x2j x2k (by kernel_rfl);refine⟨rfl,rfl,⟨1,?_⟩,?_,d1.symm,⟨0,rfl⟩,?_,h.symm⟩
 .show sO=otB someP (dfB someP [[],[]]);rw[d0,l]
 .show otB someP (dfB someP sO)=sO;rw[d1,m]
 .show niB someP sD (usB someP [[],[]]) sO=[[],[]];rw[h,i]
def g0:Pr:=dP.A[0]'(by decide)
def g1:Pr:=dP.A[1]'(by decide)
def x1z:Fit dP:=by unfold Fit;decide
def x1x:QS dP=true:=by kernel_rfl
def q2z:WA (QG dP 0 g0)=[⟨0,1,1⟩,⟨1,2,1⟩,⟨2,3,1⟩,⟨3,4,1⟩,⟨4,-1,1⟩]:=by
 have h:QG dP 0 g0=[⟨0,1,1⟩,⟨1,2,1⟩,⟨2,3,1⟩,⟨3,4,1⟩,⟨4,-1,1⟩]:=by kernel_rfl
 rw[h];exact NP (by unfold okSt;decide) (by decide) (by decide) (by decide)
def q2w:WA (QG dP 1 g1)=[⟨0,5,1⟩,⟨5,6,1⟩,⟨6,7,1⟩,⟨6,8,1⟩,⟨7,-1,1⟩,⟨8,-1,1⟩]:=by
 have h:QG dP 1 g1=[⟨0,5,1⟩,⟨5,6,1⟩,⟨6,7,1⟩,⟨6,8,1⟩,⟨7,-1,1⟩,⟨8,-1,1⟩]:=by kernel_rfl
 rw[h];exact NP (by unfold okSt;decide) (by decide) (by decide) (by decide)
def q2v:(QQ dP 0 g0).real=[⟨0,1,1⟩,⟨1,2,1⟩,⟨2,3,1⟩,⟨3,4,1⟩,⟨4,-1,1⟩]:=q2z
def q2u:(QQ dP 1 g1).real=[⟨0,5,1⟩,⟨5,6,1⟩,⟨6,7,1⟩,⟨6,8,1⟩,⟨7,-1,1⟩,⟨8,-1,1⟩]:=q2w
def q7i:prsW (QQ dP 0 g0) g0=[(0,1),(1,2),(2,3),(3,4),(4,5)]:=by
 unfold prsW;rw[q2v]
 kernel_rfl
def q7o:prsW (QQ dP 1 g1) g1=[(0,1),(1,2),(2,3),(2,4),(3,5),(4,5)]:=by
 unfold prsW;rw[q2u]
 kernel_rfl
def q4u:trapsW (QQ dP 0 g0) g0=[]:=by
 unfold trapsW VA;rw[q7i]
 kernel_rfl
def q4y:trapsW (QQ dP 1 g1) g1=[]:=by
 unfold trapsW VA;rw[q7o]
 kernel_rfl
def q7r:BO (QQ dP 0 g0) g0=[⟨0,1,1⟩,⟨1,2,1⟩,⟨2,3,1⟩,⟨3,4,1⟩,⟨4,-1,1⟩]:=by
 unfold BO UI;rw[q4u,q2v];exact NP (by unfold okSt;decide) (by decide) (by decide) (by decide)
def q7a:GC (QQ dP 0 g0) g0=[(0,1),(1,2),(2,3),(3,4),(4,5)]:=by
 unfold GC;rw[q7r]
 kernel_rfl
def q7t:BO (QQ dP 1 g1) g1=[⟨0,5,1⟩,⟨5,6,1⟩,⟨6,7,1⟩,⟨6,8,1⟩,⟨7,-1,1⟩,⟨8,-1,1⟩]:=by
 unfold BO UI;rw[q4y,q2u];exact NP (by unfold okSt;decide) (by decide) (by decide) (by decide)
def q7e:GC (QQ dP 1 g1) g1=[(0,1),(1,2),(2,3),(2,4),(3,5),(4,5)]:=by
 unfold GC;rw[q7t]
 kernel_rfl
def x4j:(QQ dP 0 g0).live=[true,true,true,true,true,true]:=by
 unfold QQ;simp only[q2z]
 kernel_rfl
def x4k:(QQ dP 1 g1).live=[true,true,true,true,true,true]:=by
 unfold QQ;simp only[q2w]
 kernel_rfl
def tO1:List (List Str):=[[],[WO]]
def tO:List (List Str):=[[WO],[WO]]
def tD0:List (List Str):=[[vS],[],[],[],[WO,xS],[],[],[q5i]]
def tD:List (List Str):=[[vS],[WO],[],[],[WO,xS],[],[],[q5i]]
def tI1:List (List Str):=[[B3],[WO,B3]]
def tI:List (List Str):=[[WO,B3],[WO,B3]]
def tU0:List (List Str):=[[],[vS],[vS],[B3],[WO],[yS],[],[B3]]
def tU:List (List Str):=[[],[WO,B3,vS],[vS],[B3],[WO],[yS],[],[B3]]
def d_book:BookR dP ⟨sheetOf dP,wysB dP,tD,tU,tI,tO⟩:=by
 have d0:dfB dP [[],[]]=tD0:=Jz (by kernel_rfl);have o:otB dP tD0=tO1:=Bp (f0:=g0) (f1:=g1) rfl x4j x4k (by kernel_rfl);have d1:dfB dP tO1=tD:=Jz (by kernel_rfl);have i:otB dP tD=tO:=Bp (f0:=g0) (f1:=g1) rfl x4j x4k (by kernel_rfl);have d2:dfB dP tO=tD:=Jz (by kernel_rfl);have q:usB dP [[],[]]=tU0:=Pv (by kernel_rfl);have m:niB dP tD tU0 tO=tI1:=T1 (f0:=g0) (f1:=g1) rfl q7a q7e (by kernel_rfl);have r:usB dP tI1=tU:=Pv (by kernel_rfl);have h:niB dP tD tU tO=tI:=T1 (f0:=g0) (f1:=g1) rfl q7a q7e (by kernel_rfl);have l:usB dP tI=tU:=Pv (by kernel_rfl);refine⟨rfl,rfl,⟨2,?_⟩,?_,d2.symm,⟨2,?_⟩,?_,l.symm⟩
 .show tO=otB dP (dfB dP (otB dP (dfB dP [[],[]])));rw[d0,o,d1,i]
 .show otB dP (dfB dP tO)=tO;rw[d2,i]
 .show tI=niB dP tD (usB dP (niB dP tD (usB dP [[],[]]) tO)) tO;rw[q,m,r,h]
 .show niB dP tD (usB dP tI) tO=tI;rw[l,h]
def x2q:Ri someP 2=[B3,vS]:=by
 unfold Ri;rw[if_pos ⟨P7,by decide,by rw[show(sheetOf someP).l.length=8 by kernel_rfl];decide⟩,<-some_book.eq];rfl
def x2x:Th someP 5=[xS,yS]:=by
 unfold Th;rw[if_pos ⟨P7,by decide,by rw[show(sheetOf someP).l.length=8 by kernel_rfl];decide⟩,<-some_book.eq];rfl
def x2z:outsN someP [112]=[yS]:=by
 have e:Kh someP [112]=1:=by kernel_rfl
 unfold outsN;rw[e,if_pos ⟨P7,by decide⟩,<-some_book.eq];rfl
def x2w:OU dP [112]=[WO,B3]:=by
 have e:Kh dP [112]=1:=by kernel_rfl
 unfold OU;rw[e,if_pos ⟨x1x,by decide⟩,<-d_book.eq];rfl
def XP:SpecP prog 35 [] (fun r=>r=.tt):=by
 have h:=Cp someP P8 2;rw[x2q]at h;have i:=Cn someP P8 5;rw[x2x]at i;have l:=He someP P8 [112];rw[x2z]at l;have m:=Ed dP x1z [112];rw[x2w]at m;have o:=ZT [B3,vS] [B3,vS];have q:=ZT [xS,yS] [xS,yS];have s:=ZT [yS] [yS];have t:=ZT [WO,B3] [WO,B3];simp only[decide_true]at o q s t;refine sB FG func35 rfl call35 ?_;conv=>whnf
 repeat' (first|((first|refine x6d rfl ?_|refine aD ?_|refine bP ?_|refine cP Vb ?_|refine cP MP ?_|refine cP h ?_|refine cP i ?_|refine cP l ?_|refine cP m ?_|refine BsK.pureL rfl rfl ?_|refine cP o ?_|refine cP q ?_|refine cP s ?_|refine cP t ?_);conv=>whnf)|(apply bB<;>intro _<;>conv=>whnf))
 all_goals first
  |exact absurd (show true=false by assumption) (by decide)
  |exact⟨_,.p (Ag rfl),rfl⟩
  |exact RetK.tt rfl
  |exact⟨_,.p (Sub.refl _),rfl⟩
def OR{p:Pg}{n:Str}(h:KI p f n≠0):n∈p.B\/n∈V5 f:=by
 unfold KI at h;unfold V5;cases m:f.C.find? (fun a=>a.name==n)with
 | some a=>
   refine .inr (x7e _ (x6r.2 ⟨a,x9n m,by simpa using z1x m⟩))
 | none=>
   rw[m]at h;cases q:f.E.any (fun s=>n==s)with
   | true=>
     obtain⟨s,i,l⟩:=x8z.1 q;exact .inr (x8u _ (by rw[eq_of_beq l];exact i))
   | false=>
     cases o:p.B.any (fun s=>n==s)with
     | true=>
       obtain⟨s,i,l⟩:=x8z.1 o;exact .inl (by rw[eq_of_beq l];exact i)
     |false=>exact absurd (by simp only[q,o];rfl) h
section
variable {p:Pg}{j:Nat}{f:Pr}
def AX{t:S}:caO (bkO p O) t=O.getD (caI p t).toNat []:=rfl
def x0e(h:QS p=true)(q:p.A[j]?=some f){t:S}(r:t∈flL f.body):∃it,(sheetOf p).l[(t.id-1).toNat]?=some it/\it.s=t:=by
 have i:=Tz h q r;unfold O1 at i;obtain⟨it,m,o⟩:=z2v.1 i;exact⟨it,m,o⟩
def q7s(h:QS p=true)(l:p.A[j]?=some f){t:S}(m:t∈flL f.body)(O:List (List Str)):Xd (dfB p O) t.id=WN (PQ (bkO p O) t):=by
 obtain⟨it,i,rfl⟩:=x0e h l m;unfold Xd dfB;rw[x6h,x6a,i];rfl
def EI(h:QS p=true)(r:rdO p O=O)(i:p.A[j]?=some f){t:S}(o:t∈flL f.body)(x:Rch (wR p j f) 0 t.id){n:Str}(v:n∈PQ (bkO p O) t)(y:outB p f n=true):n∈O.getD j []:=by
 have m:j<p.A.length:=(x6n.1 i).1;have q:=WP i;have l:t∈(itsOf p j f).map Item.s:=by
  show t∈(itL (j:Nat) 0 (-1) 0 (QH p.A j) f.body).map Item.s;rw[BU];exact o
 obtain⟨it,w,rfl⟩:=x6r.1 l;have u:=WD (QJ h).1 i o;rw[<-r];unfold rdO;rw[Kj m,q];refine⟨it,w,?_,?_,y⟩
 .unfold lvB;rw[q];exact(S8 h i (.inr (.inr u))).2 x
 .rw [q7s h i o];exact WM.2 v
end
def Ij{p:Pg}{m:Int}(h:Fs p m=true):QS p=true:=by
 unfold Fs at h;rw[x7y]at h;exact h.1
def Qg(p:Pg)(m:Fit p)(h:Int):SpecP prog 36 [.agg p.cells,.int .i64 h] (fun r=>r=.bool (Fs p h)):=by
 refine sB BH func36 rfl call36 ?_;conv=>whnf
 have i:=J8 p m;unfold Fs;cases hc:QS p with
 | false=>
   rw[hc]at i;repeat' (first|((first|(refine iM fun _=>?_)|refine dA ?_|refine x6d rfl ?_|refine aD ?_|refine aR ?_|refine bP ?_|(refine iA fun _=>?_)|refine IdxK.xs (by omega) ?_|refine QI (by omega) ?_|(refine ByteK.at (by omega) ?_)|refine wI ?_|refine cP i ?_);conv=>whnf)|(apply bD<;>intro _<;>first|omega|conv=>whnf)|(apply bE<;>intro _<;>first|omega|conv=>whnf)|(apply bN<;>intro _<;>conv=>whnf)|(apply bB<;>intro _<;>conv=>whnf))
   all_goals first
    |contradiction
    |exact RetK.ff rfl
 | true=>
   rw[hc]at i;have l:=(XZ hc).2.2;have hT:=A1 p (by omega);repeat' (first|((first|(refine iM fun _=>?_)|refine dA ?_|refine x6d rfl ?_|refine aD ?_|refine aR ?_|refine bP ?_|(refine iA fun _=>?_)|refine IdxK.xs (by omega) ?_|refine QI (by omega) ?_|(refine ByteK.at (by omega) ?_)|refine wI ?_|refine cP i ?_|refine cP hT ?_);conv=>whnf)|(apply bD<;>intro _<;>first|omega|conv=>whnf)|(apply bE<;>intro _<;>first|omega|conv=>whnf)|(apply bN<;>intro _<;>conv=>whnf)|(apply bB<;>intro _<;>conv=>whnf))
   all_goals first
    |contradiction
    |exact RetK.bool rfl
def q5l{p:Pg}(h:QS p=true){k:Nat}(hk:p.A[k]?=some f):Kh p f.name=(k:Nat)/\outsN p f.name=(bookOf p).N.getD k []/\OU p f.name=(bookOf p).ins.getD k []:=by
 have q:f.name∈procsN p:=x6r.2 ⟨f,x7j hk,rfl⟩;obtain⟨m,i,l,_,r,o⟩:=Wa q;obtain⟨rfl,_⟩:=NN h (x6k i) hk o;have e:Kh p f.name=(m:Nat):=l;refine⟨e,?_,?_⟩
 .unfold outsN;rw[if_pos ⟨h,by omega⟩,e];rfl
 .unfold OU;rw[if_pos ⟨h,by omega⟩,e];rfl
section
variable {F:List (List Str)->List (List Str)}{n:Nat}{L O:List (List Str)}
end
def q9n{n i:Nat}{x:Str}:¬x∈(List.replicate n ([]:List Str)).getD i []:=fun h=>by
 rw[x6h,x7c]at h;split at h<;>cases h
section
variable {p:Pg}
end
section
variable {p:Pg}{j:Nat}{f:Pr}
end
mutual
theorem q9x:∀(t:S)(a b:Nat),nmS a (nmS b t)=nmS a t
 |.mk id kind F name D x has args I L,a,b=>by rw[nmS,nmS,nmS,Sj I,Sj L,J9]
theorem Sj:∀(l:List S)(a b:Nat),nmL a (nmL b l)=nmL a l
 |[],a,b=>by rw[nmL,nmL]
 |t::r,a,b=>by rw[nmL,nmL,nmL,q9x t,Sj r,AH]
end
def X00:X:=.mk 0 0 [] []
def nmX(n:Str):X:=.mk 2 0 n []
def zrS:Str:=[122,114]
def zvS(i:Nat):Str:=[122,118,UInt8.ofNat (48+i)]
def rdT(n:Str):S:=.mk 0 2 [] n [] X00 false [] [] []
def prT(n:Str):S:=.mk 0 3 [] [] [] (nmX n) false [] [] []
def A8(x:Param)(i:Nat):Arg:=if x.ref=true then⟨true,zvS i,X00⟩else⟨false,[],nmX (zvS i)⟩
def KA(l:List Param):List Arg:=(List.range l.length).map fun i=>A8 (l.getD i ⟨[],false⟩) i
def Cx(f:Pr):S:=.mk 0 4 [] zrS f.name X00 false (KA f.C) [] []
def zvL(f:Pr):List Str:=(List.range f.C.length).map zvS
def KT(p:Pg)(f:Pr):List S:=(p.B++zvL f).map rdT++Cx f::(zrS::(zvL f++p.B)).map prT
def IA(p:Pg)(f:Pr):Pr:=⟨mainS,[],zrS::zvL f,KT p f,[]⟩
def UU(p:Pg)(f g:Pr):Pr:=if g.name==mainS then IA p f else g
def Jw(p:Pg)(f:Pr):Pg:=⟨p.B,p.A.map (UU p f)⟩
def ZE(p:Pg)(f:Pr):Pg:=q5h (Jw p f)
section
variable {p:Pg}{f:Pr}
def Cu(g:Pr):(UU p f g).name=g.name:=by
 unfold UU;split
 .rename_i h;exact(eq_of_beq h).symm
 .rfl
def AC:(ZE p f).A.length=p.A.length:=by
 show(V3 0 _).length=_;rw[KG];exact x6j _
def Nc{j:Nat}{g:Pr}(h:p.A[j]?=some g):∃n,(ZE p f).A[j]?=some ⟨(UU p f g).name,(UU p f g).C,(UU p f g).E,nmL n (UU p f g).body,(UU p f g).fin⟩:=by
 have i:(Jw p f).A[j]?=some (UU p f g):=by
  show(p.A.map _)[j]?=_;rw[x6a,h];rfl
 exact⟨_,Kw _ 0 j _ i⟩
def AE:(ZE p f).A.map Pr.name=p.A.map Pr.name:=by
 refine List.ext_getElem (by rw[x6j,x6j,AC]) fun i h l=>?_;rw[x6j]at h l;obtain⟨n,m⟩:=Nc (f:=f) (x6k l);rw[x6k h]at m;rw[z0y,z0y,x8l m];exact Cu _
def RX(n:Str):idxF (fun g:Pr=>g.name==n) (ZE p f).A=idxF (fun g:Pr=>g.name==n) p.A:=by
 have key:∀l:List Pr,idxF (fun g:Pr=>g.name==n) l=idxF (fun s=>s==n) (l.map Pr.name):=fun l=>by
  unfold idxF;rw[List.any_map,List.findIdx_map];rfl
 rw[key,key,AE]
def Og(B:QS p=true)(G:QS (ZE p f)=true){j:Nat}{g:Pr}(u:p.A[j]?=some g)(R:g.name≠mainS):∀n,n∈(bookOf (ZE p f)).N.getD j []->n∈(bookOf p).N.getD j []:=by
 obtain⟨k,hk⟩:=(FN G).N;rw[hk];have H:∀k,∀(j:Nat)(g:Pr),p.A[j]?=some g->g.name≠mainS->∀n,n∈(itO (ZE p f) k).getD j []->n∈(bookOf p).N.getD j []:=fun k=>by
  induction k with
  |zero=>exact fun j g _ _ n h=>absurd h q9n
  | succ k ih=>
    intro j g u R n h;have Q:j<(ZE p f).A.length:=by rw[AC];exact(x6n.1 u).1
    obtain⟨m,o⟩:=Nc (f:=f) u;have P:UU p f g=g:=if_neg (by simpa using R);rw[P]at o;obtain⟨I,q⟩ : ∃I:Pr,I=⟨g.name,g.C,g.E,nmL m g.body,g.fin⟩:=⟨_,rfl⟩;rw[<-q]at o;have h:n∈(rdO (ZE p f) (itO (ZE p f) k)).getD j []:=h;unfold rdO at h;obtain⟨it,h1,J,i,K⟩:=(Kj Q).1 h;rw[WP o]at h1 K;have Y:it.s∈flL I.body:=JC h1;rw[q7s G o Y,WM]at i;have hl:Rch (wR (ZE p f) j I) 0 it.s.id:=by
     unfold lvB at J;rw[WP o]at J;exact(S8 G o (.inr (.inr (WD (QJ G).1 o Y)))).1 J
    have T:∀(l:List S)(a b:Nat),nmL a (nmL b l)=nmL a l:=Sj;obtain⟨t,t1,t2,t3,t4,t5,t6⟩:=q5v B G u o (by rw[q];exact T _ _ _) (by rw[q];exact J9 _ _) (by rw[q]) Y;have ho:outB p g n=true:=by
     rw[q]at K;exact K
    refine EI B (FN B).fixO u t1 (t6 hl) ?_ ho;unfold PQ at i⊢;rw[t2,t3];split at i
    .rename_i Z;rw[if_pos Z];exact i
    rename_i Z;rw[if_neg Z];split at i
    .rename_i k2;rw[if_pos k2];exact i
    rename_i k2;rw[if_neg k2];split at i
    .rename_i k9;rw[if_pos k9];exact i
    rename_i k9;rw[if_neg k9];split at i
    .rename_i k4;rw[if_pos k4];have V:t∈VJ p:=x8w.2 ⟨g,x7j u,t1⟩;obtain⟨c,u1,u2,u3,u4,u5⟩:=FL B V (by rw[t2];exact k4);have z:(prA p c).name≠mainS:=fun e=>by
      have w:=KP (QJ B).2.1 (x7j u) t1;unfold knownB at w;rw[x7y,z1q]at w;rcases w.2 with r|r
      .rw [z2q]at r;exact r (by rw[t2];exact k4)
      .rw [x7y]at r;rw[<-u4,e]at r;simp at r
     have ec:caI (ZE p f) it.s=(c:Nat):=by
      show idxF _ _=_;rw[RX,<-t4];exact u2
     obtain⟨m2,y⟩:=Nc (f:=f) (Fy u1);rw[show UU p f (prA p c)=prA p c from if_neg (by simpa using z)]at y;have M:(caP (ZE p f) it.s).C=(prA p c).C:=by
      unfold caP;rw[ec,x6h,z0d,y];rfl
     have d:(caP p t).C=(prA p c).C:=by rw[u3]
     show n∈Rs p t (caP p t) (caO (bkO p (bookOf p).N) t);have i:n∈Rs (ZE p f) it.s (caP (ZE p f) it.s) (caO (bkO (ZE p f) (itO (ZE p f) k)) it.s):=i;rw[AX,ec,z0d]at i;rw[AX,u2,z0d];have v:=ih c (prA p c) (Fy u1) z;unfold Rs at i⊢;rw[t3,t5];rcases x6s.1 i with i|i
     .refine x7e _ ?_;rcases x6s.1 i with i|i
      .exact x7e _ i
      .refine x8u _ ?_;obtain⟨x,x1,⟨x2,x3⟩,x4⟩:=Zq.1 i;rw[M]at x1;have U:n∈CF t (caP p t) ((bookOf p).N.getD c []) t.args.length:=Zq.2 ⟨x,by rw[d,t5];exact x1,⟨x2,v _ x3⟩,x4⟩;unfold CF at U⊢;rw[t5]at U⊢;exact U
     .obtain ⟨r,h6⟩:=x7o.1 i;exact x8u _ (x7o.2 ⟨v _ r,h6⟩)
    .cases i
 exact H k j g u R
end
def SO{P:Program}{T:Tab}{U:Bool}{s:St}{o:Oper}{K:LV->Prop}(hT:TabOK P T){src l:TypeId}{x:Operand}(d:o.op=.convert src l x){i j k:TyI}{e:TypeId}(Q:T.get src=some i)(h:T.get l=some j)(hk:T.get e=some k)(H:i.desc=.slice e)(I:j.desc=.string)(J:k.desc=.int .u8){n:Int}(Z:QR s.sl x=.p (.sl [.int .u8 n]))(M:K (.p (.str [UInt8.ofNat n.toNat]))):ValO P U s o K:=by
 refine⟨fun σ β B w V _=>?_⟩;have m:=QV V x;rw[Z]at m;have q:=hT.of Q;have r:=hT.of h;have t:=hT.of hk;rw[H]at q;rw[I]at r;rw[J]at t;have A:∃(b off cap:Nat) (cells:Array Value),B.eval x=.slice (some ⟨b,off,none⟩) 1 cap/\σ b=some cells/\cells[off]?=some (.int .u8 n):=by
  generalize B.eval x=v at m;cases m with
  | p m=>
    cases m with
    | sl _ b off cap sz cells u z E G Y hc g=>
      have y:=hc 0 _ 0 _ rfl rfl;have C:=g 0 _ 0 _ rfl rfl;rw[Nat.zero_mul,z0r]at y;generalize u 0 0=v at y C;cases C;exact⟨b,off,cap,cells,rfl,z,y⟩
 obtain⟨b,off,cap,cells,A,z,hc⟩:=A;refine⟨_,.string ⟨[UInt8.ofNat n.toNat].toArray⟩,M,.p (.str _ (by simp[maxLen])),fun w' R _=>?_⟩;obtain⟨te,fr,N⟩:=R b cells z;have c:(loadCells ⟨b,off,none⟩ 1).run P w'=.ok ([n].map (Value.int .u8)).toArray w':=run_loadCells_list (P:=P) w' ⟨b,off,none⟩ [Value.int .u8 n] fun j v h=>by
  match j,h with
  | 0,h=>
    cases h;show w'.cell? ⟨b,off+0,none⟩=_;simp[World.cell?,N,hc]
  |j+1,h=>simp at h
 have a:=run_bytesToString (P:=P) w' ⟨b,off,none⟩ 1 cap [n] c;simp only[execOp,d,A,convert,Sem.run_bind,run_underlying q,run_underlying r,run_underlying t,Result.andThen_ok,a];rfl
def q7q{i:Nat}(h:i<=9):(IntKind.wrap .u8 (48+(i:Int))).toNat=48+i:=by
 have:i=0\/i=1\/i=2\/i=3\/i=4\/i=5\/i=6\/i=7\/i=8\/i=9:=by omega
 rcases this with rfl|rfl|rfl|rfl|rfl|rfl|rfl|rfl|rfl|rfl<;>rfl
def Vd(i:Nat)(h:i<=9):SpecP prog 71 [.int .i64 i] (fun r=>r=.str (zvS i)):=by
 refine sB LH func71 rfl call71 ?_;conv=>whnf
 repeat' ((first|refine x6d rfl ?_|refine aD ?_|refine bP ?_|refine wI ?_|refine SO QW rfl rfl rfl rfl rfl rfl rfl rfl ?_|refine Wr.wrap ?_|refine x6d (by show 3<=maxLen;decide) ?_);conv=>whnf)
 all_goals first
  |exact RetK.p (by rw[q7q h];rfl)
def x0i{p:Pg}(y:Fit p)(hc:QS p=true):CopyF p:=by
 obtain⟨u,v,w⟩:=q6h y hc;have x:=(XZ hc).2.2;refine⟨u,v,fun f h=>?_⟩;obtain⟨o,q,r,_,s⟩:=w f h;have a:=Xh _ _ h;obtain⟨j,z,l⟩:=x8v.1 h;have i:p.A[j]?=some f:=by rw[x6k z,l]
 exact⟨o,q,r,by omega,fun t m=>⟨s t m,by have:=(WD (QJ hc).1 i m).1;omega⟩⟩
inductive RwL(k:Nat)(es:List AV):LV->LV->Prop
 |keep {l:LV} (hf:l.free k=true):RwL k es l l
 |row {n:Nat} (hn:n=es.length):RwL k es (.hd k 0 n) (.p (.sl es))
inductive RwC(k:Nat)(es:List AV):List LV->List LV->Prop
 |nil:RwC k es [] []
 |cons {l l':LV} {r r':List LV} (h:RwL k es l l') (hr:RwC k es r r'):RwC k es (l::r) (l'::r')
theorem RwC.get{k:Nat}{es:List AV}{ls i:List LV}(h:RwC k es ls i):i.length=ls.length/\∀(j:Nat)(l':LV),i[j]?=some l'->∃l,ls[j]?=some l/\RwL k es l l':=by
 induction h with
 |nil=>exact⟨rfl,by simp⟩
 | cons h q o=>
   refine⟨by simp[o.1],fun j l' m=>?_⟩;cases j with
   |zero=>simp at m;subst m;exact⟨_,rfl,h⟩
   |succ j=>exact o.2 j l' (by simpa using m)
inductive RwS(k:Nat)(es:List AV):List (Nat×LV)->List (Nat×LV)->Prop
 |nil:RwS k es [] []
 |cons {i:Nat} {l l':LV} {r r':List (Nat×LV)} (h:RwL k es l l') (hr:RwS k es r r'):RwS k es ((i,l)::r) ((i,l')::r')
theorem RwS.get{k:Nat}{es:List AV}{sl sl':List (Nat×LV)}(h:RwS k es sl sl')(i:Nat):RwL k es (getS sl i) (getS sl' i):=by
 induction h with
 |nil=>exact .keep rfl
 | @cons j l l' r q h o m=>
   simp only[getS];cases j==i
   .exact m
   .exact h
inductive RwH(k:Nat)(es:List AV):Heap->Heap->Prop
 |nil:RwH k es [] []
 |drop {e:TypeId} {sz:Nat} {es':List AV} {H H':Heap} (h:RwH k es H H'):RwH k es ((k,.own e sz es')::H) H'
 |own {j:Nat} {e:TypeId} {sz:Nat} {es':List AV} {H H':Heap} (hj:j≠k) (h:RwH k es H H'):RwH k es ((j,.own e sz es')::H) ((j,.own e sz es')::H')
 |ext {j:Nat} {d:XC} {H H':Heap} (hj:j≠k) (h:RwH k es H H'):RwH k es ((j,.ext d)::H) ((j,.ext d)::H')
 |obj {j:Nat} {e:TypeId} {cs cs':List LV} {H H':Heap} (hj:j≠k) (hc:RwC k es cs cs') (h:RwH k es H H'):RwH k es ((j,.obj e cs)::H) ((j,.obj e cs')::H')
inductive CRw(k:Nat)(es:List AV):Chunk->Chunk->Prop
 |own {e:TypeId} {sz:Nat} {es':List AV}:CRw k es (.own e sz es') (.own e sz es')
 |ext {d:XC}:CRw k es (.ext d) (.ext d)
 |obj {e:TypeId} {cs cs':List LV} (hc:RwC k es cs cs'):CRw k es (.obj e cs) (.obj e cs')
theorem RwH.get{k:Nat}{es:List AV}{H H':Heap}(h:RwH k es H H'):(H'.map (·.1)).Sublist (H.map (·.1))/\∀j c',(j,c')∈H'->j≠k/\∃c,(j,c)∈H/\CRw k es c c':=by
 induction h with
 |nil=>exact⟨.slnil,by simp⟩
 |drop h l=>exact⟨l.1.cons _,fun j c' r=>let ⟨m,c,o,q⟩:=l.2 j c' r;⟨m,c,x6b _ o,q⟩⟩
 | own r h l=>
   refine⟨l.1.cons_cons _,fun j c' i=>?_⟩;rcases x6m.1 i with t|i
   .cases t;exact⟨r,_,x6g,.own⟩
   .obtain ⟨m,c,o,q⟩:=l.2 j c' i;exact⟨m,c,x6b _ o,q⟩
 | ext r h l=>
   refine⟨l.1.cons_cons _,fun j c' i=>?_⟩;rcases x6m.1 i with t|i
   .cases t;exact⟨r,_,x6g,.ext⟩
   .obtain ⟨m,c,o,q⟩:=l.2 j c' i;exact⟨m,c,x6b _ o,q⟩
 | obj r hc h l=>
   refine⟨l.1.cons_cons _,fun j c' i=>?_⟩;rcases x6m.1 i with t|i
   .cases t;exact⟨r,_,x6g,.obj hc⟩
   .obtain ⟨m,c,o,q⟩:=l.2 j c' i;exact⟨m,c,x6b _ o,q⟩
def NW{N:Nat}{sl sl':List (Nat×LV)}{H H':Heap}{k:Nat}{e:TypeId}{sz:Nat}{es:List AV}(hg:getH H k=some (.own e sz es))(hs:RwS k es sl sl')(hh:RwH k es H H'):Le N ⟨sl,H⟩ ⟨sl',H'⟩:=fun σ β a w t=>by
 obtain⟨d,z⟩:=hh.get;have J:=d.nodup t.heap.nodup;have s:∀j∈H'.map (·.1),j∈H.map (·.1):=fun j o=>d.subset o;rcases VD.1 (t.heap.chunks k _ (QD hg))with⟨R,rfl⟩|⟨i,vs,T,hisz,hb,hn,hle',hmax,hE⟩
 .have C:∀{l l':LV}{v:Value},RwL k [] l l'->RepL σ β l v->RepL σ β l' v:=fun {l l' v} hw g=>by
   cases hw with
   |keep=>exact g
   | row hn=>
     rcases g.hdI with⟨_,_,_,he⟩|⟨i,_,hk,_⟩
     .rw [he];exact .p .nilsl
     .rw [R]at hk;cases hk
  refine⟨σ,β,⟨t.size,t.defers,fun j=>C (hs.get j) (t.G j),⟨t.heap.mem,fun j c' o=>?_,J,fun j o=>t.heap.apart j (s j o),fun j o j' U=>t.heap.inj j (s j o) j' (s j' U)⟩⟩,Mem.le_refl σ,Frm.refl _ _,fun _ h0 y=>absurd h0 y,fun b ⟨j,o,r⟩=>.inl ⟨j,s j o,r⟩,fun _ _ _=>rfl⟩;obtain⟨_,c,I,Q⟩:=z j c' o;have h:=t.heap.chunks j c I;cases Q with
  |own=>exact h
  |ext=>exact h
  | obj hc=>
    obtain⟨i',B,q1,q2,q3,q4⟩:=h;obtain⟨q5,q6⟩:=hc.get;refine⟨i',B,q1,q2,by omega,fun m l' V=>?_⟩;obtain⟨l,q7,q8⟩:=q6 m l' V;obtain⟨u,q9,A⟩:=q4 m l q7;exact⟨u,q9,C q8 A⟩
 .have C:∀τ:Mem,σ.le τ->τ i.blk=some vs->∀{l l':LV}{v:Value},RwL k es l l'->RepL σ β l v->RepL τ β l' v:=fun τ q M {l l' v} hw g=>by
   cases hw with
   |keep=>exact g.mono q
   | row Y=>
     rcases g.hdI with⟨hk,_⟩|⟨i',oo,hk,C,P,rfl⟩
     .rw [T]at hk;cases hk
     .rw [T]at hk;cases hk;have Z:oo=0:=by
       rcases P with P|P
       .simpa using P
       .omega
      subst Z Y;obtain⟨u,hu⟩ : ∃u:Nat->Nat->Value,∀(m:Nat)(x:AV)(j:Nat)(c:AV),es[m]?=some x->x.cells[j]?=some c->vs[m*sz+j]?=some (u m j)/\Rep σ c (u m j):=by
       refine⟨fun m j=>(vs[m*sz+j]?).getD undef,fun m x j c K o=>?_⟩;obtain⟨v,y,I⟩:=hE.rep m x j c K o;rw[x7i]at y;split at y
       .have E:vs[m*sz+j]?=some v:=by simpa using y
        exact⟨by simp[E],by simpa[E]using I⟩
       .cases y
      exact .p (.sl es i.blk 0 _ sz vs u M (by omega) (by omega) hE.size (fun m x j c K o=>by simpa using(hu m x j c K o).1) fun m x j c K o=>(hu m x j c K o).2.mono q)
  refine t.lay T (XY hg) hb (fun τ q M j v g=>C τ q M (hs.get j) g) (fun τ q M j c' o=>?_) J;obtain⟨y,c,I,Q⟩:=z j c' o;refine⟨y,c,I,fun h=>?_⟩;cases Q with
  |own=>exact h.mono q fun _ _ _ _=>rfl
  |ext=>exact h.mono q fun _ _ _ _=>rfl
  | obj hc=>
    obtain⟨i',B,q1,q2,q3,q4⟩:=h;obtain⟨q5,q6⟩:=hc.get;refine⟨i',B,q1,q2,by omega,fun m l' V=>?_⟩;obtain⟨l,q7,q8⟩:=q6 m l' V;obtain⟨u,q9,A⟩:=q4 m l q7;exact⟨u,q9,C τ q M q8 A⟩
theorem q3k:∀a b:List S,wL (a++b)=wL a+wL b
 |[],b=>by rw[x9z,wL,x8d]
 |s::r,b=>by rw[z0a,wL,wL,q3k r b,x9k]
theorem q9o:∀l:List Str,wL (l.map rdT)=3*l.length
 |[]=>by rw[z1u,wL];rfl
 | n::r=>by
   rw[x7l,wL,q9o r,x7g];have:wS (rdT n)=3:=rfl;omega
theorem q9i:∀l:List Str,wL (l.map prT)=3*l.length
 |[]=>by rw[z1u,wL];rfl
 | n::r=>by
   rw[x7l,wL,q9i r,x7g];have:wS (prT n)=3:=rfl;omega
theorem Lc:∀l:List Arg,(∀a∈l,wX a.x=1)->Zb l=2*l.length
 |[],_=>rfl
 | a::r,h=>by
   have i:=h a x6g;have m:=Lc r fun b o=>h b (x6b _ o);rw[Zb,i,m,x7g];omega
def q1o(x:Param)(i:Nat):wX (A8 x i).x=1:=by unfold A8;split<;>rfl
def Nk{l:List Param}{a:Arg}(h:a∈KA l):∃x i,a=A8 x i:=by
 unfold KA at h;obtain⟨i,_,rfl⟩:=x6r.1 h;exact⟨_,_,rfl⟩
def Dp(l:List Param):(KA l).length=l.length:=by unfold KA;simp
def A6(f:Pr):(zvL f).length=f.C.length:=by unfold zvL;simp
theorem q3g:∀l:List Str,La l=l.length
 |[]=>rfl
 |s::r=>by rw[La,q3g r,x7g];omega
def q8q(p:Pg)(f:Pr):wPr (IA p f)=8+9*f.C.length+6*p.B.length:=by
 have l:wS (Cx f)=3+2*f.C.length:=by
  have h:=Lc (KA f.C) fun a m=>by obtain⟨x,i,rfl⟩:=Nk m;exact q1o x i
  rw[Dp]at h;show 1+0+1+1+Zb (KA f.C)+0+0=_;rw[h];omega
 have o:=A6 f;show 1+La (zrS::zvL f)+0+0+wL (KT p f)=_;unfold KT;rw[q3g,q3k,wL,q9o,q9i,l];simp only[x6f,x7g,o];omega
def q2y(p:Pg)(f:Pr):cntL (KT p f)=2*(p.B.length+f.C.length)+2:=by
 have key:∀l:List S,(∀s∈l,XT s=1)->cntL l=l.length:=fun l=>by
  induction l with
  |nil=>intro _;rfl
  | cons s r q=>
    intro h;rw[cntL,h s x6g,q fun t m=>h t (x6b _ m),x7g];omega
 have o:=A6 f;rw[key _ fun s i=>?_]
 .unfold KT;simp only[x6f,x6j,x7g,o];omega
 .unfold KT at i;rcases x6s.1 i with i|i
  .obtain ⟨n,_,rfl⟩:=x6r.1 i;rfl
  .rcases x6m.1 i with rfl|i
   .rfl
   .obtain ⟨n,_,rfl⟩:=x6r.1 i;rfl
theorem RZ(p:Pg)(f:Pr)(w:Pr->Nat)(s:List Pr->Nat)(q:s []=0)(o:∀g r,s (g::r)=w g+s r):∀l:List Pr,(l.map Pr.name).Nodup->s (l.map (UU p f))<=s l+w (IA p f)
 |[],_=>by rw[z1u,q];omega
 | g::r,hn=>by
   rw[x7l,x8k]at hn;rw[x7l,o,o];by_cases m:g.name=mainS
   .have e:r.map (UU p f)=r:=by
     have t:r.map (UU p f)=r.map id:=z2n fun h v=>by
      unfold UU;rw[if_neg fun u=>hn.1 (by rw[m,<-eq_of_beq u];exact z0h v)];rfl
     rw[t,List.map_id]
    have i:UU p f g=IA p f:=if_pos (by rw[m];exact x8f _);rw[e,i];omega
   .have i:UU p f g=g:=if_neg (by simpa using m);have:=RZ p f w s q o r hn.2;rw[i];omega
def Sn{p:Pg}(hc:QS p=true):(p.A.map Pr.name).Nodup:=by
 obtain⟨_,i,_⟩:=QJ hc;obtain⟨_,h,_⟩:=WX i;unfold ZX at h;simp only[z0e]at h;exact Yg h.2.1
mutual
theorem x0q:∀(t:S)(n:Nat),wS (nmS n t)=wS t
 |.mk id kind F name D x has args I L,n=>by rw[nmS,wS,wS,SF I,SF L]
theorem SF:∀(l:List S)(n:Nat),wL (nmL n l)=wL l
 |[],n=>by rw[nmL]
 |t::r,n=>by rw[nmL,wL,wL,x0q t,SF r]
end
theorem IN:∀(l:List Pr)(n:Nat),A4 (V3 n l)=A4 l
 |[],n=>rfl
 | g::r,n=>by
   rw[V3,A4,A4,IN r];show 1+La g.E+La g.fin+q1n g.C+wL (nmL n g.body)+_=_;rw[SF];rfl
section
variable {p:Pg}{f:Pr}{k:Nat}(hc:QS p=true)(hk:p.A[k]? = some f)
include hc hk
def AI:wPr (IA p f)<=1000:=by
 have h:=(XZ hc).1;have i:f.C.length<=8:=((ZG (QJ hc).1).pr f (x7j hk)).1;rw[q8q];omega
def AS(o:gPg p<=20000):Fit (ZE p f):=by
 have h:=RZ p f wPr A4 rfl (fun g r=>rfl) p.A (Sn hc);have i:=AI hc hk;have l:=x0z p;show La p.B+A4 (V3 0 (p.A.map (UU p f)))<=21000;rw[IN];have m:wPg p=La p.B+A4 p.A:=rfl;omega
def q4v:cntP (Jw p f).A<=100000:=by
 have h:=RZ p f (fun g=>cntL g.body) cntP rfl (fun g r=>rfl) p.A (Sn hc);have i:=(XZ hc).1;have l:=(XZ hc).2.2;have m:f.C.length<=8:=((ZG (QJ hc).1).pr f (x7j hk)).1;have o:=q2y p f;show cntP (p.A.map (UU p f))<=_;have q:cntL (IA p f).body=cntL (KT p f):=rfl;omega
def Ok(y:CopyF p):CopyF (Jw p f):=by
 have G:=(XZ hc).1;have H:f.C.length<=8:=((ZG (QJ hc).1).pr f (x7j hk)).1;refine⟨by show(p.A.map _).length<=_;rw[x6j];exact y.A,y.B,fun g d=>?_⟩;obtain⟨g0,w,rfl⟩:=x6r.1 (show g∈p.A.map (UU p f)from d);by_cases z:g0.name=mainS
 .rw [show UU p f g0=IA p f from if_pos (by rw[z];exact x8f _)];have J:=A6 f;refine⟨by show(zrS::zvL f).length<=_;rw[x7g];omega,by show(0:Nat)<=_;omega,by show(0:Nat)<=_;omega,by show cntL (KT p f)<=_;rw[q2y];omega,fun t o=>?_⟩;have key:∀l:List S,(∀s∈l,s.I=[]/\s.L=[])->∀t∈flL l,t∈l:=fun l=>by
   induction l with
   |nil=>intro _ t h;rw[flL]at h;cases h
   | cons s r E=>
     intro h t o;obtain⟨b,c⟩:=h s x6g;rw[flL,TK,b,c,flL]at o;rcases x6s.1 o with o|o
     .rcases x6m.1 o with rfl|o
      .exact x6g
      .cases o
     .exact x6b _ (E (fun u e=>h u (x6b _ e)) t o)
  have v:∀s∈KT p f,(s.I=[]/\s.L=[])/\okC s/\s.id ≠ -1:=fun s m=>by
   unfold KT at m;rcases x6s.1 m with m|m
   .obtain ⟨n,_,rfl⟩:=x6r.1 m;exact⟨⟨rfl,rfl⟩,⟨by show 1<=_;omega,by show(0:Nat)<=_;omega,by show(0:Nat)<=_;omega,fun a q=>by cases q⟩,by show(0:Int) ≠ -1;decide⟩
   .rcases x6m.1 m with rfl|m
    .refine ⟨⟨rfl,rfl⟩,⟨by show 1<=_;omega,by show(0:Nat)<=_;omega,by show(KA f.C).length<=_;rw[Dp];omega,fun a q=>?_⟩,by show(0:Int) ≠ -1;decide⟩;obtain⟨x,i,rfl⟩:=Nk (show a∈KA f.C from q);rw[q1o];omega
    .obtain ⟨n,_,rfl⟩:=x6r.1 m;exact⟨⟨rfl,rfl⟩,⟨by show 1<=_;omega,by show(0:Nat)<=_;omega,by show(0:Nat)<=_;omega,fun a q=>by cases q⟩,by show(0:Int) ≠ -1;decide⟩
  exact(v t (key _ (fun s m=>(v s m).1) t o)).2
 .rw [show UU p f g0=g0 from if_neg (by simpa using z)];exact y.pr g0 w
end
def GS(p:Pg):SpecP prog 37 [.agg p.cells,.str mainS] (fun r=>r=.tup [.agg [.nils,.nils],.ff]):=by
 refine sB UO func37 rfl call37 ?_;conv=>whnf
 have h:=VK p mainS;generalize(Ga p mainS).1=g at*
 generalize(Ga p mainS).2=ok at*
 cases ok;all_goals
  repeat' (first|((first|(refine iM fun _=>?_)|refine dA ?_|refine x6d rfl ?_|refine aD ?_|refine aR ?_|refine bP ?_|(refine iA fun _=>?_)|refine IdxK.xs (by omega) ?_|refine QI (by omega) ?_|(refine ByteK.at (by omega) ?_)|refine wI ?_|refine cP h ?_);conv=>whnf)|(apply bD<;>intro _<;>first|omega|conv=>whnf)|(apply bE<;>intro _<;>first|omega|conv=>whnf)|(apply bN<;>intro _<;>conv=>whnf)|(apply bB<;>intro _<;>conv=>whnf))
  all_goals first
   |contradiction
   |exact⟨_,.p (Sub.refl _),rfl⟩
   |(exfalso;simp_all;done)
def dvB(p:Pg)(f:Pr)(i j:Nat):List AV:=S.avs (((p.B.take i)++(zvL f).take j).map rdT)
def dvV(f:Pr)(j:Nat):List AV:=(zrS::(zvL f).take j).map AV.str
def dvA(f:Pr)(j:Nat):List AV:=((KA f.C).take j).map fun a=>AV.agg a.cells
def dvT(p:Pg)(f:Pr)(j i:Nat):List AV:=S.avs ((zrS::((zvL f).take j++p.B.take i)).map prT)
def dvM(h nb:Nat)(b:LV):List LV:=[.p (.str mainS),.p .nils,.hd 0 0 h,b,.p .nils]
def dvC(f:Pr)(a:LV):List LV:=[.p (.int .i64 0),.p (.int .i64 4),.p .nils,.p (.str zrS),.p (.str f.name),.p (.int .i64 0),.p (.int .i64 0),.p (.str []),.p .nils,.p .ff,a,.p .nils,.p .nils]
def IS{j:Nat}(h:j<f.C.length):(zvL f).take (j+1)=(zvL f).take j++[zvS j]:=by
 have i:j<(zvL f).length:=by rw[A6];exact h
 rw[x7x i];congr 2;unfold zvL at i⊢;rw[z0y,List.getElem_range]
def x1h{p:Pg}{i:Nat}(h:i<p.B.length):dvB p f (i+1) 0=dvB p f i 0++[.agg (rdT p.B[i]).cells]:=by
 unfold dvB;rw[x7x h,z0t,x8x,x8x,S.avs_eq,S.avs_eq,x6l,x6l];rfl
def x1f{p:Pg}{i j:Nat}(h:j<f.C.length):dvB p f i (j+1)=dvB p f i j++[.agg (rdT (zvS j)).cells]:=by
 unfold dvB;rw[IS h,<-x7n,S.avs_eq,S.avs_eq,x6l,x6l];rfl
def x1p{j:Nat}(h:j<f.C.length):dvV f (j+1)=dvV f j++[.str (zvS j)]:=by
 unfold dvV;rw[IS h,<-z0a,x6l];rfl
def x1k{j:Nat}(h:j<f.C.length):dvA f (j+1)=dvA f j++[.agg (A8 f.C[j] j).cells]:=by
 have i:j<(KA f.C).length:=by rw[Dp];exact h
 unfold dvA;have l:(KA f.C)[j]=A8 f.C[j] j:=by
  unfold KA at i⊢;rw[z0y,List.getElem_range,x6h,x6k h];rfl
 rw[x7x i,x6l,l];rfl
def x1b{p:Pg}{j:Nat}(h:j<f.C.length):dvT p f (j+1) 0=dvT p f j 0++[.agg (prT (zvS j)).cells]:=by
 unfold dvT;rw[IS h,z0t,x8x,x8x,<-z0a,S.avs_eq,S.avs_eq,x6l,x6l];rfl
def x1d{p:Pg}{j i:Nat}(h:i<p.B.length):dvT p f j (i+1)=dvT p f j i++[.agg (prT p.B[i]).cells]:=by
 unfold dvT;rw[x7x h,<-x7n,<-z0a,S.avs_eq,S.avs_eq,x6l,x6l];rfl
def x1g(p:Pg)(f:Pr):dvB p f 0 0=[]:=by unfold dvB;rw[S.avs_eq];rfl
def q8z(p:Pg)(f:Pr):dvT p f 0 0=[.agg (prT zrS).cells]:=by unfold dvT;rw[S.avs_eq];rfl
def q8w(f:Pr):dvV f 0=[.str zrS]:=rfl
def x1j(f:Pr):dvA f 0=[]:=rfl
def RW(p:Pg)(f:Pr)(i j:Nat):(dvB p f i j).length<=i+j:=by unfold dvB;rw[S.avs_eq];simp;omega
def RV(p:Pg)(f:Pr)(j i:Nat):(dvT p f j i).length<=j+i+1:=by unfold dvT;rw[S.avs_eq];simp;omega
def q4k(f:Pr)(j:Nat):(dvV f j).length<=j+1:=by unfold dvV;simp;omega
def q4j(f:Pr)(j:Nat):(dvA f j).length<=j:=by unfold dvA;simp;omega
def Vu{a b:List AV}(h:SubL a b):∀(j:Nat)(c':AV),b[j]?=some c'->∃c,a[j]?=some c/\Sub c c':=fun _ _ hc=>h.get hc
def dvN(v b:LV):List LV:=[.p (.str mainS),.p .nils,v,b,.p .nils]
def prN(n:Str):List AV:=[.int .i64 0,.int .i64 3,.nils,.str [],.str [],.int .i64 2,.int .i64 0,.str n,.nils,.ff,.nils,.nils,.nils]
def rdN(n:Str):List AV:=[.int .i64 0,.int .i64 2,.nils,.str n,.str [],.int .i64 0,.int .i64 0,.str [],.nils,.ff,.nils,.nils,.nils]
def agN(b:Bool)(n:Str):List AV:=bif b then [.tt,.str n,.int .i64 0,.int .i64 0,.str [],.nils]else [.ff,.str [],.int .i64 2,.int .i64 0,.str n,.nils]
theorem ElS.pr(es:List AV)(n:Str):ElS (es++[.agg (prN n)]) (es++[.agg (prT n).cells]):=
 ElS.snoc (ElS.refl es) rfl (Vu (by unfold prN;repeat' first|exact Sub.refl _|exact Sub.nils|exact Sub.ff rfl|apply SubL.cons|exact SubL.nil))
theorem ElS.rd(es:List AV)(n:Str):ElS (es++[.agg (rdN n)]) (es++[.agg (rdT n).cells]):=
 ElS.snoc (ElS.refl es) rfl (Vu (by unfold rdN;repeat' first|exact Sub.refl _|exact Sub.nils|exact Sub.ff rfl|apply SubL.cons|exact SubL.nil))
theorem ElS.ag(es:List AV)(x:Param)(j:Nat):ElS (es++[.agg (agN x.ref (zvS j))]) (es++[.agg (A8 x j).cells]):=by
 unfold A8;cases i:x.ref with
 | true=>
   rw[if_pos rfl];exact ElS.snoc (ElS.refl es) rfl (Vu (by unfold agN;rw[x7z];repeat' first|exact Sub.refl _|exact Sub.nils|exact Sub.tt rfl|apply SubL.cons|exact SubL.nil))
 | false=>
   rw[if_neg (by decide)];exact ElS.snoc (ElS.refl es) rfl (Vu (by unfold agN;rw[x7k];repeat' first|exact Sub.refl _|exact Sub.nils|exact Sub.ff rfl|apply SubL.cons|exact SubL.nil))
def caN(f:Pr):List AV:=[.int .i64 0,.int .i64 4,.nils,.str zrS,.str f.name,.int .i64 0,.int .i64 0,.str [],.nils,.ff,.sl (dvA f f.C.length),.nils,.nils]
def q3p{a o b q:List AV}(h:ElS a o)(k:ElS b q):ElS (a++b) (o++q):=by
 refine⟨by rw[x6f,x6f,h.1,k.1],fun m y l=>?_⟩;rcases x6c m o.length with i|i
 .rw [x7b i]at l;rw[x7b (by rw[<-h.1];exact i)];exact h.2 m y l
 .rw [x7d i]at l;rw[x7d (by rw[<-h.1];exact i),<-h.1];exact k.2 _ y l
def q7u(f:Pr)(a b:List AV):ElS (a++[.agg (caN f)]++b) (a++[.agg (Cx f).cells]++b):=by
 have e:(Cx f).cells=[.int .i64 0,.int .i64 4,.sl [],.str zrS,.str f.name,.int .i64 0,.int .i64 0,.str [],.sl [],.bool false,.sl (dvA f f.C.length),.sl [],.sl []]:=by
  unfold dvA;rw[x7w (by rw[Dp];exact x7u _)];rfl
 rw[e];exact q3p (ElS.snoc (ElS.refl a) rfl (Vu (by unfold caN;repeat' first|exact Sub.refl _|exact Sub.nils|exact Sub.ff rfl|apply SubL.cons|exact SubL.nil))) (ElS.refl b)
def q8v(p:Pg)(f:Pr):dvB p f p.B.length f.C.length++[.agg (Cx f).cells]++dvT p f f.C.length p.B.length=S.avs (KT p f):=by
 unfold dvB dvT;rw[x7w (x7u _),x7w (Nat.le_of_eq (A6 f)),S.avs_eq,S.avs_eq,S.avs_eq];unfold KT;simp only[x6l,x7l,x7n,z0a,x9z]
def VZ(p:Pg)(f:Pr)(j:Nat):List Pr:=(p.A.take j).map (UU p f)++p.A.drop j
def Hg(p:Pg)(f:Pr){j:Nat}(h:j<=p.A.length):(VZ p f j).length=p.A.length:=by
 unfold VZ;rw[x6f,x6j,x7m,x9x];omega
def Cy(p:Pg)(f:Pr){j:Nat}(h:j<p.A.length):(VZ p f j)[j]?=some p.A[j]:=by
 unfold VZ;rw[x7d (by rw[x6j,x7m];omega),x6j,x7m,x8t];rw[show j+(j-min j p.A.length)=j by omega,x6k h]
def RQ(p:Pg)(f:Pr){j:Nat}(h:j<p.A.length):VZ p f (j+1)=(VZ p f j).set j (UU p f p.A[j]):=by
 unfold VZ;have i:((p.A.take j).map (UU p f)).length=j:=by rw[x6j,x7m];omega
 rw[List.set_append_right _ _ (by omega),i,z1d,x7t h,List.set_cons_zero,x7x h,x6l];simp
def O4{es:List AV}{j:Nat}{x q:AV}(s:q.cells.length=x.cells.length)(hc:∀(i:Nat)(c':AV),q.cells[i]?=some c'->∃c,x.cells[i]?=some c/\Sub c c'):ElS (es.set j x) (es.set j q):=by
 refine⟨by simp,fun m y l=>?_⟩;rw[x9r]at l⊢;split at l
 .rename_i h;split at l
  .cases l;rename_i r;exact⟨x,by rw[if_pos h,if_pos r],s,hc⟩
  .cases l
 .rename_i h;exact⟨y,by rw[if_neg h];exact l,rfl,fun i c' o=>⟨c',o,Sub.refl _⟩⟩
def MN(p:Pg)(hf:Fit p)(hc:QS p=true)(hg:gPg p<=20000)(k:Nat)(f:Pr)(hk:p.A[k]?=some f)(hm:f.name≠mainS):SpecP prog 37 [.agg p.cells,.str f.name] (fun r=>r=.tup [.agg (ZE p f).cells,.bool (QS (ZE p f))]):=by
 refine sB UO func37 rfl call37 ?_;conv=>whnf
 obtain⟨k',hk',hw⟩:=q1l hc (x7j hk);obtain⟨rfl,_⟩:=NN hc hk' hk rfl;have U:=VK p f.name;rw[(L9 hw hk).2]at U;simp only at U;have hpl:f.C.length<=8:=((ZG (QJ hc).1).pr f (x7j hk)).1;have hgl:=(XZ hc).1;have hmb:(f.name==[109,97,105,110])=false:=by simpa using(show ¬f.name=[109,97,105,110]from hm)
 have hpm:(f.C.map fun x=>AV.agg x.cells).length=f.C.length:=x6j _;have hgm:(p.B.map AV.str).length=p.B.length:=x6j _;repeat' (first|((first|(refine iM fun _=>?_)|refine dA ?_|refine x6d rfl ?_|refine aD ?_|refine aR ?_|(refine iA fun _=>?_)|refine IdxK.xs (by omega) ?_|refine QI (by omega) ?_|(refine ByteK.at (by omega) ?_)|refine wI ?_|refine cP U ?_|refine z1c (fun x m=>by rcases x6p.1 m with rfl;rfl) rfl ?_);conv=>whnf)|(apply bD<;>intro _<;>first|omega|conv=>whnf)|(apply bE<;>intro _<;>first|omega|conv=>whnf)|(apply bN<;>intro _<;>conv=>whnf)|(apply bB<;>intro _<;>conv=>whnf))
 all_goals try contradiction
 all_goals try (exfalso;omega)
 all_goals try (exfalso;simp_all;done)
 refine LoopK.inv QW (fun i:Nat=>⟨[(2,.p (.ip p.cells)),(4,.ptr 1 0),(6,.p (.ip f.cells)),(8,.ptr 2 0),(9,.ptr 3 0),(10,.hd 4 0 1),(47,.p (eStrs p.B)),(48,.p (.int .i64 (p.B.map AV.str).length)),(49,.p (.int .i64 i))],[(4,.own 117 13 (dvT p f 0 0)),(3,.obj 117 (dvC f (.p .nils))),(2,.obj 44 (dvM 1 0 (.hd 5 0 (dvB p f i 0).length))),(0,.own 9 1 (dvV f 0)),(1,.obj 25 [.p .nils,.p .nils]),(5,.own 117 13 (dvB p f i 0))]⟩) (fun i=>i<=p.B.length) (fun i=>p.B.length-i) 0
  (by
    rw[x1g,q8z,q8w];exact(Le.mk [(5,.own 117 13 [])] (by simp[Chunk.new0];rfl) (by simp) (by simp) (.r (.r (.r (.r (.r (.r (.r (.r (.r .nil))))))))) (.cons rfl (.refl _) (.cons rfl (.refl _) (.cons rfl (.obj (.r (.r (.r (.cons (.nil x6g) (.r .nil)))))) (.cons rfl (.refl _) (.cons rfl (.refl _) (.new x6g .nil))))))).trans (Le.L (.L (ElS.pr [] zrS) (.same (.same (.same (.same (.same .nil)))))))) (x6t _) ?_
 intro i hi;rcases x6c i p.B.length with K|K
 .have P:=x1h (f:=f) K;have c:=RW p f i 0;generalize dvB p f i 0=accB at*
  conv=>whnf
  repeat' (first|((first|(refine iM fun _=>?_)|refine dA ?_|refine x6d rfl ?_|refine aD ?_|refine aR ?_|refine bP ?_|(refine iA fun _=>?_)|refine IdxK.xs (by omega) ?_|refine QI (by omega) ?_|(refine ByteK.at (by omega) ?_)|refine wI ?_|refine x8e (es:=accB) rfl rfl (by show(accB.length+1)*208<=140737488355328;omega) (by show accB.length+1<=9223372036854775807;omega) (fun x m=>by rcases x6p.1 m with rfl;exact⟨rfl,rfl⟩) ?_);conv=>whnf)|(apply bD<;>intro _<;>first|omega|conv=>whnf)|(apply bE<;>intro _<;>first|omega|conv=>whnf)|(apply bN<;>intro _<;>conv=>whnf)|(apply bB<;>intro _<;>conv=>whnf))
  all_goals first
   |exact⟨i+1,K,by omega,(Le.L (.same (.same (.same (.same (.same (.L (ElS.rd accB _) .nil))))))).trans (Le.of_eq (by rw[P,x6f];rfl))⟩
 obtain rfl:i=p.B.length:=by omega
 conv=>whnf
 repeat' (first|((first|(refine iM fun _=>?_)|refine dA ?_|refine x6d rfl ?_|refine aD ?_|refine aR ?_|refine bP ?_|(refine iA fun _=>?_)|refine IdxK.xs (by omega) ?_|refine QI (by omega) ?_|(refine ByteK.at (by omega) ?_)|refine wI ?_);conv=>whnf)|(apply bD<;>intro _<;>first|omega|conv=>whnf)|(apply bE<;>intro _<;>first|omega|conv=>whnf)|(apply bN<;>intro _<;>conv=>whnf)|(apply bB<;>intro _<;>conv=>whnf))
 refine LoopK.inv QW (fun j:Nat=>⟨[(2,.p (.ip p.cells)),(4,.ptr 1 0),(8,.ptr 2 0),(9,.ptr 3 0),(10,.hd 4 0 (dvT p f j 0).length),(62,.p (.sl (f.C.map fun x=>AV.agg x.cells))),(63,.p (.int .i64 (f.C.map fun x=>AV.agg x.cells).length)),(64,.p (.int .i64 j))],[(4,.own 117 13 (dvT p f j 0)),(3,.obj 117 (dvC f (.hd 6 0 (dvA f j).length))),(2,.obj 44 (dvM (dvV f j).length 0 (.hd 5 0 (dvB p f p.B.length j).length))),(0,.own 9 1 (dvV f j)),(1,.obj 25 [.p .nils,.p .nils]),(5,.own 117 13 (dvB p f p.B.length j)),(6,.own 138 6 (dvA f j))]⟩) (fun j=>j<=f.C.length) (fun j=>f.C.length-j) 0
  (by
    rw[q8z,q8w,x1j];exact Le.mk [(6,.own 138 6 [])] (by simp[Chunk.new0];rfl) (by simp) (by simp) (.r (.r (.r (.r (.r (.r (.r (.r .nil)))))))) (.cons rfl (.refl _) (.cons rfl (.obj (.r (.r (.r (.r (.r (.r (.r (.r (.r (.r (.cons (.nil x6g) (.r (.r .nil)))))))))))))) (.cons rfl (.refl _) (.cons rfl (.refl _) (.cons rfl (.refl _) (.cons rfl (.refl _) (.new x6g .nil)))))))) (x6t _) ?_
 intro j hj;rcases x6c j f.C.length with w|w
 .have hB:=x1f (p:=p) (i:=p.B.length) w;have hV:=x1p w;have N:=x1k w;have hT:=x1b (p:=p) w;have lB:=RW p f p.B.length j;have lV:=q4k f j;have lA:=q4j f j;have lT:=RV p f j 0;have T:=Vd j (by omega);have eg:(f.C.map fun x=>AV.agg x.cells)[j]?=some (.agg f.C[j].cells):=by rw[x6a,x6k w];rfl
  generalize dvB p f p.B.length j=accB at*
  generalize dvV f j=accV at*
  have E:=ElS.ag (dvA f j) f.C[j] j;generalize dvA f j=accA at*
  generalize dvT p f j 0=accT at*
  generalize f.C[j]=x at*
  generalize(f.C.map fun x=>AV.agg x.cells)=ps at*
  cases hr:x.ref;all_goals
   rw[hr]at E;conv=>whnf
   repeat' (first|((first|(refine iM fun _=>?_)|refine dA ?_|refine x6d rfl ?_|refine aD ?_|refine aR ?_|refine bP ?_|(refine iA fun _=>?_)|refine IdxK.xs (by omega) ?_|refine QI (by omega) ?_|(refine ByteK.at (by omega) ?_)|refine wI ?_|refine cP T ?_|refine QP (es:=accV) rfl (by omega) ?_|refine x8e (es:=accB) rfl rfl (by show(accB.length+1)*208<=140737488355328;omega) (by show accB.length+1<=9223372036854775807;omega) (fun x m=>by rcases x6p.1 m with rfl;exact⟨rfl,rfl⟩) ?_|refine x8e (es:=accT) rfl rfl (by show(accT.length+1)*208<=140737488355328;omega) (by show accT.length+1<=9223372036854775807;omega) (fun x m=>by rcases x6p.1 m with rfl;exact⟨rfl,rfl⟩) ?_|refine x8e (es:=accA) rfl rfl (by show(accA.length+1)*80<=140737488355328;omega) (by show accA.length+1<=9223372036854775807;omega) (fun x m=>by rcases x6p.1 m with rfl;exact⟨rfl,rfl⟩) ?_);conv=>whnf)|(apply bD<;>intro _<;>first|omega|conv=>whnf)|(apply bE<;>intro _<;>first|omega|conv=>whnf)|(apply bN<;>intro _<;>conv=>whnf)|(apply bB<;>intro _<;>conv=>whnf)|(refine IdxK.at (k:=j) rfl eg rfl ?_;conv=>whnf))
   all_goals first
    |contradiction
    |exact absurd (hr.symm.trans (by assumption)) (by decide)
    |exact⟨j+1,w,by omega,(Le.L (.L (ElS.pr accT _) (.same (.same (.same (.same (.L (ElS.rd accB _) (.L E .nil)))))))).trans (Le.of_eq (by rw[hB,hV,N,hT];simp only[x6f];rfl))⟩
 obtain rfl:j=f.C.length:=by omega
 conv=>whnf
 repeat' (first|((first|(refine iM fun _=>?_)|refine dA ?_|refine x6d rfl ?_|refine aD ?_|refine aR ?_|refine bP ?_|(refine iA fun _=>?_)|refine IdxK.xs (by omega) ?_|refine QI (by omega) ?_|(refine ByteK.at (by omega) ?_)|refine wI ?_);conv=>whnf)|(apply bD<;>intro _<;>first|omega|conv=>whnf)|(apply bE<;>intro _<;>first|omega|conv=>whnf)|(apply bN<;>intro _<;>conv=>whnf)|(apply bB<;>intro _<;>conv=>whnf))
 refine LoopK.inv QW (fun i:Nat=>⟨[(2,.p (.ip p.cells)),(4,.ptr 1 0),(8,.ptr 2 0),(9,.ptr 3 0),(10,.hd 4 0 (dvT p f f.C.length i).length),(109,.p (eStrs p.B)),(110,.p (.int .i64 (p.B.map AV.str).length)),(111,.p (.int .i64 i))],[(4,.own 117 13 (dvT p f f.C.length i)),(3,.obj 117 (dvC f (.p (.sl (dvA f f.C.length))))),(2,.obj 44 (dvN (.p (.sl (dvV f f.C.length))) (.hd 5 0 (dvB p f p.B.length f.C.length).length))),(1,.obj 25 [.p .nils,.p .nils]),(5,.own 117 13 (dvB p f p.B.length f.C.length))]⟩) (fun i=>i<=p.B.length) (fun i=>p.B.length-i) 0
  ((NW (k:=6) rfl (.cons (.keep rfl) (.cons (.keep rfl) (.cons (.keep rfl) (.cons (.keep rfl) (.cons (.keep rfl) (.cons (.keep rfl) (.cons (.keep rfl) (.cons (.keep rfl) .nil)))))))) (.own (by decide) (.obj (by decide) (.cons (.keep rfl) (.cons (.keep rfl) (.cons (.keep rfl) (.cons (.keep rfl) (.cons (.keep rfl) (.cons (.keep rfl) (.cons (.keep rfl) (.cons (.keep rfl) (.cons (.keep rfl) (.cons (.keep rfl) (.cons (.row rfl) (.cons (.keep rfl) (.cons (.keep rfl) .nil))))))))))))) (.obj (by decide) (.cons (.keep rfl) (.cons (.keep rfl) (.cons (.keep rfl) (.cons (.keep rfl) (.cons (.keep rfl) .nil))))) (.own (by decide) (.obj (by decide) (.cons (.keep rfl) (.cons (.keep rfl) .nil)) (.own (by decide) (.drop .nil)))))))).trans
    (NW (k:=0) rfl (.cons (.keep rfl) (.cons (.keep rfl) (.cons (.keep rfl) (.cons (.keep rfl) (.cons (.keep rfl) (.cons (.keep rfl) (.cons (.keep rfl) (.cons (.keep rfl) .nil)))))))) (.own (by decide) (.obj (by decide) (.cons (.keep rfl) (.cons (.keep rfl) (.cons (.keep rfl) (.cons (.keep rfl) (.cons (.keep rfl) (.cons (.keep rfl) (.cons (.keep rfl) (.cons (.keep rfl) (.cons (.keep rfl) (.cons (.keep rfl) (.cons (.keep rfl) (.cons (.keep rfl) (.cons (.keep rfl) .nil))))))))))))) (.obj (by decide) (.cons (.keep rfl) (.cons (.keep rfl) (.cons (.row rfl) (.cons (.keep rfl) (.cons (.keep rfl) .nil))))) (.drop (.obj (by decide) (.cons (.keep rfl) (.cons (.keep rfl) .nil)) (.own (by decide) .nil)))))))) (x6t _) ?_
 intro i hi;rcases x6c i p.B.length with M|M
 .have hTi:=x1d (f:=f) (j:=f.C.length) M;have hTl:=RV p f f.C.length i;generalize dvT p f f.C.length i=accT at*
  conv=>whnf
  repeat' (first|((first|(refine iM fun _=>?_)|refine dA ?_|refine x6d rfl ?_|refine aD ?_|refine aR ?_|refine bP ?_|(refine iA fun _=>?_)|refine IdxK.xs (by omega) ?_|refine QI (by omega) ?_|(refine ByteK.at (by omega) ?_)|refine wI ?_|refine x8e (es:=accT) rfl rfl (by show(accT.length+1)*208<=140737488355328;omega) (by show accT.length+1<=9223372036854775807;omega) (fun x m=>by rcases x6p.1 m with rfl;exact⟨rfl,rfl⟩) ?_);conv=>whnf)|(apply bD<;>intro _<;>first|omega|conv=>whnf)|(apply bE<;>intro _<;>first|omega|conv=>whnf)|(apply bN<;>intro _<;>conv=>whnf)|(apply bB<;>intro _<;>conv=>whnf))
  all_goals first
   |exact⟨i+1,M,by omega,(Le.L (.L (ElS.pr accT _) (.same (.same (.same (.same .nil)))))).trans (Le.of_eq (by rw[hTi,x6f];rfl))⟩
 obtain rfl:i=p.B.length:=by omega
 have lB:=RW p f p.B.length f.C.length;have lT:=RV p f f.C.length p.B.length;have hTe:∀x∈dvT p f f.C.length p.B.length,∃s:S,x=.agg s.cells:=fun x m=>by
  unfold dvT at m;rw[S.avs_eq]at m;obtain⟨s,_,rfl⟩:=x6r.1 m;exact⟨s,rfl⟩
 have a:=q8v p f;have d:=x0i hf hc;have Q:=FX p d;generalize dvT p f f.C.length p.B.length=accT at*
 generalize dvB p f p.B.length f.C.length=accB at*
 conv=>whnf
 repeat' (first|((first|(refine iM fun _=>?_)|refine dA ?_|refine x6d rfl ?_|refine aD ?_|refine aR ?_|refine bP ?_|(refine iA fun _=>?_)|refine IdxK.xs (by omega) ?_|refine QI (by omega) ?_|(refine ByteK.at (by omega) ?_)|refine wI ?_|refine x8e (es:=accB) rfl rfl (by show(accB.length+1)*208<=140737488355328;omega) (by show accB.length+1<=9223372036854775807;omega) (fun x m=>by rcases x6p.1 m with rfl;exact⟨rfl,rfl⟩) ?_|refine x8e (by rw[x6f]) rfl (by show(accB.length+1+accT.length)*208<=140737488355328;omega) (by show accB.length+1+accT.length<=9223372036854775807;omega) (fun x m=>by obtain⟨s,rfl⟩:=hTe x m;exact⟨rfl,rfl⟩) ?_|(refine CallK.heap [] 20 (x6i (x6e _) x7h) x7f Q rfl rfl ?_;rintro l' H' ⟨rfl,rfl⟩));conv=>whnf)|(apply bD<;>intro _<;>first|omega|conv=>whnf)|(apply bE<;>intro _<;>first|omega|conv=>whnf)|(apply bN<;>intro _<;>conv=>whnf)|(apply bB<;>intro _<;>conv=>whnf))
 have hes:ElS (accB++[.agg (caN f)]++accT) (S.avs (KT p f)):=by
  rw[<-a];exact q7u f accB accT
 have c:accB.length+1+accT.length=(S.avs (KT p f)).length:=by
  rw[<-a];simp;omega
 have Y:=fun j h=>Hg p f (j:=j) h;have V:=fun j h=>Cy p f (j:=j) h;have Z:=fun j h=>RQ p f (j:=j) h;have R:=KL (Jw p f) (Ok hc hk d) (q4v hc hk);have hRt:=Zc (ZE p f) (AS hc hk hg);have J:0<p.A.length:=by have:=(x6n.1 hk).1;omega
 have N:VZ p f p.A.length=(Jw p f).A:=by
  unfold VZ Jw;rw[z1z,List.drop_length,x8x]
 have I:p.A.length=((VZ p f p.A.length).map fun g=>AV.agg g.cells).length:=by rw[x6j,Hg p f (x7u _)]
 refine LoopK.inv QW (fun x:Nat×Bool=>bif x.2 then⟨[(4,.ptr 1 0),(8,.ptr 2 0),(18,.ptr 0 0),(134,.p (.int .i64 p.A.length)),(135,.p (.int .i64 x.1))],[(0,.obj 25 [.p (eStrs p.B),.p (.sl ((VZ p f p.A.length).map fun g=>.agg g.cells))]),(2,.obj 44 (dvN (.p (.sl (dvV f f.C.length))) (.p (eSs (KT p f))))),(1,.obj 25 [.p .nils,.p .nils])]⟩
   else⟨[(4,.ptr 1 0),(8,.ptr 2 0),(18,.ptr 0 0),(134,.p (.int .i64 p.A.length)),(135,.p (.int .i64 x.1))],[(0,.obj 25 [.p (eStrs p.B),.hd 26 0 p.A.length]),(26,.own 44 5 ((VZ p f x.1).map fun g=>.agg g.cells)),(2,.obj 44 (dvN (.p (.sl (dvV f f.C.length))) (.p (eSs (KT p f))))),(1,.obj 25 [.p .nils,.p .nils])]⟩) (fun x=>x.1<=p.A.length/\(x.2=true->x.1=p.A.length)/\(x.2=false->x.1<p.A.length)) (fun x=>p.A.length-x.1) (0,false)
  ((Le.L (.same (.same (.same (.same (.L hes .nil)))))).trans (NW (k:=5) rfl (.cons (.keep rfl) (.cons (.keep rfl) (.cons (.keep rfl) (.cons (.keep rfl) (.cons (.keep rfl) .nil))))) (.obj (by decide) (.cons (.keep rfl) (.cons (.keep rfl) .nil)) (.own (by decide) (.obj (by decide) (.cons (.keep rfl) (.cons (.keep rfl) (.cons (.keep rfl) (.cons (.row c) (.cons (.keep rfl) .nil))))) (.obj (by decide) (.cons (.keep rfl) (.cons (.keep rfl) .nil)) (.drop .nil))))))) ⟨x6t _,(fun h=>by cases h),fun _=>J⟩ ?_
 rintro⟨j,b⟩ ⟨hj,G,H⟩;simp only at hj G H;have hrl:=Y j hj;cases b with
 |false=>
 .have v:=H rfl;have l:((VZ p f j).map fun g=>AV.agg g.cells)[j]?=some (.agg p.A[j].cells):=by rw[x6a,V j v];rfl
  have o:((VZ p f j).map fun g=>AV.agg g.cells).set j (.agg (UU p f p.A[j]).cells)=(VZ p f (j+1)).map fun g=>.agg g.cells:=by rw[Z j v,<-x9w]
  generalize((VZ p f j).map fun g=>AV.agg g.cells)=row at l o⊢;obtain⟨g,hg2⟩ : ∃g,g=p.A[j]:=⟨_,rfl⟩;rw[<-hg2]at l o;cases u:g.name==mainS with
  | false=>
    have t:row=(VZ p f (j+1)).map fun g=>.agg g.cells:=by
     rw[<-o,show UU p f g=g from if_neg (by rw[u];decide)];refine(z1y fun i=>?_).symm;rw[x9r];split
     .rename_i hij;subst hij;split
      .exact l.symm
      .rename_i hlt;rw[x7a (by omega)]
     .rfl
    conv=>whnf
    repeat' (first|((first|(refine iM fun _=>?_)|refine dA ?_|refine x6d rfl ?_|refine aD ?_|refine aR ?_|refine bP ?_|(refine iA fun _=>?_)|refine IdxK.xs (by omega) ?_|refine QI (by omega) ?_|(refine ByteK.at (by omega) ?_)|refine wI ?_|refine x8q j rfl v ?_|refine x8p j 0 (.agg g.cells) (by show(0+j)*5+0=j*5+0;omega) l ?_);conv=>whnf)|(apply bD<;>intro _<;>first|omega|conv=>whnf)|(apply bE<;>intro _<;>first|omega|conv=>whnf)|(apply bN<;>intro _<;>conv=>whnf)|(apply bB<;>intro _<;>conv=>whnf))
    all_goals first
     |exact absurd (u.symm.trans (show(g.name==mainS)=true by assumption)) (by decide)
     | (rcases x6c (j+1) p.A.length with z|z
        .exact ⟨(j+1,false),⟨v,(fun h=>by cases h),fun _=>z⟩,by simp only;omega,Le.of_eq (by rw[t];rfl)⟩
        .have q:j+1=p.A.length:=by omega
         have e10:VZ p f (j+1)=VZ p f p.A.length:=by rw[q]
         exact⟨(j+1,true),⟨v,fun _=>q,(fun h=>by cases h)⟩,by simp only;omega,(Le.of_eq (by rw[t,e10];rfl)).trans (NW (k:=26) rfl (.cons (.keep rfl) (.cons (.keep rfl) (.cons (.keep rfl) (.cons (.keep rfl) (.cons (.keep rfl) .nil))))) (.obj (by decide) (.cons (.keep rfl) (.cons (.row I) .nil)) (.drop (.obj (by decide) (.cons (.keep rfl) (.cons (.keep rfl) (.cons (.keep rfl) (.cons (.keep rfl) (.cons (.keep rfl) .nil))))) (.obj (by decide) (.cons (.keep rfl) (.cons (.keep rfl) .nil)) .nil)))))⟩)
  | true =>
    have hmm:UU p f g=IA p f:=if_pos u;rw[hmm]at o;have y:ElS (row.set j (.agg [.str mainS,.nils,.sl (dvV f f.C.length),eSs (KT p f),.nils])) ((VZ p f (j+1)).map fun g=>.agg g.cells):=by
     rw[<-o];have e:(IA p f).cells=[.str mainS,.sl [],.sl (dvV f f.C.length),eSs (KT p f),.sl []]:=by
      unfold dvV;rw[x7w (Nat.le_of_eq (A6 f))];rfl
     rw[e];exact O4 rfl (Vu (by repeat' first|exact Sub.refl _|exact Sub.nils|apply SubL.cons|exact SubL.nil))
    conv=>whnf
    repeat' (first|((first|(refine iM fun _=>?_)|refine dA ?_|refine x6d rfl ?_|refine aD ?_|refine aR ?_|refine bP ?_|(refine iA fun _=>?_)|refine IdxK.xs (by omega) ?_|refine QI (by omega) ?_|(refine ByteK.at (by omega) ?_)|refine wI ?_|refine x8q j rfl v ?_|refine x8p j 0 (.agg g.cells) (by show(0+j)*5+0=j*5+0;omega) l ?_|refine z0j j 0 (.agg g.cells) (.agg [.str mainS,.nils,.sl (dvV f f.C.length),eSs (KT p f),.nils]) (by show(0+j)*5+0=j*5+0;omega) l (z0c rfl) rfl ?_);conv=>whnf)|(apply bD<;>intro _<;>first|omega|conv=>whnf)|(apply bE<;>intro _<;>first|omega|conv=>whnf)|(apply bN<;>intro _<;>conv=>whnf)|(apply bB<;>intro _<;>conv=>whnf))
    all_goals first
     |exact absurd (u.symm.trans (show(g.name==mainS)=false by assumption)) (by decide)
     | (rcases x6c (j+1) p.A.length with z|z
        .exact ⟨(j+1,false),⟨v,(fun h=>by cases h),fun _=>z⟩,by simp only;omega,Le.L (.same (.L y (.same (.same .nil))))⟩
        .have q:j+1=p.A.length:=by omega
         have e10:VZ p f (j+1)=VZ p f p.A.length:=by rw[q]
         exact⟨(j+1,true),⟨v,fun _=>q,(fun h=>by cases h)⟩,by simp only;omega,(Le.L (.same (.L (by rw[e10]at y;exact y) (.same (.same .nil))))).trans (NW (k:=26) rfl (.cons (.keep rfl) (.cons (.keep rfl) (.cons (.keep rfl) (.cons (.keep rfl) (.cons (.keep rfl) .nil))))) (.obj (by decide) (.cons (.keep rfl) (.cons (.row I) .nil)) (.drop (.obj (by decide) (.cons (.keep rfl) (.cons (.keep rfl) (.cons (.keep rfl) (.cons (.keep rfl) (.cons (.keep rfl) .nil))))) (.obj (by decide) (.cons (.keep rfl) (.cons (.keep rfl) .nil)) .nil)))))⟩)
 | true=>
   obtain rfl:=G rfl;rw[N]at*
   generalize QS (ZE p f)=qb at*
   conv=>whnf
   repeat' (first|((first|(refine iM fun _=>?_)|refine dA ?_|refine x6d rfl ?_|refine aD ?_|refine aR ?_|refine bP ?_|(refine iA fun _=>?_)|refine IdxK.xs (by omega) ?_|refine QI (by omega) ?_|(refine ByteK.at (by omega) ?_)|refine wI ?_|refine cP R ?_|refine cP hRt ?_);conv=>whnf)|(apply bD<;>intro _<;>first|omega|conv=>whnf)|(apply bE<;>intro _<;>first|omega|conv=>whnf)|(apply bN<;>intro _<;>conv=>whnf)|(apply bB<;>intro _<;>conv=>whnf)|(refine x6d ?_ ?_<;>conv=>whnf))
   all_goals first
    |exact⟨_,.p (Sub.refl _),rfl⟩
end Go.Ab
