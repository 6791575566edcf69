/- inout: the books of the two small programs. -/
import Derived.Test.YtiaikoimoonlmaaGreatInoB16
import Derived.Test.YtiaikoimoonlmaaGreatInoB19
import Derived.Test.YtiaikoimoonlmaaGreatInoB20
import Derived.Test.YtiaikoimoonlmaaGreatInoB21
import Derived.Test.YtiaikoimoonlmaaGreatInoB23
set_option linter.unusedSimpArgs false
set_option linter.unusedVariables false
set_option maxRecDepth 100000
set_option maxHeartbeats 16000000
namespace Go.Ab
open Go.Proofs.Tryz
open Go.Proofs
instance:DecidableRel ltT:=fun a b=>inferInstanceAs (Decidable (Op.bytesLess a b=true))
def v9y (m l:List Str):Bool:=decide (m.Pairwise ltT)&&m.all (fun s=>inS l s)&&l.all (fun s=>inS m s)
theorem v4z {m l:List Str} (h:v9y m l=true):XZ l=m:=by
 unfold v9y at h;simp only [u4u,u4b,u5t] at h;exact (q4h h.1.1 fun s=>⟨fun hs=>ZU.1 (h.1.2 s hs),fun hs=>ZU.1 (h.2 s hs)⟩).symm
def v4x:List (List Str)->List (List Str)->Bool
 | [],[]=>true
 | m::ms,l::ls=>v9y m l&&v4x ms ls
 | _,_=>false
theorem x2q : ∀ {ms ls:List (List Str)},v4x ms ls=true->ls.map XZ=ms
 | [],[],_=>rfl
 | [],_::_,h=>by cases h
 | _::_,[],h=>by cases h
 | m::ms,l::ls,h=>by
   rw [v4x,u4u] at h;rw [u4m,v4z h.1,x2q h.2]
theorem x1v {p:Pg} {O D:List (List Str)} (h:v4x D ((sheetOf p).l.map fun it=>YI (bkO p O) it.s)=true):dfB p O=D:=by
 have h1:=x2q h;rw [u8a] at h1;exact h1
theorem x9p {p:Pg} {I U:List (List Str)} (h:v4x U ((sheetOf p).l.map fun it=>KI (bkI p I) it.s)=true):usB p I=U:=by
 have h1:=x2q h;rw [u8a] at h1;exact h1
def u1e (lv:List Bool) (p:Pg) (i:Nat) (f:Pr) (D:List (List Str)):List Str:=(itsOf p i f).flatMap fun it=>bif lv.getD (ixI p i f it.s.id).toNat false then (DE D it.s.id).filter (outB p f) else []
def u1c (prs:List (Int×Int)) (p:Pg) (i:Nat) (f:Pr) (D U:List (List Str)) (o:List Str) (x:Str):Bool:=(PF 0 (WD (XJ (cntL f.body+2) (prs.filter fun t=>BY p i f D x t.1)).1 [0])).any (hitN p i f U o x)
theorem x8l {p:Pg} {D O:List (List Str)} {lv0 lv1:List Bool} {f0 f1:Pr} (hp:p.procs=[f0,f1]) (h0:(QQ p 0 f0).live=lv0) (h1:(QQ p 1 f1).live=lv1) (h:v4x O [u1e lv0 p 0 f0 D,u1e lv1 p 1 f1 D]=true):otB p D=O:=by
 rw [<- x2q h,<- h0,<- h1];unfold otB;have e0:prA p 0=f0:=BO (by rw [hp];rfl);have e1:prA p 1=f1:=BO (by rw [hp];rfl);rw [hp];show [otA p D 0,otA p D 1]=_;unfold otA;rw [e0,e1];rfl
theorem z5i {p:Pg} {D U O I:List (List Str)} {v8n v8m:List (Int×Int)} {f0 f1:Pr} (hp:p.procs=[f0,f1]) (h0:FV (QQ p 0 f0) f0=v8n) (h1:FV (QQ p 1 f1) f1=v8m)
  (h:v4x I [(p.globals++[XE]).filter (u1c v8n p 0 f0 D U (O.getD 0 [])),(p.globals++[XE]).filter (u1c v8m p 1 f1 D U (O.getD 1 []))]=true):niB p D U O=I:=by
 rw [<- x2q h,<- h0,<- h1];unfold niB;have e0:prA p 0=f0:=BO (by rw [hp];rfl);have e1:prA p 1=f1:=BO (by rw [hp];rfl);rw [hp];show [niA p D U O 0,niA p D U O 1]=_;unfold niA z8z;rw [e0,e1];rfl
def x7i:Str:=[103]
def vS:Str:=[118]
def yS:Str:=[121]
def xS:Str:=[120]
theorem v8o:GU (QQ someP 0 f0) f0=[⟨0,1,1⟩,⟨1,2,1⟩,⟨2,3,1⟩,⟨3,4,1⟩,⟨4,-1,1⟩]:=by
 unfold GU UN;rw [v7i,v7a];exact HJ (by unfold okSt;decide) (by decide) (by decide) (by decide)
theorem v9t:FV (QQ someP 0 f0) f0=[(0,1),(1,2),(2,3),(3,4),(4,5)]:=by
 unfold FV;rw [v8o]
 kernel_rfl
theorem v9s:FV (QQ someP 1 f1) f1=[(0,1),(1,2),(2,3),(2,4),(3,5),(4,5)]:=by
 unfold FV;rw [v9q]
 kernel_rfl
theorem u1i:(QQ someP 0 f0).live=[true,true,true,true,true,true]:=by
 unfold QQ;simp only [v7p]
 kernel_rfl
theorem u1o:(QQ someP 1 f1).live=[true,true,true,true,true,true]:=by
 unfold QQ;simp only [v7n]
 kernel_rfl
def sO:List (List Str):=[[x7i],[yS]]
def sD0:List (List Str):=[[vS],[x7i],[],[],[yS],[],[],[v0l]]
def sD:List (List Str):=[[vS],[x7i,vS],[],[],[yS],[],[],[v0l]]
def sU:List (List Str):=[[],[vS],[vS],[x7i],[xS,yS],[yS],[],[yS]]
theorem some_book:BookR someP ⟨sheetOf someP,wysB someP,sD,sU,[[],[]],sO⟩:=by
 have d0:dfB someP [[],[]]=sD0:=x1v (by kernel_rfl);have o1:otB someP sD0=sO:=x8l (f0:=f0) (f1:=f1) rfl u1i u1o (by kernel_rfl);have d1:dfB someP sO=sD:=x1v (by kernel_rfl);have o2:otB someP sD=sO:=x8l (f0:=f0) (f1:=f1) rfl u1i u1o (by kernel_rfl);have u0:usB someP [[],[]]=sU:=x9p (by kernel_rfl);have i1:niB someP sD sU sO=[[],[]]:=z5i (f0:=f0) (f1:=f1) rfl v9t v9s (by kernel_rfl);refine ⟨rfl,rfl,⟨1,?_⟩,?_,d1.symm,⟨0,rfl⟩,?_,u0.symm⟩
 ·show sO=otB someP (dfB someP [[],[]]);rw [d0,o1]
 ·show otB someP (dfB someP sO)=sO;rw [d1,o2]
 ·show niB someP sD (usB someP [[],[]]) sO=[[],[]];rw [u0,i1]
def g0:Pr:=dP.procs[0]'(by decide)
def g1:Pr:=dP.procs[1]'(by decide)
theorem v8i:Fit dP:=by unfold Fit;decide
theorem v8e:QM dP=true:=by kernel_rfl
theorem v1t:WZ (QG dP 0 g0)=[⟨0,1,1⟩,⟨1,2,1⟩,⟨2,3,1⟩,⟨3,4,1⟩,⟨4,-1,1⟩]:=by
 have h1:QG dP 0 g0=[⟨0,1,1⟩,⟨1,2,1⟩,⟨2,3,1⟩,⟨3,4,1⟩,⟨4,-1,1⟩]:=by kernel_rfl
 rw [h1];exact HJ (by unfold okSt;decide) (by decide) (by decide) (by decide)
theorem v1s:WZ (QG dP 1 g1)=[⟨0,5,1⟩,⟨5,6,1⟩,⟨6,7,1⟩,⟨6,8,1⟩,⟨7,-1,1⟩,⟨8,-1,1⟩]:=by
 have h1:QG dP 1 g1=[⟨0,5,1⟩,⟨5,6,1⟩,⟨6,7,1⟩,⟨6,8,1⟩,⟨7,-1,1⟩,⟨8,-1,1⟩]:=by kernel_rfl
 rw [h1];exact HJ (by unfold okSt;decide) (by decide) (by decide) (by decide)
theorem v1c:(QQ dP 0 g0).real=[⟨0,1,1⟩,⟨1,2,1⟩,⟨2,3,1⟩,⟨3,4,1⟩,⟨4,-1,1⟩]:=v1t
theorem v1a:(QQ dP 1 g1).real=[⟨0,5,1⟩,⟨5,6,1⟩,⟨6,7,1⟩,⟨6,8,1⟩,⟨7,-1,1⟩,⟨8,-1,1⟩]:=v1s
theorem v6l:prsW (QQ dP 0 g0) g0=[(0,1),(1,2),(2,3),(3,4),(4,5)]:=by
 unfold prsW;rw [v1c]
 kernel_rfl
theorem v6r:prsW (QQ dP 1 g1) g1=[(0,1),(1,2),(2,3),(2,4),(3,5),(4,5)]:=by
 unfold prsW;rw [v1a]
 kernel_rfl
theorem v3h:trapsW (QQ dP 0 g0) g0=[]:=by
 unfold trapsW WT;rw [v6l]
 kernel_rfl
theorem v3f:trapsW (QQ dP 1 g1) g1=[]:=by
 unfold trapsW WT;rw [v6r]
 kernel_rfl
theorem v6b:GU (QQ dP 0 g0) g0=[⟨0,1,1⟩,⟨1,2,1⟩,⟨2,3,1⟩,⟨3,4,1⟩,⟨4,-1,1⟩]:=by
 unfold GU UN;rw [v3h,v1c];exact HJ (by unfold okSt;decide) (by decide) (by decide) (by decide)
theorem v6n:FV (QQ dP 0 g0) g0=[(0,1),(1,2),(2,3),(3,4),(4,5)]:=by
 unfold FV;rw [v6b]
 kernel_rfl
theorem v6p:GU (QQ dP 1 g1) g1=[⟨0,5,1⟩,⟨5,6,1⟩,⟨6,7,1⟩,⟨6,8,1⟩,⟨7,-1,1⟩,⟨8,-1,1⟩]:=by
 unfold GU UN;rw [v3f,v1a];exact HJ (by unfold okSt;decide) (by decide) (by decide) (by decide)
theorem v6m:FV (QQ dP 1 g1) g1=[(0,1),(1,2),(2,3),(2,4),(3,5),(4,5)]:=by
 unfold FV;rw [v6p]
 kernel_rfl
theorem u1l:(QQ dP 0 g0).live=[true,true,true,true,true,true]:=by
 unfold QQ;simp only [v1t]
 kernel_rfl
theorem u1r:(QQ dP 1 g1).live=[true,true,true,true,true,true]:=by
 unfold QQ;simp only [v1s]
 kernel_rfl
def tO1:List (List Str):=[[],[XE]]
def tO:List (List Str):=[[XE],[XE]]
def tD0:List (List Str):=[[vS],[],[],[],[XE,xS],[],[],[v0l]]
def tD:List (List Str):=[[vS],[XE],[],[],[XE,xS],[],[],[v0l]]
def tI1:List (List Str):=[[x7i],[XE,x7i]]
def tI:List (List Str):=[[XE,x7i],[XE,x7i]]
def tU0:List (List Str):=[[],[vS],[vS],[x7i],[XE],[yS],[],[x7i]]
def tU:List (List Str):=[[],[XE,x7i,vS],[vS],[x7i],[XE],[yS],[],[x7i]]
theorem d_book:BookR dP ⟨sheetOf dP,wysB dP,tD,tU,tI,tO⟩:=by
 have d0:dfB dP [[],[]]=tD0:=x1v (by kernel_rfl);have o1:otB dP tD0=tO1:=x8l (f0:=g0) (f1:=g1) rfl u1l u1r (by kernel_rfl);have d1:dfB dP tO1=tD:=x1v (by kernel_rfl);have o2:otB dP tD=tO:=x8l (f0:=g0) (f1:=g1) rfl u1l u1r (by kernel_rfl);have d2:dfB dP tO=tD:=x1v (by kernel_rfl);have u0:usB dP [[],[]]=tU0:=x9p (by kernel_rfl);have i1:niB dP tD tU0 tO=tI1:=z5i (f0:=g0) (f1:=g1) rfl v6n v6m (by kernel_rfl);have u1:usB dP tI1=tU:=x9p (by kernel_rfl);have i2:niB dP tD tU tO=tI:=z5i (f0:=g0) (f1:=g1) rfl v6n v6m (by kernel_rfl);have u2:usB dP tI=tU:=x9p (by kernel_rfl);refine ⟨rfl,rfl,⟨2,?_⟩,?_,d2.symm,⟨2,?_⟩,?_,u2.symm⟩
 ·show tO=otB dP (dfB dP (otB dP (dfB dP [[],[]])));rw [d0,o1,d1,o2]
 ·show otB dP (dfB dP tO)=tO;rw [d2,o2]
 ·show tI=niB dP tD (usB dP (niB dP tD (usB dP [[],[]]) tO)) tO;rw [u0,i1,u1,i2]
 ·show niB dP tD (usB dP tI) tO=tI;rw [u2,i2]
theorem v9b:LS someP 2=[x7i,vS]:=by
 unfold LS;rw [if_pos ⟨x9y,by decide,by rw [show (sheetOf someP).l.length=8 by kernel_rfl];decide⟩,<- some_book.eq];rfl
theorem v9p:q0z someP 5=[xS,yS]:=by
 unfold q0z;rw [if_pos ⟨x9y,by decide,by rw [show (sheetOf someP).l.length=8 by kernel_rfl];decide⟩,<- some_book.eq];rfl
theorem v9n:NR someP [112]=[yS]:=by
 have e:LI someP [112]=1:=by kernel_rfl
 unfold NR;rw [e,if_pos ⟨x9y,by decide⟩,<- some_book.eq];rfl
theorem v9m:z2f dP [112]=[XE,x7i]:=by
 have e:LI dP [112]=1:=by kernel_rfl
 unfold z2f;rw [e,if_pos ⟨v8e,by decide⟩,<- d_book.eq];rfl
theorem ZS:SpecP prog 15 [] (fun r=>r = .tt):=by
 have h1:=x5h someP x9j 2;rw [v9b] at h1;have h2:=x5d someP x9j 5;rw [v9p] at h2;have h3:=x5f someP x9j [112];rw [v9n] at h3;have h4:=z2h dP v8i [112];rw [v9m] at h4;have q1:=QE [x7i,vS] [x7i,vS];have q2:=QE [xS,yS] [xS,yS];have q3:=QE [yS] [yS];have q4:=QE [XE,x7i] [XE,x7i];simp only [decide_true] at q1 q2 q3 q4;refine sB DP func15 rfl call15 ?_;conv=>whnf
 repeat' (first|((first|refine u3d rfl ?_|refine aD ?_|refine bP ?_|refine cP q7d ?_|refine cP q0w ?_|refine cP h1 ?_|refine cP h2 ?_|refine cP h3 ?_|refine cP h4 ?_|refine BsK.pureL rfl rfl ?_|refine cP q1 ?_|refine cP q2 ?_|refine cP q3 ?_|refine cP q4 ?_);conv=>whnf)|(apply bB<;>intro _<;>conv=>whnf))
 all_goals first
  | exact absurd (show true=false by assumption) (by decide)
  | exact ⟨_,.p (q5c rfl),rfl⟩
  | exact RetK.tt rfl
  | exact ⟨_,.p (Sub.refl _),rfl⟩
theorem q7h (p:Pg) (hf:Fit p) (n:Str):SpecP prog 22 [.agg p.cells,.str n] (fun r=>r=eStrs (z2f p n)):=by
 refine sB q0r func22 rfl call22 ?_;conv=>whnf
 have hM:=YN p hf;cases hc:QM p with
 | false =>
   have e:z2f p n=[]:=by unfold z2f;rw [if_neg (by rw [hc];simp)]
   rw [e];have hM2:=hM.mono (R':=fun r=>r = .ip (v5a p)) fun r hr=>hr.2 hc;have hA:=XK p (.ff :: .sl [] :: .sl [] :: .sl [] :: .sl []::[.sl []]) n;repeat' ((first|refine cP hM2 ?_|refine cP hA ?_);conv=>whnf)
   all_goals first
    | contradiction
    | exact ⟨_,.p Sub.nils,rfl⟩
 | true =>
   have hM2:=hM.mono (R':=fun r=>r = .ip (x9k p (QV p).ins (QV p).outs)) fun r hr=>hr.1 hc;have hA:=XK p (.tt :: .sl ((QV p).ins.map eStrs) :: .sl ((QV p).outs.map eStrs) :: .sl (p.procs.map fun f=>VM (flatU f)) :: .sl (p.procs.map fun f=>QR (WJ p f.name))::[.sl (p.procs.map fun f=>QL (VT p f.name))]) n;have hA2:SpecP prog 77 [.ip (x9k p (QV p).ins (QV p).outs),.str n] (fun r=>r = .int .i64 (LI p n)):=hA;have hO:=(UF hc).2.len;have hlt:=fun h=>x8s (p:=p) (n:=n) h;have hg:=fun h=>q6o (O:=(QV p).ins) (k:=(LI p n).toNat) (by rw [hO];exact hlt h);have e:z2f p n=if 0<=LI p n then (QV p).ins.getD (LI p n).toNat [] else []:=by
    unfold z2f;by_cases h0:0<=LI p n
    ·rw [if_pos ⟨hc,h0⟩,if_pos h0]
    ·rw [if_neg (fun h=>h0 h.2),if_neg h0]
   rw [e];clear hA;generalize LI p n=i at *
   generalize (QV p).ins=I at *
   generalize (QV p).outs=O at *
   by_cases h0:0<=i
   ·rw [if_pos h0];have hg:=hg h0;repeat' (first|((first|refine cP hM2 ?_|refine cP hA2 ?_|(refine IdxK.at (k:=i.toNat) (by omega) hg rfl ?_));conv=>whnf)|(apply bD<;>intro _<;>first|omega|conv=>whnf))
    all_goals first
     | contradiction
     | exact RetK.p rfl
     | exact ⟨_,.p (Sub.refl _),rfl⟩
   ·rw [if_neg h0];repeat' (first|((first|refine cP hM2 ?_|refine cP hA2 ?_);conv=>whnf)|(apply bD<;>intro _<;>first|omega|conv=>whnf))
    all_goals first
     | contradiction
     | exact ⟨_,.p Sub.nils,rfl⟩
theorem q5y (p:Pg) (hf:Fit p) (n:Str):SpecP prog 24 [.agg p.cells,.str n] (fun r=>r=eStrs (NR p n)):=by
 refine sB LZ func24 rfl call24 ?_;conv=>whnf
 have hM:=YN p hf;cases hc:QM p with
 | false =>
   have e:NR p n=[]:=by unfold NR;rw [if_neg (by rw [hc];simp)]
   rw [e];have hM2:=hM.mono (R':=fun r=>r = .ip (v5a p)) fun r hr=>hr.2 hc;have hA:=XK p (.ff :: .sl [] :: .sl [] :: .sl [] :: .sl []::[.sl []]) n;repeat' ((first|refine cP hM2 ?_|refine cP hA ?_);conv=>whnf)
   all_goals first
    | contradiction
    | exact ⟨_,.p Sub.nils,rfl⟩
 | true =>
   have hM2:=hM.mono (R':=fun r=>r = .ip (x9k p (QV p).ins (QV p).outs)) fun r hr=>hr.1 hc;have hA:=XK p (.tt :: .sl ((QV p).ins.map eStrs) :: .sl ((QV p).outs.map eStrs) :: .sl (p.procs.map fun f=>VM (flatU f)) :: .sl (p.procs.map fun f=>QR (WJ p f.name))::[.sl (p.procs.map fun f=>QL (VT p f.name))]) n;have hA2:SpecP prog 77 [.ip (x9k p (QV p).ins (QV p).outs),.str n] (fun r=>r = .int .i64 (LI p n)):=hA;have hO:=(UF hc).1.len;have hlt:=fun h=>x8s (p:=p) (n:=n) h;have hg:=fun h=>q6o (O:=(QV p).outs) (k:=(LI p n).toNat) (by rw [hO];exact hlt h);have e:NR p n=if 0<=LI p n then (QV p).outs.getD (LI p n).toNat [] else []:=by
    unfold NR;by_cases h0:0<=LI p n
    ·rw [if_pos ⟨hc,h0⟩,if_pos h0]
    ·rw [if_neg (fun h=>h0 h.2),if_neg h0]
   rw [e];clear hA;generalize LI p n=i at *
   generalize (QV p).ins=I at *
   generalize (QV p).outs=O at *
   by_cases h0:0<=i
   ·rw [if_pos h0];have hg:=hg h0;repeat' (first|((first|refine cP hM2 ?_|refine cP hA2 ?_|(refine IdxK.at (k:=i.toNat) (by omega) hg rfl ?_));conv=>whnf)|(apply bD<;>intro _<;>first|omega|conv=>whnf))
    all_goals first
     | contradiction
     | exact RetK.p rfl
     | exact ⟨_,.p (Sub.refl _),rfl⟩
   ·rw [if_neg h0];repeat' (first|((first|refine cP hM2 ?_|refine cP hA2 ?_);conv=>whnf)|(apply bD<;>intro _<;>first|omega|conv=>whnf))
    all_goals first
     | contradiction
     | exact ⟨_,.p Sub.nils,rfl⟩
theorem w3i {p:Pg} (h:QM p=true) {id:Int} (h1:1<=id) (h2:id<=(sheetOf p).l.length) : ∃ (k:Nat) (f:Pr),p.procs[k]? = some f∧(UQ p id).1.s∈flL f.body∧(UQ p id).1.s.id=id∧(UQ p id).2.2=true:=by
 obtain ⟨_,_,_,_,_,_,_,ho,_⟩:=w3e h h1 h2;have hm:=(QK h).1;unfold UQ at ho ⊢;cases hr:x1j p id with
 | none=>rw [hr] at ho;cases ho
 | some y =>
   simp only;unfold x1j at hr;obtain ⟨f,hf,h3⟩:=u7j hr;unfold z1p at h3;rw [u7p] at h3;obtain ⟨x,h4,rfl⟩:=h3;obtain ⟨k,hk,rfl⟩:=u5w.1 hf;rw [VH hm (u3i hk)] at h4;exact ⟨k,_,u3h hk,BT (u5i h4),by simpa using u7y h4,trivial⟩
theorem w3c {p:Pg} (h:QM p=true) {id:Int} (h1:1<=id) (h2:id<=(sheetOf p).l.length):(UQ p id).1.s∈VK p∧(UQ p id).2.2=true∧LS p id=XZ (YI (bkO p (QV p).outs) (UQ p id).1.s)∧q0z p id=XZ (KI (bkI p (QV p).ins) (UQ p id).1.s):=by
 obtain ⟨k,f,hk,h3,h4,h5⟩:=w3i h h1 h2;have hb:=GW h;refine ⟨u4o.2 ⟨f,u4d hk,h3⟩,h5,?_,?_⟩
 ·have:=w0a h hk h3 (QV p).outs;rw [h4,<- hb.defs] at this;unfold LS;rw [if_pos ⟨h,h1,h2⟩];exact this
 ·have:=v5d h hk h3 (QV p).ins;rw [h4,<- hb.uses] at this;unfold q0z;rw [if_pos ⟨h,h1,h2⟩];exact this
theorem PD (p:Pg) (n id:Int):SpecP prog 3 [.agg p.cells,.int .i64 n,.int .i64 id] (fun r=>r = .tt):=by
 refine sB FJ func3 rfl call3 ?_;conv=>whnf
 cases hfb:v1e p with
 | false =>
   have hno : ¬gPg p<=20000:=by unfold v1e at hfb;simpa using hfb
   repeat' (first|((first|refine cP (VD _) ?_|refine cP ZS ?_);conv=>whnf)|(apply bE<;>intro _<;>first|omega|conv=>whnf))
   all_goals first
    | exact ⟨_,.p (Sub.refl _),rfl⟩
    | (exfalso;simp_all;done)
 | true =>
   have hf:Fit p:=v6e hfb;have hfit:gPg p<=20000:=by unfold v1e at hfb;simpa using hfb
   have hC:=z1g p hf;have hPA:=q2y p n (w0e hf);have hI1:=z2h p hf (WW p n);have hO1:=x5f p hf (WW p n);have hI2:=q7h p hf (WW p n);have hO2:=q5y p hf (WW p n);have hD:=x5h p hf id;have hU:=x5d p hf id;have hM:=YN p hf;have hFi:=q7n p id;have q1:=QE (z2f p (WW p n)) (z2f p (WW p n));have q2:=QE (NR p (WW p n)) (NR p (WW p n));have q3:=QE (LS p id) (LS p id);have q4:=QE (q0z p id) (q0z p id);rw [u5z rfl] at q1 q2 q3 q4;cases hc:QM p with
   | false =>
     rw [hc] at hC;have hM2:=hM.mono (R':=fun r=>r = .ip (v5a p)) fun r hr=>hr.2 hc;have e1:LS p id=[]:=by unfold LS;rw [if_neg (by rw [hc];simp)]
     have e2:q0z p id=[]:=by unfold q0z;rw [if_neg (by rw [hc];simp)]
     rw [e1] at hD;rw [e2] at hU;generalize NR p (WW p n)=lo at *
     generalize z2f p (WW p n)=li at *
     generalize WW p n=pn at *
     generalize (UQ p id).1=x at *
     generalize (UQ p id).2.1=nm at *
     generalize (UQ p id).2.2=ok at *
     repeat' (first|((first|(refine iM fun _=>?_)|refine cP (VD _) ?_|refine dA ?_|refine u3d rfl ?_|refine cP ZS ?_|refine cP hC ?_|refine cP hPA ?_|refine cP hI1 ?_|refine cP hI2 ?_|refine cP q1 ?_|refine cP hO1 ?_|refine cP hO2 ?_|refine cP q2 ?_|refine cP hM2 ?_|refine cP hFi ?_|refine cP hD ?_|refine cP hU ?_|refine Br.tt ?_|refine Br.ff ?_);conv=>whnf)|(apply bE<;>intro _<;>first|omega|conv=>whnf))
     all_goals first
      | contradiction
      | exact ⟨_,.p (Sub.refl _),rfl⟩
      | exact ⟨_,.p w7z,rfl⟩
      | exact ⟨_,.p (q5c rfl),rfl⟩
      | (exfalso;simp_all;done)
   | true =>
     rw [hc] at hC;have hcn:=(ZV hc).2.2;have hT:=w2n p (by omega);have hM2:=hM.mono (R':=fun r=>r = .ip (x9k p (QV p).ins (QV p).outs)) fun r hr=>hr.1 hc;by_cases hin:1<=id∧id<=(sheetOf p).l.length
     ·obtain ⟨hst,hok,e1,e2⟩:=w3c hc hin.1 hin.2;have hTD:=WY p (QV p).ins (QV p).outs (UQ p id).1.s hc (UF hc).1 hst;have hTU:=UI p (QV p).ins (QV p).outs (UQ p id).1.s hc (UF hc).2 hst;rw [<- e1] at hTD;rw [<- e2] at hTU;rw [hok] at hFi;clear e1 e2 hst hok;generalize NR p (WW p n)=lo at *
      generalize z2f p (WW p n)=li at *
      generalize LS p id=ld at *
      generalize q0z p id=lu at *
      generalize WW p n=pn at *
      generalize (UQ p id).1=x at *
      generalize (UQ p id).2.1=nm at *
      repeat' (first|((first|refine cP (VD _) ?_|refine dA ?_|refine u3d rfl ?_|refine cP ZS ?_|refine cP hC ?_|refine cP hT ?_|refine cP hPA ?_|refine cP hI1 ?_|refine cP hI2 ?_|refine cP q1 ?_|refine cP hO1 ?_|refine cP hO2 ?_|refine cP q2 ?_|refine cP hM2 ?_|refine cP hFi ?_|refine cP hD ?_|refine cP hTD ?_|refine cP q3 ?_|refine cP hU ?_|refine cP hTU ?_|refine cP q4 ?_|refine Br.tt ?_|refine Br.ff ?_);conv=>whnf)|(apply bD<;>intro _<;>first|omega|conv=>whnf)|(apply bE<;>intro _<;>first|omega|conv=>whnf))
      all_goals first
       | contradiction
       | exact ⟨_,.p (Sub.refl _),rfl⟩
       | exact ⟨_,.p w7z,rfl⟩
       | exact ⟨_,.p (q5c rfl),rfl⟩
       | (exfalso;simp_all;done)
     ·obtain ⟨hok,_⟩:=w3a hc hin;have e1:LS p id=[]:=by unfold LS;rw [if_neg (fun hh=>hin hh.2)]
      have e2:q0z p id=[]:=by unfold q0z;rw [if_neg (fun hh=>hin hh.2)]
      rw [e1] at hD;rw [e2] at hU;rw [hok] at hFi;generalize NR p (WW p n)=lo at *
      generalize z2f p (WW p n)=li at *
      generalize WW p n=pn at *
      generalize (UQ p id).1=x at *
      generalize (UQ p id).2.1=nm at *
      repeat' (first|((first|(refine iM fun _=>?_)|refine cP (VD _) ?_|refine dA ?_|refine u3d rfl ?_|refine cP ZS ?_|refine cP hC ?_|refine cP hT ?_|refine cP hPA ?_|refine cP hI1 ?_|refine cP hI2 ?_|refine cP q1 ?_|refine cP hO1 ?_|refine cP hO2 ?_|refine cP q2 ?_|refine cP hM2 ?_|refine cP hFi ?_|refine cP hD ?_|refine cP hU ?_|refine Br.tt ?_|refine Br.ff ?_);conv=>whnf)|(apply bD<;>intro _<;>first|omega|conv=>whnf)|(apply bE<;>intro _<;>first|omega|conv=>whnf))
      all_goals first
       | contradiction
       | exact ⟨_,.p (Sub.refl _),rfl⟩
       | exact ⟨_,.p w7z,rfl⟩
       | exact ⟨_,.p (q5c rfl),rfl⟩
       | (exfalso;simp_all;done)
end Go.Ab
