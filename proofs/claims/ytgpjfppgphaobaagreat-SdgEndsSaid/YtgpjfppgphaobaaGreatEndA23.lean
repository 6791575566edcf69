/- give: a right program's book, walked. -/
import Derived.Test.YtgpjfppgphaobaaGreatEndA22
set_option linter.all false
set_option maxRecDepth 100000
set_option maxHeartbeats 16000000
open List (length)
namespace Go.Ab
open Go.Proofs.Tryz
open Go.Proofs
variable {α:Type}{D I O:List (List Str)}{a:Eg}{f:Pr}{i:Nat}{o:Oper}{p:Pg}{s:St}{v:Value}{σ:Mem}
theorem F8(p:Pg)(hf:Fit p):SpecP prog 63 [.agg p.cells] (fun r=>(QL p=true->r=.ip (QY p).cells)/\(QL p=false->r=.nilp)):=by
 refine sC K7 func63 ?_;conv=>whnf
 have hM:=Bj p hf;cases g:QL p with
 | false=>
   rw[g]at hM;repeat' ((first|refine cP hM ?_|(apply bN<;>intro _))<;>conv=>whnf)
   all_goals first
    |contradiction
    |exact⟨_,.p (Sub.refl _),fun h=>(by cases h),fun _=>rfl⟩
 | true =>
   rw[g]at hM;obtain⟨hg,hpl,hcn⟩:=XF g;have hpm:(p.A.map fun f=>AV.agg f.cells).length=p.A.length:=x3a _;have hFl:=BN p (by omega) (by omega);repeat' ((first|refine cP hM ?_|(apply bN<;>intro _))<;>conv=>whnf)
   all_goals try contradiction
   refine ZF ⟨[(1,.p (.ip p.cells)),(3,.ptr 2 0)],[(3,Gk p 0),(2,Lu p (.hd 3 0 0) (.p .nils) (.p .nils) p.A.length),(1,YS (List.replicate p.A.length [])),(0,YS (List.replicate p.A.length []))]⟩ ?_ ?_
   ·refine DrawK.of XM mixed (.cons 0 false (.cons 2 false (.cons 3 false (.cons 4 false (.cons 6 false (.cons 7 false (.cons 8 false (.fork3 1 (.fork 5 (.cons 9 true (.cons 10 true (.cons 11 true (.cons 12 true .nil)))) 9 (.cons 5 true (.cons 10 true (.cons 11 true (.cons 12 true .nil))))) 5 (.fork 1 (.cons 9 true (.cons 10 true (.cons 11 true (.cons 12 true .nil)))) 9 (.cons 1 true (.cons 10 true (.cons 11 true (.cons 12 true .nil))))) 9 (.fork 1 (.cons 5 true (.cons 10 true (.cons 11 true (.cons 12 true .nil)))) 5 (.cons 1 true (.cons 10 true (.cons 11 true (.cons 12 true .nil))))))))))))) (by kernel_rfl) ?_;conv=>whnf
    repeat' ((first|(refine gX ?_;intros)|refine cP hFl ?_|refine x8a p.A.length (by rw[hpm]) (by show 24*_<=140737488355328;omega) (by unfold maxLen;omega) ?_|refine x4e ?_ ?_)<;>conv=>whnf)
    all_goals first
     |exact q7n
     |exact q9t
   conv=>whnf
   repeat' ((refine iM fun _=>?_)<;>conv=>whnf)
   have hnW:(wysB p).length=p.A.length:=by unfold wysB;rw[x3a,x6l]
   refine lI (fun k:Nat=>⟨[(1,.p (.ip p.cells)),(3,.ptr 2 0),(32,.p (.int .i64 (p.A.map fun f=>AV.agg f.cells).length)),(33,.j k)],[(3,Gk p k),(2,Lu p (.hd 3 0 k) (.p .nils) (.p .nils) p.A.length),(1,YS (List.replicate p.A.length [])),(0,YS (List.replicate p.A.length []))]⟩) (fun k=>k<=p.A.length) (fun k=>p.A.length-k) 0 (x4j _) ?_;intro k hk;rcases x4f k p.A.length with n|n
   ·have G:p.A[k]?=some p.A[k]:=by simp
    obtain⟨w1,w2,w3⟩:=U1 g G;have hWn:=q5i p k p.A[k] G (by omega) w1 w3;have hwl:(((wysB p).take k).map fun w=>AV.ip w.cells).length=k:=by rw[x3a,x5z,hnW];omega
    have H:Gk p (k+1)=.own 97 1 ((((wysB p).take k).map fun w=>AV.ip w.cells)++[.ip (QQ p k p.A[k]).cells]):=by
     unfold Gk;rw[x4k (by rw[hnW];exact n),x4d];have e:(wysB p)[k]'(by rw[hnW];exact n)=QQ p k p.A[k]:=by
      have y:=NO n;rw[x3e (by rw[hnW];exact n),VJ G]at y;exact x8z y
     rw[e];rfl
    conv=>whnf
    repeat' ((first|refine dA ?_|refine gX ?_|refine cP hWn ?_|refine pA 1 8 hwl.symm ?_|(apply bD<;>intro _<;>try omega)|refine x4e ?_ ?_)<;>conv=>whnf)
    all_goals first
     |exact⟨k+1,n,by omega,Le.of_eq (by rw[H];rfl)⟩
   ·obtain rfl:k=p.A.length:=by omega
    conv=>whnf
    repeat' (apply bD<;>intro _<;>first|omega|conv=>whnf)
    refine lJ (fun x:Bool×List (List Str)×List (List Str)=>⟨[(1,.p (.ip p.cells)),(3,.ptr 2 0),(5,.p (.bool x.1))],[(4,YS x.2.1),(3,Gk p p.A.length),(2,Lu p (.hd 3 0 p.A.length) (.hd 4 0 x.2.1.length) (.p .nils) p.A.length),(1,YS x.2.2),(0,YS (List.replicate p.A.length []))]⟩) (fun x=>(∃r,x.2.2=itO p r)/\(x.1=false->rdO p x.2.2=x.2.2/\x.2.1=dfB p x.2.2)) (fun x=>2*(400-tot x.2.2)+x.1.toNat) (true,[],List.replicate p.A.length []) (Le.mk [(4,YS [])] (by simp[Chunk.new0,YS];rfl) (by simp) (by simp) (.r (.r (.cons (.p (Sub.tt rfl)) .nil))) (.new x4z (.cons rfl (.refl _) (.cons rfl (.obj (.r (.r (.cons (.nil x4z) (.r (.r (.r .nil))))))) (.cons rfl (.refl _) (.cons rfl (.refl _) .nil)))))) ⟨⟨0,rfl⟩,fun h=>by cases h⟩ ?_;rintro⟨m,D,O⟩ ⟨⟨r,hr⟩,hm⟩;simp only at hr hm⊢;have Q:=Uo p r;rw[<-hr]at Q;cases m with
    | false =>
      obtain⟨hf1,hf2⟩:=hm rfl;conv=>whnf
      repeat' (refine Br.ff ?_;conv=>whnf)
      subst hf2;have hfixO:=hf1;clear hm hf1;have J:=Hc p O;have V:∀d∈dfB p O,d.Pairwise ltT/\d.length<=1000000000:=fun d V=>by
       obtain⟨it,hi,rfl⟩:=x4y.1 V;have y:=YM (FR (bkO p O) it.s);have Z:=LZ g Q (t:=it.s) (by rw[<-YY];exact x4y.2 ⟨_,hi,rfl⟩);exact⟨ZM _,by omega⟩
      have hOn:=Q.len;obtain⟨D,hD⟩ : ∃D,dfB p O=D:=⟨_,rfl⟩;rw[hD]at J V⊢;have hBk:∀I,(∃r,I=itI p D O r)->rdI p D O I=I->QY p=⟨sheetOf p,wysB p,D,usB p I,I,O⟩:=fun I y Z=>by
       have hB:BookR p ⟨sheetOf p,wysB p,D,usB p I,I,O⟩:=⟨rfl,rfl,⟨r,hr⟩,hfixO,hD.symm,y,Z,rfl⟩;exact hB.eq.symm
      refine lJ (fun x:Bool×List (List Str)×List (List Str)=>⟨[(1,.p (.ip p.cells)),(3,.ptr 2 0),(10,.p (.bool x.1))],[(5,YS x.2.1),(4,YS D),(3,Gk p p.A.length),(2,Lu p (.hd 3 0 p.A.length) (.hd 4 0 D.length) (.hd 5 0 x.2.1.length) p.A.length),(1,YS O),(0,YS x.2.2)]⟩) (fun x=>(∃r,x.2.2=itI p D O r)/\(x.1=false->rdI p D O x.2.2=x.2.2/\x.2.1=usB p x.2.2)) (fun x=>2*(400-tot x.2.2)+x.1.toNat) (true,[],List.replicate p.A.length []) (Le.mk [(5,YS [])] (by simp[Chunk.new0,YS];rfl) (by simp) (by simp) (.r (.r (.cons (.p (Sub.tt rfl)) .nil))) (.new x4z (.cons rfl (.refl _) (.cons rfl (.refl _) (.cons rfl (.obj (.r (.r (.r (.cons (.nil x4z) (.r (.r .nil))))))) (.cons rfl (.refl _) (.cons rfl (.refl _) .nil))))))) ⟨⟨0,rfl⟩,fun h=>by cases h⟩ ?_;rintro⟨m,U,I⟩ ⟨⟨q,hq⟩,hm⟩;simp only at hq hm⊢;have hI:=Ui p D O q;rw[<-hq]at hI;have M:p.A.length=(O.map eStrs).length:=by rw[x3a,Q.len]
      have hKD:D.length=(D.map eStrs).length:=by rw[x3a]
      cases m with
      | false=>
        obtain⟨hf1,rfl⟩:=hm rfl;have hbk:=hBk I ⟨q,hq⟩ hf1;have B:p.A.length=(I.map eStrs).length:=by rw[x3a,hI.len]
        have hKU:(usB p I).length=((usB p I).map eStrs).length:=by rw[x3a]
        conv=>whnf
        repeat' (refine Br.ff ?_;conv=>whnf)
        all_goals first
         |exact⟨_,q7w rfl (.hd (x6h some Qq) Qb) (.hd rfl hKD) (.hd rfl hKU) (.hd rfl B) (.hd rfl M),fun _=>by rw[hbk],fun h=>by cases h⟩
      | true=>
        have hLl:((sheetOf p).l.map fun i=>AV.agg i.cells).length=(sheetOf p).l.length:=x3a _;obtain⟨_,_,_,hsl,_⟩:=QU p;have hUl:(usB p I).length=(sheetOf p).l.length:=x3a _;have B:p.A.length=(I.map eStrs).length:=by rw[x3a,hI.len]
        conv=>whnf
        repeat' ((first|(refine gX ?_;intros)|refine Br.tt ?_)<;>conv=>whnf)
        refine lJ (fun k:Nat=>⟨[(1,.p (.ip p.cells)),(3,.ptr 2 0),(10,.p .ff),(124,.p (ZE (sheetOf p).l)),(125,.p (.int .i64 ((sheetOf p).l.map fun i=>AV.agg i.cells).length)),(126,.j k)],[(5,YS ((usB p I).take k)),(4,YS D),(3,Gk p p.A.length),(2,Lu p (.hd 3 0 p.A.length) (.hd 4 0 D.length) (.hd 5 0 k) p.A.length),(1,YS O),(0,YS I)]⟩) (fun k=>k<=(sheetOf p).l.length) (fun k=>(sheetOf p).l.length-k) 0 (Le.trans (s':=⟨[(1,.p (.ip p.cells)),(3,.ptr 2 0),(10,.p .ff),(124,.p (ZE (sheetOf p).l)),(125,.p (.int .i64 ((sheetOf p).l.map fun i=>AV.agg i.cells).length)),(126,.j (0:Nat))],[(4,YS D),(3,Gk p p.A.length),(2,Lu p (.hd 3 0 p.A.length) (.hd 4 0 D.length) (.p .nils) p.A.length),(1,YS O),(0,YS I)]⟩) (lE) (Le.mk [(5,YS [])] (by simp[Chunk.new0,YS];rfl) (by simp) (by simp) (.r (.r (.r (.r (.r (.r .nil)))))) (.new x4z (.cons rfl (.refl _) (.cons rfl (.refl _) (.cons rfl (.obj (.r (.r (.r (.cons (.nil x4z) (.r (.r .nil))))))) (.cons rfl (.refl _) (.cons rfl (.refl _) .nil)))))))) (x4j _) ?_;intro k hk;rcases x4f k (sheetOf p).l.length with n|n;rotate_left 1
        ·obtain rfl:k=(sheetOf p).l.length:=by omega
         have R:(rdI p D O I).length=I.length:=by rw[hI.len];unfold rdI niB;rw[x3a,x6l]
         have hIn:=hI.len;rw[show(usB p I).take (sheetOf p).l.length=usB p I from x4b (by omega)];have hu:∀d∈usB p I,d.Pairwise ltT/\d.length<=1000000000:=fun d V=>by
          obtain⟨it,hi,rfl⟩:=x4y.1 V;have y:=YM (Qf (bkI p I) it.s);have Z:=TU g hI (t:=it.s) (by rw[<-YY];exact x4y.2 ⟨_,hi,rfl⟩);exact⟨ZM _,by omega⟩
         conv=>whnf
         repeat' ((first|(refine iM fun _=>?_)|(apply bD<;>intro _<;>try omega))<;>conv=>whnf)
         have hW:rdI p D O I=itI p D O (q+1):=by rw[hq];rfl
         refine q4m g Q J hUl V hu hIn (R.trans hIn) q7a fun m s u hle=>?_;conv=>whnf
         refine⟨(m,usB p I,rdI p D O I),⟨⟨q+1,hW⟩,fun h=>?_⟩,?_,hle⟩
         ·simp only at h⊢;rw[h]at u;have y:rdI p D O I=I:=by simpa using u
          rw[y];exact⟨y,rfl⟩
         ·simp only;have hOW:tot (rdI p D O I)<=400:=(q2h p D (usB p I) O).tot g;cases m with
          | true=>
            have y:rdI p D O I≠I:=by simpa using u
            have Z:=RM g (D:=D) (O:=O) (k:=q) (by rw[<-hW,<-hq];exact y);rw[<-hW,<-hq]at Z;simp only[z0o];omega
          | false=>
            have y:rdI p D O I=I:=by simpa using u
            rw[y];simp only[z0o,Bool.toNat_false];omega
        have z:(sheetOf p).l[k].s∈VH p:=by rw[<-YY];exact x4y.2 ⟨_,x4h n,rfl⟩
        have C:k=(((usB p I).take k).map eStrs).length:=by rw[x3a,x5z];omega
        have E:=Ja ⟨sheetOf p,wysB p,D,(usB p I).take k,I,O⟩ (sheetOf p).l[k].s (fun h4=>hI.use g rfl rfl z h4);rw[I1 (p:=p) (I:=I) rfl rfl]at E;have hd1:SpecH prog 108 ([AV.ip (Book.cells ⟨sheetOf p,wysB p,D,(usB p I).take k,I,O⟩),.agg (sheetOf p).l[k].s.cells].map .p) [] (OneRow (Jg (Qf (bkI p I) (sheetOf p).l[k].s)) (Qf (bkI p I) (sheetOf p).l[k].s=[])):=E;have hdl:=TU g hI z;have H:=N7 (L:=usB p I) (k:=k) (by omega) (o:=VK (Qf (bkI p I) (sheetOf p).l[k].s)) (by unfold usB;rw[x8i]);generalize hds:Qf (bkI p I) (sheetOf p).l[k].s=ds at*
        clear E;conv=>whnf
        repeat' ((first|refine dA ?_|(refine gX ?_;intros)|refine pA 1 24 C ?_|(apply bD<;>intro _<;>try omega)|refine Ot 6 rfl hd1 (.cons (q7w rfl (.hd (x6h some Qq) Qb) (.hd rfl hKD) (.hd rfl C) (.hd rfl B) (.hd rfl M)) (.cons (.p (Sub.refl _)) .nil)) (fun c=>?_) ?_|(refine CallK.nil 6 9 1 rfl (.row .nil) ?_;refine cH [(1000,6)] 0 (JG [] (by simp)) ?_)|(refine cH [(1000,6)] 0 (JG ds (by omega)) ?_)|refine x4e ?_ ?_)<;>conv=>whnf)
        all_goals first
         |exact⟨k+1,n,by omega,Le.of_eq (by rw[H,c];rfl)⟩
         |exact⟨k+1,n,by omega,Le.of_eq (by rw[H];rfl)⟩
    | true =>
      have hLl:((sheetOf p).l.map fun i=>AV.agg i.cells).length=(sheetOf p).l.length:=x3a _;obtain⟨_,_,_,hsl,_⟩:=QU p;conv=>whnf
      repeat' ((first|(refine gX ?_;intros)|refine Br.tt ?_)<;>conv=>whnf)
      refine lJ (fun k:Nat=>⟨[(1,.p (.ip p.cells)),(3,.ptr 2 0),(5,.p .ff),(62,.p (ZE (sheetOf p).l)),(63,.p (.int .i64 ((sheetOf p).l.map fun i=>AV.agg i.cells).length)),(64,.j k)],[(4,YS ((dfB p O).take k)),(3,Gk p p.A.length),(2,Lu p (.hd 3 0 p.A.length) (.hd 4 0 k) (.p .nils) p.A.length),(1,YS O),(0,YS (List.replicate p.A.length []))]⟩) (fun k=>k<=(sheetOf p).l.length) (fun k=>(sheetOf p).l.length-k) 0 (Le.trans (s':=⟨[(1,.p (.ip p.cells)),(3,.ptr 2 0),(5,.p .ff),(62,.p (ZE (sheetOf p).l)),(63,.p (.int .i64 ((sheetOf p).l.map fun i=>AV.agg i.cells).length)),(64,.j (0:Nat))],[(3,Gk p p.A.length),(2,Lu p (.hd 3 0 p.A.length) (.p .nils) (.p .nils) p.A.length),(1,YS O),(0,YS (List.replicate p.A.length []))]⟩) (lE) (Le.mk [(4,YS [])] (by simp[Chunk.new0,YS];rfl) (by simp) (by simp) (.r (.r (.r (.r (.r (.r .nil)))))) (.new x4z (.cons rfl (.refl _) (.cons rfl (.obj (.r (.r (.cons (.nil x4z) (.r (.r (.r .nil))))))) (.cons rfl (.refl _) (.cons rfl (.refl _) .nil))))))) (x4j _) ?_;intro k hk;rcases x4f k (sheetOf p).l.length with n|n;rotate_left 1
      ·obtain rfl:k=(sheetOf p).l.length:=by omega
       have J:=Hc p O;have R:(rdO p O).length=O.length:=by rw[Q.len];unfold rdO otB;rw[x3a,x6l]
       have hOn:=Q.len;rw[show(dfB p O).take (sheetOf p).l.length=dfB p O from x4b (by omega)];have V:∀d∈dfB p O,d.length<=1000:=fun d V=>by
        obtain⟨it,hi,rfl⟩:=x4y.1 V;have y:=YM (FR (bkO p O) it.s);have Z:=LZ g Q (t:=it.s) (by rw[<-YY];exact x4y.2 ⟨_,hi,rfl⟩);omega
       conv=>whnf
       repeat' ((first|(refine iM fun _=>?_)|(apply bD<;>intro _<;>try omega))<;>conv=>whnf)
       refine lJ (fun x:Nat×Bool=>⟨[(1,.p (.ip p.cells)),(3,.ptr 2 0),(5,.p (.bool x.2)),(85,.p (.int .i64 (p.A.map fun f=>AV.agg f.cells).length)),(86,.j x.1)],[(4,YS (dfB p O)),(3,Gk p p.A.length),(2,Lu p (.hd 3 0 p.A.length) (.hd 4 0 (sheetOf p).l.length) (.p .nils) p.A.length),(1,YS ((rdO p O).take x.1++O.drop x.1)),(0,YS (List.replicate p.A.length []))]⟩) (fun x=>x.1<=p.A.length/\x.2 = !decide ((rdO p O).take x.1=O.take x.1)) (fun x=>p.A.length-x.1) (0,false) (lE (hsl:=.r (.r (.cons (.p (Sub.ff rfl)) (.r (.r .nil)))))) ⟨x4j _,rfl⟩ ?_;rintro⟨k,m⟩ ⟨hk1,u⟩;simp only at hk1 u⊢;rcases x4f k p.A.length with n|n;rotate_left 1
       ·obtain rfl:k=p.A.length:=by omega
        rw[x4b (by omega),x4b (by omega)]at u;rw[x4b (by omega),x4l (by omega),x5m];have hW:rdO p O=itO p (r+1):=by rw[hr];rfl
        conv=>whnf
        repeat' (apply bD<;>intro _<;>first|omega|conv=>whnf)
        refine⟨(m,dfB p O,rdO p O),⟨⟨r+1,hW⟩,fun h=>?_⟩,?_,lE (hH:=.cons rfl (.refl _) (.cons rfl (.refl _) (.cons rfl (.of_eq (by rw[J])) (.cons rfl (.refl _) (.cons rfl (.refl _) .nil)))))⟩
        ·simp only at h⊢;rw[h]at u;have y:rdO p O=O:=by simpa using u
         rw[y];exact⟨y,rfl⟩
        ·simp only;have hOW:=(q2d p (dfB p O)).tot g;have hOW:tot (rdO p O)<=400:=hOW;cases m with
         | true=>
           have y:rdO p O≠O:=by simpa using u
           have Z:=RL (p:=p) (k:=r) (by rw[<-hW,<-hr];exact y);rw[<-hW,<-hr]at Z;simp only[z0o];omega
         | false=>
           have y:rdO p O=O:=by simpa using u
           rw[y];simp only[z0o,Bool.toNat_false];omega
       have G:p.A[k]?=some p.A[k]:=by simp
       have hpk:=VJ G;have hWk:wysB p=(wysB p):=rfl;have hout:=Jc ⟨sheetOf p,wysB p,dfB p O,[],List.replicate p.A.length [],(rdO p O).take k++O.drop k⟩ p rfl g k p.A[k] G (by show(wysB p)[k]?=_;rw[NO n,hpk]) J V;have hrow:(rdO p O)[k]'(by omega)=VK (M5 p k p.A[k] (dfB p O) (itsOf p k p.A[k])):=by
        unfold rdO otB;rw[x8i,z0q];unfold otA;rw[hpk]
       have hol:(M5 p k p.A[k] (dfB p O) (itsOf p k p.A[k])).length<=1000000000:=by
        have y:=T8 (p:=p) (i:=k) (f:=p.A[k]) V (itsOf p k p.A[k]);have Z:(itsOf p k p.A[k]).length<=200:=by
         obtain⟨_,_,_,_,hsp⟩:=QU p;obtain⟨_,_,h3,h4⟩:=hsp k _ G;have h5:=x6h length h4;rw[x6c,x5z]at h5;have e1:itL (k:Nat) 0 (-1) 0 (QS p.A k) p.A[k].body=itsOf p k p.A[k]:=rfl;rw[e1]at h5;omega
        have h3:(itsOf p k p.A[k]).length*1000<=200*1000:=x5l _ Z;omega
       have hout1:SpecH prog 106 ([AV.ip (Book.cells ⟨sheetOf p,wysB p,dfB p O,[],List.replicate p.A.length [],(rdO p O).take k++O.drop k⟩),.int .i64 k].map .p) [] (OneRow (Jg (M5 p k p.A[k] (dfB p O) (itsOf p k p.A[k]))) False):=hout;have Y:=EO (W:=rdO p O) (O:=O) (k:=k) (by omega) R;have hat:=q2c (W:=rdO p O) (O:=O) (k:=k) (by omega) R;have hln:=EI (W:=rdO p O) (O:=O) (k:=k) (by omega) R;have F:=q2a (W:=rdO p O) (O:=O) (k:=k) (by omega) (by omega);have hEq:=WN ((rdO p O)[k]'(by omega)) (O[k]'(by omega));rw[hrow]at hEq Y F;have C:(sheetOf p).l.length=((dfB p O).map eStrs).length:=by rw[x3a];omega
       have M:p.A.length=(((rdO p O).take k++O.drop k).map eStrs).length:=by rw[hln];omega
       have B:p.A.length=((List.replicate p.A.length ([]:List Str)).map eStrs).length:=by rw[x3a,x5e]
       clear hout hrow;generalize M5 p k p.A[k] (dfB p O) (itsOf p k p.A[k])=ol at*
       generalize hdq:decide (VK ol=O[k])=dq at hEq F;have hdk:decide ((rdO p O).take k=O.take k) = !m:=by rw[u,Bool.not_not]
       rw[hdk]at F;cases m<;>cases dq;all_goals
        conv=>whnf
        repeat' ((first|refine gX ?_|refine iO k ?_|refine lO hat ?_|refine cP hEq ?_|refine sO (eStrs (VK ol)) hat ?_|((first|apply bD|apply bB)<;>intro _<;>try omega)|refine Ot 5 rfl hout1 (.cons (q7w rfl (.hd (x6h some Qq) Qb) (.hd rfl C) (.p Sub.nils) (.hd rfl B) (.hd rfl M)) (.cons (.p (Sub.refl _)) .nil)) (fun c=>c.elim) ?_|(refine cH [(1000,5)] 0 (JG ol hol) ?_))<;>conv=>whnf)
       all_goals first
        |exact absurd (show false=true by assumption) (by decide)
        |exact absurd (show true=false by assumption) (by decide)
        |exact⟨(k+1,true),⟨n,by simp only;rw[F];rfl⟩,by simp only;omega,lE (hsl:=.r (.r (.cons (.p (Sub.tt rfl)) (.r (.r .nil))))) (hH:=.cons rfl (.refl _) (.cons rfl (.refl _) (.cons rfl (.refl _) (.cons rfl (.of_eq (x6h (Chunk.own 22 1) Y)) (.cons rfl (.refl _) .nil)))))⟩
        |exact⟨(k+1,true),⟨n,by simp only;rw[F];rfl⟩,by simp only;omega,lE (hH:=.cons rfl (.refl _) (.cons rfl (.refl _) (.cons rfl (.refl _) (.cons rfl (.of_eq (x6h (Chunk.own 22 1) Y)) (.cons rfl (.refl _) .nil)))))⟩
        |exact⟨(k+1,false),⟨n,by simp only;rw[F];rfl⟩,by simp only;omega,lE (hH:=.cons rfl (.refl _) (.cons rfl (.refl _) (.cons rfl (.refl _) (.cons rfl (.of_eq (x6h (Chunk.own 22 1) Y)) (.cons rfl (.refl _) .nil)))))⟩
        |exact⟨(k+1,false),⟨n,by simp only;rw[F];rfl⟩,by simp only;omega,lE (hsl:=.r (.r (.cons (.p (Sub.ff rfl)) (.r (.r .nil))))) (hH:=.cons rfl (.refl _) (.cons rfl (.refl _) (.cons rfl (.refl _) (.cons rfl (.of_eq (x6h (Chunk.own 22 1) Y)) (.cons rfl (.refl _) .nil)))))⟩
      have z:(sheetOf p).l[k].s∈VH p:=by rw[<-YY];exact x4y.2 ⟨_,x4h n,rfl⟩
      have J:=Hc p O;have C:k=(((dfB p O).take k).map eStrs).length:=by rw[x3a,x5z];omega
      have M:p.A.length=(O.map eStrs).length:=by rw[x3a,Q.len]
      have B:p.A.length=((List.replicate p.A.length ([]:List Str)).map eStrs).length:=by rw[x3a,x5e]
      have E:=Js ⟨sheetOf p,wysB p,(dfB p O).take k,[],List.replicate p.A.length [],O⟩ (sheetOf p).l[k].s (fun h4=>Q.call g rfl rfl z h4);rw[CG rfl rfl]at E;have hd1:SpecH prog 105 ([AV.ip (Book.cells ⟨sheetOf p,wysB p,(dfB p O).take k,[],List.replicate p.A.length [],O⟩),.agg (sheetOf p).l[k].s.cells].map .p) [] (OneRow (Jg (FR (bkO p O) (sheetOf p).l[k].s)) (FR (bkO p O) (sheetOf p).l[k].s=[])):=E;have hdl:=LZ g Q z;have H:=N7 (L:=dfB p O) (k:=k) (by omega) (o:=VK (FR (bkO p O) (sheetOf p).l[k].s)) (by unfold dfB;rw[x8i]);generalize hds:FR (bkO p O) (sheetOf p).l[k].s=ds at*
      clear E;conv=>whnf
      repeat' ((first|refine dA ?_|(refine gX ?_;intros)|refine pA 1 24 C ?_|(apply bD<;>intro _<;>try omega)|refine Ot 5 rfl hd1 (.cons (q7w rfl (.hd (x6h some Qq) Qb) (.hd rfl C) (.p Sub.nils) (.hd rfl B) (.hd rfl M)) (.cons (.p (Sub.refl _)) .nil)) (fun c=>?_) ?_|(refine CallK.nil 5 9 1 rfl (.row .nil) ?_;refine cH [(1000,5)] 0 (JG [] (by simp)) ?_)|(refine cH [(1000,5)] 0 (JG ds (by omega)) ?_)|refine x4e ?_ ?_)<;>conv=>whnf)
      all_goals first
       |exact⟨k+1,n,by omega,Le.of_eq (by rw[H,c];rfl)⟩
       |exact⟨k+1,n,by omega,Le.of_eq (by rw[H];rfl)⟩
def Qm(p:Pg)(n:Str):Int:=idxF (fun f=>f.name==n) p.A
section
variable {a b:Str}{p:Pg}{i:Nat}{f:Pr}
end
section
variable {P:Program}{T:Tab}{N:Nat}{σ:Mem}{β:Lab}{a:Act}{w:World}{o:Oper}{K:St->Prop}{s:St}
end
def dP:Pg:=⟨[[103]],[
 ⟨[109,97,105,110],[],[[118]],[
   .mk 1 1 [] [118] [] (.mk 1 2 [] []) false [] [] [],
   .mk 2 4 [] [] [112] (.mk 0 0 [] []) false [⟨false,[],.mk 1 3 [] []⟩,⟨true,[118],.mk 0 0 [] []⟩] [] [],
   .mk 3 3 [] [] [] (.mk 2 0 [118] []) false [] [] [],
   .mk 4 3 [] [] [] (.mk 2 0 [103] []) false [] [] []],[]⟩,
 ⟨[112],[⟨[120],false⟩,⟨[121],true⟩],[],[
   .mk 5 2 [] [120] [] (.mk 0 0 [] []) false [] [] [],
   .mk 6 5 [] [] [] (.mk 12 0 [] [.mk 2 0 [121] [],.mk 1 9 [] []]) false [] [.mk 7 10 [] [101] [] (.mk 0 0 [] []) false [] [] []] [],
   .mk 8 9 [] [] [] (.mk 2 0 [103] []) true [] [] []],[[101]]⟩]⟩
instance:DecidableRel ltT:=fun a b=>inferInstanceAs (Decidable (Op.bytesLess a b=true))
def q9n(m l:List Str):Bool:=decide (m.Pairwise ltT)&&m.all (fun s=>inS l s)&&l.all (fun s=>inS m s)
def q4u{m l:List Str}(h:q9n m l=true):VK l=m:=by
 unfold q9n at h;simp only[x4n,x5k,x6w]at h;exact(q0z h.1.1 fun s=>⟨fun j=>HU.1 (h.1.2 s j),fun j=>HU.1 (h.2 s j)⟩).symm
def q4v:List (List Str)->List (List Str)->Bool
 |[],[]=>true
 |m::ms,l::ls=>q9n m l&&q4v ms ls
 |_,_=>false
theorem Ue:∀{ms ls:List (List Str)},q4v ms ls=true->ls.map VK=ms
 |[],[],_=>rfl
 |[],_::_,h=>by cases h
 |_::_,[],h=>by cases h
 | m::ms,l::ls,h=>by
   rw[q4v,x4n]at h;rw[x4o,q4u h.1,Ue h.2]
def CF(h:q4v D ((sheetOf p).l.map fun k=>FR (bkO p O) k.s)=true):dfB p O=D:=by
 have j:=Ue h;rw[x8t]at j;exact j
def q5t{U:List (List Str)}(h:q4v U ((sheetOf p).l.map fun k=>Qf (bkI p I) k.s)=true):usB p I=U:=by
 have j:=Ue h;rw[x8t]at j;exact j
def x2n(j:List Bool)(p:Pg)(i:Nat)(f:Pr)(D:List (List Str)):List Str:=(itsOf p i f).flatMap fun h=>bif j.getD (ixI p i f h.s.id).toNat false then(LW D h.s.id).filter (outB p f)else []
def x2p(h:List (Int×Int))(p:Pg)(i:Nat)(f:Pr)(D U:List (List Str))(o:List Str)(x:Str):Bool:=(DG 0 (WB (QA (QJ f.body+2) (h.filter fun t=>Q0 p i f D x t.1)).1 [0])).any (hitN p i f U o x)
def AR{j k:List Bool}{f0 f1:Pr}(l:p.A=[f0,f1])(q:(QQ p 0 f0).live=j)(r:(QQ p 1 f1).live=k)(h:q4v O [x2n j p 0 f0 D,x2n k p 1 f1 D]=true):otB p D=O:=by
 rw[<-Ue h,<-q,<-r];unfold otB;have m:prA p 0=f0:=VJ (by rw[l];rfl);have n:prA p 1=f1:=VJ (by rw[l];rfl);rw[l];show [otA p D 0,otA p D 1]=_;unfold otA;rw[m,n];rfl
def q4l{U:List (List Str)}{q8a q8e:List (Int×Int)}{f0 f1:Pr}(j:p.A=[f0,f1])(m:KC (QQ p 0 f0) f0=q8a)(n:KC (QQ p 1 f1) f1=q8e)(h:q4v I [(p.F++[JE]).filter (x2p q8a p 0 f0 D U (O.getD 0 [])),(p.F++[JE]).filter (x2p q8e p 1 f1 D U (O.getD 1 []))]=true):niB p D U O=I:=by
 rw[<-Ue h,<-m,<-n];unfold niB;have k:prA p 0=f0:=VJ (by rw[j];rfl);have l:prA p 1=f1:=VJ (by rw[j];rfl);rw[j];show [niA p D U O 0,niA p D U O 1]=_;unfold niA RD;rw[k,l];rfl
def q8s:Str:=[103]
def vS:Str:=[118]
def yS:Str:=[121]
def xS:Str:=[120]
def q9y:LX (QQ someP 0 f0) f0=[⟨0,1,1⟩,⟨1,2,1⟩,⟨2,3,1⟩,⟨3,4,1⟩,⟨4,-1,1⟩]:=by
 unfold LX WQ;rw[q8v,q7e];exact T7 (by unfold okSt;decide) (by decide) (by decide) (by decide)
def q9a:KC (QQ someP 0 f0) f0=[(0,1),(1,2),(2,3),(3,4),(4,5)]:=by
 unfold KC;rw[q9y]
 kernel_rfl
def q9e:KC (QQ someP 1 f1) f1=[(0,1),(1,2),(2,3),(2,4),(3,5),(4,5)]:=by
 unfold KC;rw[q9j]
 kernel_rfl
def q9s:(QQ someP 0 f0).live=[true,true,true,true,true,true]:=by
 unfold QQ;simp only[q7r]
 kernel_rfl
def q9c:(QQ someP 1 f1).live=[true,true,true,true,true,true]:=by
 unfold QQ;simp only[q7t]
 kernel_rfl
def sOx:List (List Str):=[[q8s],[yS]]
def sD0:List (List Str):=[[vS],[q8s],[],[],[yS],[],[],[retS]]
def sD:List (List Str):=[[vS],[q8s,vS],[],[],[yS],[],[],[retS]]
def sU:List (List Str):=[[],[vS],[vS],[q8s],[xS,yS],[yS],[],[yS]]
def some_book:BookR someP ⟨sheetOf someP,wysB someP,sD,sU,[[],[]],sOx⟩:=by
 have d0:dfB someP [[],[]]=sD0:=CF (by kernel_rfl);have k:otB someP sD0=sOx:=AR (f0:=f0) (f1:=f1) rfl q9s q9c (by kernel_rfl);have d1:dfB someP sOx=sD:=CF (by kernel_rfl);have o2:otB someP sD=sOx:=AR (f0:=f0) (f1:=f1) rfl q9s q9c (by kernel_rfl);have h:usB someP [[],[]]=sU:=q5t (by kernel_rfl);have j:niB someP sD sU sOx=[[],[]]:=q4l (f0:=f0) (f1:=f1) rfl q9a q9e (by kernel_rfl);refine⟨rfl,rfl,⟨1,?_⟩,?_,d1.symm,⟨0,rfl⟩,?_,h.symm⟩
 .show sOx=otB someP (dfB someP [[],[]]);rw[d0,k]
 .show otB someP (dfB someP sOx)=sOx;rw[d1,o2]
 .show niB someP sD (usB someP [[],[]]) sOx=[[],[]];rw[h,j]
def g0:Pr:=dP.A[0]'(by decide)
def g1:Pr:=dP.A[1]'(by decide)
def Ef{m:Int}(h:Ng p m=true):QL p=true:=by
 unfold Ng at h;rw[x4n]at h;exact h.1
theorem q8y:∀l:List Arg,(l.flatMap usA).length<=Z4 l
 |[]=>by simp[Z4]
 | x::r=>by
   have h:=q8y r;have j:=Wc x.x;rw[x6d,x3o];have k:(usA x).length<=1+(XL x.x).length:=by
    unfold usA;rw[x3o];split<;>simp
   simp only[Z4];omega
theorem q8j(n:Fit p)(m:QL p=true)(h:OkI p I){k:Nat}(q:k<(sheetOf p).l.length):(Qf (bkI p I) (sheetOf p).l[k].s).length<=30000:=by
 have j:=Xe n q;generalize(sheetOf p).l[k].s=t at*
 have r:=Wc t.x;have u:=q8y t.args;have y:(inAt (bkI p I) t).length<=25:=h.len25 m (caI (bkI p I).s.p t).toNat;have z:wX t.x+Z4 t.args<=21000:=by
  cases t;simp only[wS,S.x,S.args]at j⊢;omega
 have c:(Cw t).length<=(XL t.x).length+1:=by
  unfold Cw;rw[x3o];split<;>simp
 unfold Qf;split
 ·simp only[x3o];omega
 ·omega
def KW{n:Str}(h:isName n=true):n.length<=8:=by
 unfold isName at h;split at h
 .rename_i j;exact j.2
 .cases h
def IH(j:QL p=true){n:Str}(h:comB p n=true):n.length<=8:=by
 unfold comB at h;rw[x7r]at h;rcases h with h|h
 .rw [show n=JE by simpa using h];decide
 .obtain ⟨s,l,k⟩:=x6s.1 h;rw[show n=s by simpa using k];exact KW (LF j l)
theorem q9k(l:QL p=true)(q:f∈p.A){t:S}(r:t∈flL f.body){n:Str}(h:n∈FR (bkO p O) t):n.length<=8:=by
 have j:t.kind≠10->t.name.length<=8:=fun k=>by
  by_cases m:t.name=[]
  ·rw[m];simp
  ·refine KW (Ym l q r ?_);unfold ZP DF;have:(decide (t.kind≠10) && !(t.name==[]))=true:=by simp[k,m]
   rw[this];simp
 unfold FR at h;split at h
 ·rw[x4w.1 h];exact j (by omega)
 split at h
 ·rcases x4v.1 h with rfl|h
  ·exact j (by omega)
  ·rw[x4w.1 h];decide
 split at h
 ·rw[x4w.1 h];decide
 split at h
 ·unfold Iw at h;rcases x4g.1 h with h|h
  ·rcases x4g.1 h with h|h
   ·split at h
    ·cases h
    ·rw[x4w.1 h];exact j (by omega)
   ·obtain⟨x,z,u,rfl⟩:=Q6.1 h;refine KW (Ym l q r ?_);have y:x.1∈t.args:=(List.of_mem_zip (x8n z)).1;unfold ZP;refine x6f _ (x4a.2 ⟨x.1,y,?_⟩);unfold JR;rw[u.1];simp
  ·exact IH l (x5h.1 h).2
 ·cases h
noncomputable def Uj(p:Pg)(i:Nat)(f:Pr)(a:Nat):List Str:=Iu p i f (QY p).M ((QY p).ins.getD i []) a
noncomputable def q2t(p:Pg)(i:Nat)(f:Pr)(a:Nat):List Str:=q1x p i f (QY p).zb ((QY p).za.getD i []) a
def q7j(j:QL p=true)(y:p.A[i]?=some f)(a:Nat){n:Str}(h:n∈Uj p i f a):n.length<=8:=by
 have u:=WH j;have m:=x4p y;unfold Uj Iu at h;split at h
 .rw [XA]at h;rcases x4g.1 h with h|h
  .exact IH j ((KR j).2.sub i n h)
  .refine KW (BE j m (x5c _ h))
 split at h
 .cases h
 cases k:(QQ p i f).live.getD a false with
 |false=>rw[k]at h;cases h
 | true=>
   rw[k,x4s,u.M]at h;rw[x3i]at h;unfold dfB at h;rw[x4q]at h;cases q:(sheetOf p).l[QS p.A i+a-1]?with
   |none=>rw[q]at h;cases h
   | some t=>
     rw[q]at h;have h:n∈VK (FR (bkO p (QY p).za) t.s):=h;rw[XA]at h;have r:t.s∈VH p:=by rw[<-YY];exact x7g (x4p q)
     obtain⟨g,x,r⟩:=x4a.1 r;exact q9k j x r h
theorem q3c(hf:Fit p)(j:QL p=true)(n:p.A[i]?=some f):
  FlB (QY p) i (QQ p i f) (QJ f.body+2) (LX (QQ p i f) f) (KC (QQ p i f) f) (Uj p i f) (q2t p i f) (fun c=>QF p i (QJ f.body+2:Nat) c):=by
 have g:=WH j;obtain⟨e,z⟩:=KR j;have hT:=q2e j n;have C:i<p.A.length:=(x4u.1 n).1;have F:(QY p).ways[i]?=some (QQ p i f):=by rw[g.ways,NO C,VJ n]
 have hI:(QY p).ins[i]?=some ((QY p).ins.getD i []):=by rw[x3i,x3e (by rw[z.len];exact C)];rfl
 have hO:(QY p).za[i]?=some ((QY p).za.getD i []):=by rw[x3i,x3e (by rw[e.len];exact C)];rfl
 have U:(QY p).M.length=(sheetOf p).l.length:=by rw[g.M];exact Hc p _
 have V:(QY p).zb.length=(sheetOf p).l.length:=by rw[g.zb];exact x3a _
 have E:=z.len25 j i;have hO25:=e.len25 j i;have hp8:f.B.length<=8:=((GF (QB j).1).pr f (x4p n)).1;have G:∀d∈(QY p).M,d.Pairwise ltT/\d.length<=34:=fun d m=>by
  rw[g.M]at m;obtain⟨it,hi,rfl⟩:=x4y.1 m;have ht:it.s∈VH p:=by rw[<-YY];exact x7g hi
  exact⟨ZM _,x5y (YM _) (LZ j e ht)⟩
 have L:∀d∈(QY p).zb,d.Pairwise ltT/\d.length<=30000:=fun d m=>by
  rw[g.zb]at m;obtain⟨it,hi,rfl⟩:=x4y.1 m;obtain⟨k,hk,rfl⟩:=x6u.1 hi;exact⟨ZM _,x5y (YM _) (q8j hf j z hk)⟩
 have hcn:=XF j;have hcb:=Wg _ _ (x4p n);have t:∀a,(Uj p i f a).length<=34:=fun a=>RY (fun d m=>(G d m).2) E hp8 a;have Z:∀a,(Uj p i f a).Pairwise ltT:=fun a=>Bo (fun d m=>(G d m).1) a;have H:∀a,(Uj p i f a).Nodup:=fun a=>YV (Z a);have u:∀y:Str,y∈(mapG (prsG (Uj p i f) (QJ f.body+2))).map Prod.fst->y.length<=8:=fun y hy=>by
  obtain⟨a,ha⟩:=Ob _ hy;exact q7j j n a (E0 ha).2
 have hdl:=Ht j n;refine⟨F,hT.hn,rfl,Ze _ f _ hT,WC _ f hT.hj hT.hc (by have:=hT.hn;have:=hT.hw;omega) _ (by omega),?_,?_,?_,?_,?_,?_,?_,?_,?_⟩
 ·exact Ud (QY p) p i f _ hT.hn F rfl (Uj p i f) (fun a ha=>Ug (QY p) p g.s j i f n F _ hI (by omega) U a ha) fun a=>by have:=t a;omega
 ·exact fun c h=>Uh (QY p) p g.s j i f n F _ hO (by omega) V c h
 ·exact fun at_ h1 h2=>(Uf (QY p) i _ F _ hT.hn rfl (KC (QQ p i f) f) (by show(List.map _ _).length<=_;rw[x3a];omega) (HF j n) at_ h1 h2).mono fun r hr=>hr.eq
 ·exact fun c h=>ZC _ f hT.hj hT.hc (by have:=hT.hn;have:=hT.hw;omega) c (by have:=hT.hn;omega)
 ·intro c;refine⟨EY (fun d m=>(L d m).1) c,?_⟩;unfold q2t q1x;split
  ·refine x5y (YM _) ?_;rw[x3o,x4i];omega
  split
  ·simp
  cases(QQ p i f).live.getD c false with
  |false=>simp
  |true=>exact x5y (LH (Q:=fun l=>l.length<=30000) (by simp) (fun d m=>(L d m).2) _) (by decide)
 ·intro s q;obtain⟨R,hnm,q⟩:=x4a.1 q;have h8:=u R hnm;unfold outN at q;obtain⟨c,Y,q⟩:=x4a.1 q;obtain⟨x,_,q⟩:=x4a.1 q;split at q
  ·rw[x4w.1 q];have hle:QS p.A i<=1000:=x5y (AB _ _) (by omega);have J:∀c:Nat,c<QJ f.body+2->QF p i (QJ f.body+2:Nat) c≠9223372036854775807:=fun c h=>by
    unfold QF loI;split
    ·decide
    split
    ·decide
    ·omega
   refine⟨J _ ?_,J _ (x5a.1 Y),by show R.length<=maxLen;unfold maxLen;omega⟩;rw[x3i];cases hq:(atN (Uj p i f) (QJ f.body+2) R)[x.toNat]?with
   |none=>show 0<_;omega
   |some a=>exact Kw (x4p hq)
  ·cases q
 ·exact A2 (by omega) t H
 ·intro R;rw[Rg H];exact x5y (x6p _ _) (by rw[x6l];exact hT.hn)
 ·exact fun y hy=>by have:=u y hy;unfold maxLen;omega
noncomputable def FE(p:Pg)(i:Nat)(f:Pr):List Fl:=GL (((mapG (prsG (Uj p i f) (QJ f.body+2))).map Prod.fst).flatMap (outN (Uj p i f) (q2t p i f) (fun c=>QF p i (QJ f.body+2:Nat) c) (QJ f.body+2) (KC (QQ p i f) f)))
def S8(j:Fit p)(h:QL p=true)(k:p.A[i]?=some f):aP 74 [.ip (QY p).cells,.int .i64 i] (.sl ((FE p i f).map C9)):=Uk _ i _ _ _ _ _ _ _ (q3c j h k)
theorem Gz{n:Nat}{a b:Nat}(ha:a<n)(k:b<n)(h:QF p i n a=QF p i n b):a=b:=by
 unfold QF loI at h;have j:(0:Int)<=(QS p.A i:Nat):=Int.natCast_nonneg _;split at h<;>split at h<;>(try split at h)<;>(try split at h)<;>omega
theorem F0{α β:Type}{g:α->List β}:∀{l:List α},l.Nodup->(∀x∈l,(g x).Nodup)->(∀x∈l,∀y∈l,∀z,z∈g x->z∈g y->x=y)->(l.flatMap g).Nodup
 |[],_,_,_=>by simp
 | x::r,hn,h1,h2=>by
   rw[x6q]at hn;rw[x6d,x7u];refine⟨h1 x x4z,F0 hn.2 (fun y h=>h1 y (x4x _ h)) (fun y h z j=>h2 y (x4x _ h) z (x4x _ j)),fun a ha b k e=>?_⟩;subst e;obtain⟨y,h,j⟩:=x4a.1 k;have:=h2 x x4z y (x4x _ h) a ha j;subst this;exact hn.1 h
theorem q4a{G T:Nat->List Str}{n:Nat}{steps:List (Int×Int)}(J:∀a,(G a).Nodup)(k:Str):(outN G T (fun c=>QF p i n c) n steps k).Nodup:=by
 have m:(atN G n k).Nodup:=by rw[Rg J];exact List.nodup_range.filter _
 unfold outN;refine F0 List.nodup_range (fun c F=>?_) fun c F d L s j h=>?_
 ·refine F0 ?_ (fun f _=>by split<;>simp) fun f l g Q s j h=>?_
  ·rw[x3i];cases t:(comC n steps (atN G n k))[c]?with
   |none=>exact z1w
   | some r=>
     have H:=x4p t;unfold comC at H;obtain⟨c',_,rfl⟩:=x4y.1 H;exact(List.nodup_range.filter _).map _ fun x y C M=>C (Int.ofNat.inj M)
  ·have q:∀f∈(comC n steps (atN G n k)).getD c [],0<=f/\f<(atN G n k).length:=fun f l=>by
    rw[x3i]at l;cases t:(comC n steps (atN G n k))[c]?with
    |none=>rw[t]at l;cases l
    |some r=>rw[t]at l;exact(Wh (x4p t)).2 f l
   have R:=q f l;have U:=q g Q;split at j
   ·split at h
    ·rw[x4w.1 j]at h;have e:=x6h Fl.src (x4w.1 h);simp only at e;have u:f.toNat<(atN G n k).length:=by omega
     have z:g.toNat<(atN G n k).length:=by omega
     rw[x3i,x3e u,x3i,x3e z]at e;have E:=Gz (Kw (x4h u)) (Kw (x4h z)) e;have V:f.toNat=g.toNat:=by
      refine x7p fun B=>?_;rcases Nat.lt_or_gt_of_ne B with A|A
      ·exact x7i.1 m _ _ u z A E
      ·exact x7i.1 m _ _ z u A E.symm
     omega
    ·first|contradiction|cases h
   ·first|contradiction|cases j
 ·obtain⟨f,_,j⟩:=x4a.1 j;obtain⟨g,_,h⟩:=x4a.1 h;split at j
  ·split at h
   ·rw[x4w.1 j]at h;exact Gz (x5a.1 F) (x5a.1 L) (x6h Fl.dst (x4w.1 h))
   ·first|contradiction|cases h
  ·first|contradiction|cases j
theorem BM{k:Nat}{s:Fl}(h:s∈FE p k f):∃j c a,c<QJ f.body+2/\a<QJ f.body+2/\j∈Uj p k f a/\s=⟨QF p k (QJ f.body+2:Nat) a,QF p k (QJ f.body+2:Nat) c,j⟩/\j∈q2t p k f c:=by
 unfold FE GL at h;have h:=(x6a _ _).mem_iff.1 h;obtain⟨j,_,h⟩:=x4a.1 h;unfold outN at h;obtain⟨c,e,h⟩:=x4a.1 h;obtain⟨x,l,h⟩:=x4a.1 h;have g:0<=x/\x<(atN (Uj p k f) (QJ f.body+2) j).length:=by
  rw[x3i]at l;cases n:(comC (QJ f.body+2) (KC (QQ p k f) f) (atN (Uj p k f) (QJ f.body+2) j))[c]?with
  |none=>rw[n]at l;cases l
  |some r=>rw[n]at l;exact(Wh (x4p n)).2 x l
 split at h
 ·rename_i A;have z:x.toNat<(atN (Uj p k f) (QJ f.body+2) j).length:=by omega
  rw[x4w.1 h,x3i,x3e z];have m:=x4h z;refine⟨j,c,_,x5a.1 e,Kw m,?_,rfl,HU.1 A⟩;unfold atN at m;obtain⟨y,B,u⟩:=x4y.1 m;have q:=x5h.1 B;obtain⟨C,E⟩:=y;have d:C=j:=by simpa using q.2
  have t:=(E0 q.1).2;subst d;simp only at u;rw[u]at t;exact t
 ·cases h
def A1(q:QL p=true){k:Nat}(n:∀a,(Uj p k f a).Nodup):(FE p k f).Nodup:=by
 unfold FE GL;refine(x6a _ _).nodup_iff.2 (F0 (AW _) (fun j _=>q4a n j) fun a _ b _ s l m=>?_);have key:∀j,s∈outN (Uj p k f) (q2t p k f) (fun c=>QF p k (QJ f.body+2:Nat) c) (QJ f.body+2) (KC (QQ p k f) f) j->s.var=j:=fun j h=>by
  unfold outN at h;obtain⟨c,_,h⟩:=x4a.1 h;obtain⟨x,_,h⟩:=x4a.1 h;split at h
  .rw [x4w.1 h]
  .cases h
 rw[<-key a l,key b m]
noncomputable def bI(p:Pg)(j:Nat):List Str:=(QY p).ins.getD j []
noncomputable def bO(p:Pg)(j:Nat):List Str:=(QY p).za.getD j []
def GO(q:QL p=true){t:S}(u:t∈VH p)(n:t.kind=4):∃g,p.A[cIx p t]?=some g/\idxF (fun g=>g.name==t.C) p.A=(cIx p t:Nat)/\t.args.length=g.B.length/\g.name=t.C:=by
 obtain⟨k,r,h,_,l,m⟩:=ME q u n;have e:cIx p t=k:=by
  show(caI p t).toNat=k;rw[h];rfl
 have j:=x6h length m;rw[x3a,x3a]at j;exact⟨prA p k,by rw[e];exact ZG r,by rw[e];exact h,j.symm,l⟩
def HS(k:p.A[i]?=some f){h:Item}(j:h∈itsOf p i f):h.s∈VH p:=x4a.2 ⟨f,x4p k,DY j⟩
theorem Dx(h:QL p=true):VxB (QY p) p (bI p) (bO p):=by
 have u:=WH h;obtain⟨l,k⟩:=KR h;refine⟨u.s,by have:=(XF h).2.2;omega,fun j g n=>?_,fun i f n z x t=>?_⟩
 ·have m:=(x4u.1 n).1;have y:=((GF (QB h).1).pr g (x4p n)).1;refine⟨?_,?_,x5y (k.len25 h j) (by decide),x5y (l.len25 h j) (by decide),by omega⟩
  ·unfold bI;rw[x3i,x3e (by rw[k.len];exact m)];rfl
  ·unfold bO;rw[x3i,x3e (by rw[l.len];exact m)];rfl
 ·obtain⟨g,q,r,_⟩:=GO h (HS n x) t;exact⟨g,q,r⟩
def q5y(k:QL p=true){j:Nat}{g:Pr}(l:p.A[j]?=some g){n:Str}(h:n∈slI (bI p j) g):n.length<=8:=by
 unfold slI at h;rw[XJ]at h;rcases x4g.1 h with h|h
 .exact IH k ((KR k).2.sub j n h)
 .exact KW (BE k (x4p l) (x5c _ h))
def q5j(l:QL p=true){j:Nat}{g:Pr}(m:p.A[j]?=some g){n:Str}(k:n∈slO (bO p j)):n.length<=8:=by
 unfold slO at k;rw[XJ]at k;rcases x4g.1 k with k|k
 .have h:=(KR l).1.sub j (x4u.1 m).1 n k;rw[VJ m]at h;unfold outB at h;rcases x7r _ _▸h with h|h
  .exact IH l h
  .exact KW (BE l (x4p m) (x5c _ (x4y.2 ⟨_,x7a h,rfl⟩)))
 .rw [x4w.1 k];decide
def Mt{t:S}{O:List Str}{n:Str}(h:n∈clO t O):n∈slO O:=by
 unfold clO at h;split at h
 .exact (x5h.1 h).1
 .exact h
def q8c(h:QL p=true)(j:p.A[i]?=some f):f.name.length<=8:=KW ((GF (QB h).1).pr f (x4p j)).2.2.1
def QE{I O:Nat->List Str}{v:Vx}:v∈ZR p i f I O↔v=⟨f.name,1,0,[]⟩\/(∃n∈slI (I i) f,v=⟨f.name,3,0,n⟩)\/(∃n∈slO (O i),v=⟨f.name,4,0,n⟩)\/
  ∃j∈itsOf p i f,v=⟨f.name,2,j.s.id,[]⟩\/j.s.kind=4/\((∃n∈slI (I (cIx p j.s)) (prG p (cIx p j.s)),v=⟨f.name,5,j.s.id,n⟩)\/∃n∈clO j.s (O (cIx p j.s)),v=⟨f.name,6,j.s.id,n⟩):=by
 unfold ZR J7;simp only[x4g,x4w,x4y,x4a,or_assoc,HN];refine or_congr z0g (or_congr (x9t fun n=>and_congr z0g ⟨Eq.symm,Eq.symm⟩) (or_congr (x9t fun n=>and_congr z0g ⟨Eq.symm,Eq.symm⟩) (x9t fun j=>and_congr z0g ?_)));unfold Ni;rw[x4v];refine or_congr z0g ?_;split
 .rename_i h;simp only[x4g,x4y,HN];rw[and_iff_right h];exact or_congr (x9t fun n=>and_congr z0g ⟨Eq.symm,Eq.symm⟩) (x9t fun n=>and_congr z0g ⟨Eq.symm,Eq.symm⟩)
 .rename_i h;exact⟨fun k=>(nomatch k),fun k=>absurd k.1 h⟩
def x2s(k:QL p=true)(m:p.A[i]?=some f){v:Vx}(h:v∈ZR p i f (bI p) (bO p)):v.C=f.name/\v.C.length<=8/\v.slot.length<=8:=by
 have l:=q8c k m;rcases QE.1 h with rfl|⟨n,j,rfl⟩|⟨n,j,rfl⟩|⟨x,u,rfl|⟨t,⟨n,j,rfl⟩|⟨n,j,rfl⟩⟩⟩
 .exact ⟨rfl,l,x4j _⟩
 .exact ⟨rfl,l,q5y k m j⟩
 .exact ⟨rfl,l,q5j k m j⟩
 .exact ⟨rfl,l,x4j _⟩
 .obtain ⟨g,q,_⟩:=GO k (HS m u) t;have r:prG p (cIx p x.s)=g:=by unfold prG;rw[q];rfl
  rw[r]at j;exact⟨rfl,l,q5y k q j⟩
 .obtain ⟨g,q,_⟩:=GO k (HS m u) t;exact⟨rfl,l,q5j k q (Mt j)⟩
def LO{v:Vx}(h:v.C.length<=8/\v.slot.length<=8):OH v:=⟨x5y h.1 (by decide),x5y h.2 (by decide)⟩
def q8h(j:QL p=true)(k:p.A[i]?=some f):∀v∈ZR p i f (bI p) (bO p),OH v:=fun _ h=>LO (x2s j k h).2
theorem J8(h:QL p=true)(y:p.A[i]?=some f):(ZR p i f (bI p) (bO p)).length<=60000:=by
 have m:∀(k:Nat)(g:Pr),p.A[k]?=some g->g.B.length<=8:=fun k g d=>((GF (QB h).1).pr g (x4p d)).1;have u:∀k,(bI p k).length<=25:=fun k=>(KR h).2.len25 h k;have x:∀k,(bO p k).length<=25:=fun k=>(KR h).1.len25 h k;have n:∀k,(prG p k).B.length<=8:=fun k=>by
  unfold prG;cases C:p.A[k]?with
  |none=>exact x4j _
  |some g=>exact m k g C
 have q:∀l:List Item,(l.flatMap (Ni p f.name (bI p) (bO p))).length<=l.length*100:=fun l=>by
  induction l with
  |nil=>exact x4j _
  | cons j r H=>
    rw[x6d,x3o,x5g];have:(Ni p f.name (bI p) (bO p) j).length<=100:=by
     unfold Ni;split
     ·rw[x5g,x3o,x3a,x3a,Xi];have q:=u (cIx p j.s);have t:=x (cIx p j.s);have z:=n (cIx p j.s);have c:=CU j.s (bO p (cIx p j.s));omega
     ·simp
    omega
 have e:(itsOf p i f).length<=200:=by
  have:=NW p.A y;have t:=(XF h).2.2;unfold itsOf;rw[XS];omega
 unfold ZR J7;have t:=q (itsOf p i f);have z:=u i;have c:=x i;have E:=m i f y;have F:=Xi (bI p i) f;have G:=NL (bO p i);simp only[x3o,x3a,x4i];omega
theorem Ft(l:QL p=true)(j:p.A[i]?=some f){a:Nat}(q:a≠0)(r:a≠QJ f.body+1)(t:a<QJ f.body+2):∃h∈itsOf p i f,QF p i (QJ f.body+2:Nat) a=h.s.id:=by
 obtain⟨h,n,m⟩:=GM j (k:=QS p.A i+a-1) (by omega) (by omega);refine⟨h,m,?_⟩;rw[V3 l j (by omega) (by omega) n];unfold QF loI;rw[if_neg (by omega),if_neg (by omega)];omega
theorem FA(m:QL p=true)(q:p.A[i]?=some f){s:Fl}(h:s∈FE p i f):s.var.length<=8/\(s.src=0\/∃it∈itsOf p i f,s.src=it.s.id)/\(s.dst = -1\/∃it∈itsOf p i f,s.dst=it.s.id):=by
 obtain⟨u,c,a,n,l,k,rfl,r⟩:=BM h;refine⟨q7j m q a k,?_,?_⟩
 ·rcases Nat.eq_zero_or_pos a with rfl|t
  ·exact .inl rfl
  ·by_cases j:a=QJ f.body+1
   ·subst j;unfold Uj Iu at k;rw[if_neg (by omega),if_pos rfl]at k;cases k
   ·exact .inr (Ft m q (by omega) j l)
 ·by_cases j:c=QJ f.body+1
  ·left;subst j;show QF p i (QJ f.body+2:Nat) (QJ f.body+1:Nat) = -1;unfold QF;rw[if_neg (by omega),if_pos (by omega)]
  ·rcases Nat.eq_zero_or_pos c with rfl|t
   ·unfold q2t q1x at r;rw[if_neg (by omega),if_pos rfl]at r;cases r
   ·exact .inr (Ft m q (by omega) j n)
theorem G0(m:QL p=true)(r:p.A[i]?=some f){h:Item}(q:h∈itsOf p i f):∃k:Nat,h.s.id=(k:Int)+1/\k<200/\(sheetOf p).l[k]?=some h:=by
 have n:=Ok m r q;have j:h.s.id∈(itsOf p i f).map fun h=>h.s.id:=x7g q;rw[L7 (QB m).1 r]at j;unfold Qn at j;obtain⟨x,u,c⟩:=x4y.1 j;have y:=List.mem_range'_1.1 u;have t:=(x4u.1 n).1;rw[(QU p).2.2.2.1]at t;have z:=(XF m).2.2;exact⟨(h.s.id-1).toNat,by omega,by omega,n⟩
structure KeyOK(P:Program)(kt:TypeId){κ:Type}[DecidableEq κ](kv:κ->Value):Prop where
 check:∀(b:Bool)(k:κ)(w:World),(Instr.checkKey b 10000 kt (kv k)).run P w=.ok () w
 find:∀(k:κ)(es:List MapEntry)(ks:List κ)(w:World),es.map (·.key)=ks.map kv->(Instr.findKey kt (kv k) es).run P w=.ok ((ks.findIdx? fun x=>decide (k=x)).map fun j=>(j,(es[j]?.map (·.val)).getD undef)) w
 bits:∀k:κ,Instr.sameBits 10000 (kv k) (kv k)=true
theorem RC{κ:Type}{kv:κ->Value}{l:List (κ×AV)}{es:Array MapEntry}(k:es.size=(l.map fun x=>(kv x.1,x.2)).length)(n:∀(m:Nat)(x:Value×AV),(l.map fun x=>(kv x.1,x.2))[m]?=some x->∃e:MapEntry,es[m]?=some e/\e.key=x.1/\Rep σ x.2 e.val):
  es.toList.map (·.key)=(l.map (·.1)).map kv:=by
 apply z0u;intro m;rw[x4q,x4q,x4q];cases j:l[m]?with
 | none=>
   have:es.toList[m]?=none:=by
    rw[x8g]at j⊢;simp at k⊢;omega
   rw[this];rfl
 | some x=>
   obtain⟨e,q,r,_⟩:=n m (kv x.1,x.2) (by simp[j]);have h:es.toList[m]?=some e:=by simpa using q
   rw[h];simp[r]
section
variable {P:Program}{T:Tab}{N:Nat}{κ:Type}[DecidableEq κ]{kv:κ->Value}
def Jj(kv:κ->Value)(l:List (κ×AV)):XC:=.map (l.map fun x=>(kv x.1,x.2))
def K5{α:Type}:List (κ×α)->κ->α->List (κ×α)
 |[],k,v=>[(k,v)]
 |x::r,k,v=>if k=x.1 then(x.1,v)::r else x::K5 r k v
def FY{α:Type}(l:List (κ×α))(k:κ):Option α:=(l.find? fun x=>decide (k=x.1)).map (·.2)
theorem Va{kt:TypeId}(l:∀(a b:κ)(w:World),(Op.equal kt (kv a) (kv b)).run P w=.ok (decide (a=b)) w)(k:κ):∀(es:List MapEntry)(ks:List κ)(i:Nat)(w:World),es.map (·.key)=ks.map kv->
  (Instr.findAsking kt (kv k) es i).run P w=.ok ((ks.findIdx? fun x=>decide (k=x)).map fun j=>(i+j,(es[j]?.map (·.val)).getD undef)) w
 |[],[],_,_,_=>rfl
 |[],_::_,_,_,h=>by cases h
 |_::_,[],_,_,h=>by cases h
 | e::es,x::ks,i,w,h=>by
   simp only[x4o,List.cons.injEq]at h;rw[Instr.findAsking,Sem.run_bind,h.1,l,Result.andThen_ok,x9u];by_cases m:k=x
   ·simp[m]
   ·simp only[m,decide_false,x8e,x9g];rw[Va l k es ks (i+1) w h.2];cases ks.findIdx? fun x=>decide (k=x)with
    |none=>rfl
    |some j=>simp;omega
def O7{l:List (κ×α)}{k:κ}:(match(l.map (·.1)).findIdx? fun x=>decide (k=x)with
  |some j=>∃x,l[j]?=some x/\k=x.1/\FY l k=some x.2
  |none=>FY l k=none):=by
 induction l with
 |nil=>exact rfl
 | cons x r m=>
   rw[x4o,x9u];by_cases h:k=x.1
   .simp only[h,decide_true,if_true];exact⟨x,rfl,h▸rfl,by simp[FY]⟩
   .simp only[h,decide_false,x8e,x9g];have e:FY (x::r) k=FY r k:=by simp[FY,h]
    rw[e];cases n:(r.map (·.1)).findIdx? fun x=>decide (k=x)with
    |none=>rw[n]at m;exact m
    |some j=>rw[n]at m;exact m
def Vh(hT:TabOK P T){K:St->Prop}{t:TypeId}{x J:Operand}{n:Bool}(hop:o.op=.lookup t x J n){kt et:TypeId}(R:KeyOK P kt kv){k:Nat}(hx:QD s.sl x=.ext k .map){l:List (κ×AV)}(hg:getH s.H k=some (.ext (Jj kv l))){ks:κ}{ka:AV}(hk:QD s.sl J=.p ka)(Z:∀(σ:Mem)(v:Value),Rep σ ka v->v=kv ks){i:TyI}(ht:T.get t=some i)(hd:i.desc=.map kt et){zv:Value}{z:AV}(hz:∀w,(zeroValue et).run P w=.ok zv w)(hzr:∀σ,Rep σ z zv)(h:setD N s.sl o.dst (.p (bif n then .tup [(FY l ks).getD z,.bool (FY l ks).isSome]else(FY l ks).getD z)) fun sl=>K ⟨sl,s.H⟩):OpK P N s o K:=by
 refine⟨fun σ β a w G Q=>?_⟩;have g:=QX G.E x;have B:=QX G.E J;rw[hx]at g;rw[hk]at B;have hkv:a.eval J=kv ks:=by
  cases B with
  |p h=>exact Z σ _ h
 generalize hxe:a.eval x=xv at g;cases g with
 | ext _ _ bi _ V Y=>
   obtain rfl:xv=.map (some bi.blk):=Y;obtain⟨bi',es,L,r,hh,hbo,h1,h2⟩:=G.heap.chunks k _ (QG hg);rw[V]at r;cases r;have u:=RC h1 h2;have hu:=hT.of ht;rw[hd]at hu;have m:=R.find ks es.toList _ w u;obtain⟨v,hv,ok,d⟩ : ∃v,Rep σ ((FY l ks).getD z) v/\∃ok,ok=(FY l ks).isSome/\(Instr.lookup t (.map (some bi.blk)) (kv ks) n).run P w=.ok (if n then .tuple #[v,.bool ok]else v) w:=by
    have A:=O7 (l:=l) (k:=ks);cases q:(l.map (·.1)).findIdx? fun x=>decide (ks=x)with
    | none=>
      rw[q]at A m;simp only at A;rw[A];refine⟨zv,hzr σ,false,rfl,?_⟩;unfold Instr.lookup;rw[Sem.run_bind,run_underlying hu,Result.andThen_ok];simp only[Sem.run_bind,ZB hh,Result.andThen_ok,Sem.run_pure,R.check,m,Option.map_none,hz]
    | some j=>
      rw[q]at A m;obtain⟨y,h3,h4,h5⟩:=A;rw[h5];obtain⟨e,h6,h7,h8⟩:=h2 j (kv y.1,y.2) (by simp[h3]);have M:es.toList[j]?=some e:=by simpa using h6
      refine⟨e.val,h8,true,rfl,?_⟩;unfold Instr.lookup;rw[Sem.run_bind,run_underlying hu,Result.andThen_ok];simp only[Sem.run_bind,ZB hh,Result.andThen_ok,Sem.run_pure,R.check,m,x7t,M,x5b]
   obtain⟨hok,d⟩:=d;have F:(execOp a.eval o).run P w=.ok (.value (if n then .tuple #[v,.bool ok]else v)) w:=by
    simp only[execOp,hop,hxe,hkv,Sem.run_bind,d,Result.andThen_ok];rfl
   have C:Rep σ (bif n then .tup [(FY l ks).getD z,.bool (FY l ks).isSome]else(FY l ks).getD z) (if n then .tuple #[v,.bool ok]else v):=by
    subst hok;cases n with
    |false=>exact hv
    | true=>
      refine .tup _ _ (fun j=>(#[v,.bool (FY l ks).isSome]:Array Value).getD j undef) rfl (fun j c q=>?_) (fun j c q=>?_)
      .match j,q with
       |0,_=>rfl
       |1,_=>rfl
      .match j,q with
       |0,q=>cases q;exact hv
       |1,q=>cases q;exact .bool _
   obtain⟨sl,U,hr'⟩:=G.setD (.p C) h;exact XT F ⟨σ,β,_,U,hr',Later.refl _ _ _ _⟩
def Nc{l:List (κ×α)}{k:κ}{v:α}(h:((l.map (·.1)).findIdx? fun x=>decide (k=x))=none):K5 l k v=l++[(k,v)]:=by
 induction l with
 |nil=>rfl
 | cons x r m=>
   rw[x4o,x9u]at h;by_cases j:k=x.1
   .simp [j]at h
   .simp only[j,decide_false,x8e,x9g,Option.map_eq_none_iff]at h;rw[K5,if_neg j,m h];rfl
def EE{l:List (κ×α)}{k:κ}{v:α}{j:Nat}(h:((l.map (·.1)).findIdx? fun x=>decide (k=x))=some j):∃x,l[j]?=some x/\k=x.1/\K5 l k v=l.set j (x.1,v):=by
 induction l generalizing j with
 |nil=>cases h
 | cons x r z=>
   rw[x4o,x9u]at h;by_cases m:k=x.1
   .simp only[m,decide_true,if_true,x7c]at h;subst h;exact⟨x,rfl,m,by rw[K5,if_pos m];rfl⟩
   .simp only[m,decide_false,x8e,x9g,x9d]at h;obtain⟨c,n,rfl⟩:=h;obtain⟨y,q,t,u⟩:=z n;exact⟨y,by simpa using q,t,by rw[K5,if_neg m,u];rfl⟩
theorem Jl(hT:TabOK P T){K:St->Prop}{t:TypeId}{x ix vx:Operand}(hop:o.op=.mapUpdate t x ix vx)(F:o.dst=none){kt et:TypeId}(L:KeyOK P kt kv){k:Nat}(hx:QD s.sl x=.ext k .map){l:List (κ×AV)}(hg:getH s.H k=some (.ext (Jj kv l))){ks:κ}{ka:AV}(hk:QD s.sl ix=.p ka)(hka:∀(σ:Mem)(v:Value),Rep σ ka v->v=kv ks){v:AV}(hvx:QD s.sl vx=.p v){i:TyI}(ht:T.get t=some i)(hd:i.desc=.map kt et)(h:Wv s.H k (.ext (Jj kv (K5 l ks v))) fun H=>K ⟨s.sl,H⟩):OpK P N s o K:=by
 refine⟨fun σ β a w d Q=>?_⟩;have hx':=QX d.E x;have hk':=QX d.E ix;have hv':=QX d.E vx;rw[hx]at hx';rw[hk]at hk';rw[hvx]at hv';have hkv:a.eval ix=kv ks:=by
  cases hk' with
  |p h=>exact hka σ _ h
 generalize hxe:a.eval x=xv at hx';generalize hve:a.eval vx=vv at hv';cases hv' with
 |p hvr=>
 cases hx' with
 | ext _ _ A _ C hd'=>
   obtain rfl:xv=.map (some A.blk):=hd';obtain⟨bi',es,u,R,hh,hbo,U,h2⟩:=d.heap.chunks k _ (QG hg);rw[C]at R;cases R;have hkeys:=RC U h2;have hu:=hT.of ht;rw[hd]at hu;have q:=L.find ks es.toList _ w hkeys;have G:=QP hg;have hlt:=(d.heap.apart k G A C A.blk A.has_blk).2;obtain⟨es',n,hrun,hbo',hsz,hent⟩ : ∃es' n,(Instr.mapUpdate t (.map (some A.blk)) (kv ks) vv).run P w=.ok () {w with heap:=w.heap.setIfInBounds A.blk (.map es' n)}/\MS es' n/\es'.size=(K5 l ks v).length/\
     ∀(m:Nat)(x:Value×AV),((K5 l ks v).map fun x=>(kv x.1,x.2))[m]?=some x->∃e:MapEntry,es'[m]?=some e/\e.key=x.1/\Rep σ x.2 e.val:=by
    cases g:(l.map (·.1)).findIdx? fun x=>decide (ks=x)with
    | none=>
      rw[g]at q;refine⟨es.push {key:=kv ks,val:=vv,born:=u},u+1,?_,NX hbo rfl,?_,fun m y M=>?_⟩
      ·unfold Instr.mapUpdate;rw[Sem.run_bind,run_underlying hu,Result.andThen_ok];simp only[Sem.run_bind,ZB hh,Result.andThen_ok,Sem.run_pure,L.check,q,Option.map_none,JK _ hh]
      ·rw[Nc g];simpa using U
      ·rw[Nc g]at M;simp only[x3a]at U;rw[x4d,x7e]at M;split at M
       ·rename_i J;obtain⟨e,B,h4⟩:=h2 m y M;simp only[x3a]at J;exact⟨e,by rw[x9z,if_neg (by omega)];exact B,h4⟩
       ·rename_i J;simp only[x3a]at J M;have hm0:m-l.length=0:=by
         have:=(x4u.1 M).1;simp at this;omega
        rw[hm0]at M;simp at M;subst M;exact⟨{key:=kv ks,val:=vv,born:=u},by rw[x9z,if_pos (by omega)],rfl,hvr⟩
    | some j=>
      rw[g]at q;obtain⟨y,hy1,hky,hy2⟩:=EE (v:=v) g;obtain⟨e,B,h4,h5⟩:=h2 j (kv y.1,y.2) (by simp[hy1]);have h3':es.toList[j]?=some e:=by simpa using B
      have hjlt:j<es.size:=(x4t.1 B).1;simp only[h3',x7t,x5b]at q;have hek:e.key=kv ks:=by rw[h4,hky]
      refine⟨es.modify j fun e=>{e with key:=kv ks,val:=vv},u,?_,GE hbo j fun _=>rfl,?_,fun m z hz=>?_⟩
      ·have hkt:(Instr.keyThatStays (((es[j]?).map (·.key)).getD (kv ks)) (kv ks)).run P w=.ok (kv ks) w:=by
        rw[B];simp only[x7t,x5b,hek];unfold Instr.keyThatStays;rw[if_pos (L.bits ks)];rfl
       unfold Instr.mapUpdate;rw[Sem.run_bind,run_underlying hu,Result.andThen_ok];simp only[Sem.run_bind,ZB hh,Result.andThen_ok,Sem.run_pure,L.check,q,hkt,JK _ hh]
      ·rw[hy2];simpa using U
      ·rw[hy2,x5d]at hz;by_cases J:m=j
       ·subst J;rw[x5f (by simp at U⊢;omega)]at hz;cases hz;exact⟨{e with key:=kv ks,val:=vv},by simp[x7l,B],by rw[hky],hvr⟩
       ·rw[x5p (x7d J)]at hz;obtain⟨e',h6,h7⟩:=h2 m z hz;exact⟨e',by rw[x7l,if_neg (x7d J)];exact h6,h7⟩
   have hrun':(execOp a.eval o).run P w=.ok .skip {w with heap:=w.heap.setIfInBounds A.blk (.map es' n)}:=by
    simp only[execOp,hop,hxe,hkv,hve,Sem.run_bind,hrun,Result.andThen_ok];rfl
   obtain⟨H',hK,B,h4,h5⟩:=VO d.heap.nodup h;have hot:∀b,b≠A.blk->({w with heap:=w.heap.setIfInBounds A.blk (.map es' n)}:World).heap[b]?=w.heap[b]?:=fun b V=>x7n (x7d V);have Y:HRel σ β H' {w with heap:=w.heap.setIfInBounds A.blk (.map es' n)}:=by
    refine⟨fun b c V=>?_,fun j c g=>?_,by rw[B];exact d.heap.nodup,fun j g i' Z b V=>?_,fun j g j' hj'=>d.heap.inj j (B▸g) j' (B▸hj')⟩
    ·obtain⟨e,fr,h6⟩:=d.heap.mem b c V;exact⟨e,fr,(hot b fun he=>by rw[he,hh]at h6;cases h6).trans h6⟩
    ·by_cases hjk:j=k
     ·subst hjk;rw[h5 c g];exact⟨A,es',n,C,by simp[hlt],hbo',by simpa using hsz,hent⟩
     ·have J:=h4 j c g hjk;exact(d.heap.chunks j c J).mono (Mem.le_refl σ) fun i' Z b V=>hot b fun he=>hjk (d.heap.inj j (x4y.2 ⟨_,J,rfl⟩) k G i' A Z C b V (.inl he.symm))
    ·have:=d.heap.apart j (B▸g) i' Z b V;exact⟨this.1,by simpa using this.2⟩
   refine PV hrun' ⟨σ,β,⟨s.sl,H'⟩,hK,⟨?_,?_,?_,Y⟩,Mem.le_refl σ,⟨rfl,rfl,rfl,x4m _,by simp,fun b _ hn=>hot b fun he=>hn ⟨k,G,A,C,.inl he.symm⟩⟩,fun b h0 U=>absurd h0 U,fun b ⟨j,g,r⟩=>.inl ⟨j,B▸g,r⟩,fun _ _ _=>rfl⟩
   ·rw[F];exact d.size
   ·rw[F];exact d.defers
   ·rw[F];exact d.E
end
def x2o:AV->Bool
 |.int .. => true
 |.str _=>true
 |_=>false
theorem Ct{cs:List AV}(r:∀c∈cs,x2o c=true)(h:Rep σ (.agg cs) v):v=.agg (cs.map vlC).toArray:=by
 cases h with
 | agg _ vs u t n q=>
   congr 1;apply Array.ext_getElem?;intro i;cases j:cs[i]?with
   | none=>
     rw[x8g]at j;rw[x9w (by omega),x9w (by simpa using j)]
   | some c=>
     have k:=q i c j;have l:=r c (x4p j);rw[n i c j];have m:u i=vlC c:=by
      generalize u i=w at k;cases k<;>first|rfl|cases l
     rw[m];simp[j]
def vxV(v:Vx):Value:=.agg #[.string ⟨v.C.toArray⟩,.int .i64 v.kind,.int .i64 v.id,.string ⟨v.slot.toArray⟩]
def J9{a:Vx}(h:Rep σ (.agg a.cells) v):v=vxV a:=Ct (fun c j=>by simp only[Vx.cells,x4v,x8m,or_false]at j;rcases j with rfl|rfl|rfl|rfl<;>rfl) h
def egV(e:Eg):Value:=.agg #[.string ⟨e.G.C.toArray⟩,.int .i64 e.G.kind,.int .i64 e.G.id,.string ⟨e.G.slot.toArray⟩,.string ⟨e.to.C.toArray⟩,.int .i64 e.to.kind,.int .i64 e.to.id,.string ⟨e.to.slot.toArray⟩,.int .i64 e.kind]
def Rs(h:Rep σ (.agg a.cells) v):v=egV a:=Ct (fun c j=>by simp only[Eg.cells,x4v,x8m,or_false]at j;rcases j with rfl|rfl|rfl|rfl|rfl|rfl|rfl|rfl|rfl<;>rfl) h
def V6(d:Nat)(a b:Vx)(w:World):(Op.equalIn (d+2) 27 (vxV a) (vxV b)).run prog w=.ok (decide (a=b)) w:=by
 have m:prog.underlying 27=some (.struct (prog.fieldsOf 27)):=by kernel_rfl
 have h:prog.underlying 9=some .string:=by kernel_rfl
 have l:prog.underlying 3=some (.int .i64):=by kernel_rfl
 have k:(prog.fieldsOf 27).toList=(match ty27.desc with |.struct fs=>fs.toList|_=>[]):=by kernel_rfl
 unfold vxV;rw[run_equalIn_struct w (d+1) _ _ _ m (by kernel_rfl),k];simp only[ty27,Op.eqFields];have n:∀(x:ByteArray)(y z:Int)(u:ByteArray),(part 9 #[.string x,.int .i64 y,.int .i64 z,.string u] 0).run prog w=.ok (.string x) w:=fun _ _ _ _=>run_part_plain w (by kernel_rfl) rfl;have q:∀(x:ByteArray)(y z:Int)(u:ByteArray),(part 3 #[.string x,.int .i64 y,.int .i64 z,.string u] 1).run prog w=.ok (.int .i64 y) w:=fun _ _ _ _=>run_part_plain w (by kernel_rfl) rfl;have r:∀(x:ByteArray)(y z:Int)(u:ByteArray),(part 3 #[.string x,.int .i64 y,.int .i64 z,.string u] 2).run prog w=.ok (.int .i64 z) w:=fun _ _ _ _=>run_part_plain w (by kernel_rfl) rfl;have t:∀(x:ByteArray)(y z:Int)(u:ByteArray),(part 9 #[.string x,.int .i64 y,.int .i64 z,.string u] 3).run prog w=.ok (.string u) w:=fun _ _ _ _=>run_part_plain w (by kernel_rfl) rfl;have es:∀x y:ByteArray,(Op.equalIn (d+1) 9 (.string x) (.string y)).run prog w=.ok (x.toList==y.toList) w:=fun x y=>run_equalIn_string (P:=prog) w d 9 x y h;have j:∀x y:Int,(Op.equalIn (d+1) 3 (.int .i64 x) (.int .i64 y)).run prog w=.ok (x==y) w:=fun a b=>run_equalIn_int (P:=prog) w d 3 .i64 .i64 a b l;have e:decide (a=b)=(((⟨a.C.toArray⟩:ByteArray).toList==(⟨b.C.toArray⟩:ByteArray).toList)&&((a.kind==b.kind)&&((a.id==b.id)&&((⟨a.slot.toArray⟩:ByteArray).toList==(⟨b.slot.toArray⟩:ByteArray).toList)))):=by
  rw[ByteArray.toList_eq,ByteArray.toList_eq,ByteArray.toList_eq,ByteArray.toList_eq,x8s,x8q,x4n,x4n,x4n,x8u,x8u,x8u,x8u];cases a;cases b;simp
 simp only[ne_eq,show ¬("Proc" = "_") by decide,show ¬("Kind" = "_") by decide,show ¬("Id" = "_") by decide,show ¬("Slot" = "_") by decide,not_false_eq_true,if_true,Sem.run_bind,n,q,r,t,Result.andThen_ok,es,j,Sem.run_ite,Sem.run_pure,e];cases((⟨a.C.toArray⟩:ByteArray).toList==(⟨b.C.toArray⟩:ByteArray).toList)<;>cases(a.kind==b.kind)<;>cases(a.id==b.id)<;>cases((⟨a.slot.toArray⟩:ByteArray).toList==(⟨b.slot.toArray⟩:ByteArray).toList)<;>simp
def Rt(a b:Eg)(w:World):(Op.equalIn 10000 43 (egV a) (egV b)).run prog w=.ok (decide (a=b)) w:=by
 have n:prog.underlying 43=some (.struct (prog.fieldsOf 43)):=by kernel_rfl
 have m:prog.underlying 3=some (.int .i64):=by kernel_rfl
 have l:(prog.fieldsOf 43).toList=(match ty43.desc with |.struct fs=>fs.toList|_=>[]):=by kernel_rfl
 have h:∀(xs:Array Value)(off:Nat),(part 27 xs off).run prog w=.ok (.agg (xs.extract off (off+4))) w:=fun xs off=>by
  simp only[part,Sem.run_bind,Tryz.isAgg27,Result.andThen_ok,if_true,Tryz.sizeOf27,Sem.run_pure]
 have q:∀e:Eg,(part 27 #[.string ⟨e.G.C.toArray⟩,.int .i64 e.G.kind,.int .i64 e.G.id,.string ⟨e.G.slot.toArray⟩,.string ⟨e.to.C.toArray⟩,.int .i64 e.to.kind,.int .i64 e.to.id,.string ⟨e.to.slot.toArray⟩,.int .i64 e.kind] 0).run prog w=.ok (vxV e.G) w:=fun e=>h _ 0;have r:∀e:Eg,(part 27 #[.string ⟨e.G.C.toArray⟩,.int .i64 e.G.kind,.int .i64 e.G.id,.string ⟨e.G.slot.toArray⟩,.string ⟨e.to.C.toArray⟩,.int .i64 e.to.kind,.int .i64 e.to.id,.string ⟨e.to.slot.toArray⟩,.int .i64 e.kind] 4).run prog w=.ok (vxV e.to) w:=fun e=>h _ 4;have t:∀e:Eg,(part 3 #[.string ⟨e.G.C.toArray⟩,.int .i64 e.G.kind,.int .i64 e.G.id,.string ⟨e.G.slot.toArray⟩,.string ⟨e.to.C.toArray⟩,.int .i64 e.to.kind,.int .i64 e.to.id,.string ⟨e.to.slot.toArray⟩,.int .i64 e.kind] 8).run prog w=.ok (.int .i64 e.kind) w:=fun e=>run_part_plain w (by kernel_rfl) rfl;have k:∀x y:Vx,(Op.equalIn 9999 27 (vxV x) (vxV y)).run prog w=.ok (decide (x=y)) w:=fun x y=>V6 9997 x y w;have j:∀x y:Int,(Op.equalIn 9999 3 (.int .i64 x) (.int .i64 y)).run prog w=.ok (x==y) w:=fun a b=>run_equalIn_int (P:=prog) w 9998 3 .i64 .i64 a b m;unfold egV;rw[run_equalIn_struct w 9999 _ _ _ n (by kernel_rfl),l];simp only[ty43,Op.eqFields];have e:decide (a=b)=(decide (a.G=b.G)&&(decide (a.to=b.to)&&(a.kind==b.kind))):=by
  cases a;cases b;simp only[Eg.mk.injEq,Bool.decide_and];rfl
 simp only[ne_eq,show ¬("From" = "_") by decide,show ¬("To" = "_") by decide,show ¬("Kind" = "_") by decide,not_false_eq_true,if_true,Sem.run_bind,q,r,t,Result.andThen_ok,k,j,Sem.run_ite,Sem.run_pure,e];cases decide (a.G=b.G)<;>cases decide (a.to=b.to)<;>cases(a.kind==b.kind)<;>simp
def TI{t:Bool}{K:LV->Prop}{x y:Operand}{u:TypeId}(l:o.op=.binOp .eql 43 x y u){b:Eg}(z:QD s.sl x=.p (.agg a.cells))(c:QD s.sl y=.p (.agg b.cells))(r:K (.p (.bool (decide (a=b))))):ValO prog t s o K:=by
 refine⟨fun σ β m w q _=>⟨_,.bool (decide (a=b)),r,.p (.bool _),fun w' _ _=>?_⟩⟩;have j:=QX q x;have k:=QX q y;rw[z]at j;rw[c]at k;have j:m.eval x=egV a:=by cases j with|p h=>exact Rs h
 have k:m.eval y=egV b:=by cases k with|p h=>exact Rs h
 have n:=Rt a b w';unfold egV at j k n;simp only[execOp,l,j,k,Sem.run_bind,run_eqGuard_agg _ _ _ _ _ _ _ (show prog.eqGuardType prog.depth 43=false by kernel_rfl),Result.andThen_ok,run_eql_struct,n,Sem.run_pure]
def Vf{t:Bool}{K:LV->Prop}{x y:Operand}{u:TypeId}(l:o.op=.binOp .neq 43 x y u){b:Eg}(z:QD s.sl x=.p (.agg a.cells))(c:QD s.sl y=.p (.agg b.cells))(r:K (.p (.bool (!decide (a=b))))):ValO prog t s o K:=by
 refine⟨fun σ β m w q _=>⟨_,.bool (!decide (a=b)),r,.p (.bool _),fun w' _ _=>?_⟩⟩;have j:=QX q x;have k:=QX q y;rw[z]at j;rw[c]at k;have j:m.eval x=egV a:=by cases j with|p h=>exact Rs h
 have k:m.eval y=egV b:=by cases k with|p h=>exact Rs h
 have n:=Rt a b w';unfold egV at j k n;simp only[execOp,l,j,k,Sem.run_bind,run_eqGuard_agg _ _ _ _ _ _ _ (show prog.eqGuardType prog.depth 43=false by kernel_rfl),Result.andThen_ok,run_neq_struct,n,Sem.run_pure]
def FX(p:Eg):List Eg->List Eg
 |[]=>[]
 |b::r=>bif decide (b=p)then FX b r else b::FX b r
def IJ:List Eg->List Eg
 |[]=>[]
 |a::r=>a::FX a r
def Sq{l:List Eg}(h:l.length<2):IJ l=l:=by
 match l,h with
 |[],_=>rfl
 |[a],_=>rfl
theorem Yt(l:List Eg)(F:l.length<=1000000000):
  aH 123 [.hd 1000 0 l.length] [(1000,.own 43 9 (avE l))] (.hd 1000 0 (IJ l).length) [(1000,.own 43 9 (avE (IJ l)))]:=by
 refine sK VB func123 ?_;conv=>whnf
 repeat' ((first|(refine gX ?_;intros)|refine dA ?_|((first|apply bD|apply bE|apply bN|apply bB)<;>intro _<;>try omega))<;>conv=>whnf)
 ·have e:IJ l=l:=Sq (by omega);rw[e];exact⟨_,x4c _,rfl,rfl⟩
 refine lI (fun k:Nat=>⟨[(0,.hd 1000 0 l.length),(3,.j k)],[(1000,.own 43 9 (avE l))]⟩) (fun k=>1<=k/\k<=l.length/\∃a,l[k-1]?=some a/\l.take k++FX a (l.drop k)=IJ l) (fun k=>l.length-k) 1 ⟨x4m _,by omega,?_⟩ ?_
 ·cases l with
  |nil=>simp at*
  |cons a r=>exact⟨a,rfl,rfl⟩
 rintro k ⟨V,Y,a,ha,u⟩;rcases x4f k l.length with y|y;rotate_left 1
 ·rw[x4l y,x4b y]at u;conv=>whnf
  repeat' ((first|(refine gX ?_;intros)|refine dA ?_|((first|apply bD|apply bE|apply bN|apply bB)<;>intro _<;>try omega))<;>conv=>whnf)
  rw[<-u,FX,x5m];exact⟨_,x4c _,rfl,rfl⟩
 rw[x5j y,FX]at u;have B:k-1<l.length:=by omega
 obtain⟨_,A⟩:=x4u.1 ha;have c:(avE l)[k]?=some (.agg l[k].cells):=by simp[avE,y]
 have m:(avE l)[k-1]?=some (.agg a.cells):=by simp[avE,ha]
 conv=>whnf
 repeat' ((first|(refine gX ?_;intros)|refine dA ?_|refine iO k ?_|refine iO (k-1) ?_|refine lO c ?_|refine lO m ?_|refine x9r k l.length rfl rfl (by omega) (by omega) ?_|refine TI rfl (a:=l[k]) (b:=a) rfl rfl ?_|((first|apply bD|apply bE|apply bN|apply bB)<;>intro _<;>try omega))<;>conv=>whnf)
 rotate_left 1
 ·have h:decide (l[k]=a)=false:=by simpa using(show ¬l[k]=a by assumption)
  rw[h,x5q]at u;exact nX (k+1) ⟨by omega,by omega,l[k],by simp[y],by rw[<-u,x4k y,x4r];rfl⟩
 have h:decide (l[k]=a)=true:=by simpa using(show l[k]=a by assumption)
 rw[h,x4s]at u;clear ha A c m B h;refine lI (fun x:Nat×Nat×List Eg=>⟨[(0,.hd 1000 0 l.length),(3,.j x.2.1),(4,.hd 1000 (0+k) (l.length-k)),(5,.j x.1)],[(1000,.own 43 9 (avE x.2.2))]⟩) (fun x=>1<=x.1/\x.1<=l.length-k/\x.2.1<=k+x.1-1/\x.2.2.length=l.length/\x.2.2.drop (k+x.1-1)=l.drop (k+x.1-1)/\∃a,l[k+x.1-1]?=some a/\x.2.2.take x.2.1++FX a (l.drop (k+x.1))=IJ l) (fun x=>l.length-k-x.1) (1,k,l) ⟨x4m _,by simp only;omega,by simp only;omega,rfl,rfl,l[k],by simp[y],u⟩ ?_;rintro⟨q,i,es⟩ ⟨H,J,L,d,z,a,ha,n⟩;clear u;simp only at H J L d z ha n⊢;have M:(avE es).length=l.length:=by simp[avE,d]
 rcases x4f q (l.length-k)with U|U
 ·have t:k+q<l.length:=by omega
  have E:es[k+q]?=l[k+q]?:=by
   have:=x6h (fun x=>x[1]?) z;simp only[x5o]at this
   rwa[show k+q-1+1=k+q by omega]at this
  have e2:es[k+q-1]?=some a:=by
   have:=x6h (fun x=>x[0]?) z;simp only[x5o,x8d]at this;rw[this,ha]
  rw[x3e t]at E;have c:(avE es)[k+q]?=some (.agg l[k+q].cells):=by simp[avE,E]
  have m:(avE es)[k+q-1]?=some (.agg a.cells):=by simp[avE,e2]
  have Q:i<es.length:=by omega
  have G:(avE es)[i]?=some (.agg es[i].cells):=by simp[avE,Q]
  rw[x5j t,FX]at n;conv=>whnf
  repeat' ((first|(refine gX ?_;intros)|refine dA ?_|refine iO q ?_|refine iO (q-1) ?_|refine iO i ?_|refine lO c ?_|refine lO m ?_|refine x8l i 0 (.agg es[i].cells) (.agg l[k+q].cells) (by omega) G (show 9<=9 from x4m 9) rfl ?_|refine Vf rfl (a:=l[k+q]) (b:=a) rfl rfl ?_|((first|apply bD|apply bE|apply bN|apply bB)<;>intro _<;>try omega))<;>conv=>whnf)
  all_goals by_cases h:l[k+q]=a
  all_goals first
   |(exfalso;simp_all;done)
   | (rw[h,x5n rfl,x4s]at n
      exact nX (q+1,i,es) ⟨by simp only;omega,by simp only;omega,by simp only;omega,d,by
       have:=x6h (List.drop 1) z;simp only[z0f]at this;simpa only[show k+(q+1)-1=k+q-1+1 by omega]using this,l[k+q],by simp[t],by rw[h];exact n⟩)
   | (rw[x5r h,x5q]at n
      have g:(es.set i l[k+q]).drop (k+q)=l.drop (k+q):=by
       rw[List.drop_set_of_lt (by omega)];have:=x6h (List.drop 1) z;simp only[z0f]at this
       rwa[show k+q-1+1=k+q by omega]at this
      exact⟨(q+1,i+1,es.set i l[k+q]),⟨by simp only;omega,by simp only;omega,by simp only;omega,by simp only[x6x];exact d,g,l[k+q],by simp[t],by
       simp only;rw[<-n,x4k (by simp;omega),List.take_set_of_le (by omega),List.getElem_set_self,x4r];rfl⟩,by simp only;omega,Le.of_eq (by simp only[avE,x5d];rfl)⟩)
 ·have C:k+q=l.length:=by omega
  rw[C,List.drop_length,FX,x5m]at n;conv=>whnf
  repeat' ((first|(refine gX ?_;intros)|refine dA ?_|refine x9r i l.length rfl rfl (by omega) (by omega) ?_|refine x9r 0 i rfl rfl (by omega) (by omega) ?_|((first|apply bD|apply bE|apply bN|apply bB)<;>intro _<;>try omega))<;>conv=>whnf)
  refine OpK.clear XM rfl rfl rfl rfl rfl rfl rfl (by kernel_rfl) (by decide) ?_;conv=>whnf
  repeat' ((first|(refine gX ?_;intros)|refine dA ?_|refine x9r 0 i rfl rfl (by omega) (by omega) ?_|((first|apply bD|apply bE|apply bN|apply bB)<;>intro _<;>try omega))<;>conv=>whnf)
  have R:i=(IJ l).length:=by rw[<-n];simp;omega
  exact⟨_,x8o (by rw[<-R];rfl),rfl,by rw[x6i,<-n];simp[avE,List.map_take]⟩
def Yi{l:List Eg}:(Qj l).length=l.length:=by unfold Qj;simp
def DB(l:List Eg):List Eg:=IJ (Qj l)
theorem Gt(l:List Eg)(j:∀s∈l,OK s)(h:l.length<=1000000000):
  aH 68 [.hd 1000 0 l.length] [(1000,.own 43 9 (avE l))] (.hd 1000 0 (DB l).length) [(1000,.own 43 9 (avE (DB l)))]:=by
 refine sK B3 func68 ?_;conv=>whnf
 repeat' ((first|(refine gX ?_;intros)|refine dA ?_|((first|apply bD|apply bE|apply bN|apply bB)<;>intro _<;>try omega)|(refine cH rH5 0 (Nj l j h) ?_)|(refine cH rH5 0 (Yt (Qj l) (by rw[Yi];exact h)) ?_ (ha:=(x5w (x8o (by rw[Yi];rfl)) x6e))))<;>conv=>whnf)
 exact⟨_,x4c _,rfl,rfl⟩
end Go.Ab
