/- give: a right program's book, walked. -/
import Derived.Test.YtgljdhjopolmcaaGreatRcA25
set_option linter.all false
set_option maxRecDepth 100000
set_option maxHeartbeats 16000000
namespace Go.Ab
open Go.Proofs.Tryz
open Go.Proofs
variable {D I O:List (List Str)}{a i k:Nat}{f:Pr}{nm:Str}{p:Pg}
theorem Mi(p:Pg)(hf:Fit p):SpecP prog 32 [.agg p.cells] (fun r=>(QM p=true->r=.ip (QX p).cells)/\(QM p=false->r=.nilp)):=by
 refine sC Bm func32 ?_;conv=>whnf
 have hM:=RO p hf;cases hc:QM p with
 | false=>
   rw[hc]at hM;repeat' ((first|refine cP hM ?_|(apply bN<;>intro _))<;>conv=>whnf)
   all_goals first
    |contradiction
    |exact⟨_,.p (Sub.refl _),fun h=>(by cases h),fun _=>rfl⟩
 | true =>
   rw[hc]at hM;obtain⟨hg,hpl,hcn⟩:=XF hc;have hpm:(p.A.map fun f=>AV.agg f.cells).length=p.A.length:=z0s _;have hFl:=LC p (by omega) (by omega);repeat' ((first|refine cP hM ?_|(apply bN<;>intro _))<;>conv=>whnf)
   all_goals try contradiction
   refine JT ⟨[(1,.p (.ip p.cells)),(3,.ptr 2 0)],[(3,Nw p 0),(2,C1 p (.hd 3 0 0) (.p .nils) (.p .nils) p.A.length),(1,KC (List.replicate p.A.length [])),(0,KC (List.replicate p.A.length []))]⟩ ?_ ?_
   ·refine DrawK.of ZI mixed (.cons 0 false (.cons 2 false (.cons 3 false (.cons 4 false (.cons 6 false (.cons 7 false (.cons 8 false (.fork3 1 (.fork 5 (.cons 9 true (.cons 10 true (.cons 11 true (.cons 12 true .nil)))) 9 (.cons 5 true (.cons 10 true (.cons 11 true (.cons 12 true .nil))))) 5 (.fork 1 (.cons 9 true (.cons 10 true (.cons 11 true (.cons 12 true .nil)))) 9 (.cons 1 true (.cons 10 true (.cons 11 true (.cons 12 true .nil))))) 9 (.fork 1 (.cons 5 true (.cons 10 true (.cons 11 true (.cons 12 true .nil)))) 5 (.cons 1 true (.cons 10 true (.cons 11 true (.cons 12 true .nil))))))))))))) (by kernel_rfl) ?_;conv=>whnf
    repeat' ((first|(refine gX ?_;intros)|refine cP hFl ?_|refine z6t p.A.length (by rw[hpm]) (by show 24*_<=140737488355328;omega) (by unfold maxLen;omega) ?_|refine z1s ?_ ?_)<;>conv=>whnf)
    all_goals first
     |exact x4n
     |exact x6c
   conv=>whnf
   repeat' ((refine iM fun _=>?_)<;>conv=>whnf)
   have hnW:(wysB p).length=p.A.length:=by unfold wysB;rw[z0s,z4q]
   refine lI (fun k:Nat=>⟨[(1,.p (.ip p.cells)),(3,.ptr 2 0),(32,.p (.int .i64 (p.A.map fun f=>AV.agg f.cells).length)),(33,.j k)],[(3,Nw p k),(2,C1 p (.hd 3 0 k) (.p .nils) (.p .nils) p.A.length),(1,KC (List.replicate p.A.length [])),(0,KC (List.replicate p.A.length []))]⟩) (fun k=>k<=p.A.length) (fun k=>p.A.length-k) 0 (z1q _) ?_;intro k hk;rcases z1w k p.A.length with u|u
   ·have F:p.A[k]?=some p.A[k]:=by simp
    obtain⟨w1,w2,w3⟩:=MD hc F;have hWn:=x2i p k p.A[k] F (by omega) w1 w3;have hwl:(((wysB p).take k).map fun w=>AV.ip w.cells).length=k:=by rw[z0s,z1r,hnW];omega
    have G:Nw p (k+1)=.own 131 1 ((((wysB p).take k).map fun w=>AV.ip w.cells)++[.ip (QQ p k p.A[k]).cells]):=by
     unfold Nw;rw[z1y (by rw[hnW];exact u),z1v];have e:(wysB p)[k]'(by rw[hnW];exact u)=QQ p k p.A[k]:=by
      have y:=Ry u;rw[z0c (by rw[hnW];exact u),GK F]at y;exact z3q y
     rw[e];rfl
    conv=>whnf
    repeat' ((first|refine dA ?_|refine gX ?_|refine cP hWn ?_|refine pA 1 8 hwl.symm ?_|(apply bD<;>intro _<;>try omega)|refine z1s ?_ ?_)<;>conv=>whnf)
    all_goals first
     |exact⟨k+1,u,by omega,Le.of_eq (by rw[G];rfl)⟩
   ·obtain rfl:k=p.A.length:=by omega
    conv=>whnf
    repeat' (apply bD<;>intro _<;>first|omega|conv=>whnf)
    refine lJ (fun x:Bool×List (List Str)×List (List Str)=>⟨[(1,.p (.ip p.cells)),(3,.ptr 2 0),(5,.p (.bool x.1))],[(4,KC x.2.1),(3,Nw p p.A.length),(2,C1 p (.hd 3 0 p.A.length) (.hd 4 0 x.2.1.length) (.p .nils) p.A.length),(1,KC x.2.2),(0,KC (List.replicate p.A.length []))]⟩) (fun x=>(∃r,x.2.2=itO p r)/\(x.1=false->rdO p x.2.2=x.2.2/\x.2.1=dfB p x.2.2)) (fun x=>2*(400-tot x.2.2)+x.1.toNat) (true,[],List.replicate p.A.length []) (Le.mk [(4,KC [])] (by simp[Chunk.new0,KC];rfl) (by simp) (by simp) (.r (.r (.cons (.p (Sub.tt rfl)) .nil))) (.new z1j (.cons rfl (.refl _) (.cons rfl (.obj (.r (.r (.cons (.nil z1j) (.r (.r (.r .nil))))))) (.cons rfl (.refl _) (.cons rfl (.refl _) .nil)))))) ⟨⟨0,rfl⟩,fun h=>by cases h⟩ ?_;rintro⟨m,D,O⟩ ⟨⟨r,hr⟩,hm⟩;simp only at hr hm⊢;have M:=Fr p r;rw[<-hr]at M;cases m with
    | false =>
      obtain⟨Z,hf2⟩:=hm rfl;conv=>whnf
      repeat' (refine Br.ff ?_;conv=>whnf)
      subst hf2;have hfixO:=Z;clear hm Z;have H:=Md p O;have R:∀d∈dfB p O,d.Pairwise ltT/\d.length<=1000000000:=fun d R=>by
       obtain⟨it,hi,rfl⟩:=z1z.1 R;have y:=UL (YP (bkO p O) it.s);have Y:=PV hc M (t:=it.s) (by rw[<-GW];exact z1z.2 ⟨_,hi,rfl⟩);exact⟨XB _,by omega⟩
      have hOn:=M.len;obtain⟨D,hD⟩ : ∃D,dfB p O=D:=⟨_,rfl⟩;rw[hD]at H R⊢;have hBk:∀I,(∃r,I=itI p D O r)->rdI p D O I=I->QX p=⟨sheetOf p,wysB p,D,usB p I,I,O⟩:=fun I y Y=>by
       have hB:BookR p ⟨sheetOf p,wysB p,D,usB p I,I,O⟩:=⟨rfl,rfl,⟨r,hr⟩,hfixO,hD.symm,y,Y,rfl⟩;exact hB.eq.symm
      refine lJ (fun x:Bool×List (List Str)×List (List Str)=>⟨[(1,.p (.ip p.cells)),(3,.ptr 2 0),(10,.p (.bool x.1))],[(5,KC x.2.1),(4,KC D),(3,Nw p p.A.length),(2,C1 p (.hd 3 0 p.A.length) (.hd 4 0 D.length) (.hd 5 0 x.2.1.length) p.A.length),(1,KC O),(0,KC x.2.2)]⟩) (fun x=>(∃r,x.2.2=itI p D O r)/\(x.1=false->rdI p D O x.2.2=x.2.2/\x.2.1=usB p x.2.2)) (fun x=>2*(400-tot x.2.2)+x.1.toNat) (true,[],List.replicate p.A.length []) (Le.mk [(5,KC [])] (by simp[Chunk.new0,KC];rfl) (by simp) (by simp) (.r (.r (.cons (.p (Sub.tt rfl)) .nil))) (.new z1j (.cons rfl (.refl _) (.cons rfl (.refl _) (.cons rfl (.obj (.r (.r (.r (.cons (.nil z1j) (.r (.r .nil))))))) (.cons rfl (.refl _) (.cons rfl (.refl _) .nil))))))) ⟨⟨0,rfl⟩,fun h=>by cases h⟩ ?_;rintro⟨m,U,I⟩ ⟨⟨q,hq⟩,hm⟩;simp only at hq hm⊢;have hI:=Fm p D O q;rw[<-hq]at hI;have J:p.A.length=(O.map eStrs).length:=by rw[z0s,M.len]
      have hKD:D.length=(D.map eStrs).length:=by rw[z0s]
      cases m with
      | false=>
        obtain⟨Z,rfl⟩:=hm rfl;have hbk:=hBk I ⟨q,hq⟩ Z;have g:p.A.length=(I.map eStrs).length:=by rw[z0s,hI.len]
        have hKU:(usB p I).length=((usB p I).map eStrs).length:=by rw[z0s]
        conv=>whnf
        repeat' (refine Br.ff ?_;conv=>whnf)
        all_goals first
         |exact⟨_,x4z rfl (.hd (z2b some Vm) U7) (.hd rfl hKD) (.hd rfl hKU) (.hd rfl g) (.hd rfl J),fun _=>by rw[hbk],fun h=>by cases h⟩
      | true=>
        have hLl:((sheetOf p).l.map fun i=>AV.agg i.cells).length=(sheetOf p).l.length:=z0s _;obtain⟨_,_,_,hsl,_⟩:=QK p;have hUl:(usB p I).length=(sheetOf p).l.length:=z0s _;have g:p.A.length=(I.map eStrs).length:=by rw[z0s,hI.len]
        conv=>whnf
        repeat' ((first|(refine gX ?_;intros)|refine Br.tt ?_)<;>conv=>whnf)
        refine lJ (fun k:Nat=>⟨[(1,.p (.ip p.cells)),(3,.ptr 2 0),(10,.p .ff),(124,.p (YC (sheetOf p).l)),(125,.p (.int .i64 ((sheetOf p).l.map fun i=>AV.agg i.cells).length)),(126,.j k)],[(5,KC ((usB p I).take k)),(4,KC D),(3,Nw p p.A.length),(2,C1 p (.hd 3 0 p.A.length) (.hd 4 0 D.length) (.hd 5 0 k) p.A.length),(1,KC O),(0,KC I)]⟩) (fun k=>k<=(sheetOf p).l.length) (fun k=>(sheetOf p).l.length-k) 0 (Le.trans (s':=⟨[(1,.p (.ip p.cells)),(3,.ptr 2 0),(10,.p .ff),(124,.p (YC (sheetOf p).l)),(125,.p (.int .i64 ((sheetOf p).l.map fun i=>AV.agg i.cells).length)),(126,.j (0:Nat))],[(4,KC D),(3,Nw p p.A.length),(2,C1 p (.hd 3 0 p.A.length) (.hd 4 0 D.length) (.p .nils) p.A.length),(1,KC O),(0,KC I)]⟩) (lE) (Le.mk [(5,KC [])] (by simp[Chunk.new0,KC];rfl) (by simp) (by simp) (.r (.r (.r (.r (.r (.r .nil)))))) (.new z1j (.cons rfl (.refl _) (.cons rfl (.refl _) (.cons rfl (.obj (.r (.r (.r (.cons (.nil z1j) (.r (.r .nil))))))) (.cons rfl (.refl _) (.cons rfl (.refl _) .nil)))))))) (z1q _) ?_;intro k hk;rcases z1w k (sheetOf p).l.length with u|u;rotate_left 1
        ·obtain rfl:k=(sheetOf p).l.length:=by omega
         have Q:(rdI p D O I).length=I.length:=by rw[hI.len];unfold rdI niB;rw[z0s,z4q]
         have hIn:=hI.len;rw[show(usB p I).take (sheetOf p).l.length=usB p I from z1f (by omega)];have hu:∀d∈usB p I,d.Pairwise ltT/\d.length<=1000000000:=fun d R=>by
          obtain⟨it,hi,rfl⟩:=z1z.1 R;have y:=UL (KA (bkI p I) it.s);have Y:=AC hc hI (t:=it.s) (by rw[<-GW];exact z1z.2 ⟨_,hi,rfl⟩);exact⟨XB _,by omega⟩
         conv=>whnf
         repeat' ((first|(refine iM fun _=>?_)|(apply bD<;>intro _<;>try omega))<;>conv=>whnf)
         have hW:rdI p D O I=itI p D O (q+1):=by rw[hq];rfl
         refine x1w hc M H hUl R hu hIn (Q.trans hIn) x4o fun m s v hle=>?_;conv=>whnf
         refine⟨(m,usB p I,rdI p D O I),⟨⟨q+1,hW⟩,fun h=>?_⟩,?_,hle⟩
         ·simp only at h⊢;rw[h]at v;have y:rdI p D O I=I:=by simpa using v
          rw[y];exact⟨y,rfl⟩
         ·simp only;have hOW:tot (rdI p D O I)<=400:=(N6 p D (usB p I) O).tot hc;cases m with
          | true=>
            have y:rdI p D O I≠I:=by simpa using v
            have Y:=A5 hc (D:=D) (O:=O) (k:=q) (by rw[<-hW,<-hq];exact y);rw[<-hW,<-hq]at Y;simp only[Bool.toNat_true];omega
          | false=>
            have y:rdI p D O I=I:=by simpa using v
            rw[y];simp only[Bool.toNat_true,Bool.toNat_false];omega
        have z:(sheetOf p).l[k].s∈WE p:=by rw[<-GW];exact z1z.2 ⟨_,z1h u,rfl⟩
        have B:k=(((usB p I).take k).map eStrs).length:=by rw[z0s,z1r];omega
        have C:=Bu ⟨sheetOf p,wysB p,D,(usB p I).take k,I,O⟩ (sheetOf p).l[k].s (fun h4=>hI.use hc rfl rfl z h4);rw[q2j (p:=p) (I:=I) rfl rfl]at C;have hd1:SpecH prog 73 ([AV.ip (Book.cells ⟨sheetOf p,wysB p,D,(usB p I).take k,I,O⟩),.agg (sheetOf p).l[k].s.cells].map .p) [] (OneRow (Kh (KA (bkI p I) (sheetOf p).l[k].s)) (KA (bkI p I) (sheetOf p).l[k].s=[])):=C;have hdl:=AC hc hI z;have G:=TE (L:=usB p I) (k:=k) (by omega) (o:=QA (KA (bkI p I) (sheetOf p).l[k].s)) (by unfold usB;rw[z4b]);generalize hds:KA (bkI p I) (sheetOf p).l[k].s=ds at*
        clear C;conv=>whnf
        repeat' ((first|refine dA ?_|(refine gX ?_;intros)|refine pA 1 24 B ?_|(apply bD<;>intro _<;>try omega)|refine q5j 6 rfl hd1 (.cons (x4z rfl (.hd (z2b some Vm) U7) (.hd rfl hKD) (.hd rfl B) (.hd rfl g) (.hd rfl J)) (.cons (.p (Sub.refl _)) .nil)) (fun c=>?_) ?_|(refine CallK.nil 6 9 1 rfl (.row .nil) ?_;refine cH [(1000,6)] 0 (HQ [] (by simp)) ?_)|(refine cH [(1000,6)] 0 (HQ ds (by omega)) ?_)|refine z1s ?_ ?_)<;>conv=>whnf)
        all_goals first
         |exact⟨k+1,u,by omega,Le.of_eq (by rw[G,c];rfl)⟩
         |exact⟨k+1,u,by omega,Le.of_eq (by rw[G];rfl)⟩
    | true =>
      have hLl:((sheetOf p).l.map fun i=>AV.agg i.cells).length=(sheetOf p).l.length:=z0s _;obtain⟨_,_,_,hsl,_⟩:=QK p;conv=>whnf
      repeat' ((first|(refine gX ?_;intros)|refine Br.tt ?_)<;>conv=>whnf)
      refine lJ (fun k:Nat=>⟨[(1,.p (.ip p.cells)),(3,.ptr 2 0),(5,.p .ff),(62,.p (YC (sheetOf p).l)),(63,.p (.int .i64 ((sheetOf p).l.map fun i=>AV.agg i.cells).length)),(64,.j k)],[(4,KC ((dfB p O).take k)),(3,Nw p p.A.length),(2,C1 p (.hd 3 0 p.A.length) (.hd 4 0 k) (.p .nils) p.A.length),(1,KC O),(0,KC (List.replicate p.A.length []))]⟩) (fun k=>k<=(sheetOf p).l.length) (fun k=>(sheetOf p).l.length-k) 0 (Le.trans (s':=⟨[(1,.p (.ip p.cells)),(3,.ptr 2 0),(5,.p .ff),(62,.p (YC (sheetOf p).l)),(63,.p (.int .i64 ((sheetOf p).l.map fun i=>AV.agg i.cells).length)),(64,.j (0:Nat))],[(3,Nw p p.A.length),(2,C1 p (.hd 3 0 p.A.length) (.p .nils) (.p .nils) p.A.length),(1,KC O),(0,KC (List.replicate p.A.length []))]⟩) (lE) (Le.mk [(4,KC [])] (by simp[Chunk.new0,KC];rfl) (by simp) (by simp) (.r (.r (.r (.r (.r (.r .nil)))))) (.new z1j (.cons rfl (.refl _) (.cons rfl (.obj (.r (.r (.cons (.nil z1j) (.r (.r (.r .nil))))))) (.cons rfl (.refl _) (.cons rfl (.refl _) .nil))))))) (z1q _) ?_;intro k hk;rcases z1w k (sheetOf p).l.length with u|u;rotate_left 1
      ·obtain rfl:k=(sheetOf p).l.length:=by omega
       have H:=Md p O;have Q:(rdO p O).length=O.length:=by rw[M.len];unfold rdO otB;rw[z0s,z4q]
       have hOn:=M.len;rw[show(dfB p O).take (sheetOf p).l.length=dfB p O from z1f (by omega)];have R:∀d∈dfB p O,d.length<=1000:=fun d R=>by
        obtain⟨it,hi,rfl⟩:=z1z.1 R;have y:=UL (YP (bkO p O) it.s);have Y:=PV hc M (t:=it.s) (by rw[<-GW];exact z1z.2 ⟨_,hi,rfl⟩);omega
       conv=>whnf
       repeat' ((first|(refine iM fun _=>?_)|(apply bD<;>intro _<;>try omega))<;>conv=>whnf)
       refine lJ (fun x:Nat×Bool=>⟨[(1,.p (.ip p.cells)),(3,.ptr 2 0),(5,.p (.bool x.2)),(85,.p (.int .i64 (p.A.map fun f=>AV.agg f.cells).length)),(86,.j x.1)],[(4,KC (dfB p O)),(3,Nw p p.A.length),(2,C1 p (.hd 3 0 p.A.length) (.hd 4 0 (sheetOf p).l.length) (.p .nils) p.A.length),(1,KC ((rdO p O).take x.1++O.drop x.1)),(0,KC (List.replicate p.A.length []))]⟩) (fun x=>x.1<=p.A.length/\x.2 = !decide ((rdO p O).take x.1=O.take x.1)) (fun x=>p.A.length-x.1) (0,false) (lE (hsl:=.r (.r (.cons (.p (Sub.ff rfl)) (.r (.r .nil)))))) ⟨z1q _,rfl⟩ ?_;rintro⟨k,m⟩ ⟨hk1,v⟩;simp only at hk1 v⊢;rcases z1w k p.A.length with u|u;rotate_left 1
       ·obtain rfl:k=p.A.length:=by omega
        rw[z1f (by omega),z1f (by omega)]at v;rw[z1f (by omega),z1b (by omega),z2y];have hW:rdO p O=itO p (r+1):=by rw[hr];rfl
        conv=>whnf
        repeat' (apply bD<;>intro _<;>first|omega|conv=>whnf)
        refine⟨(m,dfB p O,rdO p O),⟨⟨r+1,hW⟩,fun h=>?_⟩,?_,lE (hH:=.cons rfl (.refl _) (.cons rfl (.refl _) (.cons rfl (.of_eq (by rw[H])) (.cons rfl (.refl _) (.cons rfl (.refl _) .nil)))))⟩
        ·simp only at h⊢;rw[h]at v;have y:rdO p O=O:=by simpa using v
         rw[y];exact⟨y,rfl⟩
        ·simp only;have hOW:=(N7 p (dfB p O)).tot hc;have hOW:tot (rdO p O)<=400:=hOW;cases m with
         | true=>
           have y:rdO p O≠O:=by simpa using v
           have Y:=A6 (p:=p) (k:=r) (by rw[<-hW,<-hr];exact y);rw[<-hW,<-hr]at Y;simp only[Bool.toNat_true];omega
         | false=>
           have y:rdO p O=O:=by simpa using v
           rw[y];simp only[Bool.toNat_true,Bool.toNat_false];omega
       have F:p.A[k]?=some p.A[k]:=by simp
       have hpk:=GK F;have hWk:wysB p=(wysB p):=rfl;have hout:=Bv ⟨sheetOf p,wysB p,dfB p O,[],List.replicate p.A.length [],(rdO p O).take k++O.drop k⟩ p rfl hc k p.A[k] F (by show(wysB p)[k]?=_;rw[Ry u,hpk]) H R;have hrow:(rdO p O)[k]'(by omega)=QA (Sp p k p.A[k] (dfB p O) (itsOf p k p.A[k])):=by
        unfold rdO otB;rw[z4b,z7b];unfold otA;rw[hpk]
       have hol:(Sp p k p.A[k] (dfB p O) (itsOf p k p.A[k])).length<=1000000000:=by
        have y:=Ak (p:=p) (i:=k) (f:=p.A[k]) R (itsOf p k p.A[k]);have Y:(itsOf p k p.A[k]).length<=200:=by
         obtain⟨_,_,_,_,hsp⟩:=QK p;obtain⟨_,_,h3,h4⟩:=hsp k _ F;have h5:=z2b List.length h4;rw[z3n,z1r]at h5;have e1:itL (k:Nat) 0 (-1) 0 (QL p.A k) p.A[k].body=itsOf p k p.A[k]:=rfl;rw[e1]at h5;omega
        have h3:(itsOf p k p.A[k]).length*1000<=200*1000:=z2c _ Y;omega
       have hout1:SpecH prog 71 ([AV.ip (Book.cells ⟨sheetOf p,wysB p,dfB p O,[],List.replicate p.A.length [],(rdO p O).take k++O.drop k⟩),.int .i64 k].map .p) [] (OneRow (Kh (Sp p k p.A[k] (dfB p O) (itsOf p k p.A[k]))) False):=hout;have V:=q2u (W:=rdO p O) (O:=O) (k:=k) (by omega) Q;have hat:=q9z (W:=rdO p O) (O:=O) (k:=k) (by omega) Q;have hln:=q2v (W:=rdO p O) (O:=O) (k:=k) (by omega) Q;have E:=q9w (W:=rdO p O) (O:=O) (k:=k) (by omega) (by omega);have hEq:=VP ((rdO p O)[k]'(by omega)) (O[k]'(by omega));rw[hrow]at hEq V E;have B:(sheetOf p).l.length=((dfB p O).map eStrs).length:=by rw[z0s];omega
       have J:p.A.length=(((rdO p O).take k++O.drop k).map eStrs).length:=by rw[hln];omega
       have g:p.A.length=((List.replicate p.A.length ([]:List Str)).map eStrs).length:=by rw[z0s,z2o]
       clear hout hrow;generalize Sp p k p.A[k] (dfB p O) (itsOf p k p.A[k])=ol at*
       generalize hdq:decide (QA ol=O[k])=dq at hEq E;have hdk:decide ((rdO p O).take k=O.take k) = !m:=by rw[v,Bool.not_not]
       rw[hdk]at E;cases m<;>cases dq;all_goals
        conv=>whnf
        repeat' ((first|refine gX ?_|refine iO k ?_|refine lO hat ?_|refine cP hEq ?_|refine sO (eStrs (QA ol)) hat ?_|((first|apply bD|apply bB)<;>intro _<;>try omega)|refine q5j 5 rfl hout1 (.cons (x4z rfl (.hd (z2b some Vm) U7) (.hd rfl B) (.p Sub.nils) (.hd rfl g) (.hd rfl J)) (.cons (.p (Sub.refl _)) .nil)) (fun c=>c.elim) ?_|(refine cH [(1000,5)] 0 (HQ ol hol) ?_))<;>conv=>whnf)
       all_goals first
        |exact absurd (show false=true by assumption) (by decide)
        |exact absurd (show true=false by assumption) (by decide)
        |exact⟨(k+1,true),⟨u,by simp only;rw[E];rfl⟩,by simp only;omega,lE (hsl:=.r (.r (.cons (.p (Sub.tt rfl)) (.r (.r .nil))))) (hH:=.cons rfl (.refl _) (.cons rfl (.refl _) (.cons rfl (.refl _) (.cons rfl (.of_eq (z2b (Chunk.own 22 1) V)) (.cons rfl (.refl _) .nil)))))⟩
        |exact⟨(k+1,true),⟨u,by simp only;rw[E];rfl⟩,by simp only;omega,lE (hH:=.cons rfl (.refl _) (.cons rfl (.refl _) (.cons rfl (.refl _) (.cons rfl (.of_eq (z2b (Chunk.own 22 1) V)) (.cons rfl (.refl _) .nil)))))⟩
        |exact⟨(k+1,false),⟨u,by simp only;rw[E];rfl⟩,by simp only;omega,lE (hH:=.cons rfl (.refl _) (.cons rfl (.refl _) (.cons rfl (.refl _) (.cons rfl (.of_eq (z2b (Chunk.own 22 1) V)) (.cons rfl (.refl _) .nil)))))⟩
        |exact⟨(k+1,false),⟨u,by simp only;rw[E];rfl⟩,by simp only;omega,lE (hsl:=.r (.r (.cons (.p (Sub.ff rfl)) (.r (.r .nil))))) (hH:=.cons rfl (.refl _) (.cons rfl (.refl _) (.cons rfl (.refl _) (.cons rfl (.of_eq (z2b (Chunk.own 22 1) V)) (.cons rfl (.refl _) .nil)))))⟩
      have z:(sheetOf p).l[k].s∈WE p:=by rw[<-GW];exact z1z.2 ⟨_,z1h u,rfl⟩
      have H:=Md p O;have B:k=(((dfB p O).take k).map eStrs).length:=by rw[z0s,z1r];omega
      have J:p.A.length=(O.map eStrs).length:=by rw[z0s,M.len]
      have g:p.A.length=((List.replicate p.A.length ([]:List Str)).map eStrs).length:=by rw[z0s,z2o]
      have C:=Bw ⟨sheetOf p,wysB p,(dfB p O).take k,[],List.replicate p.A.length [],O⟩ (sheetOf p).l[k].s (fun h4=>M.call hc rfl rfl z h4);rw[IN rfl rfl]at C;have hd1:SpecH prog 70 ([AV.ip (Book.cells ⟨sheetOf p,wysB p,(dfB p O).take k,[],List.replicate p.A.length [],O⟩),.agg (sheetOf p).l[k].s.cells].map .p) [] (OneRow (Kh (YP (bkO p O) (sheetOf p).l[k].s)) (YP (bkO p O) (sheetOf p).l[k].s=[])):=C;have hdl:=PV hc M z;have G:=TE (L:=dfB p O) (k:=k) (by omega) (o:=QA (YP (bkO p O) (sheetOf p).l[k].s)) (by unfold dfB;rw[z4b]);generalize hds:YP (bkO p O) (sheetOf p).l[k].s=ds at*
      clear C;conv=>whnf
      repeat' ((first|refine dA ?_|(refine gX ?_;intros)|refine pA 1 24 B ?_|(apply bD<;>intro _<;>try omega)|refine q5j 5 rfl hd1 (.cons (x4z rfl (.hd (z2b some Vm) U7) (.hd rfl B) (.p Sub.nils) (.hd rfl g) (.hd rfl J)) (.cons (.p (Sub.refl _)) .nil)) (fun c=>?_) ?_|(refine CallK.nil 5 9 1 rfl (.row .nil) ?_;refine cH [(1000,5)] 0 (HQ [] (by simp)) ?_)|(refine cH [(1000,5)] 0 (HQ ds (by omega)) ?_)|refine z1s ?_ ?_)<;>conv=>whnf)
      all_goals first
       |exact⟨k+1,u,by omega,Le.of_eq (by rw[G,c];rfl)⟩
       |exact⟨k+1,u,by omega,Le.of_eq (by rw[G];rfl)⟩
def WF(p:Pg)(n:Str):Int:=Zs (fun f=>f.name==n) p.A
noncomputable def x4s(p:Pg)(n:Str):List Str:=if QM p=true/\0<=WF p n then(QX p).F.getD (WF p n).toNat []else []
noncomputable def x6d(p:Pg)(n:Str):List Str:=if QM p=true/\0<=WF p n then(QX p).ins.getD (WF p n).toNat []else []
noncomputable def IL(p:Pg)(id:Int):List Str:=if QM p=true/\1<=id/\id<=(sheetOf p).l.length then(QX p).N.getD (id-1).toNat []else []
noncomputable def x2r(p:Pg)(id:Int):List Str:=if QM p=true/\1<=id/\id<=(sheetOf p).l.length then(QX p).Q.getD (id-1).toNat []else []
theorem Lu{n:Str}(h:0<=WF p n):(WF p n).toNat<p.A.length:=by
 unfold WF Zs at h⊢;cases l:p.A.any fun f=>f.name==n with
 | true=>
   rw[z1n];obtain⟨x,m,q⟩:=z3z.1 l;have:=List.findIdx_lt_length_of_exists (p:=fun f:Pr=>f.name==n) ⟨x,m,q⟩;simpa using this
 | false=>
   rw[l,z1o]at h;omega
section
variable {a b:Str}{p:Pg}{i:Nat}{f:Pr}
end
section
variable {P:Program}{T:Tab}{N:Nat}{σ:Mem}{β:Lab}{a:Act}{w:World}{o:Oper}{K:St->Prop}{s:St}
end
def dP:Pg:=⟨[[103]],[
 ⟨[109,97,105,110],[],[[118]],[
   .mk 1 1 [] [118] [] (.mk 1 2 [] []) false [] [] [],
   .mk 2 4 [] [] [112] (.mk 0 0 [] []) false [⟨false,[],.mk 1 3 [] []⟩,⟨true,[118],.mk 0 0 [] []⟩] [] [],
   .mk 3 3 [] [] [] (.mk 2 0 [118] []) false [] [] [],
   .mk 4 3 [] [] [] (.mk 2 0 [103] []) false [] [] []],[]⟩,
 ⟨[112],[⟨[120],false⟩,⟨[121],true⟩],[],[
   .mk 5 2 [] [120] [] (.mk 0 0 [] []) false [] [] [],
   .mk 6 5 [] [] [] (.mk 12 0 [] [.mk 2 0 [121] [],.mk 1 9 [] []]) false [] [.mk 7 10 [] [101] [] (.mk 0 0 [] []) false [] [] []] [],
   .mk 8 9 [] [] [] (.mk 2 0 [103] []) true [] [] []],[[101]]⟩]⟩
instance:DecidableRel ltT:=fun a b=>inferInstanceAs (Decidable (Op.bytesLess a b=true))
def x6b(m l:List Str):Bool:=decide (m.Pairwise ltT)&&m.all (fun s=>inS l s)&&l.all (fun s=>inS m s)
def L2{m l:List Str}(h:x6b m l=true):QA l=m:=by
 unfold x6b at h;simp only[z1p,z2z,z3x]at h;exact(Vp h.1.1 fun s=>⟨fun q=>XP.1 (h.1.2 s q),fun q=>XP.1 (h.2 s q)⟩).symm
def x0t:List (List Str)->List (List Str)->Bool
 |[],[]=>true
 |m::ms,l::ls=>x6b m l&&x0t ms ls
 |_,_=>false
theorem Fp:∀{ms ls:List (List Str)},x0t ms ls=true->ls.map QA=ms
 |[],[],_=>rfl
 |[],_::_,h=>by cases h
 |_::_,[],h=>by cases h
 | m::ms,l::ls,h=>by
   rw[x0t,z1p]at h;rw[z1t,L2 h.1,Fp h.2]
def IR(h:x0t D ((sheetOf p).l.map fun it=>YP (bkO p O) it.s)=true):dfB p O=D:=by
 have m:=Fp h;rw[z4e]at m;exact m
def x2l{U:List (List Str)}(h:x0t U ((sheetOf p).l.map fun it=>KA (bkI p I) it.s)=true):usB p I=U:=by
 have m:=Fp h;rw[z4e]at m;exact m
def x9y(h:List Bool)(p:Pg)(i:Nat)(f:Pr)(D:List (List Str)):List Str:=(itsOf p i f).flatMap fun it=>bif h.getD (ixI p i f it.s.id).toNat false then(DV D it.s.id).filter (outB p f)else []
def x9u(h:List (Int×Int))(p:Pg)(i:Nat)(f:Pr)(D U:List (List Str))(o:List Str)(x:Str):Bool:=(NM 0 (WT (QE (QY f.body+2) (h.filter fun t=>PF p i f D x t.1)).1 [0])).any (hitN p i f U o x)
def OE{l m:List Bool}{f0 f1:Pr}(q:p.A=[f0,f1])(u:(QQ p 0 f0).live=l)(v:(QQ p 1 f1).live=m)(h:x0t O [x9y l p 0 f0 D,x9y m p 1 f1 D]=true):otB p D=O:=by
 rw[<-Fp h,<-u,<-v];unfold otB;have r:prA p 0=f0:=GK (by rw[q];rfl);have t:prA p 1=f1:=GK (by rw[q];rfl);rw[q];show [otA p D 0,otA p D 1]=_;unfold otA;rw[r,t];rfl
def x1v{U:List (List Str)}{x5a x5e:List (Int×Int)}{f0 f1:Pr}(l:p.A=[f0,f1])(r:JD (QQ p 0 f0) f0=x5a)(t:JD (QQ p 1 f1) f1=x5e)(h:x0t I [(p.C++[VW]).filter (x9u x5a p 0 f0 D U (O.getD 0 [])),(p.C++[VW]).filter (x9u x5e p 1 f1 D U (O.getD 1 []))]=true):niB p D U O=I:=by
 rw[<-Fp h,<-r,<-t];unfold niB;have m:prA p 0=f0:=GK (by rw[l];rfl);have q:prA p 1=f1:=GK (by rw[l];rfl);rw[l];show [niA p D U O 0,niA p D U O 1]=_;unfold niA A2;rw[m,q];rfl
def Sd:Str:=[103]
def vS:Str:=[118]
def yS:Str:=[121]
def xS:Str:=[120]
def x6z:BW (QQ someP 0 f0) f0=[⟨0,1,1⟩,⟨1,2,1⟩,⟨2,3,1⟩,⟨3,4,1⟩,⟨4,-1,1⟩]:=by
 unfold BW JV;rw[x5g,x5q];exact Gz (by unfold okSt;decide) (by decide) (by decide) (by decide)
def x2z:JD (QQ someP 0 f0) f0=[(0,1),(1,2),(2,3),(3,4),(4,5)]:=by
 unfold JD;rw[x6z]
 kernel_rfl
def x6e:JD (QQ someP 1 f1) f1=[(0,1),(1,2),(2,3),(2,4),(3,5),(4,5)]:=by
 unfold JD;rw[x6w]
 kernel_rfl
def q2t:(QQ someP 0 f0).live=[true,true,true,true,true,true]:=by
 unfold QQ;simp only[x4l]
 kernel_rfl
def x3u:(QQ someP 1 f1).live=[true,true,true,true,true,true]:=by
 unfold QQ;simp only[x4r]
 kernel_rfl
def sOx:List (List Str):=[[Sd],[yS]]
def sD0:List (List Str):=[[vS],[Sd],[],[],[yS],[],[],[EI]]
def sD:List (List Str):=[[vS],[Sd,vS],[],[],[yS],[],[],[EI]]
def sU:List (List Str):=[[],[vS],[vS],[Sd],[xS,yS],[yS],[],[yS]]
def some_book:BookR someP ⟨sheetOf someP,wysB someP,sD,sU,[[],[]],sOx⟩:=by
 have d0:dfB someP [[],[]]=sD0:=IR (by kernel_rfl);have m:otB someP sD0=sOx:=OE (f0:=f0) (f1:=f1) rfl q2t x3u (by kernel_rfl);have d1:dfB someP sOx=sD:=IR (by kernel_rfl);have o2:otB someP sD=sOx:=OE (f0:=f0) (f1:=f1) rfl q2t x3u (by kernel_rfl);have h:usB someP [[],[]]=sU:=x2l (by kernel_rfl);have l:niB someP sD sU sOx=[[],[]]:=x1v (f0:=f0) (f1:=f1) rfl x2z x6e (by kernel_rfl);refine⟨rfl,rfl,⟨1,?_⟩,?_,d1.symm,⟨0,rfl⟩,?_,h.symm⟩
 .show sOx=otB someP (dfB someP [[],[]]);rw[d0,m]
 .show otB someP (dfB someP sOx)=sOx;rw[d1,o2]
 .show niB someP sD (usB someP [[],[]]) sOx=[[],[]];rw[h,l]
def g0:Pr:=dP.A[0]'(by decide)
def g1:Pr:=dP.A[1]'(by decide)
theorem x1h(h:QM p=true)(hk:p.A[k]?=some f):WF p f.name=(k:Nat)/\x4s p f.name=(QX p).F.getD k []/\x6d p f.name=(QX p).ins.getD k []:=by
 have hm:f.name∈procsN p:=z1z.2 ⟨f,z1d hk,rfl⟩;obtain⟨m,l,q,_,t,r⟩:=L1 hm;obtain⟨rfl,_⟩:=Vb h (z0c l) hk r;have e:WF p f.name=(m:Nat):=q;refine⟨e,?_,?_⟩
 ·unfold x4s;rw[if_pos ⟨h,by omega⟩,e];rfl
 ·unfold x6d;rw[if_pos ⟨h,by omega⟩,e];rfl
theorem x5f:∀l:List Arg,(l.flatMap usA).length<=J3 l
 |[]=>by simp[J3]
 | x::r=>by
   have h:=x5f r;have m:=Gx x.x;rw[z2d,z0e];have q:(usA x).length<=1+(QC x.x).length:=by
    unfold usA;rw[z0e];split<;>simp
   simp only[J3];omega
theorem x5d(q:Fit p)(hc:QM p=true)(h:OkI p I)(hk:k<(sheetOf p).l.length):(KA (bkI p I) (sheetOf p).l[k].s).length<=30000:=by
 have m:=Nj q hk;generalize(sheetOf p).l[k].s=t at*
 have r:=Gx t.x;have u:=x5f t.args;have v:(inAt (bkI p I) t).length<=25:=h.len25 hc (caI (bkI p I).s.p t).toNat;have y:wX t.x+J3 t.args<=21000:=by
  cases t;simp only[wS,S.x,S.args]at m⊢;omega
 have z:(Rp t).length<=(QC t.x).length+1:=by
  unfold Rp;rw[z0e];split<;>simp
 unfold KA;split
 ·simp only[z0e];omega
 ·omega
def Gq{n:Str}(h:isName n=true):n.length<=8:=by
 unfold isName at h;split at h
 .rename_i l;exact l.2
 .cases h
def x3m(hc:QM p=true){n:Str}(h:comB p n=true):n.length<=8:=by
 unfold comB at h;rw[z4f]at h;rcases h with h|h
 .rw [show n=VW by simpa using h];decide
 .obtain ⟨s,m,l⟩:=z3z.1 h;rw[show n=s by simpa using l];exact Gq (Tb hc m)
theorem x6v(hc:QM p=true)(r:f∈p.A){t:S}(u:t∈flL f.body){n:Str}(h:n∈YP (bkO p O) t):n.length<=8:=by
 have l:t.kind≠10->t.name.length<=8:=fun m=>by
  by_cases q:t.name=[]
  ·rw[q];simp
  ·refine Gq (TO hc r u ?_);unfold WW BG;have:(decide (t.kind≠10) && !(t.name==[]))=true:=by simp[m,q]
   rw[this];simp
 unfold YP at h;split at h
 ·rw[z0i.1 h];exact l (by omega)
 split at h
 ·rcases z1g.1 h with rfl|h
  ·exact l (by omega)
  ·rw[z0i.1 h];decide
 split at h
 ·rw[z0i.1 h];decide
 split at h
 ·unfold SU at h;rcases z0o.1 h with h|h
  ·rcases z0o.1 h with h|h
   ·split at h
    ·cases h
    ·rw[z0i.1 h];exact l (by omega)
   ·obtain⟨x,y,v,rfl⟩:=Lh.1 h;refine Gq (TO hc r u ?_);have hm:x.1∈t.args:=(List.of_mem_zip (z7z y)).1;unfold WW;refine z3o _ (z1c.2 ⟨x.1,hm,?_⟩);unfold KB;rw[v.1];simp
  ·exact x3m hc (z2u.1 h).2
 ·cases h
noncomputable def YQ(p:Pg)(i:Nat)(f:Pr)(a:Nat):List Str:=El p i f (QX p).N ((QX p).ins.getD i []) a
noncomputable def Ix(p:Pg)(i:Nat)(f:Pr)(a:Nat):List Str:=q9q p i f (QX p).Q ((QX p).F.getD i []) a
def x6f(hc:QM p=true)(x:p.A[i]?=some f)(a:Nat){n:Str}(h:n∈YQ p i f a):n.length<=8:=by
 have u:=UZ hc;have q:=z1d x;unfold YQ El at h;split at h
 .rw [XY]at h;rcases z0o.1 h with h|h
  .exact x3m hc ((UO hc).2.sub i n h)
  .refine Gq (Af hc q (z3f _ h))
 split at h
 .cases h
 cases m:(QQ p i f).live.getD a false with
 |false=>rw[m]at h;cases h
 | true=>
   rw[m,z1n,u.N]at h;rw[z0a]at h;unfold dfB at h;rw[z1u]at h;cases r:(sheetOf p).l[QL p.A i+a-1]?with
   |none=>rw[r]at h;cases h
   | some it=>
     rw[r]at h;have h:n∈QA (YP (bkO p (QX p).F) it.s):=h;rw[XY]at h;have t:it.s∈WE p:=by rw[<-GW];exact z6q (z1d r)
     obtain⟨g,v,t⟩:=z1c.1 t;exact x6v hc v t h
theorem Mr(hf:Fit p)(hc:QM p=true)(q:p.A[i]?=some f):
  FlB (QX p) i (QQ p i f) (QY f.body+2) (BW (QQ p i f) f) (JD (QQ p i f) f) (YQ p i f) (Ix p i f) (fun c=>QH p i (QY f.body+2:Nat) c):=by
 have g:=UZ hc;obtain⟨e,z⟩:=UO hc;have hT:=x2e hc q;have C:i<p.A.length:=(z1k.1 q).1;have G:(QX p).ways[i]?=some (QQ p i f):=by rw[g.ways,Ry C,GK q]
 have hI:(QX p).ins[i]?=some ((QX p).ins.getD i []):=by rw[z0a,z0c (by rw[z.len];exact C)];rfl
 have hO:(QX p).F[i]?=some ((QX p).F.getD i []):=by rw[z0a,z0c (by rw[e.len];exact C)];rfl
 have R:(QX p).N.length=(sheetOf p).l.length:=by rw[g.N];exact Md p _
 have U:(QX p).Q.length=(sheetOf p).l.length:=by rw[g.Q];exact z0s _
 have E:=z.len25 hc i;have hO25:=e.len25 hc i;have hp8:f.B.length<=8:=((KD (QV hc).1).pr f (z1d q)).1;have H:∀d∈(QX p).N,d.Pairwise ltT/\d.length<=34:=fun d m=>by
  rw[g.N]at m;obtain⟨it,Z,rfl⟩:=z1z.1 m;have ht:it.s∈WE p:=by rw[<-GW];exact z6q Z
  exact⟨XB _,z2g (UL _) (PV hc e ht)⟩
 have M:∀d∈(QX p).Q,d.Pairwise ltT/\d.length<=30000:=fun d m=>by
  rw[g.Q]at m;obtain⟨it,Z,rfl⟩:=z1z.1 m;obtain⟨k,hk,rfl⟩:=z2e.1 Z;exact⟨XB _,z2g (UL _) (x5d hf hc z hk)⟩
 have hcn:=XF hc;have hcb:=UC _ _ (z1d q);have u:∀a,(YQ p i f a).length<=34:=fun a=>CA (fun d m=>(H d m).2) E hp8 a;have Y:∀a,(YQ p i f a).Pairwise ltT:=fun a=>F0 (fun d m=>(H d m).1) a;have J:∀a,(YQ p i f a).Nodup:=fun a=>KW (Y a);have v:∀y:Str,y∈(mapG (prsG (YQ p i f) (QY f.body+2))).map Prod.fst->y.length<=8:=fun y hy=>by
  obtain⟨a,ha⟩:=q5x _ hy;exact x6f hc q a (q0x ha).2
 have hdl:=Ws hc q;refine⟨G,hT.hn,rfl,K2 _ f _ hT,GA _ f hT.hj hT.hc (by have:=hT.hn;have:=hT.hw;omega) _ (by omega),?_,?_,?_,?_,?_,?_,?_,?_,?_⟩
 ·exact Fw (QX p) p i f _ hT.hn G rfl (YQ p i f) (fun a ha=>Fq (QX p) p g.s hc i f q G _ hI (by omega) R a ha) fun a=>by have:=u a;omega
 ·exact fun c h=>Fx (QX p) p g.s hc i f q G _ hO (by omega) U c h
 ·exact fun at_ h1 h2=>(Fz (QX p) i _ G _ hT.hn rfl (JD (QQ p i f) f) (by show(List.map _ _).length<=_;rw[z0s];omega) (PB hc q) at_ h1 h2).mono fun r hr=>hr.eq
 ·exact fun c h=>JU _ f hT.hj hT.hc (by have:=hT.hn;have:=hT.hw;omega) c (by have:=hT.hn;omega)
 ·intro c;refine⟨q1m (fun d m=>(M d m).1) c,?_⟩;unfold Ix q9q;split
  ·refine z2g (UL _) ?_;rw[z0e,z2w];omega
  split
  ·simp
  cases(QQ p i f).live.getD c false with
  |false=>simp
  |true=>exact z2g (V2 (Q:=fun l=>l.length<=30000) (by simp) (fun d m=>(M d m).2) _) (by decide)
 ·intro s t;obtain⟨nm,hnm,t⟩:=z1c.1 t;have h8:=v nm hnm;unfold outN at t;obtain⟨c,V,t⟩:=z1c.1 t;obtain⟨x,_,t⟩:=z1c.1 t;split at t
  ·rw[z0i.1 t];have hle:QL p.A i<=1000:=z2g (C6 _ _) (by omega);have L:∀c:Nat,c<QY f.body+2->QH p i (QY f.body+2:Nat) c≠9223372036854775807:=fun c h=>by
    unfold QH loI;split
    ·decide
    split
    ·decide
    ·omega
   refine⟨L _ ?_,L _ (z2h.1 V),by show nm.length<=maxLen;unfold maxLen;omega⟩;rw[z0a];cases hq:(atN (YQ p i f) (QY f.body+2) nm)[x.toNat]?with
   |none=>show 0<_;omega
   |some a=>exact P0 (z1d hq)
  ·cases t
 ·exact O5 (by omega) u J
 ·intro nm;rw[RT J];exact z2g (z2s _ _) (by rw[z4q];exact hT.hn)
 ·exact fun y hy=>by have:=v y hy;unfold maxLen;omega
noncomputable def WI(p:Pg)(i:Nat)(f:Pr):List Fl:=JM (((mapG (prsG (YQ p i f) (QY f.body+2))).map Prod.fst).flatMap (outN (YQ p i f) (Ix p i f) (fun c=>QH p i (QY f.body+2:Nat) c) (QY f.body+2) (JD (QQ p i f) f)))
noncomputable def JN(p:Pg)(n:Str):List Fl:=if QM p=true/\0<=WF p n then WI p (WF p n).toNat (prA p (WF p n).toNat)else []
def Pj(h:Fit p)(hc:QM p=true)(l:p.A[i]?=some f):(WI p i f).length<=1000000000:=by
 unfold WI;rw[Nf];exact(Mr h hc l).cnt
def P2(h:Fit p)(hc:QM p=true)(l:p.A[i]?=some f):aP 39 [.ip (QX p).cells,.int .i64 i] (.sl ((WI p i f).map Xx)):=F9 _ i _ _ _ _ _ _ _ (Mr h hc l)
theorem AQ(p:Pg)(z:Fit p)(n:Str):aP 13 [.agg p.cells,.str n] (.sl ((JN p n).map Xx)):=by
 refine sC E1 func13 ?_;conv=>whnf
 have g:=Mi p z;cases hc:QM p with
 | false=>
   have e:JN p n=[]:=by unfold JN;rw[if_neg (by rw[hc];simp)]
   rw[e];have l:=g.mono (R':=fun r=>r=.nilp) fun r c=>c.2 hc;repeat' (refine cP l ?_;conv=>whnf)
   all_goals first
    |contradiction
    |exact⟨_,.p Sub.nils,rfl⟩
 | true=>
   have l:=g.mono (R':=fun r=>r=.ip (QX p).cells) fun r c=>c.1 hc;have B:=UZ hc;have F:(QX p).s.p=p:=by rw[B.s];exact(QK p).1
   have v:=VK (QX p).s n;rw[F]at v;have q:aP 33 [.ip (QX p).s.cells,.str n] (.int .i64 (WF p n)):=v;have e:JN p n=if 0<=WF p n then WI p (WF p n).toNat (prA p (WF p n).toNat)else []:=by
    unfold JN;by_cases m:0<=WF p n
    ·rw[if_pos ⟨hc,m⟩,if_pos m]
    ·rw[if_neg (fun h=>m h.2),if_neg m]
   rw[e];by_cases m:0<=WF p n
   ·rw[if_pos m];have hlt:=Lu m;have u:=P2 z hc (Vf hlt);have A:=Pj z hc (Vf hlt);have E:(((WF p n).toNat:Nat):Int)=WF p n:=by omega
    rw[E]at u;generalize WI p (WF p n).toNat (prA p (WF p n).toNat)=L at*
    generalize WF p n=i at*
    generalize QX p=b at*
    repeat' ((first|(refine iM fun _=>?_)|refine cP l ?_|refine cP q ?_|refine cP u ?_|(apply bD<;>intro _<;>try omega))<;>conv=>whnf)
    all_goals try (exfalso;omega)
    have x:(L.map Xx).length=L.length:=z0s _;refine lJ (fun j:Nat=>⟨[(6,.hd 0 0 (L.take j).length),(29,.p (.sl (L.map Xx))),(30,.p (.int .i64 (L.map Xx).length)),(31,.j j)],[(0,.own 57 3 ((L.take j).map Xx))]⟩) (fun j=>j<=L.length) (fun j=>L.length-j) 0 (lM [(0,.own 57 3 [])]) (z1q _) ?_;intro j H;rcases z1w j L.length with t|t
    ·have d:=z1y t;have G:(L.map Xx)[j]?=some (.agg L[j].cells):=by rw[z1u,z0c t];rfl
     have C:(L.take j).length<=1000000000:=by rw[z1r];omega
     generalize L.take j=acc at*
     have y:(acc.map Xx).length=acc.length:=z0s _;conv=>whnf
     repeat' ((first|(refine gX ?_;intros)|refine pA 1 32 y.symm ?_|(apply bD<;>intro _<;>try omega))<;>conv=>whnf)
     all_goals first
      |exact⟨j+1,t,by omega,Le.of_eq (by rw[d,z0e,z1v];rfl)⟩
    ·rw[z1f t];conv=>whnf
     repeat' (apply bD<;>intro _<;>first|omega|conv=>whnf)
     all_goals first
      |exact⟨_,.hd rfl x.symm,rfl⟩
   ·rw[if_neg m];generalize WF p n=i at*
    generalize QX p=b at*
    repeat' ((first|refine cP l ?_|refine cP q ?_|(apply bD<;>intro _<;>try omega))<;>conv=>whnf)
    all_goals first
     |contradiction
     |exact⟨_,.p Sub.nils,rfl⟩
def F8(b:Book)(i:Nat)(w:Way)(n:Nat)(L:List Step)(steps:List (Int×Int))(G T:Nat->List Str)(q:Nat->Int)(F:FlB b i w n L steps G T q):aP 34 [.ip b.cells,.int .i64 i] (.tup [.int .i64 n,.int .i64 (prsG G n).length]):=by
 refine sC Um func34 ?_;conv=>whnf
 have l:(b.ways.map fun w=>AV.ip w.cells)[i]?=some (.ip w.cells):=by rw[z1u,F.hW];rfl
 have h:=F.giv;have m:=F.hwn;repeat' ((first|refine iT l ?_|(refine cH [] 0 h ?_ (hH:=z4x)))<;>conv=>whnf)
 all_goals first
  |exact⟨_,.p (Sub.tup (.cons (Sub.int m) (.cons (Sub.refl _) .nil))),rfl⟩
noncomputable def YU(p:Pg)(n:Str):Int×Int:=if QM p=true/\0<=WF p n then((QY (prA p (WF p n).toNat).body+2:Nat),((prsG (YQ p (WF p n).toNat (prA p (WF p n).toNat)) (QY (prA p (WF p n).toNat).body+2)).length:Nat))else(0,0)
theorem Dj(p:Pg)(z:Fit p)(n:Str):aP 10 [.agg p.cells,.str n] (.tup [.int .i64 (YU p n).1,.int .i64 (YU p n).2]):=by
 refine sC M1 func10 ?_;conv=>whnf
 have y:=Mi p z;cases hc:QM p with
 | false=>
   have e:YU p n=(0,0):=by unfold YU;rw[if_neg (by rw[hc];simp)]
   rw[e];have l:=y.mono (R':=fun r=>r=.nilp) fun r x=>x.2 hc;repeat' (refine cP l ?_;conv=>whnf)
   all_goals first
    |contradiction
    |exact⟨_,.p (Sub.refl _),rfl⟩
 | true=>
   have l:=y.mono (R':=fun r=>r=.ip (QX p).cells) fun r x=>x.1 hc;have c:=UZ hc;have g:(QX p).s.p=p:=by rw[c.s];exact(QK p).1
   have u:=VK (QX p).s n;rw[g]at u;have q:aP 33 [.ip (QX p).s.cells,.str n] (.int .i64 (WF p n)):=u;by_cases v:0<=WF p n
   ·have hlt:=Lu v;have t:=F8 _ _ _ _ _ _ _ _ _ (Mr z hc (Vf hlt));have e:YU p n=(((QY (prA p (WF p n).toNat).body+2:Nat):Int),(((prsG (YQ p (WF p n).toNat (prA p (WF p n).toNat)) (QY (prA p (WF p n).toNat).body+2)).length:Nat):Int)):=by unfold YU;rw[if_pos ⟨hc,v⟩]
    rw[e];have d:(((WF p n).toNat:Nat):Int)=WF p n:=by omega
    rw[d]at t;generalize(prsG (YQ p (WF p n).toNat (prA p (WF p n).toNat)) (QY (prA p (WF p n).toNat).body+2)).length=m at*
    generalize QY (prA p (WF p n).toNat).body+2=m2 at*
    generalize WF p n=i at*
    generalize QX p=b at*
    repeat' ((first|refine cP l ?_|refine cP q ?_|refine cP t ?_|(apply bD<;>intro _<;>try omega))<;>conv=>whnf)
    all_goals first
     |contradiction
     |(exfalso;omega)
     |exact⟨_,.p (Sub.refl _),rfl⟩
   ·have e:YU p n=(0,0):=by unfold YU;rw[if_neg (fun h=>v h.2)]
    rw[e];generalize WF p n=i at*
    generalize QX p=b at*
    repeat' ((first|refine cP l ?_|refine cP q ?_|(apply bD<;>intro _<;>try omega))<;>conv=>whnf)
    all_goals first
     |contradiction
     |exact⟨_,.p (Sub.refl _),rfl⟩
def Ha(id:Int)(nm:Str)(l:List Fl):List Int:=(l.filter fun s=>decide (s.dst=id)&&(s.var==nm)).map Fl.src
noncomputable def Mc(p:Pg)(id:Int)(nm:Str):List Int:=if QM p=true/\1<=id/\id<=(sheetOf p).l.length then Ha id nm (JN p (Mn p id).2.1)else []
def En(id:Int)(nm:Str){l:List Fl}{j:Nat}(h:j<l.length):Ha id nm (l.take (j+1))=Ha id nm (l.take j)++if l[j].dst=id/\l[j].var=nm then [l[j].src]else []:=by
 unfold Ha;rw[z1y h,z2j,z1v];congr 1;by_cases m:l[j].dst=id<;>by_cases q:l[j].var=nm<;>simp[m,q]
def O8(id:Int)(nm:Str)(l:List Fl):(Ha id nm l).length<=l.length:=by
 unfold Ha;rw[z0s];exact z2s _ _
theorem O3(hc:QM p=true)(hk:p.A[k]?=some f)(h:Zc p nm=some (QQ p k f)):JN p nm=WI p k f:=by
 have m:WF p nm=k:=by
  unfold Zc at h;rw[hc,z1n]at h;cases l:p.A.find? fun f=>f.name==nm with
  |none=>rw[l]at h;cases h
  | some g=>
    rw[l]at h;have q:some (p.A.findIdx fun f=>f.name==nm)=some k:=z2b (Option.map Way.j) h;have r:(p.A.any fun f=>f.name==nm)=true:=z3z.2 ⟨g,z3b l,z4a (p:=fun f:Pr=>f.name==nm) l⟩;unfold WF Zs;rw[r,z1n,z3q q]
 unfold JN;rw[m,if_pos ⟨hc,by omega⟩,z3y,GK hk]
theorem EE(p:Pg)(d:Fit p)(id:Int)(nm:Str):aP 26 [.agg p.cells,.int .i64 id,.str nm] (QG (Mc p id nm)):=by
 refine sC Ra func26 ?_;conv=>whnf
 have F:=Mi p d;cases hc:QM p with
 | false=>
   have e:Mc p id nm=[]:=by unfold Mc;rw[if_neg (by rw[hc];simp)]
   rw[e];have q:=F.mono (R':=fun r=>r=.nilp) fun r C=>C.2 hc;repeat' (refine cP q ?_;conv=>whnf)
   all_goals first
    |contradiction
    |exact⟨_,.p Sub.nils,rfl⟩
 | true=>
   have q:=F.mono (R':=fun r=>r=.ip (QX p).cells) fun r C=>C.1 hc;have c:=UZ hc;have t:=Bx (QX p).s id;have V:=(QK p).2.2.2.1;have R:=XF hc;by_cases u:1<=id/\id<=(sheetOf p).l.length
   ·obtain⟨k,f,it,hk,G,A,Y,E⟩:=IA hc u.1 u.2;have x:=x6n hc hk G;rw[A]at x;have B:it.D=k:=LO _ _ _ _ _ _ it G;have z:=P2 d hc hk;have J:=Pj d hc hk;have g:JN p (Mn p id).2.1=WI p k f:=O3 hc hk Y;have e:Mc p id nm=Ha id nm (WI p k f):=by unfold Mc;rw[if_pos ⟨hc,u⟩,g]
    rw[e];have U:((QX p).s.l.map fun i=>AV.agg i.cells)[(id-1).toNat]?=some (.agg it.cells):=by rw[c.s,z1u,x];rfl
    have v:(decide (1<=id)&&decide (id<=((QX p).s.l.length:Int)))=true:=by rw[c.s];simp[u.1,u.2]
    rw[v]at t;generalize WI p k f=L at*
    generalize QX p=b at*
    repeat' ((first|(refine iM fun _=>?_)|refine wI ?_|refine cP q ?_|refine cP t ?_|refine iT U ?_|refine cP z ?_ (ha:=.cons (Sub.refl _) (.cons (Sub.int B) .nil))|(apply bN<;>intro _))<;>conv=>whnf)
    all_goals try contradiction
    all_goals try (exfalso;omega)
    have M:(L.map Xx).length=L.length:=z0s _;refine lJ (fun j:Nat=>⟨[(1,.j id),(2,.p (.str nm)),(8,.hd 0 0 (Ha id nm (L.take j)).length),(37,.p (.sl (L.map Xx))),(38,.p (.int .i64 (L.map Xx).length)),(39,.j j)],[(0,.own 3 1 ((Ha id nm (L.take j)).map (.int .i64)))]⟩) (fun j=>j<=L.length) (fun j=>L.length-j) 0 (lM [(0,.own 3 1 [])]) (z1q _) ?_;intro j hj;have Q:(Ha id nm (L.take j)).length<=1000000000:=z2g (O8 _ _ _) (by rw[z1r];omega);rcases z1w j L.length with m|m
    ·have y:=En id nm m;have Z:(L.map Xx)[j]?=some (.agg L[j].cells):=by rw[z1u,z0c m];rfl
     generalize Ha id nm (L.take j)=acc at*
     conv=>whnf
     repeat' ((first|(refine gX ?_;intros)|refine DN (by simp) (by rw[z0s];omega) ?_|((first|apply bD|apply bB)<;>intro _<;>try omega))<;>conv=>whnf)
     all_goals first
      |exact⟨j+1,m,by omega,Le.of_eq (by rw[y,if_pos ⟨by assumption,by simpa using(show(L[j].var==nm)=true by assumption)⟩];simp only[z0e,z1v];rfl)⟩
      |exact⟨j+1,m,by omega,Le.of_eq (by rw[y,if_neg (by rintro⟨h8,h9⟩;simp_all),z2y];rfl)⟩
    ·rw[z1f m];conv=>whnf
     repeat' (apply bD<;>intro _<;>first|omega|conv=>whnf)
     all_goals first
      |exact⟨_,.hd rfl (by simp),rfl⟩
   ·have e:Mc p id nm=[]:=by unfold Mc;rw[if_neg (fun h=>u h.2)]
    rw[e];have v:(decide (1<=id)&&decide (id<=((QX p).s.l.length:Int)))=false:=by
     rw[c.s];by_cases m:1<=id
     ·have:¬id<=((sheetOf p).l.length:Int):=fun H=>u ⟨m,H⟩;simp[this]
     ·simp[m]
    rw[v]at t;generalize QX p=b at*
    repeat' ((first|refine cP q ?_|refine cP t ?_|(apply bN<;>intro _))<;>conv=>whnf)
    all_goals first
     |contradiction
     |exact⟨_,.p Sub.nils,rfl⟩
theorem Ym{G l:Nat->List Str}:∀{n:Nat},(∀a,a<n->G a=l a)->prsG G n=prsG l n
 |0,_=>rfl
 |n+1,h=>by rw[LU,LU,h n (z7y n),Ym fun a ha=>h a (Nat.lt_succ_of_lt ha)]
def sG0:List (List Str):=[[],[vS],[Sd,vS],[],[],[]]
def sG1:List (List Str):=[[xS,yS],[yS],[],[],[EI],[]]
theorem q1u:∀a,a<6->YQ someP 0 f0 a=sG0.getD a []:=fun a ha=>by
 unfold YQ;rw[<-some_book.eq];unfold El
 match a,ha with
 |0,_=>exact L2 (by kernel_rfl)
 |1,_=>rw[if_neg (by decide),if_neg (by decide),q2t];rfl
 |2,_=>rw[if_neg (by decide),if_neg (by decide),q2t];rfl
 |3,_=>rw[if_neg (by decide),if_neg (by decide),q2t];rfl
 |4,_=>rw[if_neg (by decide),if_neg (by decide),q2t];rfl
 |5,_=>rfl
 |a+6,h=>omega
theorem q1y:∀a,a<6->YQ someP 1 f1 a=sG1.getD a []:=fun a ha=>by
 unfold YQ;rw[<-some_book.eq];unfold El
 match a,ha with
 |0,_=>exact L2 (by kernel_rfl)
 |1,_=>rw[if_neg (by decide),if_neg (by decide),x3u];rfl
 |2,_=>rw[if_neg (by decide),if_neg (by decide),x3u];rfl
 |3,_=>rw[if_neg (by decide),if_neg (by decide),x3u];rfl
 |4,_=>rw[if_neg (by decide),if_neg (by decide),x3u];rfl
 |5,_=>rfl
 |a+6,h=>omega
def I6:YU someP [112]=(6,4):=by
 have e:WF someP [112]=1:=by kernel_rfl
 have e2:prA someP 1=f1:=rfl;unfold YU;rw[e,if_pos ⟨Lc,by decide⟩];show(((QY (prA someP 1).body+2:Nat):Int),(((prsG (YQ someP 1 (prA someP 1)) (QY (prA someP 1).body+2)).length:Nat):Int))=(6,4);rw[e2,show QY f1.body+2=6 by kernel_rfl,Ym q1y]
 kernel_rfl
def x5z(nx:List (List Int))(gen kill:List (List Wd))(f:Nat)(X:List Int):List Int:=X++(List.range nx.length).flatMap fun a=>bif bitW (gen.getD a []) f||(X.contains (a:Int) && !bitW (kill.getD a []) f)then nx.getD a []else []
def Ec(nx:List (List Int))(gen kill:List (List Wd))(f:Nat):Nat->List Int
 |0=>[]
 |k+1=>x5z nx gen kill f (Ec nx gen kill f k)
def IF(nx:List (List Int))(gen kill:List (List Wd))(f:Nat)(X:List Int):Bool:=(List.range nx.length).all fun a=> !(bitW (gen.getD a []) f||(X.contains (a:Int) && !bitW (kill.getD a []) f))||(nx.getD a []).all fun b=>X.contains b
theorem Zx{nx:List (List Int)}{gen kill:List (List Wd)}{f:Nat}:∀(k:Nat){c:Int},c∈Ec nx gen kill f k->SolP nx gen kill f c
 |0,c,h=>by cases h
 | k+1,c,h=>by
   rw[Ec,x5z]at h;rcases z0o.1 h with h|h
   .exact Zx k h
   .obtain ⟨a,ha,hc⟩:=z1c.1 h;cases l:bitW (gen.getD a []) f||((Ec nx gen kill f k).contains (a:Int) && !bitW (kill.getD a []) f)with
    |false=>rw[l]at hc;cases hc
    | true=>
      rw[l,z1n]at hc;rw[z4f,z1p,z4w]at l;rcases l with l|⟨m,q⟩
      .exact .gen (a:=(a:Int)) (z6r _) (by rw[z3y];exact l) (by rw[z3y];exact hc)
      .exact .go (a:=(a:Int)) (z6r _) (Zx k (by simpa using m)) (by rw[z3y];exact q) (by rw[z3y];exact hc)
theorem Ea{nx:List (List Int)}{gen kill:List (List Wd)}{f:Nat}{X:List Int}(v:IF nx gen kill f X=true){c:Int}(h:SolP nx gen kill f c):c∈X:=by
 have key:∀{a b:Int},0<=a->b∈nx.getD a.toNat []->(bitW (gen.getD a.toNat []) f||(X.contains a && !bitW (kill.getD a.toNat []) f))=true->b∈X:=fun {a b} m l x=>by
  have hlt:a.toNat<nx.length:=by
   rw[z0a]at l;cases t:nx[a.toNat]?with
   |none=>rw[t]at l;cases l
   |some r=>exact(z1k.1 t).1
  have q:=z3x.1 v a.toNat (z2h.2 hlt);rw[show((a.toNat:Nat):Int)=a by omega,x]at q;have u:=z3x.1 (by simpa using q:((nx.getD a.toNat []).all fun b=>X.contains b)=true) b l;simpa using u
 induction h with
 |gen m h l=>exact key m l (by rw[h];rfl)
 |go m _ hk l y=>exact key m l (by rw[hk,show X.contains _=true by simpa using y];simp)
def CG{n:Nat}{steps:List (Int×Int)}{at_:List Nat}(k:Nat)(l:((List.range at_.length).all fun f=>IF (QE n steps).1 ((gnC n at_ at_.length).map (PN (at_.length/64+1))) ((klC n at_ at_.length).map (PN (at_.length/64+1))) f (Ec (QE n steps).1 ((gnC n at_ at_.length).map (PN (at_.length/64+1))) ((klC n at_ at_.length).map (PN (at_.length/64+1))) f k))=true):
  comC n steps at_=(List.range n).map fun(c:Nat)=>((List.range at_.length).filter fun f=>(Ec (QE n steps).1 ((gnC n at_ at_.length).map (PN (at_.length/64+1))) ((klC n at_ at_.length).map (PN (at_.length/64+1))) f k).contains (c:Int)).map Int.ofNat:=by
 unfold comC;refine z8k fun c _=>?_;congr 1;refine List.filter_congr fun f m=>?_;rw[z4z];exact⟨fun h=>by simpa using Ea (z3x.1 l f m) (@of_decide_eq_true _ (Classical.propDecidable _) h),fun h=>@z2t _ (Classical.propDecidable _) (Zx k (by simpa using h))⟩
def q1z:comC 6 (JD (QQ someP 0 f0) f0) [1,2]=[[],[],[0],[1],[1],[1]]:=by
 rw[x2z,CG 6 (by kernel_rfl)]
 kernel_rfl
def q1w:comC 6 (JD (QQ someP 0 f0) f0) [2]=[[],[],[],[0],[0],[0]]:=by
 rw[x2z,CG 6 (by kernel_rfl)]
 kernel_rfl
def OO(G T:Nat->List Str)(h:Nat->Int)(n:Nat)(steps:List (Int×Int))(nm:Str):outN G T h n steps nm=Ag T h n (atN G n nm) (comC n steps (atN G n nm)) nm:=rfl
theorem Yh{T m:Nat->List Str}{l:Nat->Int}{at_:List Nat}{C:List (List Int)}{nm:Str}:∀{n:Nat},(∀c,c<n->T c=m c)->Ag T l n at_ C nm=Ag m l n at_ C nm
 |0,_=>rfl
 |n+1,h=>by rw[Vk,Vk,h n (z7y n),Yh fun c hc=>h c (Nat.lt_succ_of_lt hc)]
def sT1:List (List Str):=[[],[],[vS],[vS],[Sd],[EI,Sd]]
theorem S7:∀a,a<6->Ix someP 0 f0 a=sT1.getD a []:=fun a ha=>by
 unfold Ix;rw[<-some_book.eq];unfold q9q
 match a,ha with
 |0,_=>rfl
 |1,_=>rw[if_neg (by decide),if_neg (by decide),q2t];rfl
 |2,_=>rw[if_neg (by decide),if_neg (by decide),q2t];rfl
 |3,_=>rw[if_neg (by decide),if_neg (by decide),q2t];rfl
 |4,_=>rw[if_neg (by decide),if_neg (by decide),q2t];rfl
 |5,_=>exact L2 (by kernel_rfl)
 |a+6,h=>omega
def Dt:prsG (YQ someP 0 f0) 6=[(vS,1),(Sd,2),(vS,2)]:=by
 rw[Ym q1u]
 kernel_rfl
def q1k:outN (YQ someP 0 f0) (Ix someP 0 f0) (fun c=>QH someP 0 (6:Nat) c) 6 (JD (QQ someP 0 f0) f0) vS=[⟨1,2,vS⟩,⟨2,3,vS⟩]:=by
 have e:atN (YQ someP 0 f0) 6 vS=[1,2]:=by unfold atN;rw[Dt];kernel_rfl
 rw[OO,e,q1z,Yh S7];rfl
def q1j:outN (YQ someP 0 f0) (Ix someP 0 f0) (fun c=>QH someP 0 (6:Nat) c) 6 (JD (QQ someP 0 f0) f0) Sd=[⟨2,4,Sd⟩,⟨2,-1,Sd⟩]:=by
 have e:atN (YQ someP 0 f0) 6 Sd=[2]:=by unfold atN;rw[Dt];kernel_rfl
 rw[OO,e,q1w,Yh S7];rfl
def q1g{l l':List Fl}(q:l.Perm l')(r:l'.Pairwise fun x y=>¬ltF y x)(m:∀s∈l,okFl s):JM l=l':=by
 rw[S8 q m];unfold JM;refine List.mergeSort_of_pairwise (r.imp fun h=>?_);rw[<-Hb]at h;simpa using h
def sFl:List Fl:=[⟨1,2,vS⟩,⟨2,3,vS⟩,⟨2,4,Sd⟩,⟨2,-1,Sd⟩]
def Ch:WI someP 0 f0=sFl:=by
 have m:QY f0.body+2=6:=by kernel_rfl
 unfold WI;rw[m,Dt,show(mapG [(vS,1),(Sd,2),(vS,2)]).map Prod.fst=[vS,Sd] by kernel_rfl,z2d,z2d,z6w,z2y];rw[q1k,q1j];refine q1g (.refl _) ((show sFl.Pairwise (fun x y=>¬flC y x<0)from by decide).imp fun h=>by rw[<-Hb];exact h) fun s l=>?_;have l:s∈sFl:=l;unfold sFl at l;simp only[z1g,z7u,or_false]at l;rcases l with rfl|rfl|rfl|rfl<;>exact⟨by decide,by decide,by decide⟩
def Nh:JN someP mainS=sFl:=by
 have e:WF someP mainS=0:=by kernel_rfl
 unfold JN;rw[e,if_pos ⟨Lc,by decide⟩];exact Ch
def q1v:Mc someP 3 vS=[2]:=by
 unfold Mc;rw[if_pos ⟨Lc,by decide,by rw[show(sheetOf someP).l.length=8 by kernel_rfl];decide⟩,show(Mn someP 3).2.1=mainS by kernel_rfl,Nh];rfl
theorem JL:aP 5 [] .tt:=by
 have l:=Dj someP La [112];rw[I6]at l;have m:=AQ someP La mainS;rw[Nh]at m;have q:=EE someP La 3 vS;rw[q1v]at q;have r:=X7 [2] [2];have h:(sFl.map Xx)[0]?=some (.agg (Fl.mk 1 2 vS).cells):=rfl;refine sC DR func5 ?_;conv=>whnf
 repeat' ((first|(refine iM fun _=>?_)|refine z1s rfl ?_|refine aD ?_|refine bP ?_|refine cP J6 ?_|refine cP l ?_|refine cP m ?_|refine cP q ?_|refine cP r ?_|refine iT h ?_|(apply bD<;>intro _<;>try omega))<;>conv=>whnf)
 all_goals first
  |contradiction
  |exact⟨_,.p (H4 rfl),rfl⟩
  |exact⟨_,.p (Sub.refl _),rfl⟩
theorem Q4{n:Nat}{b:Nat}(ha:a<n)(m:b<n)(h:QH p i n a=QH p i n b):a=b:=by
 unfold QH loI at h;have l:(0:Int)<=(QL p.A i:Nat):=z6r _;split at h<;>split at h<;>(try split at h)<;>(try split at h)<;>omega
theorem Ms{α β:Type}{g:α->List β}:∀{l:List α},l.Nodup->(∀x∈l,(g x).Nodup)->(∀x∈l,∀y∈l,∀z,z∈g x->z∈g y->x=y)->(l.flatMap g).Nodup
 |[],_,_,_=>by simp
 | x::r,hn,h1,h2=>by
   rw[z2i]at hn;rw[z2d,z3v];refine⟨h1 x z1j,Ms hn.2 (fun y h=>h1 y (z1x _ h)) (fun y h z m=>h2 y (z1x _ h) z (z1x _ m)),fun a ha b q e=>?_⟩;subst e;obtain⟨y,h,m⟩:=z1c.1 q;have:=h2 x z1j y (z1x _ h) a ha m;subst this;exact hn.1 h
theorem x1k{G T:Nat->List Str}{n:Nat}{steps:List (Int×Int)}(H:∀a,(G a).Nodup)(nm:Str):(outN G T (fun c=>QH p i n c) n steps nm).Nodup:=by
 have q:(atN G n nm).Nodup:=by rw[RT H];exact z8w.filter _
 unfold outN;refine Ms z8w (fun c hc=>?_) fun c hc d J s l h=>?_
 ·refine Ms ?_ (fun f _=>by split<;>simp) fun f m g M s l h=>?_
  ·rw[z0a];cases u:(comC n steps (atN G n nm))[c]?with
   |none=>exact z7v
   | some r=>
     have F:=z1d u;unfold comC at F;obtain⟨c',_,rfl⟩:=z1z.1 F;exact(z8w.filter _).map _ fun x y C L=>C (Int.ofNat.inj L)
  ·have t:∀f∈(comC n steps (atN G n nm)).getD c [],0<=f/\f<(atN G n nm).length:=fun f m=>by
    rw[z0a]at m;cases u:(comC n steps (atN G n nm))[c]?with
    |none=>rw[u]at m;cases m
    |some r=>rw[u]at m;exact(Wl (z1d u)).2 f m
   have Q:=t f m;have R:=t g M;split at l
   ·split at h
    ·rw[z0i.1 l]at h;have e:=z2b Fl.src (z0i.1 h);simp only at e;have v:f.toNat<(atN G n nm).length:=by omega
     have z:g.toNat<(atN G n nm).length:=by omega
     rw[z0a,z0c v,z0a,z0c z]at e;have E:=Q4 (P0 (z1h v)) (P0 (z1h z)) e;have U:f.toNat=g.toNat:=by
      refine z3t fun B=>?_;rcases Nat.lt_or_gt_of_ne B with A|A
      ·exact z5n.1 q _ _ v z A E
      ·exact z5n.1 q _ _ z v A E.symm
     omega
    ·first|contradiction|cases h
   ·first|contradiction|cases l
 ·obtain⟨f,_,l⟩:=z1c.1 l;obtain⟨g,_,h⟩:=z1c.1 h;split at l
  ·split at h
   ·rw[z0i.1 l]at h;exact Q4 (z2h.1 hc) (z2h.1 J) (z2b Fl.dst (z0i.1 h))
   ·first|contradiction|cases h
  ·first|contradiction|cases l
theorem Ep{s:Fl}(h:s∈WI p k f):∃nm c a,c<QY f.body+2/\a<QY f.body+2/\nm∈YQ p k f a/\s=⟨QH p k (QY f.body+2:Nat) a,QH p k (QY f.body+2:Nat) c,nm⟩/\nm∈Ix p k f c:=by
 unfold WI JM at h;have h:=(z4i _ _).mem_iff.1 h;obtain⟨nm,_,h⟩:=z1c.1 h;unfold outN at h;obtain⟨c,hc,h⟩:=z1c.1 h;obtain⟨x,l,h⟩:=z1c.1 h;have d:0<=x/\x<(atN (YQ p k f) (QY f.body+2) nm).length:=by
  rw[z0a]at l;cases m:(comC (QY f.body+2) (JD (QQ p k f) f) (atN (YQ p k f) (QY f.body+2) nm))[c]?with
  |none=>rw[m]at l;cases l
  |some r=>rw[m]at l;exact(Wl (z1d m)).2 x l
 split at h
 ·rename_i e;have v:x.toNat<(atN (YQ p k f) (QY f.body+2) nm).length:=by omega
  rw[z0i.1 h,z0a,z0c v];have hm:=z1h v;refine⟨nm,c,_,z2h.1 hc,P0 hm,?_,rfl,XP.1 e⟩;unfold atN at hm;obtain⟨y,g,u⟩:=z1z.1 hm;have q:=z2u.1 g;obtain⟨A,B⟩:=y;have z:A=nm:=by simpa using q.2
  have t:=(q0x q.1).2;subst z;simp only at u;rw[u]at t;exact t
 ·cases h
def O4(hc:QM p=true)(q:∀a,(YQ p k f a).Nodup):(WI p k f).Nodup:=by
 unfold WI JM;refine(z4i _ _).nodup_iff.2 (Ms (OF _) (fun nm _=>x1k q nm) fun a _ b _ s l m=>?_);have key:∀nm,s∈outN (YQ p k f) (Ix p k f) (fun c=>QH p k (QY f.body+2:Nat) c) (QY f.body+2) (JD (QQ p k f) f) nm->s.var=nm:=fun nm h=>by
  unfold outN at h;obtain⟨c,_,h⟩:=z1c.1 h;obtain⟨x,_,h⟩:=z1c.1 h;split at h
  .rw [z0i.1 h]
  .cases h
 rw[<-key a l,key b m]
def q7i(hc:QM p=true)(i:Nat)(f:Pr)(a:Nat):(YQ p i f a).Nodup:=by
 refine KW (F0 (fun d h=>?_) a);rw[(UZ hc).N]at h;obtain⟨it,_,rfl⟩:=z1z.1 h;exact XB _
theorem Pq(hc:QM p=true)(hk:p.A[k]?=some f)(r:a≠0)(t:a<QY f.body+1):
  QH p k (QY f.body+2:Nat) a=(QL p.A k+a:Nat)/\IL p (QL p.A k+a:Nat)=(QX p).N.getD (QL p.A k+a-1) []/\x2r p (QL p.A k+a:Nat)=(QX p).Q.getD (QL p.A k+a-1) []:=by
 obtain⟨_,_,_,l,q⟩:=QK p;obtain⟨_,_,m,_⟩:=q _ _ hk;have h:((QL p.A k+a:Nat):Int)-1=(QL p.A k+a-1:Nat):=by omega
 refine⟨?_,?_,?_⟩
 ·unfold QH loI;rw[if_neg (by omega),if_neg (by omega)];omega
 ·unfold IL;rw[if_pos ⟨hc,by omega,by omega⟩,h];rfl
 ·unfold x2r;rw[if_pos ⟨hc,by omega,by omega⟩,h];rfl
theorem q7e(hc:QM p=true)(hk:p.A[k]?=some f)(ha:a<QY f.body+2)(h:nm∈YQ p k f a):
  (a=0/\nm∈x6d p f.name++f.B.map Param.name)\/(a≠0/\a<QY f.body+1/\(QQ p k f).live.getD a false=true/\nm∈IL p (QL p.A k+a:Nat)):=by
 unfold YQ El at h;split at h
 ·rename_i l;refine .inl ⟨l,?_⟩;rw[(x1h hc hk).2.2];exact XY.1 h
 ·rename_i l;split at h
  ·cases h
  ·rename_i q;cases m:(QQ p k f).live.getD a false with
   |false=>rw[m]at h;cases h
   | true=>
     rw[m]at h;exact .inr ⟨l,by omega,rfl,by rw[(Pq hc hk l (by omega)).2.1];exact h⟩
def x4u(hc:QM p=true)(hk:p.A[k]?=some f)(a:Nat):(YQ p k f a).length<=34:=by
 have h:f.B.length<=8:=((KD (QV hc).1).pr f (z1d hk)).1;refine CA (fun d l=>?_) ((UO hc).2.len25 hc k) h a;rw[(UZ hc).N]at l;obtain⟨it,m,rfl⟩:=z1z.1 l;have q:it.s∈WE p:=by rw[<-GW];exact z6q m
 exact z2g (UL _) (PV hc (UO hc).1 q)
theorem q4o(l:List (Str×Nat)){k:Str}(h:(k,a)∈l):k∈(mapG l).map Prod.fst:=by
 have key:∀l:List (Str×Nat),(k,a)∈l->k∈(mapG l.reverse).map Prod.fst:=fun l=>by
  induction l with
  |nil=>intro h;cases h
  | cons x r m=>
    intro h;rw[z7x,BK];unfold Lk;rw[U3];rcases z1g.1 h with h|h
    ·subst h;split
     ·assumption
     ·exact z3o _ (z0i.2 rfl)
    ·have:=m h;split
     ·exact this
     ·exact z3f _ this
 have:=key l.reverse (List.mem_reverse.2 h)
 rwa[z7w]at this
section
variable {n:Nat}{at_:List Nat}
theorem q8q(hnd:at_.Nodup)(hlt:∀a∈at_,a<n):∀k,k<=at_.length->∀(a:Nat)(g:Nat),(g:Int)∈(gnC n at_ k).getD a []↔g<k/\at_[g]?=some a
 | 0,_,a,g=>by
   rw[gnC];constructor
   ·intro h;rw[z0a,z2q]at h;split at h<;>cases h
   ·intro h;exact absurd h.1 (by omega)
 | k+1,hk,a,g=>by
   have l:k<at_.length:=by omega
   have e:at_.getD k 0=at_[k]:=by rw[z0a,z0c l];rfl
   rw[gnC,e,WQ (by rw[MS];exact hlt _ (z1h l))];split
   ·rename_i h;rw[z0i];constructor
    ·intro q;obtain rfl:g=k:=by omega
     exact⟨by omega,by rw[z0c l,h]⟩
    ·rintro⟨q,m⟩;obtain⟨t,r⟩:=z1k.1 m;have:g=k:=(List.getElem_inj hnd).1 (r.trans h.symm);omega
   ·rename_i h;rw[q8q hnd hlt k (by omega) a g];refine⟨fun⟨q,m⟩=>⟨by omega,m⟩,fun⟨q,m⟩=>⟨?_,m⟩⟩;refine Nat.lt_of_le_of_ne (by omega) fun e2=>h ?_;subst e2;rw[z0c l]at m;exact z3q m
theorem q3z{m g:Nat}:(g:Int)∈Wg m↔g<m:=by
 unfold Wg;rw[z1z];constructor
 ·rintro⟨x,q,l⟩;have:=z2h.1 q;have:(x:Int)=g:=l;omega
 ·exact fun h=>⟨g,z2h.2 h,rfl⟩
theorem q8k(hlt:∀a∈at_,a<n){g:Nat}(m:g<at_.length):∀k,k<=at_.length->∀a:Nat,(g:Int)∈(klC n at_ k).getD a []↔a∈at_.take k
 | 0,_,a=>by
   rw[klC];constructor
   ·intro h;rw[z0a,z2q]at h;split at h<;>cases h
   ·intro h;simp at h
 | k+1,hk,a=>by
   have l:k<at_.length:=by omega
   have e:at_.getD k 0=at_[k]:=by rw[z0a,z0c l];rfl
   rw[klC,e,WQ (by rw[MO];exact hlt _ (z1h l)),z1y l,z0o,z0i];split
   ·rename_i h;exact⟨fun _=>.inr h.symm,fun _=>q3z.2 m⟩
   ·rename_i h;rw[q8k hlt m k (by omega) a];exact⟨.inl,fun q=>q.resolve_right fun e2=>h e2.symm⟩
def q2p(n:Nat)(steps:List (Int×Int))(at_:List Nat)(f:Nat)(c:Int):Prop:=SolP (QE n steps).1 ((gnC n at_ at_.length).map (PN (at_.length/64+1))) ((klC n at_ at_.length).map (PN (at_.length/64+1))) f c
theorem q0h{l:List (List Int)}{m:Nat}(h:∀r∈l,r.length<=5000/\∀f∈r,0<=f/\f<(m:Nat)){f:Nat}:bitW ((l.map (PN (m/64+1))).getD a []) f=decide ((f:Int)∈l.getD a []):=by
 rw[z0a,z1u,z0a];cases u:l[a]?with
 |none=>simp[bitW]
 | some r=>
   refine q3h (fun g t=>?_) f;have q:=(h r (z1d u)).2 g t;exact⟨q.1,Nat.lt_succ_of_le (Nat.div_le_div_right (by omega))⟩
open Classical in
theorem CH{steps:List (Int×Int)}{f c:Nat}(hc:c<n):(f:Int)∈(comC n steps at_).getD c []↔f<at_.length/\q2p n steps at_ f c:=by
 have e:(comC n steps at_)[c]?=some ((comC n steps at_)[c]'(by rw[Mk];exact hc)):=z0c _;rw[z0a,e,z2l];unfold comC;rw[z4b,z7b,z1z];constructor
 ·rintro⟨x,q,m⟩;obtain⟨h,l⟩:=z2u.1 q;obtain rfl:x=f:=by have:(x:Int)=f:=m;omega
  exact⟨z2h.1 h,of_decide_eq_true l⟩
 ·exact fun⟨h,l⟩=>⟨f,z2u.2 ⟨z2h.2 h,z2t l⟩,rfl⟩
variable {steps:List (Int×Int)}(hnd:at_.Nodup)(hlt : ∀ a∈at_,a<n)(hm:at_.length<=5000)
include hnd hlt hm
def q7o{f:Nat}:bitW (((gnC n at_ at_.length).map (PN (at_.length/64+1))).getD a []) f=true↔at_[f]?=some a:=by
 rw[q0h (q4j n at_ hm _ (z1l _)),z5j,q8q hnd hlt _ (z1l _)];exact⟨fun h=>h.2,fun h=>⟨(z1k.1 h).1,h⟩⟩
omit hnd in
def q8j{a f:Nat}(h:f<at_.length):bitW (((klC n at_ at_.length).map (PN (at_.length/64+1))).getD a []) f=true↔a∈at_:=by
 rw[q0h (q5v n at_ hm _),z5j,q8k hlt h _ (z1l _),z4k]
theorem q9e{f:Nat}{c:Int}(h:at_[f]?=some a)(m:((a:Int),c)∈steps)(hc:0<=c/\c<n):q2p n steps at_ f c:=by
 have ha:=hlt a (z1d h);refine .gen (a:=a) (by omega) ((q7o hnd hlt hm).2 h) ?_;have:=(BJ (n:=n) (l:=steps) (x:=a) (y:=c)).2 ⟨m,ME (by omega),ME hc⟩;exact this.2
omit hnd in
def x3l{f:Nat}(q:f<at_.length){a c:Int}(h:q2p n steps at_ f a)(ha:0<=a/\a<n)(r:a.toNat∉at_)(t:(a,c)∈steps)(hc:0<=c/\c<n):q2p n steps at_ f c:=by
 refine .go (a:=a) ha.1 h ?_ ((BJ (n:=n) (l:=steps) (x:=a) (y:=c)).2 ⟨t,ME ha,ME hc⟩).2;rw[z6o];exact fun m=>r ((q8j hlt hm q).1 m)
end
section
variable {p:Pg}{k:Nat}{f:Pr}(hc:QM p=true)(hk:p.A[k]? = some f)
include hc hk
theorem q9n(nm:Str):(atN (YQ p k f) (QY f.body+2) nm).Nodup/\(∀a∈atN (YQ p k f) (QY f.body+2) nm,a<QY f.body+2)/\(atN (YQ p k f) (QY f.body+2) nm).length<=5000/\∀a,a∈atN (YQ p k f) (QY f.body+2) nm↔a<QY f.body+2/\nm∈YQ p k f a:=by
 have h:=q7i hc k f;have m:=(XF hc).2.2;have l:=UC _ _ (z1d hk);rw[RT h];refine⟨z8w.filter _,fun a ha=>z2h.1 (z2u.1 ha).1,z2g (z2s _ _) (by rw[z4q];omega),fun a=>?_⟩;rw[z2u,z2h,z5j]
theorem q4z{c:Nat}(ha:a<QY f.body+2)(l:c<QY f.body+2):(⟨QH p k (QY f.body+2:Nat) a,QH p k (QY f.body+2:Nat) c,nm⟩:Fl)∈WI p k f ↔
  nm∈Ix p k f c/\∃g,(atN (YQ p k f) (QY f.body+2) nm)[g]?=some a/\q2p (QY f.body+2) (JD (QQ p k f) f) (atN (YQ p k f) (QY f.body+2) nm) g c:=by
 obtain⟨_,hlt,_,t⟩:=q9n hc hk nm;unfold WI JM;rw[(z4i _ _).mem_iff,z1c];constructor
 ·rintro⟨C,_,h⟩;unfold outN at h;obtain⟨c',q,h⟩:=z1c.1 h;obtain⟨x,d,h⟩:=z1c.1 h;have q:=z2h.1 q;split at h
  ·rename_i y;have h:=z0i.1 h;obtain rfl:nm=C:=z2b Fl.var h;have e2:QH p k (QY f.body+2:Nat) c=QH p k (QY f.body+2:Nat) c':=z2b Fl.dst h;obtain rfl:=Q4 l q e2;have u:((comC (QY f.body+2) (JD (QQ p k f) f) (atN (YQ p k f) (QY f.body+2) nm)).getD c [])∈comC (QY f.body+2) (JD (QQ p k f) f) (atN (YQ p k f) (QY f.body+2) nm):=by
    rw[z0a,z0c (by rw[Mk];exact l)];exact z1h _
   have A:=(Wl u).2 x d;obtain⟨g,rfl⟩:=Int.eq_ofNat_of_zero_le A.1;have m:g<(atN (YQ p k f) (QY f.body+2) nm).length:=by omega
   have r:=((CH l).1 d).2;have z:QH p k (QY f.body+2:Nat) a=_:=z2b Fl.src h;have e:(atN (YQ p k f) (QY f.body+2) nm).getD ((g:Nat):Int).toNat 0=(atN (YQ p k f) (QY f.body+2) nm)[g]:=by
    rw[z3y,z0a,z0c m];rfl
   rw[e]at z;refine⟨XP.1 y,g,?_,r⟩;rw[z0c m,Q4 ha (hlt _ (z1h m)) z]
  ·cases h
 ·rintro⟨y,g,v,r⟩;obtain⟨m,B⟩:=z1k.1 v;refine⟨nm,?_,?_⟩
  ·have:=(t a).1 (z1d v);refine q4o _ (a:=a) ?_;unfold prsG;exact z1c.2 ⟨a,z2h.2 ha,z1z.2 ⟨nm,this.2,rfl⟩⟩
  ·unfold outN;refine z1c.2 ⟨c,z2h.2 l,z1c.2 ⟨(g:Nat),(CH l).2 ⟨m,r⟩,?_⟩⟩;rw[if_pos (XP.2 y),z3y,z0a,v];exact z0i.2 rfl
end
section
variable {p:Pg}{k:Nat}{f:Pr}(hc:QM p=true)(hk:p.A[k]? = some f)
include hc hk
theorem Oa{t:S}(q:t∈flL f.body):plP p k f t.id/\t.id=(QL p.A k+(ixI p k f t.id).toNat:Nat)/\(ixI p k f t.id).toNat≠0/\(ixI p k f t.id).toNat<QY f.body+1:=by
 have m:=ZX (QV hc).1 hk q;have l:plP p k f t.id:=.inr (.inr m);have r:=ZO l;have h:=PD l;unfold QH loI at h;split at h
 ·omega
 split at h
 ·omega
 ·exact⟨l,by omega,by omega,by omega⟩
theorem x0k{t:S}(v:t∈flL f.body)(r:Rch (wR p k f) 0 t.id)(h:nm∈IL p t.id):nm∈YQ p k f (ixI p k f t.id).toNat:=by
 obtain⟨u,m,l,q⟩:=Oa hc hk v;rw[m,(Pq hc hk l q).2.1]at h;unfold YQ El;rw[if_neg l,if_neg (by omega),(GR hc hk u).2 r];exact h
theorem Mf{t:S}(r:t∈flL f.body):IL p t.id=DV (dfB p (QX p).F) t.id/\x2r p t.id=DV (usB p (QX p).ins) t.id:=by
 obtain⟨_,h,l,q⟩:=Oa hc hk r;generalize(ixI p k f t.id).toNat=m at*
 have e:(t.id-1).toNat=QL p.A k+m-1:=by omega
 refine⟨?_,?_⟩
 ·rw[<-(UZ hc).N];unfold DV;rw[e,h,(Pq hc hk l q).2.1]
 ·rw[<-(UZ hc).Q];unfold DV;rw[e,h,(Pq hc hk l q).2.2]
omit hc hk in
theorem SH:ixI p k f (-1)=(QY f.body+1:Nat):=by
 have l:=ZO (p:=p) (j:=k) (f:=f) (x := -1) (.inr (.inl rfl));have h:=PD (p:=p) (j:=k) (f:=f) (x := -1) (.inr (.inl rfl));unfold QH loI at h;split at h
 ·omega
 split at h
 ·omega
 ·omega
omit hc hk in
theorem Mp:ixI p k f 0=0:=by
 have l:=ZO (p:=p) (j:=k) (f:=f) (x:=0) (.inl rfl);have h:=PD (p:=p) (j:=k) (f:=f) (x:=0) (.inl rfl);unfold QH loI at h;split at h
 ·assumption
 split at h
 ·omega
 ·omega
def x8r{a b:Int}(h:wR p k f a b):dR p k f a b:=(T2 hc hk).2 (.inl h)
end
section
variable {p:Pg}{j:Nat}{f:Pr}
end
section
variable {p:Pg}{j:Nat}{f:Pr}{n:Str}
end
section
variable {p:Pg}{j:Nat}{f:Pr}
end
section
variable {p:Pg}{j:Nat}{f:Pr}
theorem x1b(h:QM p=true)(q:p.A[j]?=some f):(Ja f).Pairwise ordP:=by
 rw[z5n];intro a b ha t r;have u:=Q5 f;have hm:=(QV h).1;have l:=C8 hm q (x:=a) (by omega);have m:=C8 hm q (x:=b) (by omega);rw[z0c ha]at l;rw[z0c t]at m;rw[z3q l,z3q m];exact Du (by omega) (by omega)
end
end Go.Ab
