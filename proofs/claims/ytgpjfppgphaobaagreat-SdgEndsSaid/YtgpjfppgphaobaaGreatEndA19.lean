/- The library's contracts at this seat's program, in plain words (printed by the kit's lay-plain.mjs). Conditions: none. -/
import Derived.Test.YtgpjfppgphaobaaGreatEndA18
set_option linter.all false
set_option maxRecDepth 100000
set_option maxHeartbeats 16000000
open Int (ofNat)
open Nat (beq mod_lt)
namespace Go.Proofs
open Go.Shelf Tryz
def Tryz.laysV_ren:Go.Shelf.Ren:=⟨fun|6=>116|15=>150|14=>170|28=>200|29=>201|20=>209|21=>210|22=>211|23=>212|24=>213|25=>214|26=>215|27=>216|46=>251|47=>245|48=>246|49=>252|50=>253|57=>271|n=>n,fun|22=>31|24=>27|25=>179|3=>3|39=>210|0=>0|53=>249|55=>251|4=>4|46=>242|45=>241|50=>90|5=>5|9=>9|66=>281|70=>285|76=>303|77=>304|n=>n,fun|n=>n⟩
theorem kT18{α:Type}{x:Option α}{a b:α}(h:x=some a)(e:a=b:=by kernel_rfl):x=some b:=e▸h
def TE:Go.Proofs.SlLaysF0.n6 Tryz.prog Tryz.laysV_ren:=⟨by kernel_rfl,⟨f116.name,by decide,kT18 func116⟩,⟨f170.name,by decide,kT18 func170⟩,kT18 func150,⟨f209.name,by decide,kT18 func209⟩,⟨f210.name,by decide,kT18 func210⟩,⟨f211.name,by decide,kT18 func211⟩,⟨f212.name,by decide,kT18 func212⟩,⟨f213.name,by decide,kT18 func213⟩,⟨f214.name,by decide,kT18 func214⟩,⟨f215.name,by decide,kT18 func215⟩,⟨f216.name,by decide,kT18 func216⟩,kT18 func200,kT18 func201,⟨f251.name,by decide,kT18 func251⟩,kT18 func245,kT18 func246,⟨f252.name,by decide,kT18 func252⟩,⟨f253.name,by decide,kT18 func253⟩,⟨f271.name,by decide,kT18 func271⟩,underlying0,isAgg0,sizeOf0,zeroValue0,underlying3,isAgg3,sizeOf3,zeroValue3,underlying4,isAgg4,sizeOf4,zeroValue4,underlying5,isAgg5,sizeOf5,zeroValue5,underlying9,isAgg9,sizeOf9,zeroValue9,underlying31,isAgg31,sizeOf31,zeroValue31,underlying179,isAgg179,sizeOf179,zeroValue179,underlying210,isAgg210,sizeOf210,zeroValue210,underlying241,isAgg241,sizeOf241,zeroValue241,underlying242,isAgg242,sizeOf242,zeroValue242,underlying90,isAgg90,sizeOf90,zeroValue90,underlying249,isAgg249,sizeOf249,zeroValue249,underlying251,isAgg251,sizeOf251,zeroValue251,underlying281,isAgg281,sizeOf281,zeroValue281,underlying285,isAgg285,sizeOf285,zeroValue285,underlying303,isAgg303,sizeOf303,zeroValue303,underlying304,isAgg304,sizeOf304,zeroValue304⟩
end Go.Proofs
namespace Go.Proofs
open Go.Shelf Tryz
def Tryz.laysE_ren:Go.Shelf.Ren:=⟨fun|6=>119|15=>150|14=>171|28=>200|29=>201|20=>217|21=>218|22=>219|23=>220|24=>221|25=>222|26=>223|27=>224|46=>254|47=>245|48=>246|49=>255|50=>256|57=>272|n=>n,fun|22=>38|24=>43|25=>182|3=>3|39=>210|0=>0|53=>249|55=>251|4=>4|46=>242|45=>241|50=>90|5=>5|9=>9|66=>281|70=>285|76=>303|77=>304|n=>n,fun|n=>n⟩
def TS:Go.Proofs.SlLaysF0.n6 Tryz.prog Tryz.laysE_ren:=⟨by kernel_rfl,⟨f119.name,by decide,kT18 func119⟩,⟨f171.name,by decide,kT18 func171⟩,kT18 func150,⟨f217.name,by decide,kT18 func217⟩,⟨f218.name,by decide,kT18 func218⟩,⟨f219.name,by decide,kT18 func219⟩,⟨f220.name,by decide,kT18 func220⟩,⟨f221.name,by decide,kT18 func221⟩,⟨f222.name,by decide,kT18 func222⟩,⟨f223.name,by decide,kT18 func223⟩,⟨f224.name,by decide,kT18 func224⟩,kT18 func200,kT18 func201,⟨f254.name,by decide,kT18 func254⟩,kT18 func245,kT18 func246,⟨f255.name,by decide,kT18 func255⟩,⟨f256.name,by decide,kT18 func256⟩,⟨f272.name,by decide,kT18 func272⟩,underlying0,isAgg0,sizeOf0,zeroValue0,underlying3,isAgg3,sizeOf3,zeroValue3,underlying4,isAgg4,sizeOf4,zeroValue4,underlying5,isAgg5,sizeOf5,zeroValue5,underlying9,isAgg9,sizeOf9,zeroValue9,underlying38,isAgg38,sizeOf38,zeroValue38,underlying182,isAgg182,sizeOf182,zeroValue182,underlying210,isAgg210,sizeOf210,zeroValue210,underlying241,isAgg241,sizeOf241,zeroValue241,underlying242,isAgg242,sizeOf242,zeroValue242,underlying90,isAgg90,sizeOf90,zeroValue90,underlying249,isAgg249,sizeOf249,zeroValue249,underlying251,isAgg251,sizeOf251,zeroValue251,underlying281,isAgg281,sizeOf281,zeroValue281,underlying285,isAgg285,sizeOf285,zeroValue285,underlying303,isAgg303,sizeOf303,zeroValue303,underlying304,isAgg304,sizeOf304,zeroValue304⟩
end Go.Proofs
namespace Go.Ab
open Go.Proofs.Tryz
open Go.Proofs Go.Sort Go.Lib
def vxC(a b:Vx):Int:=orI [cmpT a.C b.C,cmpI a.kind b.kind,cmpI a.id b.id,cmpT a.slot b.slot]
def egC(a b:Eg):Int:=orI [vxC a.G b.G,vxC a.to b.to,cmpI a.kind b.kind]
def NA(a b:Vx):aP 117 [.agg a.cells,.agg b.cells] (.int .i64 (vxC a b)):=by
 refine sC Hy func117 ?_;conv=>whnf
 have h:=VN a.C b.C;have hT:=VN a.slot b.slot;repeat' ((first|(refine gX ?_;intros)|refine cP (VF _ _) ?_|refine cP (HZ [cmpT a.C b.C,cmpI a.kind b.kind,cmpI a.id b.id,cmpT a.slot b.slot]) ?_|refine dA ?_|refine BsK.pureL rfl rfl ?_|refine cP h ?_|refine cP hT ?_|((first|apply bD|apply bE|apply bN|apply bB)<;>intro _<;>try omega))<;>conv=>whnf)
 all_goals first
  |exact RetK.p rfl
def M2(a b:Eg):aP 120 [.agg a.cells,.agg b.cells] (.int .i64 (egC a b)):=by
 refine sC Jn func120 ?_;conv=>whnf
 have h:=NA a.G b.G;have hT:=NA a.to b.to;repeat' ((first|(refine gX ?_;intros)|refine cP (VF _ _) ?_|refine cP (HZ [vxC a.G b.G,vxC a.to b.to,cmpI a.kind b.kind]) ?_|refine dA ?_|refine BsK.pureL rfl rfl ?_|refine cP h ?_|refine cP hT ?_|((first|apply bD|apply bE|apply bN|apply bB)<;>intro _<;>try omega))<;>conv=>whnf)
 all_goals first
  |exact RetK.p rfl
def OH(v:Vx):Prop:=v.C.length<=maxLen/\v.slot.length<=maxLen
def OK(e:Eg):Prop:=OH e.G/\OH e.to
instance:Inhabited {v:Vx // OH v}:=⟨⟨⟨[],0,0,[]⟩,x4j _,x4j _⟩⟩
instance:Inhabited {e:Eg // OK e}:=⟨⟨⟨⟨[],0,0,[]⟩,⟨[],0,0,[]⟩,0⟩,⟨x4j _,x4j _⟩,x4j _,x4j _⟩⟩
def vxK(v:Vx):Str×Int×Int×Str:=(v.C,v.kind,v.id,v.slot)
def x2f(p q:Int×Str):Int:=if cmpI p.1 q.1=0 then cmpT p.2 q.2 else cmpI p.1 q.1
def x2d(p q:Int×Int×Str):Int:=if cmpI p.1 q.1=0 then x2f p.2 q.2 else cmpI p.1 q.1
def lexV(p q:Str×Int×Int×Str):Int:=if cmpT p.1 q.1=0 then x2d p.2 q.2 else cmpT p.1 q.1
def x2b(p q:(Str×Int×Int×Str)×Int):Int:=if lexV p.1 q.1=0 then cmpI p.2 q.2 else lexV p.1 q.1
def lexE(p q:(Str×Int×Int×Str)×(Str×Int×Int×Str)×Int):Int:=if lexV p.1 q.1=0 then x2b p.2 q.2 else lexV p.1 q.1
def lexV_k:CmpK lexV:=cmpT_k.lex (cmpI_k.lex (cmpI_k.lex cmpT_k))
def lexE_k:CmpK lexE:=lexV_k.lex (lexV_k.lex cmpI_k)
def R5(a b:Vx):vxC a b=lexV (vxK a) (vxK b):=by
 unfold vxC;rw[HH,HH,HH,Fd];rfl
def egK(e:Eg):(Str×Int×Int×Str)×(Str×Int×Int×Str)×Int:=(vxK e.G,vxK e.to,e.kind)
def Me(a b:Eg):egC a b=lexE (egK a) (egK b):=by
 unfold egC;rw[HH,HH,Fd,R5,R5];rfl
def Dq{a b:Vx}(h:vxK a=vxK b):a=b:=by
 cases a;cases b;simp only[vxK,Prod.mk.injEq]at h;simp[h]
def CB{a b:Eg}(h:egK a=egK b):a=b:=by
 obtain⟨i,j,k⟩:=a;obtain⟨l,m,o⟩:=b;simp only[egK,Prod.mk.injEq]at h;rw[Dq h.1,Dq h.2.1,h.2.2]
def J0(l:List Vx):List Vx:=l.mergeSort fun x y=> !decide (vxC y x<0)
def Qj(l:List Eg):List Eg:=l.mergeSort fun x y=> !decide (egC y x<0)
def Nk(l:List Vx)(i:∀s∈l,OH s)(h:l.length<=1000000000):
  aH 116 [.hd 1000 0 l.length,.p (.fn 117 [])] [(1000,.own 27 4 (avV l))] (.p (.tup [])) [(1000,.own 27 4 (avV (J0 l)))]:=by
 exact V5 (p:=OH) (cells:=Vx.cells) (k:=4) (fun _=>rfl) (fun x q c o=>by
   simp only[Vx.cells,x4v,x8m,or_false]at o;rcases o with rfl|rfl|rfl|rfl
   .exact x5n q.1
   .rfl
   .rfl
   .exact x5n q.2) TE (by decide) call116 Tryz.isAgg27 Tryz.sizeOf27 27 vxC (fun x y _ _=>NA x y)
  (by simp only[R5];exact lexV_k.swo fun s:{v:Vx // OH v}=>vxK s.1) (fun x y _ _ j m=>by
    rw[R5]at j m;exact Dq ((lexV_k.ge j).resolve_right m)) l i h
def Nj(l:List Eg)(j:∀s∈l,OK s)(h:l.length<=1000000000):
  aH 119 [.hd 1000 0 l.length,.p (.fn 120 [])] [(1000,.own 43 9 (avE l))] (.p (.tup [])) [(1000,.own 43 9 (avE (Qj l)))]:=by
 exact V5 (p:=OK) (cells:=Eg.cells) (k:=9) (fun _=>rfl) (fun x i c q=>by
   simp only[Eg.cells,x4v,x8m,or_false]at q;rcases q with rfl|rfl|rfl|rfl|rfl|rfl|rfl|rfl|rfl;all_goals first
    |rfl
    |exact x5n i.1.1
    |exact x5n i.1.2
    |exact x5n i.2.1
    |exact x5n i.2.2) TS (by decide) call119 Tryz.isAgg43 Tryz.sizeOf43 43 egC (fun x y _ _=>M2 x y)
  (by simp only[Me];exact lexE_k.swo fun s:{e:Eg // OK e}=>egK s.1) (fun x y _ _ m o=>by
    rw[Me]at m o;exact CB ((lexE_k.ge m).resolve_right o)) l j h
def cIx(p:Pg)(t:S):Nat:=(idxF (fun g=>g.name==t.C) p.A).toNat
def prG(p:Pg)(k:Nat):Pr:=(p.A[k]?).getD ⟨[],[],[],[],[]⟩
def Ni(p:Pg)(i:Str)(I O:Nat->List Str)(h:Item):List Vx:=⟨i,2,h.s.id,[]⟩::(if h.s.kind=4 then(slI (I (cIx p h.s)) (prG p (cIx p h.s))).map (HN i 5 h.s.id)++(clO h.s (O (cIx p h.s))).map (HN i 6 h.s.id)else [])
def J7(i:Nat)(f:Pr)(I O:Nat->List Str):List Vx:=[⟨f.name,1,0,[]⟩]++(slI (I i) f).map (HN f.name 3 0)++(slO (O i)).map (HN f.name 4 0)
def ZR(p:Pg)(i:Nat)(f:Pr)(I O:Nat->List Str):List Vx:=J7 i f I O++(itsOf p i f).flatMap (Ni p f.name I O)
def DE{l:List Vx}:(J0 l).length=l.length:=by unfold J0;simp
structure VxB(b:Book)(p:Pg)(I O:Nat->List Str):Prop where
 hp:b.s=sheetOf p
 hc:cntP p.A<=1000
 hio:∀(j:Nat)(g:Pr),p.A[j]?=some g->b.ins[j]?=some (I j)/\b.za[j]?=some (O j)/\(I j).length<=1000/\(O j).length<=1000/\g.B.length<=1000
 hcl:∀(i:Nat)(f:Pr),p.A[i]?=some f->∀it∈itsOf p i f,it.s.kind=4->∃g,p.A[cIx p it.s]?=some g/\idxF (fun g=>g.name==it.s.C) p.A=(cIx p it.s:Nat)
def Xi(I:List Str)(f:Pr):(slI I f).length=I.length+f.B.length:=by
 unfold slI;rw[ZY,x3o,x3a]
def CU(t:S)(O:List Str):(clO t O).length<=O.length+1:=by
 unfold clO;split
 .exact x5y (x6p _ _) (Nat.le_of_eq (NL O))
 .exact Nat.le_of_eq (NL O)
theorem NW:∀(l:List Pr){j:Nat}{f:Pr},l[j]?=some f->QJ f.body<=cntP l
 |[],_,_,h=>by cases h
 |g::r,0,f,h=>by cases h;rw[cntP];omega
 | g::r,j+1,f,h=>by
   have:=NW r (j:=j) (f:=f) h;rw[cntP];omega
def q3v:Info:={keep:=I_whole_Vertices.keep,sched:=I_whole_Vertices.sched,frz:=fun i=>bif beq i 2 then [[6],[7]]else I_whole_Vertices.frz i}
def PN(b:Book)(p:Pg)(I O:Nat->List Str)(l:VxB b p I O)(i:Nat)(f:Pr)(t:p.A[i]?=some f)(q:∀v∈ZR p i f I O,OH v):
  aH 66 [.p (.ip b.cells),.j i] [] (.hd 1 0 (ZR p i f I O).length) [(1,.own 27 4 (avV (J0 (ZR p i f I O))))]:=by
 refine sK q3v func66 ?_;have u:b.s.p=p:=by rw[l.hp];exact(QU p).1
 obtain⟨K,L,R,U,hf1⟩:=l.hio i f t;have V:=Jv b p l.hp i f t (by omega) (I i) (O i) K L (by omega) (by omega);have M:(p.A.map fun f=>AV.agg f.cells)[i]?=some (.agg f.cells):=by rw[x4q,t];rfl
 conv=>whnf
 repeat' ((first|(refine gX ?_;intros)|(refine IdxK.at (k:=i) rfl (by rw[u];exact M) rfl ?_)|((first|apply bD|apply bE|apply bN|apply bB)<;>intro _<;>try omega)|(refine cH [] 1 V ?_ (hH:=x6z))|refine LenK.mk (by simp) ?_)<;>conv=>whnf)
 all_goals
  refine ZF ⟨[(0,.p (.ip b.cells)),(1,.j i),(5,.ptr 0 0),(6,.p (eStrs (slI (I i) f))),(7,.p (eStrs (slO (O i))))],[(1,.own 27 4 (avV [⟨f.name,1,0,[]⟩])),(0,pcO (.agg b.cells) i f (.hd 1 0 1) (.p .nils))]⟩ ?_ ?_
  .skip
   repeat' ((first|(refine gX ?_;intros)|refine dA ?_|refine pA (es:=[]) 1 48 rfl ?_|((first|apply bD|apply bE|apply bN|apply bB)<;>intro _<;>try omega)|(refine cH rH1 1 (Q2 (.agg b.cells) i f 1 0 []) ?_)|refine x4e ?_ ?_)<;>conv=>whnf)
   all_goals first
    |exact Le.of_eq rfl
  have Y:(slI (I i) f).length<=2000:=by rw[Xi];omega
  have Z:(slO (O i)).length<=1001:=by rw[NL];omega
  have B:aP 96 [.ip b.s.cells,.int .i64 i] (ZE (itsOf p i f)):=by rw[l.hp];exact Hh p t l.hc
  conv=>whnf
  repeat' ((first|(refine gX ?_;intros)|refine dA ?_|refine cP B ?_|((first|apply bD|apply bE|apply bN|apply bB)<;>intro _<;>try omega)|(refine cH rH2 2 (Q1 (.agg b.cells) i f [⟨f.name,1,0,[]⟩] 3 0 (slI (I i) f) (by simp;omega)) ?_)|(refine cH rH2 2 (Q1 (.agg b.cells) i f ([⟨f.name,1,0,[]⟩]++(slI (I i) f).map (HN f.name 3 0)) 4 0 (slO (O i)) (by simp;omega)) ?_))<;>conv=>whnf)
  have J:[⟨f.name,1,0,[]⟩]++(slI (I i) f).map (HN f.name 3 0)++(slO (O i)).map (HN f.name 4 0)=J7 i f I O:=rfl;rw[J];have G:(J7 i f I O).length<=3100:=by rw[<-J];simp;omega
  unfold ZR at q⊢;generalize J7 i f I O=hd0 at*
  have D:=l.hcl i f t;have hin:(itsOf p i f).length<=1000:=by
   have:=NW p.A t;have o:=l.hc;unfold itsOf;rw[XS];omega
  generalize itsOf p i f=its at*
  have hil:(its.map fun i=>AV.agg i.cells).length=its.length:=x3a _;refine lI (fun x:Nat×List Vx=>⟨[(5,.ptr 0 0),(53,.p (ZE its)),(54,.p (.int .i64 (its.map fun i=>AV.agg i.cells).length)),(55,.j x.1)],[(0,pcO (.agg b.cells) i f (.hd 1 0 x.2.length) (.p .nils)),(1,.own 27 4 (avV x.2))]⟩) (fun x=>x.1<=its.length/\x.2=hd0++(its.take x.1).flatMap (Ni p f.name I O)/\x.2.length<=3100+3100*x.1) (fun x=>its.length-x.1) (0,hd0) ⟨x4j _,by simp,by simpa using G⟩ ?_;rintro⟨j,h⟩ ⟨N,o,P⟩;simp only at N o P⊢;rcases x4f j its.length with m|m;rotate_left 1
  .rw [x4b m]at o;rw[<-o]at q⊢;clear o;conv=>whnf
   repeat' ((first|(refine gX ?_;intros)|refine dA ?_|((first|apply bD|apply bE|apply bN|apply bB)<;>intro _<;>try omega)|(refine cH rH6 2 (Nk h q (by omega)) ?_))<;>conv=>whnf)
   all_goals exact x6n _ (x4c _) ⟨rfl,rfl⟩
  have y:hd0++(its.take (j+1)).flatMap (Ni p f.name I O)=h++Ni p f.name I O its[j]:=by
   rw[x4k m,x6m,<-x4r,<-o];simp
  clear o;conv=>whnf
  repeat' ((first|(refine gX ?_;intros)|((first|apply bD|apply bE|apply bN|apply bB)<;>intro _<;>try omega))<;>conv=>whnf)
  have C:(avV h).length=h.length:=x3a _;refine ZF ⟨[(5,.ptr 0 0),(9,.p (.ip its[j].cells)),(53,.p (ZE its)),(54,.p (.int .i64 (its.map fun i=>AV.agg i.cells).length)),(55,.j j)],[(0,pcO (.agg b.cells) i f (.hd 1 0 (h++[(⟨f.name,2,its[j].s.id,[]⟩:Vx)]).length) (.p .nils)),(1,.own 27 4 (avV (h++[⟨f.name,2,its[j].s.id,[]⟩])))]⟩ ?_ ?_
  .skip
   repeat' ((first|(refine gX ?_;intros)|refine dA ?_|refine pA 1 48 C.symm ?_|((first|apply bD|apply bE|apply bN|apply bB)<;>intro _<;>try omega)|(refine cH rH4 2 (Q3 (.agg b.cells) i f h 2 its[j].s.id []) ?_)|refine x4e ?_ ?_)<;>conv=>whnf)
   all_goals first
    |exact Le.of_eq (by simp only[pcO,avV,x4d,x3o];rfl)
  conv=>whnf
  repeat' ((first|(refine gX ?_;intros)|refine dA ?_|((first|apply bD|apply bE|apply bN|apply bB)<;>intro _<;>try omega))<;>conv=>whnf)
  .have z:its[j].s.kind=4:=by assumption
   obtain⟨g,E,F⟩:=D its[j] (x4h m) z;obtain⟨a,c,T,d,hf2⟩:=l.hio _ g E;have Q:aP 136 [.ip b.cells,.agg its[j].s.cells] (.int .i64 (cIx p its[j].s:Nat)):=by
    have:=ZI b its[j].s;rw[u,F]at this;exact this
   have H:prG p (cIx p its[j].s)=g:=by unfold prG;rw[E];rfl
   have e:h++Ni p f.name I O its[j]=h++[(⟨f.name,2,its[j].s.id,[]⟩:Vx)]++(slI (I (cIx p its[j].s)) g).map (HN f.name 5 its[j].s.id)++(clO its[j].s (O (cIx p its[j].s))).map (HN f.name 6 its[j].s.id):=by
    unfold Ni;rw[if_pos z,H];simp
   have hb3:(slI (I (cIx p its[j].s)) g).length<=2000:=by rw[Xi];omega
   have hb4:(clO its[j].s (O (cIx p its[j].s))).length<=1001:=x5y (CU _ _) (by omega);have hsl:=Lf b p l.hp its[j].s (cIx p its[j].s) g E (by omega) (I (cIx p its[j].s)) (O (cIx p its[j].s)) a c (by omega) d Q i f (h++[(⟨f.name,2,its[j].s.id,[]⟩:Vx)]);repeat' ((first|(refine gX ?_;intros)|refine dA ?_|((first|apply bD|apply bE|apply bN|apply bB)<;>intro _<;>try omega)|(refine cH rH4 2 hsl ?_)|(refine cH rH2 2 (Q1 (.agg b.cells) i f (h++[(⟨f.name,2,its[j].s.id,[]⟩:Vx)]) 5 its[j].s.id (slI (I (cIx p its[j].s)) g) (by simp;omega)) ?_)|(refine cH rH2 2 (Q1 (.agg b.cells) i f (h++[(⟨f.name,2,its[j].s.id,[]⟩:Vx)]++(slI (I (cIx p its[j].s)) g).map (HN f.name 5 its[j].s.id)) 6 its[j].s.id (clO its[j].s (O (cIx p its[j].s))) (by simp;omega)) ?_))<;>conv=>whnf)
   all_goals first
    |exact⟨(j+1,h++Ni p f.name I O its[j]),⟨by simp only;omega,y.symm,by simp only;rw[e];simp;omega⟩,by simp only;omega,Le.of_eq (by simp only;rw[e];rfl)⟩
  .have z:¬its[j].s.kind=4:=by assumption
   have e:h++Ni p f.name I O its[j]=h++[(⟨f.name,2,its[j].s.id,[]⟩:Vx)]:=by
    unfold Ni;rw[if_neg z]
   all_goals first
    |exact⟨(j+1,h++Ni p f.name I O its[j]),⟨by simp only;omega,y.symm,by simp only;rw[e];simp;omega⟩,by simp only;omega,Le.of_eq (by simp only;rw[e];rfl)⟩
def Nb(a:Arg):List Str:=if a.ref=true then [a.name]else XL a.x
def gvS(p:Pg)(h:Str)(t:S)(place:Int)(name:Str):Vx:=
 if t.kind≠4 then⟨h,2,place,[]⟩else if t.name=name then⟨h,6,place,retS⟩else
  match t.args.findIdx? fun a=>a.ref&&(a.name==name)with
  |some j=>⟨h,6,place,(((prG p (cIx p t)).B.map Param.name)[j]?).getD []⟩
  |none=>⟨h,6,place,name⟩
def Ka{b:AV}{i:Int}{f:Pr}{es:List Eg}{v:Vx}{j:FuncId}{args:List LV}(h:aH j args (eHp b i f es) (.p (.agg v.cells)) (eHp b i f es++[(0,.obj 27 (v.cells.map .p))])):aH j args (eHp b i f es) (.p (.agg v.cells)) (eHp b i f es):=
 SpecH.post h fun l H' h=>⟨eHp b i f es,⟨h.1,rfl⟩,by
  obtain⟨rfl,rfl⟩:=h;exact lE (hnd:=by simp[eHp])⟩
def N0(b:AV)(i:Int)(f:Pr)(es:List Eg)(name:Str):aH 75 [.ptr 1000 0,.j 0,.p (.str name)] (eHp b i f es) (.p (.agg (Vx.cells ⟨f.name,3,0,name⟩))) (eHp b i f es):=by
 refine Ka ?_;refine sK I_whole_piece_giver func75 ?_;conv=>whnf
 repeat' ((first|(refine gX ?_;intros)|refine dA ?_|refine Br.tt ?_|refine Br.ff ?_|((first|apply bD|apply bE|apply bN|apply bB)<;>intro _<;>try omega)|(refine cH rH3 1 (QI b i f es 3 0 name) ?_))<;>conv=>whnf)
 all_goals first
  |exact x6n _ (x4c _) ⟨rfl,rfl⟩
def q6f:Info:={keep:=I_whole_piece_giver.keep,sched:=fun i=>bif beq i 12 then(.cons 0 false (.cons 1 false (.cons 2 false (.cons 3 false (.cons 4 false (.cons 13 false (.cons 14 false (.cons 15 false (.cons 17 false (.cons 22 false (.cons 16 true (.fork 5 (.cons 6 false (.cons 7 false (.cons 8 false (.cons 9 false (.cons 10 false (.cons 11 false (.cons 12 false (.cons 18 true (.cons 19 true (.cons 20 true (.cons 21 true (.cons 23 true (.cons 24 true (.cons 25 true (.cons 26 true (.cons 27 true .nil)))))))))))))))) 18 (.cons 5 true (.cons 6 true (.cons 7 true (.cons 8 true (.cons 9 true (.cons 10 true (.cons 11 true (.cons 12 true (.cons 19 true (.cons 20 true (.cons 21 true (.cons 23 true (.cons 24 true (.cons 25 true (.cons 26 true (.cons 27 true .nil))))))))))))))))))))))))))))else I_whole_piece_giver.sched i,frz:=I_whole_piece_giver.frz}
def Lh(b:Book)(p:Pg)(G:b.s=sheetOf p)(i:Int)(f:Pr)(es:List Eg)(k:Nat)(o:Item)(J:(sheetOf p).l[k]?=some o)(T:k<=100000)(place:Int)(O:place=(k:Int)+1)(name:Str)(ha:o.s.args.length<=21000)(z:o.s.kind=4->∃g,p.A[cIx p o.s]?=some g/\idxF (fun g=>g.name==o.s.C) p.A=(cIx p o.s:Nat)/\o.s.args.length<=g.B.length):
  aH 75 [.ptr 1000 0,.j place,.p (.str name)] (eHp (.agg b.cells) i f es) (.p (.agg (gvS p f.name o.s place name).cells)) (eHp (.agg b.cells) i f es):=by
 refine Ka ?_;refine sK q6f func75 ?_;have v:b.s.p=p:=by rw[G];exact(QU p).1
 have I:(b.s.l.map fun i=>AV.agg i.cells)[k]?=some (.agg o.cells):=by rw[G,x4q,J];rfl
 conv=>whnf
 repeat' ((first|(refine gX ?_;intros)|refine dA ?_|refine iT I ?_|((first|apply bD|apply bE|apply bN|apply bB)<;>intro _<;>try omega))<;>conv=>whnf)
 .have q:¬o.s.kind≠4:=by simpa using(show(o.s.kind != 4)=false by first|assumption|(simp;assumption))
  have t:o.s.name=name:=by simpa using(show(o.s.name==name)=true by assumption)
  have e:gvS p f.name o.s place name=⟨f.name,6,place,retS⟩:=by unfold gvS;rw[if_neg q,if_pos t]
  rw[e];refine cJ rH3 1 (QI (.agg b.cells) i f es 6 place retS) ?_;rintro l' H' ⟨rfl,rfl⟩;conv=>whnf
  repeat' ((first|(refine gX ?_;intros)|refine dA ?_|((first|apply bD|apply bE|apply bN|apply bB)<;>intro _<;>try omega))<;>conv=>whnf)
  exact x6n _ (x4c _) ⟨rfl,rfl⟩
 .have q:o.s.kind=4:=by assumption
  have t:¬o.s.name=name:=by simpa using(show(o.s.name==name)=false by assumption)
  obtain⟨g,F,c,M⟩:=z q;have L:aP 136 [.ip b.cells,.agg o.s.cells] (.int .i64 (cIx p o.s:Nat)):=by
   have:=ZI b o.s;rw[v,c]at this;exact this
  have K:(b.s.p.A.map fun f=>AV.agg f.cells)[cIx p o.s]?=some (.agg g.cells):=by rw[v,x4q,F];rfl
  have E:prG p (cIx p o.s)=g:=by unfold prG;rw[F];rfl
  have N:(o.s.args.map fun a=>AV.agg a.cells).length=o.s.args.length:=x3a _;have P:(g.B.map fun a=>AV.agg a.cells).length=g.B.length:=x3a _;refine lI (fun j:Nat=>⟨[(0,.ptr 1000 0),(1,.j place),(2,.p (.str name)),(6,.ptr 0 0),(7,.p (.ip o.s.cells)),(44,.p (.sl (o.s.args.map fun a=>.agg a.cells))),(45,.p (.int .i64 (o.s.args.map fun a=>AV.agg a.cells).length)),(46,.j j)],(0,.obj 27 [.p (.str []),.j 0,.j 0,.p (.str [])])::eHp (.agg b.cells) i f es⟩) (fun j=>j<=o.s.args.length/\∀m (u:m<o.s.args.length),m<j->(o.s.args[m].ref&&(o.s.args[m].name==name))=false) (fun j=>o.s.args.length-j) 0 ⟨x4j _,fun m _ h=>absurd h (Nat.not_lt_zero _)⟩ ?_;rintro j ⟨R,y⟩;rcases x4f j o.s.args.length with D|D;rotate_left 1
  .have e:gvS p f.name o.s place name=⟨f.name,6,place,name⟩:=by
    unfold gvS;rw[if_neg (fun h=>h q),if_neg t,x9y.2 fun x Q=>by
     obtain⟨m,u,rfl⟩:=List.getElem_of_mem Q;exact y m u (by omega)]
   rw[e];conv=>whnf
   repeat' ((first|(refine gX ?_;intros)|refine dA ?_|((first|apply bD|apply bE|apply bN|apply bB)<;>intro _<;>try omega)|(refine cH rH3 1 (QI (.agg b.cells) i f es 6 place name) ?_))<;>conv=>whnf)
   exact x6n _ (x4c _) ⟨rfl,rfl⟩
  cases H:(o.s.args[j].ref&&(o.s.args[j].name==name))with
  | false=>
    conv=>whnf
    repeat' ((first|(refine gX ?_;intros)|refine dA ?_|((first|apply bD|apply bE|apply bN|apply bB)<;>intro _<;>try omega))<;>conv=>whnf)
    all_goals first
     |exact nX (j+1) ⟨D,fun m u h=>by rcases Nat.lt_succ_iff_lt_or_eq.1 h with h|rfl;exact y m u h;exact H⟩
     |(exfalso;simp_all;done)
  | true=>
    have e:gvS p f.name o.s place name=⟨f.name,6,place,g.B[j].name⟩:=by
     unfold gvS;rw[if_neg (fun h=>h q),if_neg t,(x8b (i:=j)).2 ⟨D,H,fun m u=>by simpa using y m (by omega) u⟩,E];simp[show j<g.B.length by omega]
    rw[e];have d:j<g.B.length:=by omega
    conv=>whnf
    repeat' ((first|(refine gX ?_;intros)|refine dA ?_|refine cP L ?_|refine iT K ?_|((first|apply bD|apply bE|apply bN|apply bB)<;>intro _<;>try omega)|(refine cH rH3 1 (QI (.agg b.cells) i f es 6 place (g.B[j]'d).name) ?_)|refine x4e ?_ ?_)<;>conv=>whnf)
    all_goals first
     |exact x6n _ (x4c _) ⟨rfl,rfl⟩
     |(exfalso;simp_all;done)
 .have q:o.s.kind≠4:=by assumption
  have e:gvS p f.name o.s place name=⟨f.name,2,place,[]⟩:=by unfold gvS;rw[if_pos q]
  rw[e];refine cJ rH3 1 (QI (.agg b.cells) i f es 2 place []) ?_;rintro l' H' ⟨rfl,rfl⟩;conv=>whnf
  repeat' ((first|(refine gX ?_;intros)|refine dA ?_|((first|apply bD|apply bE|apply bN|apply bB)<;>intro _<;>try omega))<;>conv=>whnf)
  exact x6n _ (x4c _) ⟨rfl,rfl⟩
def M3(a:Arg):aP 137 [.agg a.cells] (eStrs (Nb a)):=by
 refine sC Jm func137 ?_;conv=>whnf
 cases h:a.ref with
 | true=>
   have e:Nb a=[a.name]:=by unfold Nb;rw[if_pos h]
   rw[e];repeat' ((first|(refine gX ?_;intros)|refine dA ?_|refine BsK.pureL rfl rfl ?_|((first|apply bD|apply bE|apply bN|apply bB)<;>intro _<;>try omega))<;>conv=>whnf)
   all_goals first
    |exact RetK.p rfl
    |(exfalso;simp_all;done)
 | false=>
   have e:Nb a=XL a.x:=by unfold Nb;rw[if_neg (by rw[h];decide)]
   rw[e];have i:=PQ a.x;repeat' ((first|(refine gX ?_;intros)|refine dA ?_|refine cP i ?_|((first|apply bD|apply bE|apply bN|apply bB)<;>intro _<;>try omega))<;>conv=>whnf)
   all_goals first
    |exact RetK.p rfl
    |(exfalso;simp_all;done)
def NS(p:Pg)(h:Str)(t:S)(place:Int)(name:Str)(j:Nat):List Vx:=if((Nb ((t.args[j]?).getD ⟨false,[],.mk 0 0 [] []⟩)).any fun s=>name==s)=true then [⟨h,5,place,(((prG p (cIx p t)).B.map Param.name)[j]?).getD []⟩]else []
def tkS(p:Pg)(h:Str)(t:S)(place:Int)(name:Str)(I:List Str):List Vx:=
 if t.kind≠4 then [⟨h,2,place,[]⟩]else((List.range t.args.length).flatMap (NS p h t place name))++(if comB p name=true/\inS I name=true then [⟨h,5,place,name⟩]else [])
def Fp(b:AV)(i:Int)(f:Pr)(es:List Eg)(name:Str):aH 76 [.ptr 1000 0,.j (-1),.p (.str name)] (eHp b i f es) (.p (.sl (avV [⟨f.name,4,0,name⟩]))) (eHp b i f es):=by
 refine sK I_whole_piece_takers func76 ?_;conv=>whnf
 repeat' ((first|(refine gX ?_;intros)|refine dA ?_|refine Br.tt ?_|refine Br.ff ?_|((first|apply bD|apply bE|apply bN|apply bB)<;>intro _<;>try omega)|(refine cH rH3 1 (QI b i f es 4 0 name) ?_))<;>conv=>whnf)
 all_goals first
  |exact x6n _ (x4c _) ⟨rfl,rfl⟩
def Fr(b:Book)(p:Pg)(t:b.s=sheetOf p)(i:Int)(f:Pr)(es:List Eg)(k:Nat)(m:Item)(q:(sheetOf p).l[k]?=some m)(v:k<=100000)(place:Int)(u:place=(k:Int)+1)(name:Str)(h:m.s.kind≠4)(I:List Str):
  aH 76 [.ptr 1000 0,.j place,.p (.str name)] (eHp (.agg b.cells) i f es) (.p (.sl (avV (tkS p f.name m.s place name I)))) (eHp (.agg b.cells) i f es):=by
 have e:tkS p f.name m.s place name I=[⟨f.name,2,place,[]⟩]:=by unfold tkS;rw[if_pos h]
 rw[e];refine sK I_whole_piece_takers func76 ?_;have o:(b.s.l.map fun i=>AV.agg i.cells)[k]?=some (.agg m.cells):=by rw[t,x4q,q];rfl
 conv=>whnf
 repeat' ((first|(refine gX ?_;intros)|refine dA ?_|refine iT o ?_|((first|apply bD|apply bE|apply bN|apply bB)<;>intro _<;>try omega)|(refine cH rH3 1 (QI (.agg b.cells) i f es 2 place []) ?_))<;>conv=>whnf)
 all_goals first
  |exact x6n _ (x4c _) ⟨rfl,rfl⟩
  |(exfalso;exact h (by assumption))
  |(exfalso;simp_all;done)
def q6b:Info:={keep:=I_whole_piece_takers.keep,sched:=I_whole_piece_takers.sched,frz:=fun i=>bif beq i 16 then [[6]]else I_whole_piece_takers.frz i}
def Fm(b:Book)(p:Pg)(M:b.s=sheetOf p)(i:Int)(f:Pr)(es:List Eg)(k:Nat)(m:Item)(P:(sheetOf p).l[k]?=some m)(hk:k<=100000)(place:Int)(hpc:place=(k:Int)+1)(name:Str)(z:m.s.kind=4)(ha:m.s.args.length<=21000)(g:Pr)(L:p.A[cIx p m.s]?=some g)(J:idxF (fun g=>g.name==m.s.C) p.A=(cIx p m.s:Nat))(Z:m.s.args.length<=g.B.length)(I:List Str)(V:b.ins[cIx p m.s]?=some I)(G:I.Pairwise ltT)(Y:I.length<=1000000):
  aH 76 [.ptr 1000 0,.j place,.p (.str name)] (eHp (.agg b.cells) i f es) (.p (.sl (avV (tkS p f.name m.s place name I)))) (eHp (.agg b.cells) i f es):=by
 have u:b.s.p=p:=by rw[M];exact(QU p).1
 have O:(b.s.l.map fun i=>AV.agg i.cells)[k]?=some (.agg m.cells):=by rw[M,x4q,P];rfl
 have N:(b.ins.map eStrs)[cIx p m.s]?=some (eStrs I):=by rw[x4q,V];rfl
 have Q:(b.s.p.A.map fun f=>AV.agg f.cells)[cIx p m.s]?=some (.agg g.cells):=by rw[u,x4q,L];rfl
 have K:prG p (cIx p m.s)=g:=by unfold prG;rw[L];rfl
 have U:aP 136 [.ip b.cells,.agg m.s.cells] (.int .i64 (cIx p m.s:Nat)):=by
  have:=ZI b m.s;rw[u,J]at this;exact this
 have D:aP 138 [.ip b.cells,.str name] (.bool (comB p name)):=by
  have:=YI b name;rw[u]at this;exact this
 have F:=BL I name G (by omega);have hal:(m.s.args.map fun a=>AV.agg a.cells).length=m.s.args.length:=x3a _;have hpl:(g.B.map fun a=>AV.agg a.cells).length=g.B.length:=x3a _;have e:tkS p f.name m.s place name I=((List.range m.s.args.length).flatMap (NS p f.name m.s place name))++(if comB p name=true/\inS I name=true then [⟨f.name,5,place,name⟩]else []):=by unfold tkS;rw[if_neg (fun h=>h z)]
 rw[e];refine sK q6b func76 ?_;conv=>whnf
 repeat' ((first|(refine gX ?_;intros)|refine dA ?_|refine iT O ?_|refine cP U ?_|((first|apply bD|apply bE|apply bN|apply bB)<;>intro _<;>try omega))<;>conv=>whnf)
 all_goals try (exfalso;exact absurd z (by assumption))
 refine lJ (fun x:Nat×List Vx=>⟨[(0,.ptr 1000 0),(1,.j place),(2,.p (.str name)),(8,.hd 0 0 x.2.length),(9,.j (cIx p m.s:Nat)),(47,.p (.sl (m.s.args.map fun a=>.agg a.cells))),(48,.p (.int .i64 (m.s.args.map fun a=>AV.agg a.cells).length)),(49,.j x.1)],eHp (.agg b.cells) i f es++[(0,.own 27 4 (avV x.2))]⟩) (fun x=>x.1<=m.s.args.length/\x.2=(List.range x.1).flatMap (NS p f.name m.s place name)/\x.2.length<=x.1) (fun x=>m.s.args.length-x.1) (0,[]) (lM [(0,.own 27 4 [])] (hnd:=by simp[eHp])) ⟨x4j _,rfl,x4m _⟩ ?_;rintro⟨j,o⟩ ⟨R,d,T⟩;simp only at R d T⊢;have t:(avV o).length=o.length:=x3a _;rcases x4f j m.s.args.length with y|y
 .have c:(List.range (j+1)).flatMap (NS p f.name m.s place name)=o++NS p f.name m.s place name j:=by rw[x8x,x6m,<-d];simp
  have v:j<g.B.length:=by omega
  have H:=M3 m.s.args[j];have E:=QZ (Nb m.s.args[j]) name;conv=>whnf
  repeat' ((first|(refine gX ?_;intros)|refine dA ?_|refine cP H ?_|refine cP E ?_|refine iT Q ?_|refine pA 1 48 t.symm ?_|((first|apply bD|apply bE|apply bN|apply bB)<;>intro _<;>try omega)|(refine cH rH3 2 (QI (.agg b.cells) i f es 5 place (g.B[j]'v).name) ?_))<;>conv=>whnf)
  all_goals first
   | (have q:NS p f.name m.s place name j=[⟨f.name,5,place,g.B[j].name⟩]:=by
       unfold NS;rw[x3e y];simp only[x5b];rw[if_pos (by assumption),K];simp[v]
      exact⟨(j+1,o++NS p f.name m.s place name j),⟨y,c.symm,by simp only;rw[q];simp;omega⟩,by simp only;omega,Le.of_eq (by simp only;rw[q];simp only[avV,x4d,x3o];rfl)⟩)
   | (have q:NS p f.name m.s place name j=[]:=by
       unfold NS;rw[x3e y];simp only[x5b];rw[if_neg (by rw[show((Nb m.s.args[j]).any fun s=>name==s)=false by assumption];decide)]
      exact⟨(j+1,o++NS p f.name m.s place name j),⟨y,c.symm,by simp only;rw[q,x5m];omega⟩,by simp only;omega,Le.of_eq (by simp only;rw[q,x5m];rfl)⟩)
 .obtain rfl:j=m.s.args.length:=by omega
  rw[<-d];conv=>whnf
  repeat' ((first|(refine gX ?_;intros)|refine dA ?_|refine cP D ?_|refine cP F ?_|refine iT N ?_|refine pA 1 48 t.symm ?_|((first|apply bD|apply bE|apply bN|apply bB)<;>intro _<;>try omega)|(refine cH rH3 2 (QI (.agg b.cells) i f es 5 place name) ?_)|refine LenK.mk (by first|exact t.symm|simp[avV]) ?_)<;>conv=>whnf)
  all_goals first
   | (have q:comB p name=true/\inS I name=true:=⟨by assumption,by assumption⟩
      exact x6n _ (x4c _) ⟨by rw[if_pos q];simp only[avV,x4d];rfl,rfl⟩)
   | (have q:¬(comB p name=true/\inS I name=true):=by first|exact fun h=>absurd h.1 (by rw[show comB p name=false by assumption];decide)|exact fun h=>absurd h.2 (by rw[show inS I name=false by assumption];decide)
      exact x6n _ (x4c _) ⟨by rw[if_neg q,x5m],rfl⟩)
abbrev Wd:=BitVec 64
def eW(w:Wd):AV:=.int .u64 (w.toNat:Int)
def Dg(w:Wd):IntKind.u64.wrap (w.toNat:Int)=w.toNat:=by
 have h:=w.isLt;unfold IntKind.wrap;simp[IntKind.bits,IntKind.signed];omega
def BH{σ:Mem}{β:Lab}{s:St}{a:Act}(j:∀i,RepL σ β (getS s.sl i) (a.tmps.getD i undef)){x:Operand}{k:IntKind}{n:Int}(l:QD s.sl x=.p (.int k n)):a.eval x=.int k n:=by
 have h:=QX j x;rw[l]at h;generalize a.eval x=v at h;cases h with
 |p h=>cases h;rfl
def UI{P:Program}{g:Bool}{s:St}{o:Oper}{K:LV->Prop}{op:BinOp}{t u:TypeId}{x y:Operand}(j:o.op=.binOp op t x y u)(a b c:Wd){m n:Int}(A:QD s.sl x=.p (.int .u64 m))(B:QD s.sl y=.p (.int .u64 n))(e:m=a.toNat)(f:n=b.toNat)(z:(op=.and/\c=a &&& b)\/(op=.or/\c=a |||b)\/(op=.andNot/\c=a &&& ~~~b))(v:K (.p (eW c))):ValO P g s o K:=by
 refine⟨fun σ β C w k _=>⟨_,.int .u64 c.toNat,v,.p (.int _ _),fun w' _ _=>?_⟩⟩;have l:=BH k A;have q:=BH k B;have d:(eqGuard op t x y (.int .u64 m) (.int .u64 n)).run P w'=.ok () w':=by
  unfold eqGuard;cases op<;>rfl
 have ha:BitVec.ofInt 64 m=a:=by rw[e];simp
 have i:BitVec.ofInt 64 n=b:=by rw[f];simp
 have h:(binOp op t (.int .u64 m) (.int .u64 n)).run P w'=.ok (.int .u64 c.toNat) w':=by
  rcases z with⟨rfl,rfl⟩|⟨rfl,rfl⟩|⟨rfl,rfl⟩
  .show (Op.intBits .and .u64 m n).run P w'=_;show(pure (.int .u64 (IntKind.u64.wrap ((BitVec.ofInt 64 m &&& BitVec.ofInt 64 n).toNat:Int))):Sem Value).run P w'=_;rw[ha,i,Dg];rfl
  .show (pure (.int .u64 (IntKind.u64.wrap ((BitVec.ofInt 64 m |||BitVec.ofInt 64 n).toNat:Int))):Sem Value).run P w'=_;rw[ha,i,Dg];rfl
  .show (pure (.int .u64 (IntKind.u64.wrap ((BitVec.ofInt 64 m &&& ~~~ BitVec.ofInt 64 n).toNat:Int))):Sem Value).run P w'=_;rw[ha,i,Dg];rfl
 simp only[execOp,j,l,q,Sem.run_bind,d,h,Result.andThen_ok,Sem.run_pure]
theorem ValO.shr{P:Program}{A:Bool}{s:St}{o:Oper}{K:LV->Prop}{t u:TypeId}{x y:Operand}(j:o.op=.binOp .shr t x y u)(a:Wd)(n:Nat){m k:Int}(B:QD s.sl x=.p (.int .u64 m))(C:QD s.sl y=.p (.int .i64 k))(g:m=a.toNat)(f:k=n)(E:n<64)(z:K (.p (eW (a >>> n)))):ValO P A s o K:=by
 refine⟨fun σ β D w l _=>⟨_,.int .u64 (a >>> n).toNat,z,.p (.int _ _),fun w' _ _=>?_⟩⟩;have q:=BH l B;have v:=BH l C;have c:(eqGuard .shr t x y (.int .u64 m) (.int .i64 k)).run P w'=.ok () w':=by
  unfold eqGuard;rfl
 have i:(binOp .shr t (.int .u64 m) (.int .i64 k)).run P w'=.ok (.int .u64 (a >>> n).toNat) w':=by
  show(Op.shift .shr .u64 m .i64 k).run P w'=_;unfold Op.shift;rw[if_neg (by omega),g,f];have e:min (n:Int).toNat (IntKind.bits .u64)=n:=by
   show min (n:Int).toNat 64=n;omega
  simp only[e];have e2:(a.toNat:Int).fdiv (2^n)=((a >>> n).toNat:Int):=by
   rw[BitVec.toNat_ushiftRight,Nat.shiftRight_eq_div_pow,Int.fdiv_eq_ediv_of_nonneg _ (by exact_mod_cast x4j _)]
   push_cast
   rfl
  rw[e2];rfl
 simp only[execOp,j,q,v,Sem.run_bind,c,i,Result.andThen_ok,Sem.run_pure]
def Cp{P:Program}{d:Bool}{s:St}{o:Oper}{K:LV->Prop}{t u:TypeId}{x y:Operand}(i:o.op=.binOp .shl t x y u)(n:Nat){k:Int}(f:QD s.sl x=.p (.int .u64 1))(g:QD s.sl y=.p (.int .i64 k))(a:k=n)(c:n<64)(v:K (.p (eW (1#64 <<< n)))):ValO P d s o K:=by
 refine⟨fun σ β A w j _=>⟨_,.int .u64 (1#64 <<< n).toNat,v,.p (.int _ _),fun w' _ _=>?_⟩⟩;have m:=BH j f;have q:=BH j g;have z:(eqGuard .shl t x y (.int .u64 1) (.int .i64 k)).run P w'=.ok () w':=by
  unfold eqGuard;rfl
 have h:(binOp .shl t (.int .u64 1) (.int .i64 k)).run P w'=.ok (.int .u64 (1#64 <<< n).toNat) w':=by
  show(Op.shift .shl .u64 1 .i64 k).run P w'=_;unfold Op.shift;rw[if_neg (by omega),a];have e:min (n:Int).toNat (IntKind.bits .u64)=n:=by
   show min (n:Int).toNat 64=n;omega
  simp only[e];have l:(1#64 <<< n).toNat=2^n:=by
   rw[BitVec.toNat_shiftLeft];simp only[BitVec.toNat_ofNat];rw[Nat.shiftLeft_eq,Nat.one_mod_two_pow_eq_one.2 (by decide),z1u,Nat.mod_eq_of_lt (Nat.pow_lt_pow_right (by decide) c)]
  have e2:IntKind.u64.wrap ((1:Int)*2^n)=((1#64 <<< n).toNat:Int):=by
   rw[<-Dg,l];congr 1
   push_cast
   omega
  rw[e2];rfl
 simp only[execOp,i,m,q,Sem.run_bind,z,h,Result.andThen_ok,Sem.run_pure]
def C7{ws:List Wd}{i:Nat}(h:i<ws.length):(ws.map eW)[i]?=some (.int .u64 (ws[i].toNat:Int)):=by
 rw[x4q,x3e h];rfl
def q2p(ws:List Wd)(f:Nat):List Wd:=ws.set (f/64) (ws.getD (f/64) 0 |||1#64 <<< (f%64))
def wsH(k:Nat)(ws:List Wd):Nat×Chunk:=(k,.own 251 1 (ws.map eW))
def IM(f:Nat):(f:Int).tdiv 64=((f/64:Nat):Int):=rfl
def q7b(f:Nat):(f:Int).tmod 64=((f%64:Nat):Int):=rfl
def K4(ws:List Wd)(f:Nat)(i:f/64<ws.length)(m:ws.length<=1000000):SpecH prog 259 [.hd 1000 0 ws.length,.j f] [wsH 1000 ws] (fun r H=>(∃b,r=.p (.bool b))/\H=[wsH 1000 (q2p ws f)]):=by
 refine sK W3 func259 ?_;conv=>whnf
 have e:=C7 i;have h:=IM f;have l:=q7b f;have k:(ws.map eW).set (f/64) (eW (ws[f/64] |||1#64 <<< (f%64)))=(q2p ws f).map eW:=by
  unfold q2p;rw[x5d,x3i,x3e i];rfl
 repeat' ((first|refine dA ?_|refine x4e rfl ?_|refine x4e (by decide) ?_|refine Wr.i64 (by rw[h];omega) (by rw[h];omega) ?_|refine x6b (f/64) h i ?_|refine lO e ?_|refine ValO.shr rfl ws[f/64] (f%64) rfl rfl rfl l (by omega) ?_|refine UI rfl _ 1#64 _ rfl rfl rfl rfl (.inl ⟨rfl,rfl⟩) ?_|refine Cp rfl (f%64) rfl rfl l (by omega) ?_|refine UI rfl _ _ _ rfl rfl rfl rfl (.inr (.inl ⟨rfl,rfl⟩)) ?_|refine sO (eW (ws[f/64] |||1#64 <<< (f%64))) e ?_)<;>conv=>whnf)
 all_goals first
  |exact⟨_,.refl _,⟨_,rfl⟩,by unfold wsH;rw[<-k]⟩
def ZO(b c:List Wd):List Wd:=List.zipWith (fun x y=>x |||y) b c
def LT(b c:List Wd)(k:Nat):Bool:=(List.range k).any fun i=> !(((c.getD i 0 &&& ~~~(b.getD i 0)).toNat:Int)==0)
def Sc(b c:List Wd)(k:Nat):LT b c (k+1)=(LT b c k || !(((c.getD k 0 &&& ~~~(b.getD k 0)).toNat:Int)==0)):=by
 unfold LT;rw[x8x,List.any_append];simp
def SM(b c:List Wd)(x:c.length=b.length)(a:b.length<=1000000):aH 262 [.hd 1000 0 b.length,.hd 1001 0 c.length] [wsH 1000 b,wsH 1001 c] (.p (.bool (LT b c b.length))) [wsH 1000 (ZO b c),wsH 1001 c]:=by
 refine sK Dc func262 ?_;conv=>whnf
 repeat' ((refine iM fun _=>?_)<;>conv=>whnf)
 have y:(ZO b c).length=b.length:=by unfold ZO;rw[z0e];omega
 refine lJ (fun i:Nat=>⟨[(0,.hd 1000 0 b.length),(1,.hd 1001 0 c.length),(4,.p (.bool (LT b c i))),(7,.j b.length),(8,.j i)],[wsH 1000 ((ZO b c).take i++b.drop i),wsH 1001 c]⟩) (fun i=>i<=b.length) (fun i=>b.length-i) 0 (lE (hnd:=by show(List.map _ _).Nodup;simp[wsH]) (hsl:=.r (.r (.cons (.p (Sub.ff rfl)) (.r (.r .nil)))))) (x4j _) ?_;intro i z;rcases x4f i b.length with k|k
 .have h:i<c.length:=by omega
  have s:((ZO b c).take i++b.drop i).length=b.length:=by rw[x3o,x5z,x6c];omega
  have v:((ZO b c).take i++b.drop i)[i]?=some b[i]:=by
   rw[x5t (by rw[x5z];omega),x5z,x5o,show i+(i-min i (ZO b c).length)=i by omega,x3e k]
  have o:((ZO b c).take i++b.drop i).set i (b[i] |||c[i]'h)=(ZO b c).take (i+1)++b.drop (i+1):=by
   rw[x7k _ _ (by rw[x5z];omega),x5z,show i-min i (ZO b c).length=0 by omega,x5j k,x7m,x4k (by omega),x4r];congr 1;show _=(ZO b c)[i]::_;unfold ZO;rw[List.getElem_zipWith];rfl
  have m:=Sc b c i;rw[x3i,x3i,x3e k,x3e (show i<c.length by omega)]at m;simp only[x5b]at m;generalize((ZO b c).take i++b.drop i)=row at s v o⊢;have t:(row.map eW)[i]?=some (.int .u64 (b[i].toNat:Int)):=by rw[x4q,v];rfl
  have e2:=C7 (ws:=c) (i:=i) (by omega);have u:(row.map eW).set i (eW (b[i] |||c[i]'h))=((ZO b c).take (i+1)++b.drop (i+1)).map eW:=by rw[<-o,x5d]
  cases q:LT b c i;all_goals
   rw[q]at m;unfold wsH;conv=>whnf
   repeat' ((first|refine gX ?_|refine dA ?_|refine iO i ?_|refine lO t ?_|refine lO e2 ?_|refine UI rfl (c[i]'h) b[i] _ rfl rfl rfl rfl (.inr (.inr ⟨rfl,rfl⟩)) ?_|refine UI rfl b[i] (c[i]'h) _ rfl rfl rfl rfl (.inr (.inl ⟨rfl,rfl⟩)) ?_|refine sO (eW (b[i] |||c[i]'h)) t ?_|refine Br.tt ?_|refine Br.ff ?_|(apply bD<;>intro _<;>try omega))<;>conv=>whnf)
   all_goals first
    |exact⟨i+1,k,by omega,Le.of_eq (by rw[m,<-u];rfl)⟩
    |exact⟨i+1,k,by omega,by
       rw[m,<-u];exact lE (hnd:=by show(List.map _ _).Nodup;simp[wsH]) (hsl:=.r (.r (.cons (.p (Sub.tt rfl)) (.r (.r .nil)))))⟩
 .have l:(ZO b c).take i++b.drop i=ZO b c:=by rw[x4b (by omega),x4l k,x5m]
  obtain rfl:i=b.length:=by omega
  rw[l];unfold wsH;conv=>whnf
  repeat' (apply bD<;>intro _<;>first|omega|conv=>whnf)
  all_goals first
   |exact⟨_,.refl _,rfl,rfl⟩
def bitW(ws:List Wd)(f:Nat):Bool:=(ws.getD (f/64) 0).getLsbD (f%64)
def YP(ws:List Wd)(h:Nat):List Int:=((List.range h).filter (bitW ws)).map ofNat
def q5u(w:Wd)(k:Nat):((w >>> k &&& 1#64).toNat:Int)=if w.getLsbD k then 1 else 0:=by
 have h:(w >>> k &&& 1#64).toNat=(w.toNat >>> k)%2:=by
  rw[BitVec.toNat_and,BitVec.toNat_ushiftRight];show(w.toNat >>> k) &&& 1=_;exact Nat.and_one_is_mod _
 rw[h,BitVec.getLsbD,Nat.testBit,Nat.and_comm,Nat.and_one_is_mod];have:=Nat.mod_two_eq_zero_or_one (w.toNat >>> k);rcases this with h|h<;>rw[h]<;>rfl
def Sb(ws:List Wd)(k:Nat):YP ws (k+1)=YP ws k++(if bitW ws k then [(k:Int)]else []):=by
 unfold YP;rw[x8x,x6y,x4d];congr 1;cases h:bitW ws k
 .rw [x7b (by rw[h];decide)];rfl
 .rw [x7y h];rfl
def Ai(ws:List Wd)(k:Nat):(YP ws k).length<=k:=by
 unfold YP;rw[x3a];exact x5y (x6p _ _) (by simp)
def Ye(ws:List Wd)(h:Nat)(c:h<=1000000)(y:h/64<ws.length):aP 263 [.sl (ws.map eW),.int .i64 h] (XQ (YP ws h)):=by
 refine sC X2 func263 ?_;conv=>whnf
 skip
 have z:(ws.map eW).length=ws.length:=x3a _;refine lJ (fun f:Nat=>⟨[(0,.p (.sl (ws.map eW))),(1,.j h),(5,.hd 0 0 (YP ws f).length),(6,.j f)],[(0,.own 3 1 ((YP ws f).map (.int .i64)))]⟩) (fun f=>f<=h) (fun f=>h-f) 0 (lM [(0,.own 3 1 [])]) (x4j _) ?_;intro f a;have x:=Ai ws f;have i:=Sb ws f;rcases x4f f h with q|q
 .have m:f/64<ws.length:=Nat.lt_of_le_of_lt (Nat.div_le_div_right (by omega)) y;have e:=C7 m;have o:=IM f;have v:=q7b f;have t:bitW ws f=(ws[f/64]).getLsbD (f%64):=by unfold bitW;rw[x3i,x3e m];rfl
  have l:=q5u ws[f/64] (f%64);rw[<-t]at l;generalize YP ws f=acc at*
  conv=>whnf
  repeat' ((first|refine x4e rfl ?_|refine aD ?_|refine bP ?_|refine x4e (by decide) ?_|refine Wr.i64 (by first|omega|(rw[o];omega)) (by first|omega|(rw[o];omega)) ?_|refine IdxK.at (k:=f/64) o e rfl ?_|refine ValO.shr rfl ws[f/64] (f%64) rfl rfl rfl v (by omega) ?_|refine UI rfl _ 1#64 _ rfl rfl rfl rfl (.inl ⟨rfl,rfl⟩) ?_|refine pI ?_|(apply bD<;>intro _<;>try omega))<;>conv=>whnf)
  all_goals first
   | (have s:bitW ws f=true:=by
       cases u:bitW ws f with
       |true=>rfl
       |false=>rw[u]at l;exfalso;simp_all;done
      rw[s]at i;exact⟨f+1,q,by omega,Le.of_eq (by rw[i];simp only[x3o,x4d,if_true];rfl)⟩)
   | (have s:bitW ws f=false:=by
       cases u:bitW ws f with
       |false=>rfl
       |true=>rw[u]at l;exfalso;simp_all;done
      rw[s]at i;exact⟨f+1,q,by omega,Le.of_eq (by rw[i];simp only[x5m,x8e,x9g];rfl)⟩)
 .obtain rfl:f=h:=by omega
  conv=>whnf
  repeat' (apply bD<;>intro _<;>first|omega|conv=>whnf)
  all_goals first
   |exact⟨_,.hd rfl (by simp),rfl⟩
def OE(ws:List Wd)(f:Nat):(q2p ws f).length=ws.length:=by unfold q2p;rw[x6x]
def Y2{b c:List Wd}(h:c.length=b.length):(ZO b c).length=b.length:=by unfold ZO;rw[z0e];omega
def GJ{b c:List Wd}(h:c.length=b.length){f:Nat}(i:f/64<b.length):bitW (ZO b c) f=(bitW b f||bitW c f):=by
 unfold bitW ZO;rw[x3i,x3i,x3i,List.getElem?_zipWith,x3e i,x3e (show f/64<c.length by omega)];simp only[x5b];rw[BitVec.getLsbD_or]
def CZ(w f:Nat):bitW (List.replicate w 0) f=false:=by
 unfold bitW;rw[x3i,x5v];split<;>simp
def Zl(w:Nat)(fs:List Int):List Wd:=fs.foldl (fun ws f=>q2p ws f.toNat) (List.replicate w 0)
def A4(fs:List Int):∀ws:List Wd,(fs.foldl (fun ws f=>q2p ws f.toNat) ws).length=ws.length:=by
 induction fs with
 |nil=>intro ws;rfl
 |cons f r h=>intro ws;rw[x7v,h,OE]
def V2(w:Nat)(fs:List Int):(Zl w fs).length=w:=by unfold Zl;rw[A4,x5e]
def Ex(w:Nat)(fs:List Int){j:Nat}(h:j<fs.length):Zl w (fs.take (j+1))=q2p (Zl w (fs.take j)) fs[j].toNat:=by
 unfold Zl;rw[x4k h,x7s];rfl
def PY(w:Nat)(g i k:List Wd):List Wd:=(List.range w).map fun j=>g.getD j 0 |||(i.getD j 0 &&& ~~~(k.getD j 0))
def Aj(w:Nat)(g i k:List Wd):(PY w g i k).length=w:=by unfold PY;simp
def Vi{w:Nat}{g i k:List Wd}{f:Nat}(h:f/64<w):bitW (PY w g i k) f=(bitW g f||(bitW i f && !bitW k f)):=by
 unfold bitW PY;rw[x3i (l:=(List.range w).map _),x4q,x7z h];simp only[x7t,x5b];rw[BitVec.getLsbD_or,BitVec.getLsbD_and,BitVec.getLsbD_not];have:f%64<64:=mod_lt _ (by decide);simp[this]
def x2z{x:Wd}(h:x≠0):∃k,k<64/\x.getLsbD k=true:=by
 refine x7p fun l=>h ?_;refine BitVec.eq_of_getLsbD_eq fun i j=>?_;have:x.getLsbD i=false:=by
  cases m:x.getLsbD i with
  |false=>rfl
  |true=>exact absurd ⟨i,j,m⟩ l
 rw[this];simp
def Nm(x:Wd):(((x.toNat:Int)==0)=false)↔x≠0:=by
 constructor
 .rintro h rfl;simp at h
 .intro h;have:x.toNat≠0:=fun i=>h (BitVec.eq_of_toNat_eq (by simpa using i));simpa using this
def Pk{b c:List Wd}(h:c.length=b.length):LT b c b.length=true ↔ ∃f,f/64<b.length/\bitW c f=true/\bitW b f=false:=by
 unfold LT;rw[x6s];constructor
 .rintro ⟨i,p,v⟩;have p:=x5a.1 p;have j:(c.getD i 0 &&& ~~~(b.getD i 0))≠0:=(Nm _).1 (by simpa using v);obtain⟨k,u,m⟩:=x2z j;rw[BitVec.getLsbD_and,BitVec.getLsbD_not,x4n]at m;refine⟨64*i+k,by omega,?_,?_⟩
  .unfold bitW;rw[show(64*i+k)/64=i by omega,show(64*i+k)%64=k by omega];exact m.1
  .unfold bitW;rw[show(64*i+k)/64=i by omega,show(64*i+k)%64=k by omega];have:=m.2;simpa[u]using this
 .rintro ⟨f,t,j,o⟩;refine⟨f/64,x5a.2 t,?_⟩;have q:(c.getD (f/64) 0 &&& ~~~(b.getD (f/64) 0))≠0:=fun s=>by
   have:=x6h (fun x:Wd=>x.getLsbD (f%64)) s;simp only[BitVec.getLsbD_and,BitVec.getLsbD_not,BitVec.getLsbD_zero]at this;unfold bitW at j o;rw[j,o]at this;have l:f%64<64:=mod_lt _ (by decide);simp[l]at this
  have:=(Nm _).2 q;simpa using this
def An{b c:List Wd}(h:c.length=b.length)(o:LT b c b.length=false):ZO b c=b:=by
 have m:∀f,f/64<b.length->bitW c f=true->bitW b f=true:=fun f s j=>by
  cases l:bitW b f with
  |true=>rfl
  |false=>rw[(Pk h).2 ⟨f,s,j,l⟩]at o;cases o
 refine z0l (Y2 h) fun i j l=>?_;refine BitVec.eq_of_getLsbD_eq fun k t=>?_;have p:bitW (ZO b c) (64*i+k)=(ZO b c)[i].getLsbD k:=by
  unfold bitW;rw[show(64*i+k)/64=i by omega,show(64*i+k)%64=k by omega,x3i,x3e j];rfl
 have e2:bitW b (64*i+k)=b[i].getLsbD k:=by
  unfold bitW;rw[show(64*i+k)/64=i by omega,show(64*i+k)%64=k by omega,x3i,x3e l];rfl
 rw[<-p,<-e2,GJ h (by omega)];cases q:bitW c (64*i+k)with
 |false=>rw[Bool.or_false]
 |true=>rw[m _ (by omega) q];rfl
def q3f(w:Nat)(ws:List Wd):Nat:=(List.range (64*w)).countP (bitW ws)
def q3d(w:Nat)(ws:List Wd):q3f w ws<=64*w:=by
 unfold q3f;have:=z0h (p:=bitW ws) (l:=List.range (64*w));simpa using this
theorem Bg{p q:Nat->Bool}(h:∀x,p x=true->q x=true){x:Nat}(j:p x=false)(k:q x=true):∀{l:List Nat},x∈l->l.countP p+1<=l.countP q
 |[],i=>by cases i
 | y::r,i=>by
   have m:r.countP p<=r.countP q:=List.countP_mono_left fun z _ s=>h z s;rw[List.countP_cons,List.countP_cons];rcases x4v.1 i with rfl|i
   .rw [j,k];simp;omega
   .have:=Bg h j k i;cases o:p y with
    |false=>simp;split<;>omega
    |true=>rw[h y o];simp;omega
def IK{w:Nat}{b c:List Wd}(o:b.length=w)(p:c.length=w)(m:LT b c b.length=true):q3f w b+1<=q3f w (ZO b c):=by
 obtain⟨f,l,j,k⟩:=(Pk (by omega)).1 m;refine Bg (x:=f) (fun x i=>?_) k ?_ (x5a.2 (by omega))
 .by_cases h:x/64<b.length
  .rw [GJ (by omega) h,i];rfl
  .unfold bitW at i;rw[x3i,x6j (by omega)]at i;simp at i
 .rw [GJ (by omega) l,j,Bool.or_true]
inductive SolP(nx:List (List Int))(gen kill:List (List Wd))(f:Nat):Int->Prop
 |gen {a b:Int} (h0:0<=a) (h:bitW (gen.getD a.toNat []) f=true) (hb:b∈nx.getD a.toNat []):SolP nx gen kill f b
 |go {a b:Int} (h0:0<=a) (h:SolP nx gen kill f a) (hk:bitW (kill.getD a.toNat []) f=false) (hb:b∈nx.getD a.toNat []):SolP nx gen kill f b
structure SvS where
 zc:List (List Wd)
 todo:List Int
 waits:List Bool
def jnE(goes:List Wd)(st:SvS)(b:Int):SvS:=
 bif LT (st.zc.getD b.toNat []) goes (st.zc.getD b.toNat []).length && !(st.waits.getD b.toNat false)then⟨st.zc.set b.toNat (ZO (st.zc.getD b.toNat []) goes),st.todo++[b],st.waits.set b.toNat true⟩else⟨st.zc.set b.toNat (ZO (st.zc.getD b.toNat []) goes),st.todo,st.waits⟩
def goA(w:Nat)(gen kill:List (List Wd))(h:List (List Wd))(a:Nat):List Wd:=PY w (gen.getD a []) (h.getD a []) (kill.getD a [])
structure SvI(n w:Nat)(nx:List (List Int))(gen kill:List (List Wd))(st:SvS):Prop where
 len:st.zc.length=n
 rows:∀r∈st.zc,r.length=w
 wl:st.waits.length=n
 nd:st.todo.Nodup
 rng:∀b∈st.todo,0<=b/\b<n
 wt:∀b:Int,0<=b->b<n->(st.waits.getD b.toNat false=true↔b∈st.todo)
 snd:∀b:Int,0<=b->b<n->∀f,f/64<w->bitW (st.zc.getD b.toNat []) f=true->SolP nx gen kill f b
def closedA(n w:Nat)(nx:List (List Int))(gen kill:List (List Wd))(h:List (List Wd))(x:Int):Prop:=∀b∈nx.getD x.toNat [],∀f,f/64<w->bitW (goA w gen kill h x.toNat) f=true->bitW (h.getD b.toNat []) f=true
def UJ(w:Nat)(h:List (List Wd)):Nat:=(h.map (q3f w)).sum
structure SvJ(n w:Nat)(nx:List (List Int))(gen kill:List (List Wd))(a:Int)(goes:List Wd)(j:Nat)(st:SvS):Prop where
 I:SvI n w nx gen kill st
 cl:∀x:Int,0<=x->x<n->x∉st.todo->x≠a->closedA n w nx gen kill st.zc x
 go:a∉st.todo->goA w gen kill st.zc a.toNat=goes
 pr:∀b∈(nx.getD a.toNat []).take j,∀f,f/64<w->bitW goes f=true->bitW (st.zc.getD b.toNat []) f=true
theorem EU{w:Nat}:∀(l:List (List Wd))(i:Nat)(r:List Wd)(h:i<l.length),UJ w (l.set i r)+q3f w l[i]=UJ w l+q3f w r
 |x::l,0,r,_=>by simp only[UJ,x7m,x4o,x9l,List.getElem_cons_zero];omega
 | x::l,i+1,r,h=>by
   have:=EU (w:=w) l i r (by simpa using h);simp only[UJ,List.set_cons_succ,x4o,x9l,List.getElem_cons_succ]at this⊢;omega
theorem U5{w:Nat}:∀(l:List (List Wd)),UJ w l<=l.length*(64*w)
 |[]=>by simp[UJ]
 | x::l=>by
   have i:=q3d w x;have h:=U5 (w:=w) l;simp only[UJ,x4o,x9l,x5g]at h⊢;rw[x6r];omega
section
variable {n w:Nat}{nx:List (List Int)}{gen kill:List (List Wd)}(hnx : ∀ r∈nx,∀ b∈r,0<=b/\b<n)
include hnx
theorem q4g{a:Int}(ha0:0<=a)(han:a<n){goes:List Wd}(hgl:goes.length=w)(hgs:∀f,f/64<w->bitW goes f=true->∀b∈nx.getD a.toNat [],SolP nx gen kill f b){j:Nat}{st:SvS}(h:SvJ n w nx gen kill a goes j st)(hj:j<(nx.getD a.toNat []).length):
  SvJ n w nx gen kill a goes (j+1) (jnE goes st (nx.getD a.toNat [])[j])/\UJ w st.zc+(jnE goes st (nx.getD a.toNat [])[j]).todo.length<=UJ w (jnE goes st (nx.getD a.toNat [])[j]).zc+st.todo.length:=by
 obtain⟨I,Q,U,hpr⟩:=h;have t:=x4h hj;have Y:=x4k hj;generalize hb:(nx.getD a.toNat [])[j]=b at t Y⊢;have g:0<=b/\b<n:=by
  rw[x3i]at t;cases D:nx[a.toNat]?with
  |none=>rw[D]at t;cases t
  |some r=>rw[D]at t;exact hnx r (x4p D) b t
 have d:b.toNat<st.zc.length:=by have:=I.len;omega
 have v:st.zc.getD b.toNat []=st.zc[b.toNat]:=by rw[x3i,x3e d];rfl
 have M:(st.zc.getD b.toNat []).length=w:=by rw[v];exact I.rows _ (x4h d)
 obtain⟨row,z⟩ : ∃row,row=st.zc.getD b.toNat []:=⟨_,rfl⟩;rw[<-z]at M v;have hjl:(ZO row goes).length=w:=by rw[Y2 (by omega)];exact M
 obtain⟨k,s⟩ : ∃k,k=st.zc.set b.toNat (ZO row goes):=⟨_,rfl⟩;have q:∀x:Int,0<=x->k.getD x.toNat []=if x=b then ZO row goes else st.zc.getD x.toNat []:=fun x o=>by
  rw[s];by_cases u:x=b
  ·rw[u,if_pos rfl,x3i,x5f d];rfl
  ·rw[if_neg u,x3i,x5p (by omega),x3i]
 have A:∀x:Int,0<=x->∀f,f/64<w->bitW (st.zc.getD x.toNat []) f=true->bitW (k.getD x.toNat []) f=true:=fun x o f G i=>by
  rw[q x o];split
  ·rename_i u;rw[u,<-z]at i;rw[GJ (by omega) (by omega),i];rfl
  ·exact i
 have C:∀x∈(nx.getD a.toNat []).take (j+1),∀f,f/64<w->bitW goes f=true->bitW (k.getD x.toNat []) f=true:=fun x o f G T=>by
  have m:0<=x:=by
   have F:=x8n o;rw[x3i]at F;cases D:nx[a.toNat]?with
   |none=>rw[D]at F;cases F
   |some r=>rw[D]at F;exact(hnx r (x4p D) x F).1
  rw[Y]at o;rcases x4g.1 o with o|o
  ·exact A x m f G (hpr x o f G T)
  ·rw[x4w]at o;rw[q x m,if_pos o,GJ (by omega) (by omega),T,Bool.or_true]
 have hI:∀(l:List Int)(p:List Bool),l.Nodup->p.length=n->(∀b∈l,0<=b/\b<n)->(∀b:Int,0<=b->b<n->(p.getD b.toNat false=true↔b∈l))->SvI n w nx gen kill ⟨k,l,p⟩:=fun l p O P Z h4=>by
  refine⟨by rw[s,x6x];exact I.len,fun r hr=>?_,P,O,Z,h4,fun x m c f G i=>?_⟩
  ·rw[s]at hr;rcases x7q hr with h|h
   ·exact I.rows r h
   ·rw[h];exact hjl
  ·have i:bitW (k.getD x.toNat []) f=true:=i;rw[q x m]at i;split at i
   ·rename_i u;subst u;rw[GJ (by omega) (by omega),x7r]at i;rcases i with i|i
    ·exact I.snd x m c f G (z▸i)
    ·exact hgs f G i x t
   ·exact I.snd x m c f G i
 have R:=EU (w:=w) st.zc b.toNat (ZO row goes) d;rw[<-s,<-v]at R;cases V:LT row goes row.length with
 | false=>
   have N:=An (by omega) V;have B:k=st.zc:=by
    rw[s,N,v];exact List.set_getElem_self d
   have e:jnE goes st b=⟨k,st.todo,st.waits⟩:=by
    unfold jnE;rw[<-z,V,Bool.false_and,x5q,<-s]
   rw[e];refine⟨⟨hI _ _ I.nd I.wl I.rng I.wt,?_,?_,C⟩,?_⟩
   ·rw[B];exact Q
   ·rw[B];exact U
   ·rw[B];exact x4m _
 | true=>
   have hc2:=IK (w:=w) M hgl V;have J:∀l:List Int,(∀x,x∈st.todo->x∈l)->b∈l->∀x:Int,0<=x->x<n->x∉l->x≠a->closedA n w nx gen kill k x:=fun l O P x m c o hxa y L f G T=>by
    have hxb:x≠b:=fun u=>o (u▸P);have hy0:0<=y:=by
     rw[x3i]at L;cases D:nx[x.toNat]?with
     |none=>rw[D]at L;cases L
     |some r=>rw[D]at L;exact(hnx r (x4p D) y L).1
    refine A y hy0 f G (Q x m c (fun h=>o (O x h)) hxa y L f G ?_);unfold goA at T⊢
    rwa[q x m,if_neg hxb]at T
   have K:∀l:List Int,(∀x,x∈st.todo->x∈l)->b∈l->a∉l->goA w gen kill k a.toNat=goes:=fun l O P Z=>by
    have hab:a≠b:=fun u=>Z (u▸P);rw[<-U fun h=>Z (O a h)];unfold goA;rw[q a ha0,if_neg hab]
   cases E:st.waits.getD b.toNat false with
   | true=>
     have H:=(I.wt b g.1 g.2).1 E;have e:jnE goes st b=⟨k,st.todo,st.waits⟩:=by
      unfold jnE;rw[<-z,V,E,Bool.not_true,Bool.and_false,x5q,<-s]
     rw[e];refine⟨⟨hI _ _ I.nd I.wl I.rng I.wt,J st.todo (fun _ h=>h) H,K st.todo (fun _ h=>h) H,C⟩,?_⟩;show UJ w st.zc+st.todo.length<=UJ w k+st.todo.length;omega
   | false=>
     have H:b∉st.todo:=fun h=>by
      rw[(I.wt b g.1 g.2).2 h]at E;cases E
     have e:jnE goes st b=⟨k,st.todo++[b],st.waits.set b.toNat true⟩:=by
      unfold jnE;rw[<-z,V,E,Bool.not_false,Bool.and_true,x4s,<-s]
     have hwl:b.toNat<st.waits.length:=by have:=I.wl;omega
     rw[e];refine⟨⟨hI _ _ ?_ (by rw[x6x];exact I.wl) (fun x o=>?_) (fun x m c=>?_),J _ (fun _ h=>x5c _ h) (x6f _ (x4w.2 rfl)),K _ (fun _ h=>x5c _ h) (x6f _ (x4w.2 rfl)),C⟩,?_⟩
     ·rw[x7u];exact⟨I.nd,by simp,fun x o y L u=>H (by rw[<-x4w.1 L,<-u];exact o)⟩
     ·rcases x4g.1 o with o|o
      ·exact I.rng x o
      ·rw[x4w.1 o];exact g
     ·rw[x4g,x4w];by_cases u:x=b
      ·subst u;rw[x3i,x5f hwl];simp
      ·rw[x3i,x5p (by omega),<-x3i,I.wt x m c];simp[u]
     ·show UJ w st.zc+(st.todo++[b]).length<=UJ w k+st.todo.length;rw[x3o,x4i];omega
omit hnx in
theorem OC{a:Int}{r:List Int}{st:SvS}(h:SvI n w nx gen kill st)(q:∀x:Int,0<=x->x<n->x∉st.todo->closedA n w nx gen kill st.zc x)(m:st.todo=a::r):
  SvJ n w nx gen kill a (goA w gen kill st.zc a.toNat) 0 ⟨st.zc,r,st.waits.set a.toNat false⟩/\∀f,f/64<w->bitW (goA w gen kill st.zc a.toNat) f=true->∀b∈nx.getD a.toNat [],SolP nx gen kill f b:=by
 have i:=h.rng a (by rw[m];exact x4z);have hnd:=h.nd;rw[m,x6q]at hnd;have s:a.toNat<st.waits.length:=by have:=h.wl;omega
 refine⟨⟨⟨h.len,h.rows,by rw[x6x];exact h.wl,hnd.2,fun b j=>h.rng b (by rw[m];exact x4x _ j),fun b o p=>?_,h.snd⟩,fun x t v d u=>q x t v (by rw[m,x4v];rintro(k|k);exact u k;exact d k),fun _=>rfl,fun b j=>by simp at j⟩,fun f y l b j=>?_⟩
 ·by_cases k:b=a
  ·subst k;rw[x3i,x5f s];simp[hnd.1]
  ·show(st.waits.set a.toNat false).getD b.toNat false=true↔b∈r;rw[x3i,x5p (by omega),<-x3i,h.wt b o p,m,x4v];simp[k]
 ·unfold goA at l;rw[Vi y,x7r,x4n,x7w]at l;rcases l with l|⟨z,c⟩
  ·exact .gen i.1 l j
  ·exact .go i.1 (h.snd a i.1 i.2 f y z) c j
omit hnx in
def IS{a:Int}{goes:List Wd}{st:SvS}(h:SvJ n w nx gen kill a goes (nx.getD a.toNat []).length st):∀x:Int,0<=x->x<n->x∉st.todo->closedA n w nx gen kill st.zc x:=fun x j k m=>by
 by_cases l:x=a
 .subst l;have q:=h.go m;intro b o f p i;rw[q]at i;exact h.pr b (by rw[z0t];exact o) f p i
 .exact h.cl x j k m l
omit hnx in
theorem q0r{st:SvS}(h:SvI n w nx gen kill st)(m:∀x:Int,0<=x->x<n->x∉st.todo->closedA n w nx gen kill st.zc x)(s:st.todo=[])(v:nx.length<=n){b:Int}(k:0<=b)(l:b<n){f:Nat}(o:f/64<w):bitW (st.zc.getD b.toNat []) f=true↔SolP nx gen kill f b:=by
 refine⟨h.snd b k l f o,fun y=>?_⟩;have p:∀{a:Int}{b:Int},0<=a->b∈nx.getD a.toNat []->a<n:=fun {a b} j i=>by
  rw[x3i]at i;cases q:nx[a.toNat]?with
  |none=>rw[q]at i;cases i
  | some r=>
    have:=(x4u.1 q).1;omega
 clear k l;induction y with
 | @gen a b j t i=>
   refine m a j (p j i) (by rw[s];simp) b i f o ?_;unfold goA;rw[Vi o,t];rfl
 | @go a b j _ u i z=>
   refine m a j (p j i) (by rw[s];simp) b i f o ?_;unfold goA;rw[Vi o,z,u,Bool.not_false,Bool.and_true,Bool.or_true]
omit hnx in
theorem Et(t:nx.length<=n):SvI n w nx gen kill ⟨List.replicate n (List.replicate w 0),(List.range n).map ofNat,List.replicate n true⟩:=by
 refine⟨by simp,fun r p=>by rw[(z0x.1 p).2];simp,by simp,?_,fun b m=>?_,fun b k l=>?_,fun b k l f s h=>?_⟩
 ·exact List.nodup_range.map _ fun x y j o=>j (Int.ofNat.inj o)
 ·obtain⟨x,q,rfl⟩:=x4y.1 m;have:=x5a.1 q;exact⟨Int.natCast_nonneg _,by show(x:Int)<n;omega⟩
 ·have i:b.toNat<n:=by omega
  simp only[x3i,x5v,if_pos i,x5b,true_iff];exact x4y.2 ⟨b.toNat,x5a.2 i,by show((b.toNat:Nat):Int)=b;omega⟩
 ·have i:b.toNat<n:=by omega
  simp only[x3i,x5v,if_pos i,x5b]at h;rw[CZ]at h;cases h
end
end Go.Ab
