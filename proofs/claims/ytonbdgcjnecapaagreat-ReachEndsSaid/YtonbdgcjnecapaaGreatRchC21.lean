/- The reference's programs that may be: just those that the program's own reading lets stand. -/
import Derived.Test.YtonbdgcjnecapaaGreatRchC7
import Derived.Test.YtonbdgcjnecapaaGreatRchC9
import Derived.Test.YtonbdgcjnecapaaGreatRchC14
import Derived.Test.YtonbdgcjnecapaaGreatRchC15
import Derived.Test.YtonbdgcjnecapaaGreatRchC17
import Derived.Test.YtonbdgcjnecapaaGreatRchC18
import Derived.Test.YtonbdgcjnecapaaGreatRchC20
set_option linter.all false
set_option maxRecDepth 100000
set_option maxHeartbeats 16000000
open List (length)
namespace Go.Ab
open Go.Proofs.Tryz
open Go.Proofs
variable {I' O':List (List Str)}{j:Nat}{l:List Bool}
def DG{p:Pg}(h:JJ p=true->False):JJ p=false:=by
 cases k:JJ p with
 |false=>rfl
 |true=>exact(h k).elim
def MJ(p:Pg):SpecP prog 59 [.agg p.cells] (fun r=>r=.bool (JJ p)):=by
 refine sB ME func59 rfl call59 ?_;conv=>whnf
 have L:(p.D.map AV.str).length=p.D.length:=x0j _;have N:(p.A.map fun f=>AV.agg f.cells).length=p.A.length:=x0j _;repeat' (first|((first|(refine iM fun _=>?_)|refine cP (UW _) ?_);conv=>whnf)|(apply bD<;>intro _<;>first|omega|conv=>whnf)|(apply bN<;>intro _<;>conv=>whnf))
 all_goals first
  | (refine RetK.ff (DG fun h=>?_)
     have F:=WS h;have c:=F.gl;have d:=F.pl;have e:=F.gn;first
      |omega
      |(simp_all;done))
  |skip
 have G:p.D.length<=16:=by omega
 have H:p.A.length<=16:=by omega
 have I:namesB p.D=true:=by assumption
 refine LoopK.inv QK (fun j:Nat=>⟨[(1,.p (.ip p.cells)),(26,.p (.sl (p.A.map fun f=>.agg f.cells))),(27,.p (.int .i64 (p.A.map fun f=>AV.agg f.cells).length)),(28,.p (.int .i64 j))],[]⟩) (fun j=>j<=p.A.length/\∀m (u:m<p.A.length),m<j->KN p.A[m]=true) (fun j=>p.A.length-j) 0 (Le.of_eq rfl) ⟨x0l _,fun m u h=>absurd h (Nat.not_lt_zero _)⟩ ?_;rintro j ⟨Z,C⟩;rcases x0t j p.A.length with w|w
 .have O:(p.A[j].B.map fun a=>AV.agg a.cells).length=p.A[j].B.length:=x0j _;have R:(p.A[j].Q.map AV.str).length=p.A[j].Q.length:=x0j _;conv=>whnf
  repeat' (first|((first|(refine iM fun _=>?_)|refine cP (UW _) ?_|refine cP (XL _) ?_|refine x0h rfl ?_|(refine iA fun _=>?_));conv=>whnf)|(apply bD<;>intro _<;>first|omega|conv=>whnf)|(apply bN<;>intro _<;>conv=>whnf))
  all_goals first
   | (refine RetK.ff (DG fun h=>?_)
      obtain⟨c,d,e,T,V,Y⟩:=(WS h).pr _ (x0s w);first
       |omega
       |(simp_all;done))
   |skip
  have y:(p.A[j].B.all fun a=>isName a.name)=true->KN p.A[j]=true:=fun g=>JK.2 ⟨by omega,by omega,by assumption,by assumption,by assumption,g⟩;refine LoopK.inv QK (fun k:Nat=>⟨[(1,.p (.ip p.cells)),(26,.p (.sl (p.A.map fun f=>.agg f.cells))),(27,.p (.int .i64 (p.A.map fun f=>AV.agg f.cells).length)),(28,.p (.int .i64 j)),(61,.p (.sl (p.A[j].B.map fun a=>.agg a.cells))),(62,.p (.int .i64 (p.A[j].B.map fun a=>AV.agg a.cells).length)),(63,.p (.int .i64 k))],[]⟩) (fun k=>k<=p.A[j].B.length/\(p.A[j].B.drop k).all (fun a=>isName a.name)=p.A[j].B.all fun a=>isName a.name) (fun k=>p.A[j].B.length-k) 0 (Le.of_eq rfl) ⟨x0l _,rfl⟩ ?_;rintro k ⟨J,b⟩;rcases x0t k p.A[j].B.length with q|q
  .conv=>whnf
   repeat' (first|((first|refine cP (XL _) ?_|refine x0h rfl ?_|(refine iA fun _=>?_)|refine wI ?_);conv=>whnf)|(apply bD<;>intro _<;>first|omega|conv=>whnf)|(apply bN<;>intro _<;>conv=>whnf))
   .exact ⟨k+1,⟨q,by rw[<-b,GT (p:=fun a:Param=>isName a.name) q (by assumption)]⟩,by omega,Le.of_eq rfl⟩
   .refine RetK.ff (DG fun h=>?_);have t:=x2w.1 ((WS h).pr _ (x0s w)).2.2.2.2.2 _ (x0s q);simp_all
  .rw [GR q]at b;have z:=y b.symm;conv=>whnf
   repeat' (first|(refine wI ?_;conv=>whnf)|(apply bD<;>intro _<;>first|omega|conv=>whnf))
   refine⟨j+1,⟨w,fun m u M=>?_⟩,by omega,Le.of_eq rfl⟩;rcases x0t m j with t|t
   .exact C m u t
   .obtain rfl:m=j:=by omega
    exact z
 .have y : ∀f∈p.A,KN f=true:=fun f K=>by
   obtain⟨m,u,rfl⟩:=x2m.1 K;exact C m u (by omega)
  conv=>whnf
  have P:=Gd (allR p);repeat' (first|((first|(refine iM fun _=>?_)|refine cP (HC _) ?_);conv=>whnf)|(apply bD<;>intro _<;>first|omega|conv=>whnf))
  .refine RetK.ff (DG fun h=>?_);have:=(WS h).len;omega
  have z:(allR p).length<=200:=by omega
  refine LoopK.inv QK (fun k:Nat=>⟨[(7,.p (q3g (allR p))),(79,.p (.int .i64 ((allR p).map fun i=>AV.agg i.cells).length)),(80,.p (.int .i64 k))],[]⟩) (fun k=>k<=(allR p).length/\∀(m:Nat)(x:RI),m<k->(allR p)[m]?=some x->x.s.id=(m:Int)+1/\x.deep<=12/\oneOk x.s=true) (fun k=>(allR p).length-k) 0 (Le.of_eq rfl) ⟨x0l _,fun m x h=>absurd h (Nat.not_lt_zero _)⟩ ?_;rintro k ⟨J,E⟩;rcases x0t k (allR p).length with q|q
  .conv=>whnf
   have F:=fun h:JJ p=true=>(WS h).its k _ (x0u q);repeat' (first|((first|(refine iA fun _=>?_)|refine wI ?_|refine cP (MK (allR p)[k].s) ?_);conv=>whnf)|(apply bD<;>intro _<;>first|omega|conv=>whnf)|(apply bE<;>intro _<;>first|omega|conv=>whnf)|(apply bN<;>intro _<;>conv=>whnf))
   all_goals first
    | (refine⟨k+1,⟨q,fun m x u v=>?_⟩,by omega,Le.of_eq rfl⟩
       rcases x0t m k with t|t
       .exact E m x t v
       .obtain rfl:m=k:=by omega
        rw[x0u q]at v;obtain rfl:=x3h v;exact⟨by omega,by omega,by assumption⟩)
    | (refine RetK.ff (DG fun h=>?_)
       obtain⟨c,d,e⟩:=F h;first
        |omega
        | (simp_all
           done))
  .conv=>whnf
   repeat' (apply bD<;>intro _<;>first|omega|conv=>whnf)
   exact RetK.tt (q4r G H I y z fun m x v=>E m x (by have:=(x0m.1 v).1;omega) v)
def Nu(p:Pg)(n:Str):Pr×Bool:=bif JJ p then Ly p n else(Pr0,false)
def PH(p:Pg)(n:Str):SpecP prog 22 [.agg p.cells,.str n] (fun r=>r=.tup [.agg (Nu p n).1.cells,.bool (Nu p n).2]):=by
 refine sB NK func22 rfl call22 ?_;conv=>whnf
 have s:(p.A.map fun f=>AV.agg f.cells).length=p.A.length:=x0j _;repeat' (first|((first|(refine iM fun _=>?_)|refine cP (MJ _) ?_|refine x0h rfl ?_);conv=>whnf)|(apply bB<;>intro _<;>conv=>whnf))
 .have m:Nu p n=Ly p n:=by unfold Nu;rw[show JJ p=true by assumption];rfl
  rw[m];refine LoopK.inv QK (fun j:Nat=>⟨[(1,.p (.str n)),(4,.ptr 1 0),(11,.p (.sl (p.A.map fun f=>.agg f.cells))),(12,.p (.int .i64 (p.A.map fun f=>AV.agg f.cells).length)),(13,.p (.int .i64 j))],[(1,.obj 44 [.p (.str []),.p .nils,.p .nils,.p .nils,.p .nils])]⟩) (fun j=>j<=p.A.length/\(p.A.drop j).find? (fun f=>f.name==n)=p.A.find? fun f=>f.name==n) (fun j=>p.A.length-j) 0 (Le.of_eq rfl) ⟨x0l _,rfl⟩ ?_;rintro j ⟨t,h⟩;rcases x0t j p.A.length with k|k
  .rw [QB k,x5y]at h;conv=>whnf
   repeat' (first|((first|refine x0h rfl ?_|(refine iA fun _=>?_)|refine wI ?_);conv=>whnf)|(apply bD<;>intro _<;>first|omega|conv=>whnf)|(apply bB<;>intro _<;>conv=>whnf))
   .have q:(p.A[j].name==n)=true:=by assumption
    rw[q]at h;exact⟨_,.p (Sub.tup (SubL.cons (Sub.refl _) (SubL.cons (Sub.tt rfl) SubL.nil))),by unfold Ly;rw[<-h];first|done|rfl⟩
   .have q:(p.A[j].name==n)=false:=by assumption
    rw[q]at h;exact⟨j+1,⟨k,h⟩,by omega,Le.of_eq rfl⟩
  .rw [x1q k,List.find?_nil]at h;conv=>whnf
   repeat' (first|(refine x0h rfl ?_;conv=>whnf)|(apply bD<;>intro _<;>first|omega|conv=>whnf))
   exact⟨_,.p (Sub.tup (SubL.cons AM (SubL.cons (Sub.ff rfl) SubL.nil))),by unfold Ly;rw[<-h];first|done|rfl⟩
 .have m:Nu p n=(Pr0,false):=by unfold Nu;rw[show JJ p=false by assumption];rfl
  rw[m];exact⟨_,.p (Sub.tup (SubL.cons AM (SubL.cons (Sub.ff rfl) SubL.nil))),rfl⟩
def Az{p:Pg}{n:Str}{k:Nat}{f:Pr}(y:Qo p n=some (QQ p k f))(w:p.A[k]?=some f):QE p=true/\Nu p n=(f,true):=by
 obtain⟨t,u,h,v,s,_,m⟩:=JM y;have q:(QQ p k f).j=(QQ p t u).j:=by rw[v]
 have r:k=t:=q;subst r;rw[w]at h;obtain rfl:=x3h h;refine⟨s,?_⟩;unfold Nu Ly;rw[(QF s).1,m];rfl
section
variable {p:Pg}{j:Nat}{f:Pr}{n:Str}
end
def Dr{p:Pg}(h:QE p=true){f:Pr}(s:f∈p.A):∃k,p.A[k]?=some f/\Qo p f.name=some (QQ p k f):=by
 cases q:Qo p f.name with
 | none=>
   exfalso;unfold Qo at q;rw[h,x1u]at q;cases t:p.A.find? (fun g=>g.name==f.name)with
   | none=>
     have:=x3a.1 t _ s;simp at this
   |some g=>rw[t]at q;cases q
 | some w=>
   obtain⟨k,g,m,rfl,_,r,_⟩:=JM q;have u:g=f:=Yg (Yv h) g (x0i m) f s r;subst u;exact⟨k,m,rfl⟩
def RO{p:Pg}(h:QE p=true){id:Int}(q:id∈Kc p 0):∃k f t,p.A[k]?=some f/\t∈flL f.body/\t.id=id/\Qo p (YN p id).2.1=some (QQ p k f):=by
 have B:=(QF h).1;unfold Kc at q;obtain⟨x,v,rfl⟩:=x0n.1 q;have v:=(x1s.1 v).1;rw[Hl B]at v;obtain⟨g,d,r⟩:=x1p.1 v;rw[<-LS B d]at r;unfold YN;cases u:Mm p x.s.id with
 | none=>
   exfalso;unfold Mm at u;have m:=x5z.1 u g d;unfold TB at m;rw[x6h,x3a]at m;exact m x r (by simp)
 | some y=>
   obtain⟨y,C⟩:=y;unfold Mm at u;obtain⟨f,E,m⟩:=List.exists_of_findSome?_eq_some u;unfold TB at m;rw[x5m]at m;obtain⟨z,b,c⟩:=m;obtain rfl:z=y:=x2o Prod.fst c;have w:f.name=C:=x2o Prod.snd c;obtain⟨k,e,F⟩:=Dr h E;refine⟨k,f,z.s,e,q0o h e (x3l b),by simpa using x4o b,?_⟩;show Qo p C=_;rw[<-w];exact F
def q1o{l:List Int}(n:Int)(h:l≠[]):PU l n∈l:=by
 unfold PU;have k:0<(l.length:Int):=by
  have:=x6x.2 h;omega
 have:=Qq (n:=n) k;rw[if_neg h,x0y,x0u (by omega)];exact x0s _
def Cz{p:Pg}(h:QE p=true){id:Int}(J:1<=id)(K:id<=(sheetOf p).l.length):∃k f q,p.A[k]?=some f/\q∈itsOf p k f/\q.s.id=id/\Qo p (YN p id).2.1=some (QQ p k f)/\(YN p id).2.2=true/\q8a p id=(q.next,true):=by
 obtain⟨_,_,_,H,_⟩:=QJ p;obtain⟨j,f,r,E,F⟩:=RE p.A (id-1).toNat (by omega);obtain⟨q,z,L⟩:=GD r E F;have R:=Dx h r E F z;have b:q.s.id=id:=by omega
 have d:=(QF h).1;obtain⟨x,I,u⟩:=I5 (We L);have c:id∈Kc p 0:=by
  unfold Kc;refine x0n.2 ⟨x,x1s.2 ⟨?_,rfl⟩,by rw[u,b]⟩;rw[Hl d];exact x1p.2 ⟨f,x0i r,I⟩
 obtain⟨k,g,t,v,N,O,P⟩:=RO h c;have T:=WD d v N;have M:QR p.A k+QW g.body<=(sheetOf p).l.length:=by
  obtain⟨_,_,_,_,C⟩:=QJ p;have:=(C k g v).2.2.1;omega
 obtain⟨Q,G,w⟩:=GD v (k:=(id-1).toNat) (by omega) (by omega);rw[z]at G;obtain rfl:=x3h G;refine⟨k,g,q,v,w,b,P,?_,?_⟩
 .cases e:(YN p id).2.2 with
  |true=>rfl
  | false=>
    exfalso;unfold YN at e;cases B:Mm p id with
    |some y=>rw[B]at e;cases e
    | none=>
      unfold Mm at B;have m:=x5z.1 B f (x0i r);unfold TB at m;rw[x6h,x3a]at m;rw[LS d (x0i r)]at m;exact m x I (by rw[u,b];simp)
 .unfold q8a;rw[h,z,x2a J,x2a K];rfl
def RN{p:Pg}{n:Str}{w:Way}(h:Qo p n=some w):ofR p n=w.real:=by
 unfold ofR;rw[h]
def IG{p:Pg}{n:Str}(h:Qo p n=none):ofR p n=[]:=by
 unfold ofR;rw[h]
def Ii{p:Pg}(h:QE p=true){f:Pr}(v:p.A[j]?=some f){y:Int}:y∈N0 (QQ p j f)↔0<y/\Rch (wR p j f) 0 y:=by
 have w:(QQ p j f).n=(QW f.body+2:Nat):=rfl;have r:∀i:Nat,1<=i->i<=QW f.body->QH p j (QW f.body+2:Nat) i=QR p.A j+i:=fun i m k=>by
  unfold QH loI;rw[if_neg (by omega),if_neg (by omega)];omega
 have q:∀i:Nat,1<=i->i<=QW f.body->(ixI p j f (QR p.A j+i)).toNat=i:=fun i m k=>by
  unfold ixI UJ loI hiI
  (repeat' split)<;>omega
 unfold N0;rw[x0n];constructor
 .rintro ⟨i,u,rfl⟩;obtain⟨m,k⟩:=x1s.1 u;rw[w]at m;have b:=List.mem_range'_1.1 m;have z:=r i (by omega) (by omega);have e2:=q i (by omega) (by omega);show 0<QH p j (QW f.body+2:Nat) i/\Rch (wR p j f) 0 (QH p j (QW f.body+2:Nat) i);rw[z];refine⟨by omega,(BF h v (.inr (.inr ⟨by omega,by omega⟩))).1 ?_⟩;rw[e2];exact k
 .rintro ⟨d,m⟩;have s:plP p j f y:=by
   cases m with
   |refl=>exact .inl rfl
   | tail _ k=>
     obtain⟨t,c,_,rfl⟩:=k;exact(VZ h v t c).2
  have k:=(BF h v s).2 m;rcases s with s|s|⟨b,e⟩
  .omega
  .omega
  obtain⟨i,u⟩ : ∃i:Nat,y=QR p.A j+i:=⟨(y-QR p.A j).toNat,by omega⟩;subst u;rw[q i (by omega) (by omega)]at k;refine⟨i,x1s.2 ⟨List.mem_range'_1.2 ⟨by omega,?_⟩,k⟩,r i (by omega) (by omega)⟩;rw[w];omega
def Io{p:Pg}{f:Pr}:(N0 (QQ p j f)).Pairwise ordP:=by
 have t:(QQ p j f).n=(QW f.body+2:Nat):=rfl;unfold N0;rw[List.pairwise_map];have h:((List.range' 1 ((QQ p j f).n-2).toNat).filter fun i=>(QQ p j f).live.getD i false).Pairwise fun a b=>a<b:=List.Pairwise.sublist List.filter_sublist List.pairwise_lt_range';refine h.imp_of_mem fun {a b} q s r=>?_;have k:=List.mem_range'_1.1 (x1s.1 q).1;have m:=List.mem_range'_1.1 (x1s.1 s).1;rw[t]at k m;rw[ID];right;show QH p j (QW f.body+2:Nat) a ≠ -1/\QH p j (QW f.body+2:Nat) b ≠ -1/\QH p j (QW f.body+2:Nat) a<QH p j (QW f.body+2:Nat) b;unfold QH loI
 (repeat' split)<;>omega
def Ie(p:Pg)(n:Str):(NO p n).Pairwise ordP/\∀y,y∈NO p n↔0<y/\Rch (stR (ofR p n)) 0 y:=by
 cases m:Qo p n with
 | none=>
   have e:NO p n=[]:=by unfold NO;rw[m]
   rw[e,IG m];refine⟨.nil,fun y=>⟨fun h=>(by cases h),fun⟨z,q⟩=>?_⟩⟩;cases q with
   |refl=>omega
   |tail _ r=>obtain⟨t,v,_⟩:=r;cases v
 | some w=>
   obtain⟨k,f,u,rfl,s,_⟩:=JM m;have e:NO p n=N0 (QQ p k f):=by unfold NO;rw[m]
   rw[e,RN m];exact⟨Io,fun y=>Ii s u⟩
section
variable {p:Pg}{j:Nat}{f:Pr}
end
section
variable {p:Pg}{j:Nat}{f:Pr}
end
def bkO(p:Pg)(O:List (List Str)):Book:=⟨sheetOf p,[],[],[],[],O⟩
def prA(p:Pg)(i:Nat):Pr:=p.A.getD i Pr0
def Yn{p:Pg}{i:Nat}(h:i<p.A.length):p.A[i]?=some (prA p i):=by
 unfold prA;rw[x0y,x0u h];rfl
def JF{p:Pg}{i:Nat}{f:Pr}(h:p.A[i]?=some f):prA p i=f:=by
 unfold prA;rw[x0y,h];rfl
def dfB(p:Pg)(O:List (List Str)):List (List Str):=(sheetOf p).l.map fun h=>WA (MF (bkO p O) h.s)
def otA(p:Pg)(D:List (List Str))(i:Nat):List Str:=WA (M5 p i (prA p i) D (itsOf p i (prA p i)))
def otB(p:Pg)(D:List (List Str)):List (List Str):=(List.range p.A.length).map (otA p D)
def rdO(p:Pg)(O:List (List Str)):List (List Str):=otB p (dfB p O)
def itO(p:Pg):Nat->List (List Str)
 |0=>List.replicate p.A.length []
 |k+1=>rdO p (itO p k)
def VH{l:List Str}(h:l.Pairwise ltT):l.Nodup:=List.Pairwise.imp (S:=fun a b=>a≠b) (fun {a b} (k:ltT a b)=>fun(m:a=b)=>ltT.irr b (by rw[m]at k;exact k)) h
def UI(l:List Str):(WA l).length<=l.length:=HF (VH (ZJ l)) fun s h=>XH.1 h
structure OkO(p:Pg)(O:List (List Str)):Prop where
 len:O.length=p.A.length
 rise:∀o∈O,o.Pairwise ltT
 sub:∀i,i<p.A.length->∀n∈O.getD i [],outB p (prA p i) n=true
def DX{O:List (List Str)}(h:∀o∈O,o.Pairwise ltT)(i:Nat):(O.getD i []).Pairwise ltT:=by
 rw[x0y];rcases x0t i O.length with k|k
 .rw [x0u k];exact h _ (x0s k)
 .rw [x2f k];exact .nil
def BX{p:Pg}{n:Str}:comB p n=true↔n=GP\/n∈p.D:=by
 unfold comB;simp only[x3i,x3s,x2e,exists_eq_right']
def IP{p:Pg}{f:Pr}{n:Str}:outB p f n=true↔(n=GP\/n∈p.D)\/(⟨n,true⟩:Param)∈f.B:=by
 unfold outB;rw[x3i,BX,x1n]
def Gu{p:Pg}(h:QE p=true)(i:Nat):(prA p i).B.length<=8:=by
 rcases x0t i p.A.length with k|k
 .exact (JK.1 (Lx (QF h).1 (x0i (Yn k)))).1
 .unfold prA;rw[x0y,x2f k];decide
theorem OkO.len25{p:Pg}{O:List (List Str)}(t:QE p=true)(h:OkO p O)(i:Nat):(O.getD i []).length<=25:=by
 rcases x0t i p.A.length with r|r
 .have u:=HF (m:=GP::p.D++(prA p i).B.map Param.name) (VH (DX h.rise i)) fun n v=>by
   rcases IP.1 (h.sub i r n v)with(rfl|q)|q
   .exact x2x _ x0k
   .exact x2x _ (x0f _ q)
   .exact x2r _ (x0n.2 ⟨_,q,rfl⟩)
  have q:=Gu t i;have w:=(XP t).1;rw[x0g,x1r,x0j]at u;omega
 .rw [x0y,x2f (by rw[h.len];exact r)];exact x0l _
def Hc{p:Pg}(h:QE p=true){t:S}(E:t∈YQ p)(b:t.kind=4):∃k,k<p.A.length/\caI p t=(k:Nat)/\caP p t=prA p k/\(prA p k).name=t.C/\(prA p k).B.map Param.ref=t.args.map Arg.ref:=by
 obtain⟨_,g,d,_⟩:=QF h;have u:=(SS g).1 d t E b;unfold FS at u;rw[x1z]at u;have m:=u.2;cases s:p.A.find? (fun f=>f.name==t.C)with
 |none=>rw[s]at m;cases m
 | some f=>
   rw[s]at m;have e:t.C∈procsN p:=x0n.2 ⟨f,x3l s,by simpa using x4o s⟩;obtain⟨k,w,z,_,v,c⟩:=Fj e;rw[s]at v;have r:p.A[k]=f:=(x3h v).symm;have y:prA p k=f:=by rw[<-r];exact JF (x0u w)
   have q:caI p t=(k:Nat):=z;refine⟨k,w,q,?_,?_,?_⟩
   .unfold caP;rw[q];rfl
   .rw [y,<-r];exact c
   .rw [y];unfold Sk at m;exact of_decide_eq_true m
def LF{p:Pg}(h:QE p=true){t:S}(u:t∈YQ p)(r:t.kind=4):t.args.length=(caP p t).B.length/\t.args.length<=8:=by
 obtain⟨k,_,_,m,_,q⟩:=Hc h u r;have s:=x2o length q;rw[x0j,x0j]at s;have:=Gu h k;rw[m];omega
theorem OkO.call{p:Pg}{O:List (List Str)}(m:QE p=true)(h:OkO p O){b:Book}(w:b.s=sheetOf p)(u:b.P=O){t:S}(v:t∈YQ p)(q:t.kind=4):CallOk b t:=by
 obtain⟨k,A,y,z,_⟩:=Hc m v q;obtain⟨c,g⟩:=LF m v q;have e:b.s.p=p:=by rw[w];exact(QJ p).1
 have r:caO b t=O.getD (caI p t).toNat []:=by unfold caO;rw[e,u]
 refine⟨by rw[e];omega,by rw[e];omega,by rw[e,u,h.len];exact x0o _,?_,?_,by rw[e];omega,by omega⟩
 .rw [r];exact DX h.rise _
 .rw [r];have:=h.len25 m (caI p t).toNat;omega
def C6{p:Pg}{O:List (List Str)}{b:Book}(k:b.s=sheetOf p)(h:b.P=O)(t:S):MF b t=MF (bkO p O) t:=by
 unfold MF caO bkO;rw[k,h]
def LM{p:Pg}{O:List (List Str)}(k:QE p=true)(h:OkO p O){t:S}(q:t∈YQ p):(MF (bkO p O) t).length<=34:=by
 unfold MF
 (repeat' split)<;>try (simp;done)
 rename_i m;have w:=T5 t (caP p t) (caO (bkO p O) t) t.args.length;have r:=(LF k q m).2;have s:=h.len25 k (caI p t).toNat;have u:((caO (bkO p O) t).filter (comB p)).length<=(O.getD (caI p t).toNat []).length:=x2l _ _;show((if t.name=[]then []else [t.name])++Ay t (caP p t) (caO (bkO p O) t) t.args.length++(caO (bkO p O) t).filter (comB p)).length<=34;rw[x0g,x0g];have v:(if t.name=[]then []else [t.name]).length<=1:=by split<;>simp
 omega
def F9(p:Pg)(O:List (List Str)):(dfB p O).length=(sheetOf p).l.length:=x0j _
def leO(O O':List (List Str)):Prop:=∀i n,n∈O.getD i []->n∈O'.getD i []
def D2{t:S}{f:Pr}{O:List Str}{n:Str}:n∈Ay t f O t.args.length ↔ ∃x∈(t.args.zip f.B).take t.args.length,(x.1.ref=true/\x.2.name∈O)/\x.1.name=n:=by
 unfold Ay q5o;simp only[x0n,x1s,x1z,ZA,and_assoc]
def C7{p:Pg}{O:List (List Str)}(h:leO O O'){t:S}{n:Str}(k:n∈MF (bkO p O) t):n∈MF (bkO p O') t:=by
 unfold MF at k⊢
 (repeat' split at k)
 .rw [if_pos (by assumption)];exact k
 .rw [if_neg (by assumption),if_pos (by assumption)];exact k
 .rw [if_neg (by assumption),if_neg (by assumption),if_pos (by assumption)];exact k
 .rw [if_neg (by assumption),if_neg (by assumption),if_neg (by assumption),if_pos (by assumption)];unfold q0d at k⊢;rcases x0r.1 k with k|k
  .rcases x0r.1 k with k|k
   .exact x2x _ (x2x _ k)
   .refine x2x _ (x2r _ ?_);obtain⟨x,m,⟨q,r⟩,s⟩:=D2.1 k;exact D2.2 ⟨x,m,⟨q,h _ _ r⟩,s⟩
  .obtain ⟨m,q⟩:=x1s.1 k;exact x2r _ (x1s.2 ⟨h _ _ m,q⟩)
 .cases k
def JO{α β:Type}{f:α->List β}{l:List α}{i:Nat}{n:β}:n∈(l.map f).getD i [] ↔ ∃x,l[i]?=some x/\n∈f x:=by
 rw[x0y,x0d];cases l[i]?with
 |none=>simp
 |some x=>simp
def EI{p:Pg}{O:List (List Str)}(h:leO O O'):leO (dfB p O) (dfB p O'):=fun i n q=>by
 obtain⟨r,k,m⟩:=JO.1 q;exact JO.2 ⟨r,k,XH.2 (C7 h (XH.1 m))⟩
def lvB(p:Pg)(i:Nat)(id:Int):Bool:=(QQ p i (prA p i)).live.getD (ixI p i (prA p i) id).toNat false
def IN{p:Pg}{i:Nat}{D:List (List Str)}{n:Str}:n∈M5 p i (prA p i) D (itsOf p i (prA p i)) ↔ ∃h∈itsOf p i (prA p i),lvB p i h.s.id=true/\n∈FZ D h.s.id/\outB p (prA p i) n=true:=by
 unfold M5;rw[x1p];refine exists_congr fun h=>and_congr_right fun _=>?_;unfold q5q lvB;cases(QQ p i (prA p i)).live.getD (ixI p i (prA p i) h.s.id).toNat false with
 |false=>simp
 |true=>simp[x1s]
def Fs{p:Pg}{D:List (List Str)}{i:Nat}(m:i<p.A.length){n:Str}:n∈(otB p D).getD i [] ↔ ∃it∈itsOf p i (prA p i),lvB p i it.s.id=true/\n∈FZ D it.s.id/\outB p (prA p i) n=true:=by
 unfold otB;rw[JO,<-IN];constructor
 .rintro ⟨x,k,q⟩;rw[x4l m]at k;cases k;exact XH.1 q
 .exact fun h=>⟨i,x4l m,XH.2 h⟩
def IB{p:Pg}{D q:List (List Str)}(h:leO D q):leO (otB p D) (otB p q):=fun i n r=>by
 rcases x0t i p.A.length with m|m
 .obtain ⟨v,k,s,t,u⟩:=(Fs m).1 r;exact(Fs m).2 ⟨v,k,s,h _ _ t,u⟩
 .obtain ⟨x,k,_⟩:=JO.1 r;rw[x2f (by simpa using m)]at k;cases k
def IE{p:Pg}{O:List (List Str)}(h:leO O O'):leO (rdO p O) (rdO p O'):=IB (EI h)
theorem OY(p:Pg):∀k,leO (itO p k) (itO p (k+1))
 | 0=>fun i n h=>by
   unfold itO at h;rw[x0y,x1b]at h;split at h<;>cases h
 |k+1=>IE (OY p k)
def ON(p:Pg)(D:List (List Str)):OkO p (otB p D):=by
 refine⟨by unfold otB;rw[x0j,x3j],fun o q=>?_,fun i k n m=>?_⟩
 .obtain ⟨i,_,rfl⟩:=x0n.1 q;exact ZJ _
 .obtain ⟨r,_,_,_,h⟩:=(Fs k).1 m;exact h
def Y2(p:Pg):∀k,OkO p (itO p k)
 | 0=>by
   refine⟨by unfold itO;rw[x2d],fun o m=>?_,fun i q n h=>?_⟩
   .rw [x3r m];exact .nil
   .unfold itO at h;rw[x0y,x1b]at h;split at h<;>cases h
 |k+1=>ON p _
def tot(O:List (List Str)):Nat:=(O.map length).sum
def It{a b:List Str}{O:List (List Str)}(h:leO (a::O) (b::O')):(∀n∈a,n∈b)/\leO O O':=⟨fun n k=>h 0 n k,fun i n k=>h (i+1) n k⟩
def Oy{a b:List Str}(q:a.Pairwise ltT)(t:b.Pairwise ltT)(r:∀n∈a,n∈b)(v:b.length<=a.length):a=b:=by
 refine D3 ltT.irr ltT.trans q t fun s=>⟨r s,fun h=>?_⟩;refine x3u fun u=>?_;have:=HF (l:=s::a) (m:=b) (x2u.2 ⟨u,VH q⟩) fun n k=>by
  rcases x0p.1 k with rfl|k
  .exact h
  .exact r n k
 rw[x1r]at this;omega
theorem AE:∀{O O':List (List Str)},O.length=O'.length->(∀o∈O,o.Pairwise ltT)->(∀o∈O',o.Pairwise ltT)->leO O O'->tot O<=tot O'/\(tot O'<=tot O->O=O')
 |[],[],_,_,_,_=>⟨x0o _,fun _=>rfl⟩
 |[],_::_,h,_,_,_=>by cases h
 |_::_,[],h,_,_,_=>by cases h
 | a::O,b::O',hl,h1,h2,h=>by
   obtain⟨m,r⟩:=It h;obtain⟨u,s⟩:=AE (O:=O) (O':=O') (by simpa using hl) (fun o k=>h1 o (x0f _ k)) (fun o k=>h2 o (x0f _ k)) r;have q:=h1 a x0k;have t:=h2 b x0k;have v:=HF (VH q) m;have e:∀(x:List Str)(l:List (List Str)),tot (x::l)=x.length+tot l:=fun x l=>by unfold tot;rw[x1j,x5f]
   rw[e,e];exact⟨by omega,fun w=>by rw[Oy q t m (by omega),s (by omega)]⟩
theorem Dj:∀{O:List (List Str)},(∀o∈O,o.length<=25)->tot O<=25*O.length
 |[],_=>x0o _
 | a::O,h=>by
   have m:=Dj (O:=O) fun o k=>h o (x0f _ k);have q:=h a x0k;have e:tot (a::O)=a.length+tot O:=by unfold tot;rw[x1j,x5f]
   rw[e,x1r];omega
theorem OkO.tot{p:Pg}{O:List (List Str)}(m:QE p=true)(h:OkO p O):Go.Ab.tot O<=400:=by
 have q:=Dj (O:=O) fun o t=>by
  obtain⟨i,r,rfl⟩:=x2m.1 t;have:=h.len25 m i
  rwa[x0y,x0u r]at this
 have u:=(XP m).2.1;rw[h.len]at q;omega
def RV{p:Pg}{k:Nat}(h:itO p (k+1)≠itO p k):Go.Ab.tot (itO p k)<Go.Ab.tot (itO p (k+1)):=by
 obtain⟨r,q⟩:=AE (O:=itO p k) (O':=itO p (k+1)) (by rw[(Y2 p k).len,(Y2 p (k+1)).len]) (Y2 p k).rise (Y2 p (k+1)).rise (OY p k);rcases x0t (Go.Ab.tot (itO p k)) (Go.Ab.tot (itO p (k+1)))with m|m
 .exact m
 .exact absurd (q m).symm h
section
variable (p:Pg)(i:Nat)(f:Pr)(D U:List (List Str))(o:List Str)(x:Str)
def idN(a:Int):Int:=QH p i (QW f.body+2:Nat) a
def hitN(a:Int):Bool:=bif decide (a=(QW f.body+2:Nat)-1)then inS o x else bif decide (0<a)then inS (FZ U (idN p i f a)) x else false
def FV(a:Int):Bool:=bif decide (a=(QW f.body+2:Nat)-1)then false else bif decide (0<a)then !inS (FZ D (idN p i f a)) x else true
def netR(p:Pg)(i:Nat)(f:Pr):List (List Int):=Qw (QW f.body+2) (UA (QQ p i f) f)
def q6r:List (Int×Int):=(UA (QQ p i f) f).filter fun t=>FV p i f D x t.1
def SV:Bool:=(FW 0 (ZN (QS (QW f.body+2) (q6r p i f D x)).1 [0])).any (hitN p i f U o x)
end
section
variable {p:Pg}{i:Nat}{f:Pr}{D U:List (List Str)}{o:List Str}{x:Str}
def nR(p:Pg)(i:Nat)(f:Pr)(D:List (List Str))(x:Str)(a b:Int):Prop:=FV p i f D x a=true/\(a,b)∈UA (QQ p i f) f
def BD(h:QE p=true)(q:p.A[i]?=some f):SV p i f D U o x=true ↔ ∃a,Rch (nR p i f D x) 0 a/\hitN p i f U o x a=true:=by
 unfold SV;rw[x2e];refine exists_congr fun a=>and_congr_left fun _=>?_;rw[Ue (by omega)];have e:∀a b,((a,b)∈q6r p i f D x/\ZK (QW f.body+2) b=true)↔nR p i f D x a b:=fun a b=>by
  unfold q6r nR;rw[x1s];constructor
  .exact fun k=>⟨k.1.2,k.1.1⟩
  .intro k;have m:=(HY h q _ k.2).2;exact⟨⟨k.2,k.1⟩,by unfold ZK;simp;omega⟩
 exact⟨fun k=>k.mono fun a b m=>(e a b).1 m,fun k=>k.mono fun a b m=>(e a b).2 m⟩
def Lv(h:QE p=true)(t:p.A[i]?=some f){S:Int->Prop}(m:S 0)(q:∀a,S a->hitN p i f U o x a=false)(r:∀a b,S a->nR p i f D x a b->S b):SV p i f D U o x=false:=by
 cases u:SV p i f D U o x with
 |false=>rfl
 | true=>
   obtain⟨a,s,k⟩:=(BD h t).1 u;rw[q a (Rch.closed r m s)]at k;cases k
structure NedI(p:Pg)(i:Nat)(f:Pr)(D U:List (List Str))(o:List Str)(x:Str)(n:Nat)(seen:List Bool)(todo:List Int):Prop where
 len:seen.length=n
 rng:∀a∈todo,0<=a/\a<(n:Int)
 way:∀a:Int,(a=0\/seen.getD a.toNat false=true/\0<=a)->Rch (nR p i f D x) 0 a
 td:∀a∈todo,a=0\/seen.getD a.toNat false=true/\0<=a
 done:∀a:Int,(a=0\/seen.getD a.toNat false=true/\0<=a)->a∉todo->hitN p i f U o x a=false/\∀b,nR p i f D x a b->seen.getD b.toNat false=true
structure NedJ(p:Pg)(i:Nat)(f:Pr)(D U:List (List Str))(o:List Str)(x:Str)(n:Nat)(a:Int)(k:Nat)(seen:List Bool)(todo:List Int):Prop where
 len:seen.length=n
 rng:∀a∈todo,0<=a/\a<(n:Int)
 way:∀a:Int,(a=0\/seen.getD a.toNat false=true/\0<=a)->Rch (nR p i f D x) 0 a
 td:∀a∈todo,a=0\/seen.getD a.toNat false=true/\0<=a
 me:Rch (nR p i f D x) 0 a
 done:∀b:Int,(b=0\/seen.getD b.toNat false=true/\0<=b)->b∉todo->b≠a->hitN p i f U o x b=false/\∀c,nR p i f D x b c->seen.getD c.toNat false=true
 row:∀c∈((netR p i f).getD a.toNat []).take k,seen.getD c.toNat false=true
def q2j{k:Nat}(h:(l.set k true).getD j false=true):j=k\/l.getD j false=true:=by
 rcases Nat.decEq j k with m|rfl
 .right
  rwa[x0y,x2i (x4g m),<-x0y]at h
 .exact .inl rfl
def Me{k:Nat}(h:l.getD j false=true):(l.set k true).getD j false=true:=by
 rcases Nat.decEq j k with q|rfl
 .rwa [x0y,x2i (x4g q),<-x0y]
 .have r:j<l.length:=by
   rcases x0t j l.length with m|m
   .exact m
   .rw [x0y,x2f m]at h;cases h
  rw[x0y,x2p r];rfl
def OC{k:Nat}(h:k<l.length):(l.set k true).getD k false=true:=by
 rw[x0y,x2p h];rfl
variable {n:Nat}{seen:List Bool}{todo:List Int}{a:Int}
theorem NedI.start(n:Nat)(r:0<n):NedI p i f D U o x n (List.replicate n false) [0]:=by
 have q:∀k:Nat,(List.replicate n false).getD k false=true->False:=fun k h=>by
  rw[x0y,x1b]at h;split at h<;>cases h
 refine⟨x2d,fun a m=>by rw[x0b.1 m];omega,fun a m=>?_,fun a m=>.inl (x0b.1 m),fun a m r=>?_⟩
 .rcases m with rfl|⟨h,_⟩
  .exact .refl
  .exact (q _ h).elim
 .rcases m with rfl|⟨h,_⟩
  .exact absurd (x0b.2 rfl) r
  .exact (q _ h).elim
theorem NedI.stop(h:QE p=true)(t:p.A[i]?=some f)(q:NedI p i f D U o x n seen []):SV p i f D U o x=false:=by
 refine Lv h t (S:=fun a=>a=0\/seen.getD a.toNat false=true/\0<=a) (.inl rfl) (fun a m=>(q.done a m (by simp)).1) fun a b m r=>?_;have u:=(q.done a m (by simp)).2 b r;have v:=(HY h t _ r.2).2;exact .inr ⟨u,v.1⟩
theorem NedI.skip(m:NedI p i f D U o x n seen (todo++[a]))(v:hitN p i f U o x a=false)(t:FV p i f D x a=false):NedI p i f D U o x n seen todo:=by
 refine⟨m.len,fun b q=>m.rng b (x2x _ q),m.way,fun b q=>m.td b (x2x _ q),fun b q y=>?_⟩;by_cases u:b=a
 .subst u;exact⟨v,fun c w=>by rw[w.1]at t;cases t⟩
 .exact m.done b q fun r=>(x0r.1 r).elim y fun r=>u (x0b.1 r)
theorem NedI.open(m:NedI p i f D U o x n seen (todo++[a])):NedJ p i f D U o x n a 0 seen todo:=
 ⟨m.len,fun b q=>m.rng b (x2x _ q),m.way,fun b q=>m.td b (x2x _ q),m.way a (m.td a (x2r _ (x0b.2 rfl))),
   fun b q v u=>m.done b q fun r=>(x0r.1 r).elim v fun r=>u (x0b.1 r),fun c t=>by rw[List.take_zero]at t;cases t⟩
theorem NedJ.shut(h:QE p=true)(u:p.A[i]?=some f){k:Nat}(m:NedJ p i f D U o x n a k seen todo)(y:((netR p i f).getD a.toNat []).length<=k)(v:hitN p i f U o x a=false):NedI p i f D U o x n seen todo:=by
 refine⟨m.len,m.rng,m.way,m.td,fun b w z=>?_⟩;by_cases r:b=a
 .subst r;refine⟨v,fun c q=>m.row c ?_⟩;rw[x1w y];exact(Yk fun t e=>(HY h u t e).1).2 ⟨(b,c),q.2,by have:=(HY h u _ q.2).1;simp only at this⊢;omega,rfl⟩
 .exact m.done b w z r
theorem NedJ.old{k:Nat}(m:NedJ p i f D U o x n a k seen todo)(t:k<((netR p i f).getD a.toNat []).length)(u:seen.getD (((netR p i f).getD a.toNat [])[k]).toNat false=true):NedJ p i f D U o x n a (k+1) seen todo:=by
 refine⟨m.len,m.rng,m.way,m.td,m.me,m.done,fun c r=>?_⟩;rcases(HU t).1 r with q|rfl
 .exact m.row c q
 .exact u
theorem NedJ.new{k:Nat}(r:NedJ p i f D U o x n a k seen todo)(C:k<((netR p i f).getD a.toNat []).length){c:Int}(g:c=((netR p i f).getD a.toNat [])[k])(z:0<=c/\c<(n:Int))(e:nR p i f D x a c):NedJ p i f D U o x n a (k+1) (seen.set c.toNat true) (todo++[c]):=by
 have w:c.toNat<seen.length:=by rw[r.len];omega
 have u:∀b:Int,(b=0\/(seen.set c.toNat true).getD b.toNat false=true/\0<=b)->b=c\/(b=0\/seen.getD b.toNat false=true/\0<=b):=fun b q=>by
  rcases q with m|⟨m,t⟩
  .exact .inr (.inl m)
  .rcases q2j m with v|v
   .exact .inl (by omega)
   .exact .inr (.inr ⟨v,t⟩)
 refine⟨by rw[x3g];exact r.len,fun b q=>?_,fun b q=>?_,fun b q=>?_,r.me,fun b q y B=>?_,fun b q=>?_⟩
 .rcases x0r.1 q with m|m
  .exact r.rng b m
  .rw [x0b.1 m];exact z
 .rcases u b q with rfl|m
  .exact .tail r.me e
  .exact r.way b m
 .rcases x0r.1 q with m|m
  .rcases r.td b m with t|t
   .exact .inl t
   .exact .inr ⟨Me t.1,t.2⟩
  .rw [x0b.1 m];exact .inr ⟨OC w,z.1⟩
 .rcases u b q with rfl|m
  .exact absurd (x2r _ (x0b.2 rfl)) y
  .obtain ⟨t,v⟩:=r.done b m (fun h=>y (x2x _ h)) B;exact⟨t,fun d A=>Me (v d A)⟩
 .rcases (HU C).1 q with m|m
  .exact Me (r.row b m)
  .rw [m,<-g];exact OC w
end
def RQ(p:Pg)(i:Nat)(f:Pr)(D U:List (List Str))(o:List Str):List Str:=(p.D++[GP]).filter (SV p i f D U o)
def fzL{N:Nat}{a b c d e:AV}{L:List Str}{n:Nat}(m:n=(L.map AV.str).length):
  Le N ⟨[(0,.p a),(1,.p b),(5,.p .nils),(6,.p c),(27,.hd 0 0 n),(28,.p d),(29,.p e)],[(0,.own 9 1 (L.map .str))]⟩ ⟨[(0,.p a),(1,.p b),(5,.hd 0 0 0),(6,.p c),(27,.p (eStrs L)),(28,.p d),(29,.p e)],[(0,.own 9 1 [])]⟩:=by
 subst m;obtain⟨s',rfl,h⟩:=Le.row (N:=N) (s:=⟨[(0,.p a),(1,.p b),(5,.p .nils),(6,.p c),(27,.hd 0 0 (L.map AV.str).length),(28,.p d),(29,.p e)],[(0,.own 9 1 (L.map .str))]⟩) (k:=0) (e:=9) (sz:=1) (es:=L.map .str) (zs:=[27]) rfl
  (K:=fun s=>s=⟨[(0,.p a),(1,.p b),(5,.p .nils),(6,.p c),(27,.p (eStrs L)),(28,.p d),(29,.p e)],[]⟩) ⟨rfl,rfl⟩
 exact h.trans (Le.mk [(0,.own 9 1 [])] (by simp[Chunk.new0];rfl) (by simp) (by simp) (.r (.r (.cons (.nil x0k) (.r (.r (.r (.r .nil))))))) (.new x0k .nil))
def Fv(b:Book)(p:Pg)(V:b.s=sheetOf p)(h:QE p=true)(i:Nat)(f:Pr)(m:p.A[i]?=some f)(Q:b.ways[i]?=some (QQ p i f))(o:List Str)(O:∀x,SpecP prog 171 [.ip b.cells,.int .i64 i,eMat (netR p i f),.str x] (fun r=>r=.bool (SV p i f b.G b.N o x))):SpecH prog 99 [.p (.ip b.cells),.p (.int .i64 i)] [] (fun r H=>OneRow (H4 (RQ p i f b.G b.N o)) False r H):=by
 refine sH Vd func99 rfl call99 ?_;conv=>whnf
 have F:b.s.p=p:=by rw[V];exact(QJ p).1
 have Z:=(XP h).1;have R:=He h m;have E:=R0 (QQ p i f) f (QW f.body+2) (q3v h m) (HY h m) (by omega);have z:SpecP prog 169 [.ip (QQ p i f).cells] (fun r=>r=eMat (netR p i f)):=E;have C:SpecH prog 170 ([eStrs p.D].map .p) [] (OneRow (H4 p.D) (p.D=[])):=WQ p.D (by omega);have I:(b.ways.map fun w=>AV.ip w.cells)[i]?=some (.ip (QQ p i f).cells):=by rw[x0d,Q];rfl
 generalize QQ p i f=w at*
 generalize netR p i f=net at*
 repeat' ((first|(refine IdxK.at (k:=i) rfl I rfl ?_)|refine cP z ?_);conv=>whnf)
 obtain⟨L,B⟩ : ∃L,L=p.D++[GP]:=⟨_,rfl⟩;have M:L.length<=17:=by rw[B,x0g];simp;omega
 have c:RQ p i f b.G b.N o=L.filter (SV p i f b.G b.N o):=by unfold RQ;rw[B]
 rw[c];generalize SV p i f b.G b.N o=ned at*
 refine YT 0 rfl C (.cons (.p (Sub.of_eq (by rw[F]))) .nil) (fun d=>?_) (fun q e sz es P=>?_);rotate_left;obtain⟨rfl,rfl,rfl⟩:=P
 rotate_right
 all_goals
  conv=>whnf
  repeat' ((first|(refine iM fun _=>?_)|refine x0h rfl ?_|refine aD ?_|refine bP ?_|refine XQ (es:=[]) rfl (by simp) ?_|refine XQ (by simp) (by simp;omega) ?_);conv=>whnf)
 all_goals
  refine LoopK.inv QK (fun x:Nat×List Str=>⟨[(0,.p (.ip b.cells)),(1,.p (.int .i64 i)),(5,.hd 0 0 x.2.length),(6,.p (eMat net)),(27,.p (eStrs L)),(28,.p (.int .i64 (L.map AV.str).length)),(29,.p (.int .i64 x.1))],[(0,.own 9 1 (x.2.map .str))]⟩) (fun x=>x.1<=L.length/\x.2=(L.take x.1).filter ned/\x.2.length<=x.1) (fun x=>L.length-x.1) (0,[])
   (by first
     |exact Le.trans (Le.of_eq (by rw[B,d];rfl)) (fzL (L:=L) rfl)
     |exact Le.trans (Le.of_eq (by rw[B];simp only[x0c,x0g];rfl)) (fzL (L:=L) rfl)
     |trace_state) ⟨x0l _,by simp,by simp⟩ ?_
  rintro⟨j,u⟩ ⟨J,v,K⟩;simp only at J v K⊢;have T:(L.map AV.str).length=L.length:=x0j _;rcases x0t j L.length with m|m
  .have g:=x0a m;have y:=O L[j];have Y:(L.map AV.str)[j]?=some (.str L[j]):=by simp[m]
   cases t:ned L[j];all_goals
    rw[t]at y;conv=>whnf
    repeat' (first|((first|refine x0h rfl ?_|refine aD ?_|refine bP ?_|(refine iA fun _=>?_)|refine wI ?_|refine cP y ?_|refine XQ (by simp) (by rw[x0j];omega) ?_|refine Br.tt ?_|refine Br.ff ?_);conv=>whnf)|(apply bD<;>intro _<;>first|omega|conv=>whnf))
   all_goals first
    |exact⟨(j+1,u++[L[j]]),⟨m,by simp only;rw[g,x3k,x3d t,v];rfl,by simp;omega⟩,by simp only;omega,Le.of_eq (by simp only[x0g,x0c];rfl)⟩
    |exact⟨(j+1,u),⟨m,by simp only;rw[g,x3k,x3n (by rw[t];decide),v];simp,by simp only;omega⟩,by simp only;omega,Le.of_eq rfl⟩
  .rw [x1w m]at v;subst v;conv=>whnf
   repeat' (apply bD<;>intro _<;>first|omega|conv=>whnf)
   all_goals exact x4t _ (x1v _) (OneRow.str rfl)
def bkI(p:Pg)(I:List (List Str)):Book:=⟨sheetOf p,[],[],[],I,[]⟩
def usB(p:Pg)(I:List (List Str)):List (List Str):=(sheetOf p).l.map fun h=>WA (MY (bkI p I) h.s)
def niA(p:Pg)(D U O:List (List Str))(i:Nat):List Str:=WA (RQ p i (prA p i) D U (O.getD i []))
def niB(p:Pg)(D U O:List (List Str)):List (List Str):=(List.range p.A.length).map (niA p D U O)
def rdI(p:Pg)(D O I:List (List Str)):List (List Str):=niB p D (usB p I) O
def itI(p:Pg)(D O:List (List Str)):Nat->List (List Str)
 |0=>List.replicate p.A.length []
 |k+1=>rdI p D O (itI p D O k)
structure OkI(p:Pg)(I:List (List Str)):Prop where
 len:I.length=p.A.length
 rise:∀o∈I,o.Pairwise ltT
 sub:∀i,∀n∈I.getD i [],comB p n=true
theorem OkI.len25{p:Pg}{I:List (List Str)}(t:QE p=true)(h:OkI p I)(i:Nat):(I.getD i []).length<=25:=by
 have q:=HF (m:=GP::p.D) (VH (DX h.rise i)) fun n u=>by
  rcases BX.1 (h.sub i n u)with rfl|r
  .exact x0k
  .exact x0f _ r
 have v:=(XP t).1;rw[x1r]at q;omega
theorem OkI.use{p:Pg}{I:List (List Str)}(m:QE p=true)(h:OkI p I){b:Book}(w:b.s=sheetOf p)(r:b.ins=I){t:S}(u:t∈YQ p)(q:t.kind=4):UseOk b t:=by
 obtain⟨k,c,y,_⟩:=Hc m u q;have z:=(LF m u q).2;have e:b.s.p=p:=by rw[w];exact(QJ p).1
 have v:inAt b t=I.getD (caI p t).toNat []:=by unfold inAt;rw[e,r]
 refine⟨by rw[e];omega,by rw[e,r,h.len];omega,by omega,?_⟩;rw[v];have:=h.len25 m (caI p t).toNat;omega
def Ej{p:Pg}{I:List (List Str)}{b:Book}(k:b.s=sheetOf p)(h:b.ins=I)(t:S):MY b t=MY (bkI p I) t:=by
 unfold MY inAt bkI;rw[k,h]
def Ek{p:Pg}{I:List (List Str)}(h:leO I I'){t:S}{n:Str}(k:n∈MY (bkI p I) t):n∈MY (bkI p I') t:=by
 unfold MY at k⊢;split at k
 .rw [if_pos (by assumption)];rcases x0r.1 k with k|k
  .exact x2x _ k
  .exact x2r _ (h _ _ k)
 .rw [if_neg (by assumption)];exact k
def Ob{p:Pg}{I:List (List Str)}(h:leO I I'):leO (usB p I) (usB p I'):=fun i n q=>by
 obtain⟨r,k,m⟩:=JO.1 q;exact JO.2 ⟨r,k,XH.2 (Ek h (XH.1 m))⟩
def CQ{p:Pg}{i:Nat}{f:Pr}{U m:List (List Str)}{o:List Str}{x:Str}(h:leO U m){a:Int}(k:hitN p i f U o x a=true):hitN p i f m o x a=true:=by
 unfold hitN at k⊢;cases q:decide (a=(QW f.body+2:Nat)-1)with
 |true=>rw[q]at k;exact k
 | false=>
   rw[q]at k;cases r:decide (0<a)with
   | true=>
     rw[r]at k;exact ZA.2 (h _ _ (ZA.1 k))
   |false=>rw[r]at k;cases k
def Fm{p:Pg}{D U O:List (List Str)}{i:Nat}(m:i<p.A.length){n:Str}:n∈(niB p D U O).getD i []↔comB p n=true/\SV p i (prA p i) D U (O.getD i []) n=true:=by
 unfold niB;rw[JO];have e:n∈niA p D U O i↔comB p n=true/\SV p i (prA p i) D U (O.getD i []) n=true:=by
  unfold niA RQ;rw[XH,x1s,BX,x0r,x0b,or_comm]
 rw[<-e];constructor
 .rintro ⟨x,k,q⟩;rw[x4l m]at k;cases k;exact q
 .exact fun h=>⟨i,x4l m,h⟩
def CO{p:Pg}{D U O:List (List Str)}{i:Nat}(m:¬i<p.A.length){n:Str}(h:n∈(niB p D U O).getD i []):False:=by
 obtain⟨x,k,_⟩:=JO.1 h;rw[x2f (by simpa using m)]at k;cases k
def IA{p:Pg}(m:QE p=true){D O I:List (List Str)}(h:leO I I'):leO (rdI p D O I) (rdI p D O I'):=fun i n q=>by
 by_cases k:i<p.A.length
 .obtain ⟨r,s⟩:=(Fm k).1 q;obtain⟨a,t,u⟩:=(BD m (Yn k)).1 s;exact(Fm k).2 ⟨r,(BD m (Yn k)).2 ⟨a,t,CQ (Ob h) u⟩⟩
 .exact (CO k q).elim
theorem OU{p:Pg}(m:QE p=true)(D O:List (List Str)):∀k,leO (itI p D O k) (itI p D O (k+1))
 | 0=>fun i n h=>by
   unfold itI at h;rw[x0y,x1b]at h;split at h<;>cases h
 |k+1=>IA m (OU m D O k)
def OB(p:Pg)(D U O:List (List Str)):OkI p (niB p D U O):=by
 refine⟨by unfold niB;rw[x0j,x3j],fun o m=>?_,fun i n k=>?_⟩
 .obtain ⟨i,_,rfl⟩:=x0n.1 m;exact ZJ _
 .by_cases h:i<p.A.length
  .exact ((Fm h).1 k).1
  .exact (CO h k).elim
def Y1(p:Pg)(D O:List (List Str)):∀k,OkI p (itI p D O k)
 | 0=>by
   refine⟨by unfold itI;rw[x2d],fun o m=>?_,fun i n h=>?_⟩
   .rw [x3r m];exact .nil
   .unfold itI at h;rw[x0y,x1b]at h;split at h<;>cases h
 |k+1=>OB p _ _ _
theorem OkI.tot{p:Pg}{I:List (List Str)}(m:QE p=true)(h:OkI p I):Go.Ab.tot I<=400:=by
 have q:=Dj (O:=I) fun o t=>by
  obtain⟨i,r,rfl⟩:=x2m.1 t;have:=h.len25 m i
  rwa[x0y,x0u r]at this
 have u:=(XP m).2.1;rw[h.len]at q;omega
def RW{p:Pg}(r:QE p=true){D O:List (List Str)}{k:Nat}(h:itI p D O (k+1)≠itI p D O k):Go.Ab.tot (itI p D O k)<Go.Ab.tot (itI p D O (k+1)):=by
 obtain⟨s,q⟩:=AE (O:=itI p D O k) (O':=itI p D O (k+1)) (by rw[(Y1 p D O k).len,(Y1 p D O (k+1)).len]) (Y1 p D O k).rise (Y1 p D O (k+1)).rise (OU r D O k);rcases x0t (Go.Ab.tot (itI p D O k)) (Go.Ab.tot (itI p D O (k+1)))with m|m
 .exact m
 .exact absurd (q m).symm h
def wysB(p:Pg):List Way:=(List.range p.A.length).map fun i=>QQ p i (prA p i)
def Ds{p:Pg}{i:Nat}(h:i<p.A.length):(wysB p)[i]?=some (QQ p i (prA p i)):=by
 unfold wysB;rw[x0d,x4l h];rfl
structure BookR(p:Pg)(b:Book):Prop where
 s:b.s=sheetOf p
 ways:b.ways=wysB p
 P:∃k,b.P=itO p k
 fixO:rdO p b.P=b.P
 G:b.G=dfB p b.P
 ins:∃k,b.ins=itI p b.G b.P k
 fixI:rdI p b.G b.P b.ins=b.ins
 N:b.N=usB p b.ins
theorem Ff{p:Pg}{k:Nat}(h:rdO p (itO p k)=itO p k):∀m,itO p (k+m)=itO p k
 |0=>rfl
 | m+1=>by
   show rdO p (itO p (k+m))=_;rw[Ff h m,h]
theorem Fg{p:Pg}{D O:List (List Str)}{k:Nat}(h:rdI p D O (itI p D O k)=itI p D O k):∀m,itI p D O (k+m)=itI p D O k
 |0=>rfl
 | m+1=>by
   show rdI p D O (itI p D O (k+m))=_;rw[Fg h m,h]
theorem BookR.uniq{p:Pg}{b c:Book}(q:BookR p b)(r:BookR p c):b=c:=by
 obtain⟨k,v⟩:=q.P;obtain⟨m,t⟩:=r.P;have w:b.P=c.P:=by
  have y:=Ff (p:=p) (k:=k) (by rw[<-v];exact q.fixO) m;have z:=Ff (p:=p) (k:=m) (by rw[<-t];exact r.fixO) k;rw[v,t,<-y,<-z,x6r]
 have e:b.G=c.G:=by rw[q.G,r.G,w]
 obtain⟨k,v⟩:=q.ins;obtain⟨m,t⟩:=r.ins;have A:b.ins=c.ins:=by
  have g:=q.fixI;have u:=r.fixI;rw[<-w,<-e]at t u;have y:=Fg (p:=p) (D:=b.G) (O:=b.P) (k:=k) (by rw[<-v];exact g) m;have z:=Fg (p:=p) (D:=b.G) (O:=b.P) (k:=m) (by rw[<-t];exact u) k;rw[v,t,<-y,<-z,x6r]
 have C:b.N=c.N:=by rw[q.N,r.N,A]
 have B:b.s=c.s:=by rw[q.s,r.s]
 have E:b.ways=c.ways:=by rw[q.ways,r.ways]
 cases b;cases c;simp only at w e A C B E;subst w e A C B E;rfl
noncomputable def QG(p:Pg):Book:=@Classical.epsilon _ ⟨bkO p []⟩ (BookR p)
theorem BookR.eq{p:Pg}{b:Book}(h:BookR p b):b=QG p:=h.uniq (@Classical.epsilon_spec _ (BookR p) ⟨b,h⟩)
def q1f{p:Pg}(q:QE p=true):∃k,itO p (k+1)=itO p k:=by
 refine x3u fun h=>?_;have m:∀k,k<=Go.Ab.tot (itO p k):=fun k=>by
  induction k with
  |zero=>exact x0l _
  | succ k u=>
    have:=RV (p:=p) (k:=k) fun r=>h ⟨k,r⟩;omega
 have s:=(Y2 p 401).tot q;have t:=m 401;omega
def q1h{p:Pg}(m:QE p=true)(D O:List (List Str)):∃k,itI p D O (k+1)=itI p D O k:=by
 refine x3u fun h=>?_;have q:∀k,k<=Go.Ab.tot (itI p D O k):=fun k=>by
  induction k with
  |zero=>exact x0l _
  | succ k u=>
    have:=RW m (p:=p) (D:=D) (O:=O) (k:=k) fun r=>h ⟨k,r⟩;omega
 have s:=(Y1 p D O 401).tot m;have t:=q 401;omega
def ZC{p:Pg}(q:QE p=true):BookR p (QG p):=by
 obtain⟨k,r⟩:=q1f q;obtain⟨m,s⟩:=q1h q (dfB p (itO p k)) (itO p k);have h:BookR p ⟨sheetOf p,wysB p,dfB p (itO p k),usB p (itI p (dfB p (itO p k)) (itO p k) m),itI p (dfB p (itO p k)) (itO p k) m,itO p k⟩:=⟨rfl,rfl,⟨k,rfl⟩,r,rfl,⟨m,rfl⟩,s,rfl⟩;rw[<-h.eq];exact h
def GS{p:Pg}(q:QE p=true):OkO p (QG p).P/\OkI p (QG p).ins:=by
 have h:=ZC q;obtain⟨k,r⟩:=h.P;obtain⟨m,s⟩:=h.ins;exact⟨r▸Y2 p k,s▸Y1 p _ _ m⟩
def Mi(p:Pg)(i:Nat)(f:Pr)(D:List (List Str))(I:List Str)(a:Nat):List Str:=
 if a=0 then WA (I++f.B.map Param.name)else if a=QW f.body+1 then []else bif (QQ p i f).live.getD a false then D.getD (QR p.A i+a-1) []else []
def Ea(p:Pg)(i:Nat)(f:Pr)(U:List (List Str))(O:List Str)(a:Nat):List Str:=
 if a=QW f.body+1 then WA (O++[retS])else if a=0 then []else bif (QQ p i f).live.getD a false then U.getD (QR p.A i+a-1) []else []
def R9(l:List Str)(h:l.length<=1000000):SpecH prog 170 ([eStrs l].map .p) [] (OneRow (H4 l) (l=[])):=WQ l h
def Nt(l:List Str)(h:l.length<=1000000):SpecH prog 94 [.hd 1000 0 l.length] [(1000,.own 9 1 (l.map .str))] (fun r H=>r=.hd 1000 0 (WA l).length/\H=[(1000,.own 9 1 ((WA l).map .str))]):=Ut l (by omega)
def Ub(b:Book)(p:Pg)(hp:b.s=sheetOf p)(h:QE p=true)(i:Nat)(f:Pr)(c:p.A[i]?=some f)(T:b.ways[i]?=some (QQ p i f))(I:List Str)(P:b.ins[i]?=some I)(Q:I.length<=1000)(hD:b.G.length=(sheetOf p).l.length)(a:Nat)(ha:a<QW f.body+2):SpecP prog 172 [.ip b.cells,.int .i64 i,.int .i64 a] (fun r=>r=eStrs (Mi p i f b.G I a)):=by
 refine sB X6 func172 rfl call172 ?_;conv=>whnf
 have E:b.s.p=p:=by rw[hp];exact(QJ p).1
 obtain⟨hsp,_,_,O,hs⟩:=QJ p;obtain⟨_,_,Y,_⟩:=hs i f c;have V:=(XP h).2.2;have hT:=q3v h c;have v:(b.s.p.A.map fun f=>AV.agg f.cells)[i]?=some (.agg f.cells):=by rw[E,x0d,c];rfl
 have t:(b.ways.map fun w=>AV.ip w.cells)[i]?=some (.ip (QQ p i f).cells):=by rw[x0d,T];rfl
 have F:(b.ins.map eStrs)[i]?=some (eStrs I):=by rw[x0d,P];rfl
 have u:=WG (QQ p i f) f hT.hj hT.hc (by have:=hT.hn2;have:=hT.hn;have:=hT.hw;omega) a (by omega);have d:=R9 I (by omega);have Z:(QQ p i f).live.length=QW f.body+2:=by show(JP _ (List.replicate (QW f.body+2) false)).length=_;rw[BM];simp
 have hwn:(QQ p i f).n=(QW f.body+2:Nat):=rfl;have J:((QQ p i f).live.map bv)[a]?=some (bv ((QQ p i f).live.getD a false)):=by
  rw[x0d,x0y,x0u (by omega)];rfl
 have z:f.B.length<=8:=((WS (QF h).1).pr f (x0i c)).1;unfold Mi;by_cases M:a=0
 .subst M;rw[if_pos rfl];repeat' (first|((first|(refine iM fun _=>?_)|refine dA ?_|refine x0h rfl ?_|refine aD ?_|refine aR ?_|refine bP ?_|(refine iA fun _=>?_)|refine IdxK.xs (by omega) ?_|refine QX (by omega) ?_|(refine ByteK.at (by omega) ?_)|refine wI ?_|(refine IdxK.at (k:=i) rfl v rfl ?_)|(refine IdxK.at (k:=i) rfl t rfl ?_)|(refine IdxK.at (k:=i) rfl F rfl ?_));conv=>whnf)|(apply bD<;>intro _<;>first|omega|conv=>whnf)|(apply bE<;>intro _<;>first|omega|conv=>whnf)|(apply bN<;>intro _<;>conv=>whnf)|(apply bB<;>intro _<;>conv=>whnf))
  have hpm:(f.B.map fun x=>AV.agg x.cells).length=f.B.length:=x0j _;refine YT 0 rfl d (.cons (.p (Sub.refl _)) .nil) (fun y=>?_) (fun q e sz es R=>?_);rotate_left;obtain⟨rfl,rfl,rfl⟩:=R
  rotate_right
  all_goals
   conv=>whnf
   repeat' (first|((first|(refine iM fun _=>?_)|refine dA ?_|refine x0h rfl ?_|refine aD ?_|refine aR ?_|refine bP ?_|(refine iA fun _=>?_)|refine IdxK.xs (by omega) ?_|refine QX (by omega) ?_|(refine ByteK.at (by omega) ?_)|refine wI ?_|(refine IdxK.at (k:=i) rfl v rfl ?_));conv=>whnf)|(apply bD<;>intro _<;>first|omega|conv=>whnf)|(apply bE<;>intro _<;>first|omega|conv=>whnf)|(apply bN<;>intro _<;>conv=>whnf)|(apply bB<;>intro _<;>conv=>whnf))
  all_goals
   refine LoopK.inv QK (fun k:Nat=>⟨[(8,.hd 0 0 (I++(f.B.take k).map Param.name).length),(40,.p (.sl (f.B.map fun a=>AV.agg a.cells))),(41,.p (.int .i64 (f.B.map fun a=>AV.agg a.cells).length)),(42,.p (.int .i64 k))],[(0,.own 9 1 ((I++(f.B.take k).map Param.name).map .str))]⟩) (fun k=>k<=f.B.length) (fun k=>f.B.length-k) 0
    (by first
      |exact Le.of_eq (by simp;rfl)
      | (rw[y]
         exact Le.mk [(0,.own 9 1 [])] (by simp[Chunk.new0];rfl) (by simp) (by simp) (.cons (.nil x0k) (.r (.r (.r .nil)))) (.new x0k .nil))
      |trace_state) (x0l _) ?_
   intro k hk;have hpl:f.B.length<=8:=z;have C:(I++(f.B.take k).map Param.name).length<=1100:=by rw[x0g,x0j,x1f];omega
   rcases x0t k f.B.length with m|m
   .have L:I++(f.B.take (k+1)).map Param.name=(I++(f.B.take k).map Param.name)++[f.B[k].name]:=by rw[x0a m,x0c,x1k];rfl
    generalize I++(f.B.take k).map Param.name=acc at*
    conv=>whnf
    repeat' (first|((first|(refine iM fun _=>?_)|refine dA ?_|refine x0h rfl ?_|refine aD ?_|refine aR ?_|refine bP ?_|(refine iA fun _=>?_)|refine IdxK.xs (by omega) ?_|refine QX (by omega) ?_|(refine ByteK.at (by omega) ?_)|refine wI ?_|refine XQ (by simp) (by rw[x0j];omega) ?_);conv=>whnf)|(apply bD<;>intro _<;>first|omega|conv=>whnf)|(apply bE<;>intro _<;>first|omega|conv=>whnf)|(apply bN<;>intro _<;>conv=>whnf)|(apply bB<;>intro _<;>conv=>whnf))
    all_goals first
     |exact⟨k+1,m,by omega,Le.of_eq (by rw[L];simp only[x0g,x0c];rfl)⟩
   .rw [x1w m]at C⊢;have g:=Nt (I++f.B.map Param.name) (by omega);generalize I++f.B.map Param.name=acc at*
    conv=>whnf
    repeat' (first|((first|(refine iM fun _=>?_)|refine dA ?_|refine x0h rfl ?_|refine aD ?_|refine aR ?_|refine bP ?_|(refine iA fun _=>?_)|refine IdxK.xs (by omega) ?_|refine QX (by omega) ?_|(refine ByteK.at (by omega) ?_)|refine wI ?_);conv=>whnf)|(apply bD<;>intro _<;>first|omega|conv=>whnf)|(apply bE<;>intro _<;>first|omega|conv=>whnf)|(apply bN<;>intro _<;>conv=>whnf)|(apply bB<;>intro _<;>conv=>whnf)|(refine CallK.heap [(1000,0)] 0 (by repeat' (first|exact x1m|refine x1x ?_ ?_|exact x1v _|exact x1d Sub.nils|exact x1d (Sub.tt rfl)|exact x1d (Sub.ff rfl)|exact x1d (Sub.int (by omega)))) (by refine x0e (j:=0) rfl rfl ?_ ?_;exact CSub.refl _;exact x1l) g rfl rfl ?_;rintro l' H' ⟨rfl,rfl⟩;conv=>whnf))
    all_goals first
     |exact⟨_,.hd rfl (by simp),rfl⟩
 .rw [if_neg M];by_cases N:a=QW f.body+1
  .rw [if_pos N];repeat' (first|((first|(refine iM fun _=>?_)|refine dA ?_|refine x0h rfl ?_|refine aD ?_|refine aR ?_|refine bP ?_|(refine iA fun _=>?_)|refine IdxK.xs (by omega) ?_|refine QX (by omega) ?_|(refine ByteK.at (by omega) ?_)|refine wI ?_|(refine IdxK.at (k:=i) rfl t rfl ?_));conv=>whnf)|(apply bD<;>intro _<;>first|omega|conv=>whnf)|(apply bE<;>intro _<;>first|omega|conv=>whnf)|(apply bN<;>intro _<;>conv=>whnf)|(apply bB<;>intro _<;>conv=>whnf))
   all_goals first
    |(exfalso;omega)
    |exact⟨_,.p Sub.nils,rfl⟩
  .rw [if_neg N];have K:QH (QQ p i f).p (QQ p i f).j (QQ p i f).n a=((QR p.A i+a:Nat):Int):=by
    show QH p i (QW f.body+2:Nat) a=_;unfold QH loI;rw[if_neg (by omega),if_neg (by omega)];omega
   rw[K]at u;have H:(b.G.map eStrs)[QR p.A i+a-1]?=some (eStrs (b.G.getD (QR p.A i+a-1) [])):=by
    rw[x0d,x0y,x0u (by omega)];rfl
   generalize(QQ p i f).live.getD a false=lv at*
   cases lv;all_goals
    repeat' (first|((first|(refine iM fun _=>?_)|refine dA ?_|refine x0h rfl ?_|refine aD ?_|refine aR ?_|refine bP ?_|(refine iA fun _=>?_)|refine IdxK.xs (by omega) ?_|refine QX (by omega) ?_|(refine ByteK.at (by omega) ?_)|refine wI ?_|(refine IdxK.at (k:=i) rfl t rfl ?_)|(refine IdxK.at (k:=a) rfl J rfl ?_)|refine cP u ?_|(refine IdxK.at (k:=QR p.A i+a-1) (by omega) H rfl ?_));conv=>whnf)|(apply bD<;>intro _<;>first|omega|conv=>whnf)|(apply bE<;>intro _<;>first|omega|conv=>whnf)|(apply bN<;>intro _<;>conv=>whnf)|(apply bB<;>intro _<;>conv=>whnf))
    all_goals first
     |(exfalso;omega)
     |contradiction
     |exact⟨_,.p Sub.nils,rfl⟩
     |exact⟨_,.p (Sub.refl _),rfl⟩
def Un(b:Book)(p:Pg)(hp:b.s=sheetOf p)(h:QE p=true)(i:Nat)(f:Pr)(E:p.A[i]?=some f)(K:b.ways[i]?=some (QQ p i f))(O:List Str)(G:b.P[i]?=some O)(H:O.length<=900000)(Y:b.N.length=(sheetOf p).l.length)(a:Nat)(Z:a<QW f.body+2):SpecP prog 112 [.ip b.cells,.int .i64 i,.int .i64 a] (fun r=>r=eStrs (Ea p i f b.N O a)):=by
 refine sB X7 func112 rfl call112 ?_;conv=>whnf
 obtain⟨T,_,_,F,R⟩:=QJ p;obtain⟨_,_,M,_⟩:=R i f E;have L:=(XP h).2.2;have hT:=q3v h E;have m:(b.ways.map fun w=>AV.ip w.cells)[i]?=some (.ip (QQ p i f).cells):=by rw[x0d,K];rfl
 have z:(b.P.map eStrs)[i]?=some (eStrs O):=by rw[x0d,G];rfl
 have t:=WG (QQ p i f) f hT.hj hT.hc (by have:=hT.hn2;have:=hT.hn;have:=hT.hw;omega) a (by omega);have y:=R9 O (by omega);have Q:(QQ p i f).live.length=QW f.body+2:=by show(JP _ (List.replicate (QW f.body+2) false)).length=_;rw[BM];simp
 have V:(QQ p i f).n=(QW f.body+2:Nat):=rfl;have d:((QQ p i f).live.map bv)[a]?=some (bv ((QQ p i f).live.getD a false)):=by
  rw[x0d,x0y,x0u (by omega)];rfl
 unfold Ea;by_cases B:a=QW f.body+1
 .rw [if_pos B];have u:=Nt (O++[retS]) (by simp;omega);have I:(O.map AV.str).length=O.length:=x0j _;repeat' (first|((first|(refine iM fun _=>?_)|refine dA ?_|refine x0h rfl ?_|refine aD ?_|refine aR ?_|refine bP ?_|(refine iA fun _=>?_)|refine IdxK.xs (by omega) ?_|refine QX (by omega) ?_|(refine ByteK.at (by omega) ?_)|refine wI ?_|(refine IdxK.at (k:=i) rfl m rfl ?_)|(refine IdxK.at (k:=i) rfl z rfl ?_));conv=>whnf)|(apply bD<;>intro _<;>first|omega|conv=>whnf)|(apply bE<;>intro _<;>first|omega|conv=>whnf)|(apply bN<;>intro _<;>conv=>whnf)|(apply bB<;>intro _<;>conv=>whnf))
  all_goals try (exfalso;omega)
  refine YT 0 rfl y (.cons (.p (Sub.refl _)) .nil) (fun v=>?_) (fun q e sz es J=>?_);rotate_left;obtain⟨rfl,rfl,rfl⟩:=J
  rotate_right
  subst v;all_goals
   conv=>whnf
   repeat' (first|((first|(refine iM fun _=>?_)|refine dA ?_|refine x0h rfl ?_|refine aD ?_|refine aR ?_|refine bP ?_|(refine iA fun _=>?_)|refine IdxK.xs (by omega) ?_|refine QX (by omega) ?_|(refine ByteK.at (by omega) ?_)|refine wI ?_|refine XQ (es:=[]) rfl (by simp) ?_|refine XQ (by simp) (by simp;omega) ?_);conv=>whnf)|(apply bD<;>intro _<;>first|omega|conv=>whnf)|(apply bE<;>intro _<;>first|omega|conv=>whnf)|(apply bN<;>intro _<;>conv=>whnf)|(apply bB<;>intro _<;>conv=>whnf)|(refine CallK.heap [(1000,0)] 0 (by repeat' (first|exact x1m|refine x1x ?_ ?_|exact x1v _|exact x1d Sub.nils|exact x1d (Sub.tt rfl)|exact x1d (Sub.ff rfl)|exact x1d (Sub.int (by omega)))) (by refine x0e (j:=0) rfl rfl ?_ ?_;exact CSub.refl _;exact x1l) u rfl rfl ?_;rintro l' H' ⟨rfl,rfl⟩;conv=>whnf)|(refine CallK.heap [(1000,0)] 0 (x1x (x5n (by simp;rfl)) x1m) (x0e (j:=0) rfl rfl (CSub.of_eq (by simp;rfl)) x1l) u rfl rfl ?_;rintro l' H' ⟨rfl,rfl⟩;conv=>whnf))
   all_goals first
    |exact⟨_,.hd rfl (by simp),rfl⟩
 .rw [if_neg B];by_cases C:a=0
  .rw [if_pos C];repeat' (first|((first|(refine iM fun _=>?_)|refine dA ?_|refine x0h rfl ?_|refine aD ?_|refine aR ?_|refine bP ?_|(refine iA fun _=>?_)|refine IdxK.xs (by omega) ?_|refine QX (by omega) ?_|(refine ByteK.at (by omega) ?_)|refine wI ?_|(refine IdxK.at (k:=i) rfl m rfl ?_));conv=>whnf)|(apply bD<;>intro _<;>first|omega|conv=>whnf)|(apply bE<;>intro _<;>first|omega|conv=>whnf)|(apply bN<;>intro _<;>conv=>whnf)|(apply bB<;>intro _<;>conv=>whnf))
   all_goals first
    |(exfalso;omega)
    |exact⟨_,.p Sub.nils,rfl⟩
  .rw [if_neg C];have g:QH (QQ p i f).p (QQ p i f).j (QQ p i f).n a=((QR p.A i+a:Nat):Int):=by
    show QH p i (QW f.body+2:Nat) a=_;unfold QH loI;rw[if_neg (by omega),if_neg (by omega)];omega
   rw[g]at t;have c:(b.N.map eStrs)[QR p.A i+a-1]?=some (eStrs (b.N.getD (QR p.A i+a-1) [])):=by
    rw[x0d,x0y,x0u (by omega)];rfl
   generalize(QQ p i f).live.getD a false=lv at*
   cases lv;all_goals
    repeat' (first|((first|(refine iM fun _=>?_)|refine dA ?_|refine x0h rfl ?_|refine aD ?_|refine aR ?_|refine bP ?_|(refine iA fun _=>?_)|refine IdxK.xs (by omega) ?_|refine QX (by omega) ?_|(refine ByteK.at (by omega) ?_)|refine wI ?_|(refine IdxK.at (k:=i) rfl m rfl ?_)|(refine IdxK.at (k:=a) rfl d rfl ?_)|refine cP t ?_|(refine IdxK.at (k:=QR p.A i+a-1) (by omega) c rfl ?_));conv=>whnf)|(apply bD<;>intro _<;>first|omega|conv=>whnf)|(apply bE<;>intro _<;>first|omega|conv=>whnf)|(apply bN<;>intro _<;>conv=>whnf)|(apply bB<;>intro _<;>conv=>whnf))
    all_goals first
     |(exfalso;omega)
     |contradiction
     |exact⟨_,.p Sub.nils,rfl⟩
     |exact⟨_,.p (Sub.refl _),rfl⟩
end Go.Ab
