/- flat: where a statement goes on; a procedure's steps. -/
import Derived.Test.YtgpjfppgphaobaaGreatEndA12
set_option linter.all false
set_option maxRecDepth 100000
set_option maxHeartbeats 16000000
namespace Go.Ab
open Go.Proofs.Tryz
open Go.Proofs
variable {L:List Str}{N:List (List Int)}{P:Program}{f:Pr}{it:Item}{m:Nat}{s:St}
def GG(h:Sheet)(f:Pr)(it:Item):List Int:=
 if it.s.kind=5 then [Sj it.s.V it.next,Sj it.s.Z it.next]
 else if it.s.kind=6 then [Sj it.s.V it.s.id,it.next]
 else if it.s.kind=7 then [((h.l[(it.loop-1).toNat]?).map Item.next).getD 0]
 else if it.s.kind=8 then [it.loop]
 else if it.s.kind=9 then [-1]
 else if it.s.kind=10 then [(atB f it.s.name).1]
 else [it.next]
def Kl(l:List S)(o:Int):aP 241 [eSs l,.int .i64 o] (.int .i64 (Sj l o)):=by
 unfold eSs;rw[S.avs_eq];exact CO l o
theorem Uq(p:Pg)(j:Nat)(f:Pr)(v:p.A[j]?=some f)(t:cntP p.A<=1000)(it:Item)(w:it.C=j)(q:it.s.kind=7->1<=it.loop/\it.loop<=(sheetOf p).l.length):aP 183 [.ip (sheetOf p).cells,.agg it.cells] (XQ (GG (sheetOf p) f it)):=by
 refine sC Qr func183 ?_;conv=>whnf
 have r:=(QU p).2.2.2.1;have x:it.s.kind=7->∃u,(sheetOf p).l[(it.loop-1).toNat]?=some u/\((sheetOf p).l.map fun i=>AV.agg i.cells)[(it.loop-1).toNat]?=some (.agg u.cells):=fun h=>by
  have:=q h;have k:(it.loop-1).toNat<(sheetOf p).l.length:=by omega
  exact⟨_,x3e k,by rw[x4q,x3e k];rfl⟩
 repeat' ((first|refine dA ?_|refine x4e rfl ?_|refine aD ?_|refine bP ?_|refine wI ?_|refine cP (LJ p j f v t it.s.name) ?_ (ha:=.cons (Sub.refl _) (.cons (Sub.int w) (.cons (Sub.refl _) .nil)))|refine BsK.pureL rfl rfl ?_|refine cP (Kl it.s.V _) ?_|refine cP (Kl it.s.Z _) ?_|(obtain⟨u,n,o⟩:=x (by assumption);refine IdxK.at (by have:=q (by assumption);omega) o rfl ?_)|(apply bD<;>intro _<;>try omega))<;>conv=>whnf)
 all_goals first
  |exact RetK.p (by unfold GG;rw[if_neg (by assumption),if_neg (by assumption),if_pos (by assumption),n];rfl)
  |exact RetK.p (by unfold GG;rw[if_pos (by assumption)];rfl)
  |exact RetK.p (by unfold GG;rw[if_neg (by assumption),if_pos (by assumption)];rfl)
  |exact RetK.p (by unfold GG;rw[if_neg (by assumption),if_neg (by assumption),if_neg (by assumption),if_pos (by assumption)];rfl)
  |exact RetK.p (by unfold GG;rw[if_neg (by assumption),if_neg (by assumption),if_neg (by assumption),if_neg (by assumption),if_pos (by assumption)];rfl)
  |exact RetK.p (by unfold GG;rw[if_neg (by assumption),if_neg (by assumption),if_neg (by assumption),if_neg (by assumption),if_neg (by assumption),if_pos (by assumption)];rfl)
  |exact RetK.p (by unfold GG;rw[if_neg (by assumption),if_neg (by assumption),if_neg (by assumption),if_neg (by assumption),if_neg (by assumption),if_neg (by assumption)];rfl)
def QN(p:Pg)(j:Nat)(f:Pr):List Step:=
 ⟨0,if QS p.A j<QS p.A j+QJ f.body then((QS p.A j:Nat)+1:Int)else -1,1⟩::(itL j 0 (-1) 0 (QS p.A j) f.body).flatMap fun it=>(GG (sheetOf p) f it).map (Step.mk it.s.id · 1)
def itsOf(p:Pg)(j:Nat)(f:Pr):List Item:=itL j 0 (-1) 0 (QS p.A j) f.body
theorem W9(p:Pg)(j:Nat)(f:Pr)(e:p.A[j]?=some f)(E:cntP p.A<=1000)(G:∀it∈itsOf p j f,it.s.kind=7->1<=it.loop/\it.loop<=(sheetOf p).l.length)(y:∀s∈QN p j f,okSt s):aP 139 [.ip (sheetOf p).cells,.int .i64 j] (eSteps (VY (QN p j f))):=by
 refine sC MU func139 ?_;conv=>whnf
 obtain⟨_,_,_,H,D⟩:=QU p;obtain⟨g,c,R,_⟩:=D j f e;repeat' ((first|(refine iM fun _=>?_)|refine x4e rfl ?_|refine aD ?_|refine cP (W8 (sheetOf p) j _ _ g c) ?_|refine cP (Hh p e E) ?_|refine x9p (fun x T=>by rcases x4w.1 T with rfl;rfl) rfl ?_)<;>conv=>whnf)
 have r:QN p j f=⟨0,if QS p.A j<QS p.A j+QJ f.body then((QS p.A j:Nat)+1:Int)else -1,1⟩::(itsOf p j f).flatMap fun it=>(GG (sheetOf p) f it).map (Step.mk it.s.id · 1):=rfl;have o:itL j 0 (-1) 0 (QS p.A j) f.body=itsOf p j f:=rfl;have z:∀it∈itsOf p j f,it.C=j:=fun it h=>KV _ _ _ _ _ _ it h;have d:(itsOf p j f).length<=1000:=by rw[<-o,XS];omega
 rw[o];generalize itsOf p j f=its at G r z d⊢;have Q:=WZ its;refine lI (fun i:Nat×List Step=>⟨[(0,.p (.ip (sheetOf p).cells)),(5,.hd 0 0 i.2.length),(17,.p (ZE its)),(18,.p (.int .i64 (its.map fun i=>AV.agg i.cells).length)),(19,.j i.1)],[(0,.own 225 3 (avS i.2))]⟩) (fun i=>i.1<=its.length/\i.2.length<=1+2*i.1/\i.2++(its.drop i.1).flatMap (fun it=>(GG (sheetOf p) f it).map (Step.mk it.s.id · 1))=QN p j f) (fun i=>its.length-i.1) (0,[⟨0,if QS p.A j<QS p.A j+QJ f.body then((QS p.A j:Nat)+1:Int)else -1,1⟩]) ⟨x4j _,by simp,by rw[r];rfl⟩ ?_;rintro⟨m,k⟩ ⟨I,J,t⟩;simp only at I J t⊢;rcases x4f m its.length with a|a;rotate_left 1
 ·have v:k=QN p j f:=by
   rw[x4l a]at t;simpa using t
  rw[<-v]at y⊢;conv=>whnf
  repeat' ((first|(apply bD<;>intro _<;>try omega)|(refine cH rH1 0 (Ux k y (by omega)) ?_))<;>conv=>whnf)
  exact⟨_,.hd rfl (by simp[avS]),rfl⟩
 have b:(GG (sheetOf p) f its[m]).length<=2:=by unfold GG;split<;>(try split)<;>(try split)<;>(try split)<;>(try split)<;>(try split)<;>simp
 rw[YB a]at t;have w:=x4h a;conv=>whnf
 repeat' ((first|(refine gX ?_;intros)|refine cP (Uq p j f e E its[m] (z _ w) (G _ w)) ?_|(apply bD<;>intro _<;>try omega))<;>conv=>whnf)
 generalize O:GG (sheetOf p) f its[m]=gs at b t⊢;have F:(gs.map (AV.int .i64)).length=gs.length:=x3a _;refine lI (fun i:Nat×List Step=>⟨[(0,.p (.ip (sheetOf p).cells)),(5,.hd 0 0 i.2.length),(7,.p (.ip its[m].cells)),(17,.p (ZE its)),(18,.p (.int .i64 (its.map fun i=>AV.agg i.cells).length)),(19,.j m),(25,.p (XQ gs)),(26,.p (.int .i64 (gs.map (AV.int .i64)).length)),(27,.j i.1)],[(0,.own 225 3 (avS i.2))]⟩) (fun i=>i.1<=gs.length/\i.2.length<=k.length+i.1/\i.2++((gs.drop i.1).map (Step.mk its[m].s.id · 1)++(its.drop (m+1)).flatMap (fun it=>(GG (sheetOf p) f it).map (Step.mk it.s.id · 1)))=QN p j f) (fun i=>gs.length-i.1) (0,k) ⟨x4j _,by simp,t⟩ ?_;rintro⟨q,n⟩ ⟨K,M,u⟩;simp only at K M u⊢;rcases x4f q gs.length with B|B;rotate_left 1
 ·rw[x4l B]at u;conv=>whnf
  repeat' ((first|refine wI ?_|(apply bD<;>intro _<;>try omega))<;>conv=>whnf)
  exact nX (m+1,n) ⟨by simp only;omega,by simp only;omega,by simpa using u⟩
 rw[x5j B,x4o]at u;conv=>whnf
 repeat' ((first|(refine gX ?_;intros)|refine pA 1 24 (by simp[avS]) ?_|(apply bD<;>intro _<;>try omega))<;>conv=>whnf)
 exact⟨(q+1,n++[⟨its[m].s.id,gs[q],1⟩]),⟨by simp only;omega,by simp;omega,by simpa using u⟩,by simp only;omega,Le.of_eq (by simp only[avS,x3o,x4d];rfl)⟩
def bv:Bool->AV
 |true=>.tt
 |false=>.ff
structure Way where
 p:Pg
 j:Nat
 n:Int
 real:List Step
 live:List Bool
def Way.cells(w:Way):List AV:=[.ip (sheetOf w.p).cells,.int .i64 w.j,.int .i64 w.n,eSteps w.real,.sl (w.live.map bv)]
def q1d(p:Pg)(j:Nat)(n:Int)(h:AV)(i:List AV):Heap:=[(1000,.obj 103 [.p (.ip (sheetOf p).cells),.p (.int .i64 j),.p (.int .i64 n),.p h,.hd 2000 0 i.length]),(2000,.own 4 1 i)]
def JN(h i n x:Int):Int:=if x=0 then 0 else if x = -1 then n-1 else if h<=x/\x<i then x-h+1 else -1
def loI(p:Pg)(j:Nat):Int:=(QS p.A j:Nat)+1
def hiI(p:Pg)(j:Nat)(f:Pr):Int:=(QS p.A j+QJ f.body:Nat)+1
theorem Qd(w:Way)(f:Pr)(o:w.p.A[w.j]?=some f)(r:cntP w.p.A<=1000)(t:0<=w.n/\w.n<=5000)(x:Int):aP 167 [.ip w.cells,.int .i64 x] (.int .i64 (JN (loI w.p w.j) (hiI w.p w.j f) w.n x)):=by
 refine sC FH func167 ?_;conv=>whnf
 obtain⟨_,_,_,l,k⟩:=QU w.p;obtain⟨i,h,q,_⟩:=k w.j f o;repeat' ((first|refine dA ?_|refine wI ?_|refine IdxK.at rfl (UG i) rfl ?_|refine IdxK.at rfl (UG h) rfl ?_|(apply bD<;>intro _<;>try omega))<;>conv=>whnf)
 all_goals exact RetK.int (by unfold JN loI hiI;(repeat' split)<;>omega)
theorem Dw(p:Pg)(j:Nat)(f:Pr)(n:Int)(h:AV)(q:List AV)(r:p.A[j]?=some f)(u:cntP p.A<=1000)(v:0<=n/\n<=5000)(x:Int):
  aH 167 [.ptr 1000 0,.j x] (q1d p j n h q) (.p (.int .i64 (JN (loI p j) (hiI p j f) n x))) (q1d p j n h q):=by
 obtain⟨_,_,_,o,l⟩:=QU p;obtain⟨k,i,t,_⟩:=l j f r;refine sK FH func167 ?_;conv=>whnf
 repeat' ((first|refine dA ?_|refine wI ?_|refine IdxK.at rfl (UG k) rfl ?_|refine IdxK.at rfl (UG i) rfl ?_|(apply bD<;>intro _<;>try omega))<;>conv=>whnf)
 all_goals exact⟨_,x9x (Sub.int (by unfold JN loI hiI;(repeat' split)<;>omega)),rfl,rfl⟩
def avP(l:List (Int×Int)):List AV:=l.map fun x=>.agg [.int .i64 x.1,.int .i64 x.2]
def ixP(p:Pg)(j:Nat)(f:Pr)(n:Int)(s:Step):Int×Int:=(JN (loI p j) (hiI p j f) n s.src,JN (loI p j) (hiI p j f) n s.dst)
theorem WC(w:Way)(f:Pr)(v:w.p.A[w.j]?=some f)(u:cntP w.p.A<=1000)(x:0<=w.n/\w.n<=5000)(l:List Step)(r:l.length<=1000000):aP 125 [.ip w.cells,eSteps l] (.sl (avP (l.map (ixP w.p w.j f w.n)))):=by
 refine sC FF func125 ?_;conv=>whnf
 repeat' ((refine iM fun _=>?_)<;>conv=>whnf)
 have y:(l.map fun s=>AV.agg s.cells).length=l.length:=x3a _;refine lJ (fun i:Nat×List (Int×Int)=>⟨[(0,.p (.ip w.cells)),(5,.hd 0 0 i.2.length),(8,.p (eSteps l)),(9,.p (.int .i64 (l.map fun s=>AV.agg s.cells).length)),(10,.j i.1)],[(0,.own 136 2 (avP i.2))]⟩) (fun i=>i.1<=l.length/\i.2=(l.take i.1).map (ixP w.p w.j f w.n)) (fun i=>l.length-i.1) (0,[]) (lM [(0,.own 136 2 [])]) ⟨x4j _,rfl⟩ ?_;rintro⟨m,h⟩ ⟨t,k⟩;simp only at t k⊢;rcases x4f m l.length with o|o;rotate_left 1
 ·rw[x4b o]at k;subst k;conv=>whnf
  repeat' (apply bD<;>intro _<;>first|omega|conv=>whnf)
  exact⟨_,.hd rfl (by simp[avP]),rfl⟩
 have q:h.length=m:=by rw[k];simp;omega
 conv=>whnf
 repeat' ((first|refine dA ?_|(refine gX ?_;intros)|refine cP (Qd w f v u x _) ?_|refine pA 1 16 (by simp[avP]) ?_|(apply bD<;>intro _<;>try omega))<;>conv=>whnf)
 exact⟨(m+1,h++[ixP w.p w.j f w.n l[m]]),⟨by simp only;omega,by simp only;rw[k,x4k o,x4d];rfl⟩,by simp only;omega,Le.of_eq (by simp only[avP,x3o,x4d];rfl)⟩
def Zx{f:FuncId}{args:List LV}{H n:Heap}{e:TypeId}{sz:Nat}{Q:List AV->Prop}(z:Q8 0 n fun H=>H=n)(h:SpecH P f args H (fun r H'=>∃es,r=.hd 0 0 es.length/\H'=(0,.own e sz es)::n/\Q es)):SpecH P f args H (fun r H'=>∃es,r=.p (.sl es)/\H'=n/\Q es):=by
 refine⟨h.go,fun σ β w a C D F=>(h.ok σ β w a C D F).mono fun M w' J=>?_⟩;obtain⟨l,u,σ',β',H',I,⟨es,rfl,rfl,G⟩,y,v,q⟩:=J;obtain⟨s',rfl,A⟩:=Le.row (N:=1) (s:=⟨[(0,.hd 0 0 es.length)],(0,.own e sz es)::n⟩) (k:=0) (e:=e) (sz:=sz) (es:=es) (zs:=[0]) rfl (K:=fun s=>s=⟨[(0,.p (.sl es))],n⟩) (by
  show LenK es.length es _;refine⟨rfl,?_⟩;show Q8 0 n fun H=>(⟨[(0,.p (.sl es))],H⟩:St)=⟨[(0,.p (.sl es))],n⟩;have key:∀{H1:Heap}{K b:Heap->Prop},(∀H,K H->b H)->Q8 0 H1 K->Q8 0 H1 b:=fun {H1}=>by
   induction H1 with
   |nil=>intro K b o h;exact o _ h
   | cons x r d=>
     intro K b o h;obtain⟨j,c⟩:=x;simp only[Q8]at h⊢;cases B:j==0 with
     | true=>
       simp only[B,x4s]at h⊢;exact d o h
     | false=>
       simp only[B,x5q]at h⊢;cases c with
       |obj e ls=>simp only[VU]at h⊢;exact d (fun H hH=>o _ hH) h
       |own e sz es=>exact d (fun H hH=>o _ hH) h
       |ext x=>exact d (fun H hH=>o _ hH) h
  exact key (fun H hH=>by rw[hH]) z)
 obtain⟨σ2,β2,t,g⟩:=A σ' β' {tmps:=#[u],defers:=[]} w' ⟨rfl,rfl,fun i=>by
  match i with
  |0=>simpa[getS]using y
  |i+1=>exact .p (by simpa[getS]using Rep.any _),v⟩
 exact⟨.p (.sl es),u,σ2,β2,n,I,⟨es,rfl,rfl,G⟩,by simpa[getS]using t.E 0,t.heap,q.trans g⟩
theorem Dv(p:Pg)(j:Nat)(f:Pr)(n:Int)(h:AV)(q:List AV)(y:p.A[j]?=some f)(x:cntP p.A<=1000)(z:0<=n/\n<=5000)(l:List Step)(v:l.length<=1000000):
  SpecH prog 125 [.ptr 1000 0,.p (eSteps l)] (q1d p j n h q) (fun r H=>∃es,r=.p (.sl es)/\H=q1d p j n h q/\es=avP (l.map (ixP p j f n))):=by
 refine Zx (e:=136) (sz:=2) rfl ?_;refine sK FF func125 ?_;conv=>whnf
 repeat' ((refine iM fun _=>?_)<;>conv=>whnf)
 have a:(l.map fun s=>AV.agg s.cells).length=l.length:=x3a _;refine lJ (fun i:Nat×List (Int×Int)=>⟨[(0,.ptr 1000 0),(5,.hd 0 0 i.2.length),(8,.p (eSteps l)),(9,.p (.int .i64 (l.map fun s=>AV.agg s.cells).length)),(10,.j i.1)],(0,.own 136 2 (avP i.2))::q1d p j n h q⟩) (fun i=>i.1<=l.length/\i.2=(l.take i.1).map (ixP p j f n)) (fun i=>l.length-i.1) (0,[]) (lM [(0,.own 136 2 [])] (hnd:=by simp[q1d])) ⟨x4j _,rfl⟩ ?_;rintro⟨m,k⟩ ⟨w,o⟩;simp only at w o⊢;rcases x4f m l.length with t|t;rotate_left 1
 ·rw[x4b t]at o;subst o;conv=>whnf
  repeat' (apply bD<;>intro _<;>first|omega|conv=>whnf)
  exact⟨_,x4c _,avP (l.map (ixP p j f n)),by simp[avP],rfl,rfl⟩
 have u:k.length=m:=by rw[o];simp;omega
 conv=>whnf
 repeat' ((first|refine dA ?_|(refine gX ?_;intros)|refine pA 1 16 (by simp[avP]) ?_|(apply bD<;>intro _<;>try omega)|(refine cH [(1000,1000),(2000,2000)] 0 (Dw p j f n h q y x z _) ?_))<;>conv=>whnf)
 exact⟨(m+1,k++[ixP p j f n l[m]]),⟨by simp only;omega,by simp only;rw[o,x4k t,x4d];rfl⟩,by simp only;omega,lE (hnd:=by simp[q1d]) (hsl:=.r (.cons (.of_eq (by simp only[x3o];rfl)) (.r (.r (.cons (.of_eq rfl) .nil))))) (hH:=.cons rfl (.of_eq (by simp only[avP,x4d];rfl)) (.cons rfl (.refl _) (.cons rfl (.refl _) .nil)))⟩
theorem L5{l:List Int}{x:Int}(h:l.Pairwise (· <= ·)):(Zp l (l.countP (· < x)) x).Pairwise (· <= ·):=by
 induction l with
 |nil=>simp[Zp]
 | cons a r o=>
   obtain⟨j,n⟩:=x6t.1 h;by_cases ha:a<x
   ·have e:Zp (a::r) ((a::r).countP (· < x)) x=a::Zp r (r.countP (· < x)) x:=by
     unfold Zp;rw[List.countP_cons_of_pos (by simpa using ha)];rfl
    rw[e,x6t];refine⟨fun b i=>?_,o n⟩;unfold Zp at i;rcases x4g.1 i with i|i
    ·exact j b (x8n i)
    ·rcases x4v.1 i with rfl|i
     ·omega
     ·exact j b (List.mem_of_mem_drop i)
   ·have k:(a::r).countP (· < x)=0:=by
     rw[List.countP_eq_zero];intro b i;rcases x4v.1 i with rfl|i
     ·simpa using ha
     ·have:=j b i;simp;omega
    rw[k];show(x::a::r).Pairwise (· <= ·);refine x6t.2 ⟨fun b i=>?_,h⟩;rcases x4v.1 i with rfl|i
    ·omega
    ·have:=j b i;omega
def Ul(n m:Nat)(N:List (List Int)):Prop:=N.length=n/\∀r∈N,r.Pairwise (· <= ·)/\r.length<=m
theorem P0{n:Nat}(h:Ul n m N)(a:Nat)(b:Int):Ul n (m+1) (Gv N a b):=by
 unfold Gv;refine⟨by rw[x6x];exact h.1,fun r j=>?_⟩;rcases x7q j with j|rfl
 ·obtain⟨i,k⟩:=h.2 r j;exact⟨i,by omega⟩
 ·rcases x4f a N.length with ha|ha
  ·have l:N.getD a []∈N:=by
    rw[x3i,x3e ha];exact x4h ha
   obtain⟨i,k⟩:=h.2 _ l;exact⟨L5 i,by rw[Ws z0h];omega⟩
  ·have:N.getD a []=[]:=by simp[x6j ha]
   rw[this];exact⟨by simp[Zp],by simp[Zp]⟩
def Ke{n j:Nat}(h:Ul n m N)(k:m<=j):Ul n j N:=⟨h.1,fun r i=>⟨(h.2 r i).1,x5y (h.2 r i).2 k⟩⟩
def Dh(n:Nat)(g:List (List Int)×List (List Int))(e:Int×Int):List (List Int)×List (List Int):=
 bif ZT n e.1&&ZT n e.2 && !(g.1.getD e.1.toNat []).contains e.2 then(Gv g.1 e.1.toNat e.2,Gv g.2 e.2.toNat e.1)else g
def QA(n:Nat)(l:List (Int×Int)):List (List Int)×List (List Int):=l.foldl (Dh n) (List.replicate n [],List.replicate n [])
def eMat(m:List (List Int)):AV:=.sl ((avI m).map .sl)
def VS(g:List (List Int)×List (List Int)):AV:=.ip [eMat g.1,eMat g.2]
def Vp(n:Nat)(g:List (List Int)×List (List Int))(e:Int×Int):(Dh n g e).1=bif ZT n e.1&&ZT n e.2 && !(g.1.getD e.1.toNat []).contains e.2 then Gv g.1 e.1.toNat e.2 else g.1:=by
 unfold Dh;cases ZT n e.1&&ZT n e.2 && !(g.1.getD e.1.toNat []).contains e.2<;>rfl
def Kq(n:Nat)(g:List (List Int)×List (List Int))(e:Int×Int):(Dh n g e).2=bif ZT n e.1&&ZT n e.2 && !(g.1.getD e.1.toNat []).contains e.2 then Gv g.2 e.2.toNat e.1 else g.2:=by
 unfold Dh;cases ZT n e.1&&ZT n e.2 && !(g.1.getD e.1.toNat []).contains e.2<;>rfl
theorem It{n:Nat}{g:List (List Int)×List (List Int)}(h:Ul n m g.1/\Ul n m g.2)(e:Int×Int):Ul n (m+1) (Dh n g e).1/\Ul n (m+1) (Dh n g e).2:=by
 rw[Vp,Kq];cases ZT n e.1&&ZT n e.2 && !(g.1.getD e.1.toNat []).contains e.2
 ·exact⟨Ke h.1 (by omega),Ke h.2 (by omega)⟩
 ·exact⟨P0 h.1 _ _,P0 h.2 _ _⟩
def NG{n:Nat}{l:List (Int×Int)}(h:m<l.length):QA n (l.take (m+1))=Dh n (QA n (l.take m)) l[m]:=by
 unfold QA;rw[x4k h,x7s];rfl
theorem BR{n:Nat}{l:List (Int×Int)}:∀{m:Nat},m<=l.length->Ul n m (QA n (l.take m)).1/\Ul n m (QA n (l.take m)).2
 | 0,_=>by
   have:Ul n 0 (List.replicate n []):=⟨by simp,fun r i=>by rw[x6v i];simp⟩;exact⟨this,this⟩
 | m+1,h=>by
   rw[NG h];exact It (BR (by omega)) _
def G6{h:Nat}{sl:List (Nat×LV)}(n a b:Nat)(k:(sl.all fun x=>x.2.xfree 0)=true)(l:(sl.all fun x=>x.2.xfree 1)=true):
  Le h ⟨sl,[(2,.obj 236 [.hd a 0 n,.hd b 0 n]),(1,.own 56 1 (List.replicate n .nils)),(0,.own 56 1 (List.replicate n .nils))]⟩
   ⟨sl,[(2,.obj 236 [.hd a 0 n,.hd b 0 n]),(1,.ext (.mat 56 3 1 (List.replicate n []) [])),(0,.ext (.mat 56 3 1 (List.replicate n []) []))]⟩:=by
 have o:=JW (N:=h) (sl:=sl) (H:=[(2,.obj 236 [.hd a 0 n,.hd b 0 n]),(1,.own 56 1 (List.replicate n .nils)),(0,.own 56 1 (List.replicate n .nils))])
  (H':=[(2,.obj 236 [.hd a 0 n,.hd b 0 n]),(1,.own 56 1 (List.replicate n .nils)),(0,.ext (.mat 56 3 1 (List.replicate (List.replicate n AV.nils).length []) []))])
  0 3 1 (e:=56) (es:=List.replicate n .nils) rfl (fun x j=>x6v j) rfl k rfl rfl (by simp[JL])
 have i:=JW (N:=h) (sl:=sl) (H:=[(2,.obj 236 [.hd a 0 n,.hd b 0 n]),(1,.own 56 1 (List.replicate n .nils)),(0,.ext (.mat 56 3 1 (List.replicate (List.replicate n AV.nils).length []) []))])
  (H':=[(2,.obj 236 [.hd a 0 n,.hd b 0 n]),(1,.ext (.mat 56 3 1 (List.replicate (List.replicate n AV.nils).length []) [])),(0,.ext (.mat 56 3 1 (List.replicate (List.replicate n AV.nils).length []) []))])
  1 3 1 (e:=56) (es:=List.replicate n .nils) rfl (fun x j=>x6v j) rfl l rfl rfl (by simp[JL])
 have:=o.trans i;simpa using this
theorem Ut(n:Nat)(z:n<=5000)(l:List (Int×Int))(y:l.length<=1000000):aP 184 [.int .i64 n,.sl (avP l)] (VS (QA n l)):=by
 refine sC Mv func184 ?_;conv=>whnf
 repeat' ((first|(refine gX ?_;intros)|refine dA ?_|refine x8a n rfl (by show 24*n<=140737488355328;omega) (by unfold maxLen;omega) ?_|(apply bD<;>intro _<;>try omega)|refine x4e ?_ ?_)<;>conv=>whnf)
 all_goals have a:(avP l).length=l.length:=x3a _
 ·refine lJ (fun m:Nat=>⟨[(5,.ptr (0+1+1) 0),(20,.p (.sl (avP l))),(21,.p (.int .i64 (avP l).length)),(22,.j m)],[(0+1+1,.obj 236 [.hd 0 0 n,.hd (0+1) 0 n]),(0,.ext (.mat 56 3 1 (avI (QA n (l.take m)).1) [])),(0+1,.ext (.mat 56 3 1 (avI (QA n (l.take m)).2) []))]⟩) (fun m=>m<=l.length) (fun m=>l.length-m) 0 (by
    refine Le.trans (G6 n _ _ rfl rfl) ?_;exact lE (hH:=.cons rfl (.refl _) (.cons rfl (.of_eq (by simp[avI,QA])) (.cons rfl (.of_eq (by simp[avI,QA])) .nil)))) (x4j _) ?_
  rintro m w;obtain⟨g1,h⟩:=BR (n:=n) w;rcases x4f m l.length with q|q
  ·have v:(avP l)[m]?=some (.agg [.int .i64 l[m].1,.int .i64 l[m].2]):=by simp[avP,q]
   conv=>whnf
   repeat' ((first|refine x4e rfl ?_|refine wI ?_|refine iT v ?_|refine x6b 0 rfl (by decide) ?_|refine x6b 1 rfl (by decide) ?_|(apply bD<;>intro _<;>try omega)|(refine cJ [(1000,0+1+1),(2001,0),(2002,1)] 0 (P1 n _ _ l[m].1 l[m].2 g1.1 h.1 z (fun r u=>⟨(g1.2 r u).1,by have:=(g1.2 r u).2;omega⟩) (fun r u=>⟨(h.2 r u).1,by have:=(h.2 r u).2;omega⟩)) ?_;rintro l' H' ⟨t,rfl,rfl⟩))<;>conv=>whnf)
   exact⟨m+1,q,by omega,Le.of_eq (by rw[NG q,Vp,Kq];rfl)⟩
  ·rw[x4b q]at g1 h⊢;conv=>whnf
   repeat' (apply bD<;>intro _<;>first|omega|conv=>whnf)
   exact⟨_,.ptr (cs:=[eMat (QA n l).1,eMat (QA n l).2]) rfl rfl (fun i x c k o=>by
    match i,k,o with
    |0,k,o=>cases k;cases o;exact .mat rfl (by rw[avI,x3a,g1.1])
    |1,k,o=>cases k;cases o;exact .mat rfl (by rw[avI,x3a,h.1])),rfl⟩
 ·refine lJ (fun m:Nat=>⟨[(5,.ptr (0+1+1) 0),(20,.p (.sl (avP l))),(21,.p (.int .i64 (avP l).length)),(22,.j m)],[(0+1+1,.obj 236 [.hd (0+1) 0 n,.hd 0 0 n]),(0+1,.ext (.mat 56 3 1 (avI (QA n (l.take m)).1) [])),(0,.ext (.mat 56 3 1 (avI (QA n (l.take m)).2) []))]⟩) (fun m=>m<=l.length) (fun m=>l.length-m) 0 (by
    refine Le.trans (G6 n _ _ rfl rfl) ?_;exact lE (hH:=.cons rfl (.refl _) (.cons rfl (.of_eq (by simp[avI,QA])) (.cons rfl (.of_eq (by simp[avI,QA])) .nil)))) (x4j _) ?_
  rintro m w;obtain⟨g1,h⟩:=BR (n:=n) w;rcases x4f m l.length with q|q
  ·have v:(avP l)[m]?=some (.agg [.int .i64 l[m].1,.int .i64 l[m].2]):=by simp[avP,q]
   conv=>whnf
   repeat' ((first|refine x4e rfl ?_|refine wI ?_|refine iT v ?_|refine x6b 0 rfl (by decide) ?_|refine x6b 1 rfl (by decide) ?_|(apply bD<;>intro _<;>try omega)|(refine cJ [(1000,0+1+1),(2001,1),(2002,0)] 0 (P1 n _ _ l[m].1 l[m].2 g1.1 h.1 z (fun r u=>⟨(g1.2 r u).1,by have:=(g1.2 r u).2;omega⟩) (fun r u=>⟨(h.2 r u).1,by have:=(h.2 r u).2;omega⟩)) ?_;rintro l' H' ⟨t,rfl,rfl⟩))<;>conv=>whnf)
   exact⟨m+1,q,by omega,Le.of_eq (by rw[NG q,Vp,Kq];rfl)⟩
  ·rw[x4b q]at g1 h⊢;conv=>whnf
   repeat' (apply bD<;>intro _<;>first|omega|conv=>whnf)
   exact⟨_,.ptr (cs:=[eMat (QA n l).1,eMat (QA n l).2]) rfl rfl (fun i x c k o=>by
    match i,k,o with
    |0,k,o=>cases k;cases o;exact .mat rfl (by rw[avI,x3a,g1.1])
    |1,k,o=>cases k;cases o;exact .mat rfl (by rw[avI,x3a,h.1])),rfl⟩
def KH(st:List Bool×List Int)(b:Int):List Bool×List Int:=bif st.1.getD b.toNat false then st else(st.1.set b.toNat true,st.2++[b])
def ZJ(rows:List (List Int)):Nat->Nat->List Bool×List Int->List Bool×List Int
 |0,_,st=>st
 | k+1,i,st=>match st.2[i]?with
   |some a=>ZJ rows k (i+1) ((rows.getD a.toNat []).foldl KH st)
   |none=>st
def wkInv(n:Nat)(st:List Bool×List Int):Prop:=st.1.length=n/\st.2.length<=st.1.count true/\∀x∈st.2,0<=x/\x<n
theorem Qz{n:Nat}{st:List Bool×List Int}(h:wkInv n st){b:Int}(p:0<=b/\b<n):wkInv n (KH st b):=by
 unfold KH;obtain⟨k,o,l⟩:=h;have i:b.toNat<st.1.length:=by omega
 cases r:st.1.getD b.toNat false with
 |true=>exact⟨k,o,l⟩
 | false=>
   have q:st.1[b.toNat]=false:=by simpa[i]using r
   refine⟨by simpa using k,?_,fun x j=>?_⟩
   ·simp only[x5q,x3o,x4i];rw[List.count_set i,q];simp;omega
   ·rcases x4g.1 j with j|j
    ·exact l x j
    ·rw[x4w.1 j];exact p
def A3{n:Nat}{l:List Int}:∀{st:List Bool×List Int},wkInv n st->(∀b∈l,0<=b/\b<n)->wkInv n (l.foldl KH st):=by
 induction l with
 |nil=>intro st h _;exact h
 |cons b r k=>intro st h i;exact k (Qz h (i b x4z)) fun c j=>i c (x4x _ j)
def BJ{n:Nat}{st:List Bool×List Int}(h:wkInv n st):st.2.length<=n:=by
 refine x5y h.2.1 ?_;rw[<-h.1];exact List.count_le_length
def XG(n:Nat)(rows:List (List Int)):Prop:=rows.length=n/\∀r∈rows,∀b∈r,0<=b/\b<n
def I7(st:List Bool×List Int):Heap:=[(1000,.own 4 1 (st.1.map bv)),(2000,.own 3 1 (st.2.map (.int .i64)))]
theorem Ki(n:Nat)(J:n<=5000)(rows:List (List Int))(D:XG n rows)(st:List Bool×List Int)(I:wkInv n st):
  aH 186 [.p (eMat rows),.hd 1000 0 n,.hd 2000 0 st.2.length] (I7 st) (.hd 2000 0 (ZJ rows (n+1) 0 st).2.length) (I7 (ZJ rows (n+1) 0 st)):=by
 refine sK Dm func186 ?_;conv=>whnf
 skip
 refine lI (fun x:Nat×List Bool×List Int=>⟨[(0,.p (eMat rows)),(1,.hd 1000 0 n),(2,.hd 2000 0 x.2.2.length),(7,.j x.1)],I7 x.2⟩) (fun x=>wkInv n x.2/\x.1<=x.2.2.length/\ZJ rows (n+1-x.1) x.1 x.2=ZJ rows (n+1) 0 st) (fun x=>n-x.1) (0,st) ⟨I,x4j _,rfl⟩ ?_;rintro⟨i,seen,h⟩ ⟨b,E,l⟩;simp only at b E l⊢;have g:=BJ b;simp only at g;rw[show n+1-i=n-i+1 by omega,ZJ]at l;rcases x4f i h.length with y|y;rotate_left 1
 ·simp only[x6j y]at l;conv=>whnf
  repeat' ((first|(refine iM fun _=>?_)|(apply bD<;>intro _<;>try omega))<;>conv=>whnf)
  exact⟨_,x8o (by rw[<-l]),rfl,by rw[<-l];rfl⟩
 simp only[x3e y]at l;have K:=b.2.2 _ (x4h y);have w:h[i].toNat<rows.length:=by rw[D.1];omega
 have a:((avI rows).map AV.sl)[h[i].toNat]?=some (.sl (rows[h[i].toNat].map (.int .i64))):=by simp[avI,w]
 have e:rows.getD h[i].toNat []=rows[h[i].toNat]:=by simp[w]
 rw[e]at l;have v:=D.2 _ (x4h w);conv=>whnf
 repeat' ((first|(refine iM fun _=>?_)|refine x4e rfl ?_|refine iO i ?_|refine z1q i 0 (.int .i64 h[i]) (by omega) (by simp[y]) ?_|refine iT a ?_|(apply bD<;>intro _<;>try omega))<;>conv=>whnf)
 have A:(rows[h[i].toNat].map (AV.int .i64)).length<=9223372036854775807:=by assumption
 generalize rows[h[i].toNat]=row at v l A⊢;have H:(row.map (AV.int .i64)).length=row.length:=x3a _;refine lI (fun x:Nat×List Bool×List Int=>⟨[(0,.p (eMat rows)),(1,.hd 1000 0 n),(2,.hd 2000 0 x.2.2.length),(7,.j i),(22,.p (.sl (row.map (.int .i64)))),(23,.p (.int .i64 (row.map (AV.int .i64)).length)),(24,.j x.1)],I7 x.2⟩) (fun x=>wkInv n x.2/\h.length<=x.2.2.length/\x.1<=row.length/\ZJ rows (n-i) (i+1) ((row.drop x.1).foldl KH x.2)=ZJ rows (n+1) 0 st) (fun x=>row.length-x.1) (0,seen,h) ⟨b,x4m _,x4j _,l⟩ ?_;rintro⟨q,k,t2⟩ ⟨t,B,F,u⟩;simp only at t B F u⊢;have z:=BJ t;simp only at z;rcases x4f q row.length with c|c;rotate_left 1
 ·rw[x4l c]at u;conv=>whnf
  repeat' ((first|refine wI ?_|(apply bD<;>intro _<;>try omega))<;>conv=>whnf)
  exact nX (i+1,k,t2) ⟨t,by simp only;omega,by simp only;rw[show n+1-(i+1)=n-i by omega];exact u⟩
 rw[x5j c,x7v]at u;have G:=v _ (x4h c);have C:=Qz t G;have o:row[q].toNat<k.length:=by have:=t.1;simp only at this;omega
 cases r:k.getD row[q].toNat false with
 | true=>
   have d:KH (k,t2) row[q]=(k,t2):=by unfold KH;simp only[r,x4s]
   have e2:(k.map bv)[row[q].toNat]?=some .tt:=by
    have:k[row[q].toNat]=true:=by simpa[o]using r
    simp[o,this,bv]
   rw[d]at u;conv=>whnf
   repeat' ((first|(refine gX ?_;intros)|refine x6b row[q].toNat (by omega) (by have:=t.1;simp only at this;omega) ?_|refine z1q row[q].toNat 0 .tt (by omega) e2 ?_|(apply bD<;>intro _<;>try omega))<;>conv=>whnf)
   all_goals exact nX (q+1,k,t2) ⟨t,B,by simp only;omega,u⟩
 | false=>
   have d:KH (k,t2) row[q]=(k.set row[q].toNat true,t2++[row[q]]):=by unfold KH;simp only[r,x5q]
   have e2:(k.map bv)[row[q].toNat]?=some .ff:=by
    have:k[row[q].toNat]=false:=by simpa[o]using r
    simp[o,this,bv]
   rw[d]at u C;conv=>whnf
   repeat' ((first|(refine gX ?_;intros)|refine x6b row[q].toNat (by omega) (by have:=t.1;simp only at this;omega) ?_|refine z1q row[q].toNat 0 .ff (by omega) e2 ?_|refine x8l row[q].toNat 0 .ff .tt (by omega) e2 (x4m 1) rfl ?_|refine pI ?_|(apply bD<;>intro _<;>try omega))<;>conv=>whnf)
   all_goals exact⟨(q+1,k.set row[q].toNat true,t2++[row[q]]),⟨C,by simp;omega,by simp only;omega,u⟩,by simp only;omega,Le.of_eq (by simp only[I7,x3o,x4d,x5d];rfl)⟩
def DG:Nat->List Bool->List Int
 |_,[]=>[]
 |i,b::r=>bif b then(i:Int)::DG (i+1) r else DG (i+1) r
theorem P2(seen:List Bool)(t:seen.length<=1000000):
  SpecH prog 187 [.hd 1000 0 seen.length] [(1000,.own 4 1 (seen.map bv))] (fun r H=>∃es,r=.p (.sl es)/\H=[(1000,.own 4 1 (seen.map bv))]/\es=(DG 0 seen).map (.int .i64)):=by
 refine Zx (e:=3) (sz:=1) rfl ?_;refine sK Jf func187 ?_;conv=>whnf
 repeat' ((refine iM fun _=>?_)<;>conv=>whnf)
 refine lJ (fun i:Nat×List Int=>⟨[(3,.hd 0 0 i.2.length),(6,.hd 1000 0 seen.length),(7,.j seen.length),(8,.j i.1)],[(0,.own 3 1 (i.2.map (.int .i64))),(1000,.own 4 1 (seen.map bv))]⟩) (fun i=>i.1<=seen.length/\i.2.length<=i.1/\i.2++DG i.1 (seen.drop i.1)=DG 0 seen) (fun i=>seen.length-i.1) (0,[]) (lM [(0,.own 3 1 [])]) ⟨x4j _,x4m _,rfl⟩ ?_;rintro⟨m,n⟩ ⟨o,q,k⟩;simp only at o q k⊢;rcases x4f m seen.length with l|l;rotate_left 1
 ·rw[x4l l,DG,x5m]at k;subst k;conv=>whnf
  repeat' (apply bD<;>intro _<;>first|omega|conv=>whnf)
  exact⟨_,x4c _,(DG 0 seen).map (.int .i64),by simp,rfl,rfl⟩
 rw[x5j l,DG]at k;cases h:seen[m]with
 | true=>
   rw[h,x4s]at k;have e2:(seen.map bv)[m]?=some .tt:=by simp[l,h,bv]
   conv=>whnf
   repeat' ((first|refine gX ?_|refine x6b m rfl l ?_|refine lO e2 ?_|refine pI ?_|(apply bD<;>intro _<;>try omega))<;>conv=>whnf)
   exact⟨(m+1,n++[(m:Int)]),⟨by simp only;omega,by simp;omega,by simpa using k⟩,by simp only;omega,Le.of_eq (by simp only[x3o,x4d];rfl)⟩
 | false=>
   rw[h,x5q]at k;have e2:(seen.map bv)[m]?=some .ff:=by simp[l,h,bv]
   conv=>whnf
   repeat' ((first|refine gX ?_|refine x6b m rfl l ?_|refine lO e2 ?_|(apply bD<;>intro _<;>try omega))<;>conv=>whnf)
   exact nX (m+1,n) ⟨by simp only;omega,by simp only;omega,k⟩
theorem DV(g:List (List Int)×List (List Int))(a:Int):aP 185 [VS g,.int .i64 a] (.bool (ZT g.1.length a)):=by
 refine sC KO func185 ?_;conv=>whnf
 repeat' ((first|(refine iM fun _=>?_)|(apply bD<;>intro _<;>try omega))<;>conv=>whnf)
 all_goals have h:((avI g.1).map AV.sl).length=g.1.length:=by simp[avI]
 all_goals first
  |exact RetK.bool (by unfold ZT;simp[*];done)
  |exact RetK.ff (by unfold ZT;simp;omega)
 all_goals trace_state
def DI(n:Nat)(l:List Int):List Bool×List Int:=l.foldl (fun st a=>bif ZT n a then KH st a else st) (List.replicate n false,[])
def WB(rows:List (List Int))(l:List Int):List Bool:=(ZJ rows (rows.length+1) 0 (DI rows.length l)).1
def NI(n:Nat):wkInv n (List.replicate n false,[]):=⟨by simp,by simp[List.count_replicate],by simp⟩
theorem BV{n:Nat}{rows:List (List Int)}(l:XG n rows):∀(k i:Nat){st:List Bool×List Int},wkInv n st->wkInv n (ZJ rows k i st)
 |0,_,_,h=>h
 | k+1,i,st,h=>by
   rw[ZJ];split
   ·rename_i a ha;have o:=h.2.2 a (x4p ha);refine BV l k (i+1) (A3 h ?_);have j:a.toNat<rows.length:=by rw[l.1];omega
    rw[x3i,x3e j];exact l.2 _ (x4h j)
   ·exact h
def ZZ{n:Nat}{a:Int}(h:ZT n a=true):0<=a/\a<n:=by
 unfold ZT at h;simpa using h
theorem Xy(n:Nat)(D:n<=5000)(g:List (List Int)×List (List Int))(v:XG n g.1)(l:List Int)(c:l.length<=1000000):aP 141 [VS g,XQ l] (XQ (DG 0 (WB g.1 l))):=by
 refine sC PC func141 ?_;conv=>whnf
 have B:((avI g.1).map AV.sl).length=n:=by simp[avI,v.1]
 repeat' ((first|(refine gX ?_;intros)|refine x8a n (by rw[B]) (by show 1*n<=140737488355328;omega) (by unfold maxLen;omega) ?_)<;>conv=>whnf)
 have C:(l.map (AV.int .i64)).length=l.length:=x3a _;refine lJ (fun x:Nat×List Bool×List Int=>⟨[(0,.p (VS g)),(5,.hd 0 0 n),(6,.hd 1 0 x.2.2.length),(17,.p (XQ l)),(18,.p (.int .i64 (l.map (AV.int .i64)).length)),(19,.j x.1)],[(0,.own 4 1 (x.2.1.map bv)),(1,.own 3 1 (x.2.2.map (.int .i64)))]⟩) (fun x=>x.1<=l.length/\wkInv n x.2/\(l.drop x.1).foldl (fun st a=>bif ZT n a then KH st a else st) x.2=DI n l) (fun x=>l.length-x.1) (0,List.replicate n false,[]) (lM [(1,.own 3 1 [])] (hH:=.cons rfl (.of_eq (by rw[x7h];rfl)) (.new x4z .nil))) ⟨x4j _,NI n,rfl⟩ ?_;rintro⟨m,seen,i⟩ ⟨e,r,q⟩;simp only at e r q⊢;have hsl:seen.length=n:=r.1;have E:i.length<=n:=BJ r;rcases x4f m l.length with y|y;rotate_left 1
 ·rw[x4l y,List.foldl_nil]at q;conv=>whnf
  repeat' ((first|(apply bD<;>intro _<;>try omega)|(refine cH rH2 0 (Ki n D g.1 v (seen,i) r) ?_))<;>conv=>whnf)
  have z:(ZJ g.1 (n+1) 0 (seen,i)).1.length=n:=(BV v _ _ r).1;refine cJ rH1 0 (P2 (ZJ g.1 (n+1) 0 (seen,i)).1 (by omega)) ?_ (ha:=(x5w (x8o (by rw[z];rfl)) x6e));rintro l' H' ⟨es,rfl,rfl,rfl⟩;conv=>whnf
  skip
  exact RetK.p (by unfold XQ WB;rw[v.1,<-q])
 rw[x5j y,x7v]at q;have t:aP 185 [VS g,.int .i64 l[m]] (.bool (ZT n l[m])):=by
  have:=DV g l[m]
  rwa[v.1]at this
 cases o:seen.getD l[m].toNat false with
 | true=>
   have u:(bif ZT n l[m]then KH (seen,i) l[m]else(seen,i))=(seen,i):=by unfold KH;simp only[o,x4s];cases ZT n l[m]<;>rfl
   have e2:ZT n l[m]=true->(seen.map bv)[l[m].toNat]?=some .tt:=fun h=>by
    have A:=ZZ h;have k:l[m].toNat<seen.length:=by omega
    have:seen[l[m].toNat]=true:=by simpa[k]using o
    simp[k,this,bv]
   rw[u]at q;conv=>whnf
   repeat' ((first|(refine gX ?_;intros)|refine cP t ?_|refine x6b l[m].toNat (by have:=ZZ (by assumption);omega) (by have:=ZZ (by assumption);omega) ?_|refine z1q l[m].toNat 0 .tt (by omega) (e2 (by assumption)) ?_|((first|apply bD|apply bB)<;>intro _<;>try omega))<;>conv=>whnf)
   all_goals exact nX (m+1,seen,i) ⟨by simp only;omega,r,q⟩
 | false=>
   have e2:ZT n l[m]=true->(seen.map bv)[l[m].toNat]?=some .ff:=fun h=>by
    have A:=ZZ h;have k:l[m].toNat<seen.length:=by omega
    have:seen[l[m].toNat]=false:=by simpa[k]using o
    simp[k,this,bv]
   conv=>whnf
   repeat' ((first|(refine gX ?_;intros)|refine cP t ?_|refine x6b l[m].toNat (by have:=ZZ (by assumption);omega) (by have:=ZZ (by assumption);omega) ?_|refine z1q l[m].toNat 0 .ff (by omega) (e2 (by assumption)) ?_|refine x8l l[m].toNat 0 .ff .tt (by omega) (e2 (by assumption)) (x4m 1) rfl ?_|refine pI ?_|((first|apply bD|apply bB)<;>intro _<;>try omega))<;>conv=>whnf)
   ·have w:ZT n l[m]=true:=by assumption
    have u:(bif ZT n l[m]then KH (seen,i) l[m]else(seen,i))=(seen.set l[m].toNat true,i++[l[m]]):=by unfold KH;simp only[o,w,x4s,x5q]
    have b:=Qz r (ZZ w);rw[u]at q;have d:KH (seen,i) l[m]=(seen.set l[m].toNat true,i++[l[m]]):=by unfold KH;simp only[o,x5q]
    rw[d]at b;exact⟨(m+1,seen.set l[m].toNat true,i++[l[m]]),⟨by simp only;omega,b,q⟩,by simp only;omega,Le.of_eq (by simp only[x3o,x4d,x5d];rfl)⟩
   ·have w:ZT n l[m]=false:=by assumption
    have u:(bif ZT n l[m]then KH (seen,i) l[m]else(seen,i))=(seen,i):=by rw[w];rfl
    rw[u]at q;exact nX (m+1,seen,i) ⟨by simp only;omega,r,q⟩
theorem Dy(w:Way)(f:Pr)(n:Nat)(q:w.n=n)(k:w.p.A[w.j]?=some f)(i:cntP w.p.A<=1000)(o:n<=5000)(l:List Step)(h:l.length<=1000000):aP 140 [.ip w.cells,eSteps l] (VS (QA n (l.map (ixP w.p w.j f w.n)))):=by
 refine sC FD func140 ?_;conv=>whnf
 repeat' ((first|refine dA ?_|refine cP (WC w f k i (by omega) l h) ?_ (ha:=.cons (Sub.refl _) (.cons (Sub.refl _) .nil))|refine cP (Ut n o (l.map (ixP w.p w.j f w.n)) (by rw[x3a];exact h)) ?_ (ha:=.cons (Sub.int q) (.cons (Sub.refl _) .nil)))<;>conv=>whnf)
 exact RetK.p rfl
theorem Dj(p:Pg)(j:Nat)(f:Pr)(n:Nat)(h:AV)(k:List AV)(q:p.A[j]?=some f)(o:cntP p.A<=1000)(r:n<=5000)(l:List Step)(i:l.length<=1000000):
  aH 140 [.ptr 1000 0,.p (eSteps l)] (q1d p j n h k) (.p (VS (QA n (l.map (ixP p j f n))))) (q1d p j n h k):=by
 refine sK FD func140 ?_;conv=>whnf
 refine DrawK.of XM mixed (.cons 0 false (.cons 1 false (.cons 2 false (.cons 4 false (.cons 5 false (.fork 3 (.cons 6 true (.cons 7 true (.cons 8 true .nil))) 6 (.cons 3 true (.cons 7 true (.cons 8 true .nil))))))))) (by kernel_rfl) ?_;conv=>whnf
 repeat' ((first|refine cP (Ut n r (l.map (ixP p j f n)) (by rw[x3a];exact i)) ?_ (ha:=.cons (Sub.refl _) (.cons (Sub.refl _) .nil))|refine x4e ?_ ?_|(refine cJ [(1000,1000),(2000,2000)] 0 (Dv p j f n h k q o (by omega) l i) ?_;rintro l' H' ⟨es,rfl,rfl,rfl⟩))<;>conv=>whnf)
 all_goals exact⟨_,x4c _,rfl,rfl⟩
def Gg{n:Nat}(h:XG n N){a:Nat}{b:Int}(o:0<=b/\b<n):XG n (Gv N a b):=by
 unfold Gv;refine⟨by rw[x6x];exact h.1,fun r k x i=>?_⟩;rcases x7q k with k|rfl
 .exact h.2 r k x i
 .unfold Zp at i;have l:∀y∈N.getD a [],0<=y/\y<n:=fun y j=>by
   rcases x4f a N.length with ha|ha
   .rw [x3i,x3e ha]at j;exact h.2 _ (x4h ha) y j
   .rw [x3i,x6j ha]at j;cases j
  rcases x4g.1 i with i|i
  .exact l x (x8n i)
  .rcases x4v.1 i with rfl|i
   .exact o
   .exact l x (List.mem_of_mem_drop i)
def q3u{n:Nat}{g:List (List Int)×List (List Int)}(h:XG n g.1/\XG n g.2)(e:Int×Int):XG n (Dh n g e).1/\XG n (Dh n g e).2:=by
 rw[Vp,Kq];cases i:ZT n e.1&&ZT n e.2 && !(g.1.getD e.1.toNat []).contains e.2
 .exact h
 .simp only[x4n]at i;exact⟨Gg h.1 (ZZ i.1.2),Gg h.2 (ZZ i.1.1)⟩
def O5{n:Nat}(l:List (Int×Int)):∀{g:List (List Int)×List (List Int)},XG n g.1/\XG n g.2->XG n (l.foldl (Dh n) g).1/\XG n (l.foldl (Dh n) g).2:=by
 induction l with
 |nil=>intro g h;exact h
 |cons e r i=>intro g h;exact i (q3u h e)
def JP(n:Nat)(l:List (Int×Int)):XG n (QA n l).1/\XG n (QA n l).2:=by
 have h:XG n (List.replicate n []):=⟨by simp,fun r i=>by rw[x6v i];simp⟩;exact O5 l ⟨h,h⟩
theorem Wr.eq{n m:Int}{K:Int->Prop}(h:n=m)(i : -9223372036854775808<=m)(j:m<=9223372036854775807)(l:K m):Wr .i64 n K:=by
 subst h;exact Wr.i64 i j l
theorem Zj:∀(a:Step)(l:List Step),(XZ a l).length<=l.length
 |_,[]=>x4m _
 | a,b::r=>by
   have:=Zj b r;rw[XZ];cases ZH b a<;>simp<;>omega
theorem Pn(l:List Step):(VY l).length<=l.length:=by
 unfold VY;rw[<-Xo (l:=l)];cases KF l with
 |nil=>exact x4m _
 | cons a r=>
   have:=Zj a r;simp[NV];omega
def Ay(h:Sheet)(f:Pr)(it:Item):(GG h f it).length<=2:=by
 unfold GG;split<;>(try split)<;>(try split)<;>(try split)<;>(try split)<;>(try split)<;>simp
theorem Zf{α β:Type}{g:α->List β}(h:∀x,(g x).length<=2):∀l:List α,(l.flatMap g).length<=2*l.length
 |[]=>by simp
 | a::r=>by
   have:=Zf h r;have:=h a;rw[x6d,x3o,x5g];omega
theorem Zs(p:Pg)(j:Nat)(f:Pr):(QN p j f).length<=1+2*QJ f.body:=by
 unfold QN;have:=Zf (g:=fun it=>(GG (sheetOf p) f it).map (Step.mk it.s.id · 1)) (fun it=>by rw[x3a];exact Ay _ _ _) (itL j 0 (-1) 0 (QS p.A j) f.body);rw[XS]at this;rw[x5g];omega
theorem T1:∀(i:Nat)(l:List Bool)(a:Int),a∈DG i l->(i:Int)<=a/\a<i+l.length
 |_,[],_,h=>by rw[DG]at h;cases h
 | i,b::r,a,h=>by
   rw[DG]at h;have key:a∈DG (i+1) r->(i:Int)<=a/\a<i+(b::r).length:=fun h=>by
    have:=T1 (i+1) r a h;simp only[x5g];omega
   cases b with
   |false=>exact key h
   | true=>
     rcases x4v.1 h with rfl|h
     ·simp only[x5g];omega
     ·exact key h
def SE(n:Nat)(l:List Int):wkInv n (DI n l):=by
 unfold DI;have:∀(l:List Int)(st:List Bool×List Int),wkInv n st->wkInv n (l.foldl (fun st a=>bif ZT n a then KH st a else st) st):=fun l=>by
  induction l with
  |nil=>intro st h;exact h
  | cons a r j=>
    intro st h;refine j _ ?_;show wkInv n (bif ZT n a then KH st a else st);cases i:ZT n a with
    |true=>exact Qz h (ZZ i)
    |false=>exact h
 exact this l _ (NI n)
def SY{n:Nat}{rows:List (List Int)}(h:XG n rows)(l:List Int):(WB rows l).length=n:=by
 unfold WB;rw[h.1];exact(BV h _ _ (SE n l)).1
def Qw(l:List Int)(b:List Bool):List Bool:=l.foldl (fun b a=>b.set a.toNat true) b
def QQ(p:Pg)(j:Nat)(f:Pr):Way:=
 let h:=VY (QN p j f);let n:=QJ f.body+2
 ⟨p,j,n,h,Qw (DG 0 (WB (QA n (h.map (ixP p j f n))).1 [0])) (List.replicate n false)⟩
theorem q5i(p:Pg)(j:Nat)(f:Pr)(y:p.A[j]?=some f)(D:cntP p.A<=1000)(G:∀it∈itsOf p j f,it.s.kind=7->1<=it.loop/\it.loop<=(sheetOf p).l.length)(g:∀s∈QN p j f,okSt s):aP 77 [.ip (sheetOf p).cells,.int .i64 j] (.ip (QQ p j f).cells):=by
 refine sC Cy func77 ?_;conv=>whnf
 obtain⟨_,_,_,E,C⟩:=QU p;obtain⟨d,w,H,_⟩:=C j f y;repeat' ((first|refine dA ?_|refine x4e rfl ?_|refine aR ?_|refine IdxK.at rfl (UG d) rfl ?_|refine IdxK.at rfl (UG w) rfl ?_|refine cP (W9 p j f y D G g) ?_|refine Wr.eq (m:=QJ f.body) (by omega) (by omega) (by omega) ?_|refine Wr.eq (m:=(QJ f.body+2:Nat)) (by omega) (by omega) (by omega) ?_|refine x8a (QJ f.body+2) rfl (by show 1*_<=140737488355328;omega) (by unfold maxLen;omega) ?_)<;>conv=>whnf)
 have B:(VY (QN p j f)).length<=1000000:=by have:=Pn (QN p j f);have:=Zs p j f;omega
 refine cJ rH2 0 (Dj p j f (QJ f.body+2) (eSteps (VY (QN p j f))) (List.replicate (QJ f.body+2) .ff) y D (by omega) (VY (QN p j f)) B) ?_ (hH:=x5x (j:=0) rfl rfl (CSub.of_eq (by rw[x5e];rfl)) (x5x (j:=1) rfl rfl (CSub.refl _) x6z));rintro l' H' ⟨rfl,rfl⟩;conv=>whnf
 obtain⟨o,_⟩:=JP (QJ f.body+2) ((VY (QN p j f)).map (ixP p j f (QJ f.body+2:Nat)));repeat' ((first|(refine gX ?_;intros)|refine cP (Xy (QJ f.body+2) (by omega) _ o [0] (by simp)) ?_ (ha:=.cons (Sub.refl _) (.cons (Sub.refl _) .nil)))<;>conv=>whnf)
 have q:∀a∈DG 0 (WB (QA (QJ f.body+2) ((VY (QN p j f)).map (ixP p j f (QJ f.body+2:Nat)))).1 [0]),0<=a/\a<(QJ f.body+2:Nat):=fun a ha=>by
  have:=T1 _ _ _ ha;rw[SY o]at this;omega
 have e:QQ p j f=⟨p,j,(QJ f.body+2:Nat),VY (QN p j f),Qw (DG 0 (WB (QA (QJ f.body+2) ((VY (QN p j f)).map (ixP p j f (QJ f.body+2:Nat)))).1 [0])) (List.replicate (QJ f.body+2) false)⟩:=rfl;rw[e];have z:((DG 0 (WB (QA (QJ f.body+2) ((VY (QN p j f)).map (ixP p j f (QJ f.body+2:Nat)))).1 [0])).map (AV.int .i64)).length<=9223372036854775807:=by assumption
 generalize DG 0 (WB (QA (QJ f.body+2) ((VY (QN p j f)).map (ixP p j f (QJ f.body+2:Nat)))).1 [0])=lst at q z⊢;have I:(lst.map (AV.int .i64)).length=lst.length:=x3a _;refine lJ (fun x:Nat×List Bool=>⟨[(5,.ptr 0 0),(46,.p (XQ lst)),(47,.p (.int .i64 (lst.map (AV.int .i64)).length)),(48,.j x.1)],[(0,.obj 103 [.p (.ip (sheetOf p).cells),.j j,.j (QJ f.body+2:Nat),.p (eSteps (VY (QN p j f))),.hd 1 0 (QJ f.body+2)]),(1,.own 4 1 (x.2.map bv))]⟩) (fun x=>x.1<=lst.length/\x.2.length=QJ f.body+2/\Qw (lst.drop x.1) x.2=Qw lst (List.replicate (QJ f.body+2) false)) (fun x=>lst.length-x.1) (0,List.replicate (QJ f.body+2) false) (Le.of_eq (by simp only[x7h,x5e];rfl)) ⟨x4j _,by simp,rfl⟩ ?_;rintro⟨m,b⟩ ⟨F,t,n⟩;simp only at F t n⊢;rcases x4f m lst.length with r|r;rotate_left 1
 ·rw[x4l r]at n;rw[<-n];conv=>whnf
  repeat' (apply bD<;>intro _<;>first|omega|conv=>whnf)
  exact⟨_,.ptr (cs:=[.ip (sheetOf p).cells,.int .i64 j,.int .i64 (QJ f.body+2:Nat),eSteps (VY (QN p j f)),.sl (b.map bv)]) rfl rfl (fun i x c h k=>by
   match i,h,k with
   |0,h,k=>cases h;cases k;exact .p (Sub.refl _)
   |1,h,k=>cases h;cases k;exact .p (Sub.refl _)
   |2,h,k=>cases h;cases k;exact .p (Sub.refl _)
   |3,h,k=>cases h;cases k;exact .p (Sub.refl _)
   |4,h,k=>cases h;cases k;exact .hd rfl (by rw[x3a,t])),rfl⟩
 rw[x5j r]at n;have ha:=q _ (x4h r);have u:lst[m].toNat<b.length:=by omega
 have v:(b.map bv)[lst[m].toNat]?=some (bv b[lst[m].toNat]):=by simp[u]
 conv=>whnf
 repeat' ((first|(refine gX ?_;intros)|refine x6b lst[m].toNat (by omega) (by omega) ?_|refine x8l lst[m].toNat 0 (bv b[lst[m].toNat]) .tt (by omega) v (x4m 1) (by cases b[lst[m].toNat]<;>rfl) ?_|(apply bD<;>intro _<;>try omega))<;>conv=>whnf)
 exact⟨(m+1,b.set lst[m].toNat true),⟨by simp only;omega,by simp only[x6x];exact t,n⟩,by simp only;omega,Le.of_eq (by simp only[x5d];rfl)⟩
theorem QB{p:Pg}(h:QL p=true):BC p=true/\(QO p).1=0/\(UT p).1=0/\(Ww p).1=0/\(FN p).1=0:=by
 unfold QL q6w at h;simp only[x5k]at h;by_cases i:BC p=false
 ·rw[if_pos i]at h;cases h
 rw[if_neg i]at h;by_cases j:(QO p).1=0
 ·rw[if_neg (by omega)]at h;by_cases k:(UT p).1=0
  ·rw[if_neg (by omega)]at h;by_cases l:(Ww p).1=0
   ·rw[if_neg (by omega)]at h;exact⟨by simpa using i,j,k,l,h⟩
   ·rw[if_pos l]at h;exact absurd h l
  ·rw[if_pos k]at h;exact absurd h k
 ·rw[if_pos j]at h;exact absurd h j
theorem Y3{f:Pr}:∀(l:List Item)(seen:List Str){s:List Str},PJ f l seen=.ok s->∀it∈l,KJ f it=true
 |[],_,_,_,it,h=>by cases h
 | a::r,seen,s,h,it,i=>by
   rw[PJ]at h;cases k:JM seen a.s.Y with
   |none=>rw[k]at h;cases h
   | some n=>
     rw[k]at h;simp only at h;cases j:KJ f a with
     |false=>rw[j]at h;cases h
     | true=>
       rw[j,x4s]at h;rcases x4v.1 i with rfl|i
       .exact j
       .exact Y3 r n h it i
theorem Ji{p:Pg}(q:(QO p).1=0)(h:(Ww p).1=0){j:Nat}(k:p.A[j]?=some f):∀it∈itsOf p j f,KJ f it=true:=by
 unfold Ww at h;rw[if_neg (by omega)]at h;have l:(List.range p.A.length).findSome? (KU p)=none:=by
  cases o:(List.range p.A.length).findSome? (KU p)with
  |none=>rfl
  |some a=>rw[o]at h;cases h
 rw[List.findSome?_eq_none_iff]at l;have i:j<p.A.length:=(x4u.1 k).1;have:=l j (x5a.2 i);unfold KU at this;rw[k]at this;simp only at this;cases n:PJ f (itL (j:Nat) 0 (-1) 0 (QS p.A j) f.body) []with
 |error id=>rw[n]at this;cases this
 |ok seen=>exact Y3 _ _ n
mutual
theorem O3:∀(t u v:S),u∈flS t->v∈u.V\/v∈u.Z->v∈flS t
 | .mk id kind Y name C x has args V Z,u,v,h,hv=>by
   rw[flS]at h⊢;rcases x4v.1 h with rfl|h
   ·refine x4x _ (x4g.2 ?_);rcases hv with hv|hv
    ·exact .inl (Ho V v hv)
    ·exact .inr (Ho Z v hv)
   ·rcases x4g.1 h with h|h
    ·exact x4x _ (x4g.2 (.inl (Wn V u v h hv)))
    ·exact x4x _ (x4g.2 (.inr (Wn Z u v h hv)))
theorem Wn:∀(l:List S)(u v:S),u∈flL l->v∈u.V\/v∈u.Z->v∈flL l
 |[],u,v,h,hv=>by rw[flL]at h;cases h
 | t::r,u,v,h,hv=>by
   rw[flL]at h⊢;rcases x4g.1 h with h|h
   ·exact x4g.2 (.inl (O3 t u v h hv))
   ·exact x4g.2 (.inr (Wn r u v h hv))
end
def DY{p:Pg}{j:Nat}(h:it∈itsOf p j f):it.s∈flL f.body:=by
 unfold itsOf at h;rw[<-Xj (j:Nat) 0 (-1) 0 (QS p.A j) f.body];exact x4y.2 ⟨it,h,rfl⟩
theorem UU{p:Pg}(n:BC p=true){j:Nat}(l:p.A[j]?=some f){t:S}(h:t∈flL f.body):(QS p.A j:Int)+1<=t.id/\t.id<=(QS p.A j+QJ f.body:Nat):=by
 have i:=AY n l;have k:t.id∈Qn (QS p.A j) (QJ f.body):=by
  rw[<-i];exact x4y.2 ⟨t,h,rfl⟩
 have:=Ow k;omega
def Y0{p:Pg}{j:Nat}(h:it∈itsOf p j f):okI (QS p.A j) (QS p.A j+QJ f.body) it.next/\(it.loop=0\/((QS p.A j:Int)+1<=it.loop/\it.loop<=(QS p.A j+QJ f.body:Nat))):=
 Fv (j:Nat) _ _ f.body 0 (-1) 0 _ it h (.inl rfl) (.inl rfl) (x4m _) (x4m _)
theorem GM{p:Pg}{j:Nat}(q:p.A[j]?=some f){k:Nat}(t:QS p.A j<=k)(u:k<QS p.A j+QJ f.body):∃it,(sheetOf p).l[k]?=some it/\it∈itsOf p j f:=by
 obtain⟨_,_,_,n,h⟩:=QU p;obtain⟨_,_,r,o⟩:=h j f q;have i:k<(sheetOf p).l.length:=by omega
 refine⟨(sheetOf p).l[k],x3e i,?_⟩;unfold itsOf;rw[<-o];refine x7x.2 ⟨k-QS p.A j,?_⟩;rw[x5o,x5s,if_pos (by omega),show QS p.A j+(k-QS p.A j)=k by omega,x3e i]
theorem q3i{p:Pg}(B:BC p=true){j:Nat}(c:p.A[j]?=some f)(h:it∈itsOf p j f)(q:KJ f it=true):∀x∈GG (sheetOf p) f it,okI (QS p.A j) (QS p.A j+QJ f.body) x:=by
 obtain⟨y,g⟩:=Y0 h;have E:=DY h;have e:=UU B c E;have n:∀(l:List S)(o:Int),(∀v∈l,v∈it.s.V\/v∈it.s.Z)->okI (QS p.A j) (QS p.A j+QJ f.body) o->okI (QS p.A j) (QS p.A j+QJ f.body) (Sj l o):=fun l o a H=>by
  cases l with
  |nil=>exact H
  |cons v r=>exact .inr (UU B c (Wn f.body it.s v E (a v x4z)))
 have w:it.s.kind=7\/it.s.kind=8->(QS p.A j:Int)+1<=it.loop/\it.loop<=(QS p.A j+QJ f.body:Nat):=fun z=>by
  unfold KJ at q;rw[if_pos z]at q;rcases g with d|d
  ·rw[d]at q;cases q
  ·exact d
 intro x i;unfold GG at i;split at i
 ·simp only[x4v,x8m,or_false]at i;rcases i with rfl|rfl
  ·exact n _ _ (fun v a=>.inl a) y
  ·exact n _ _ (fun v a=>.inr a) y
 split at i
 ·simp only[x4v,x8m,or_false]at i;rcases i with rfl|rfl
  ·exact n _ _ (fun v a=>.inl a) (.inr e)
  ·exact y
 split at i
 ·rename_i z;have F:=w (.inl z);obtain⟨u,C,D⟩:=GM c (k:=(it.loop-1).toNat) (by omega) (by omega);rw[C]at i;rw[x4w.1 i];exact(Y0 D).1
 split at i
 ·rename_i z;rw[x4w.1 i];exact .inr (w (.inr z))
 split at i
 ·rw[x4w.1 i];exact .inl rfl
 split at i
 ·rename_i J K _ z;rw[x4w.1 i];unfold KJ at q;rw[if_neg (by omega),if_pos z]at q;unfold atB at q⊢;split
  ·rename_i t I;exact .inr (UU B c (x8h I))
  ·rename_i G;rw[G]at q;simp only at q;cases b:f.fin.any fun s=>it.s.name==s with
   |true=>exact .inl rfl
   |false=>rw[b]at q;cases q
 ·rw[x4w.1 i];exact y
theorem U1{p:Pg}(h:QL p=true){j:Nat}(o:p.A[j]?=some f):(∀it∈itsOf p j f,it.s.kind=7->1<=it.loop/\it.loop<=(sheetOf p).l.length)/\
  (∀s∈QN p j f,(s.src=0\/((QS p.A j:Int)+1<=s.src/\s.src<=(QS p.A j+QJ f.body:Nat)))/\okI (QS p.A j) (QS p.A j+QJ f.body) s.dst)/\∀s∈QN p j f,okSt s:=by
 obtain⟨t,b,_,r,_⟩:=QB h;have n:=Ji b r o;obtain⟨_,_,_,w,u⟩:=QU p;obtain⟨_,_,a,_⟩:=u j f o;obtain⟨_,_,x⟩:=VD t;have key:∀s∈QN p j f,(s.src=0\/((QS p.A j:Int)+1<=s.src/\s.src<=(QS p.A j+QJ f.body:Nat)))/\okI (QS p.A j) (QS p.A j+QJ f.body) s.dst:=fun s k=>by
  unfold QN at k;rcases x4v.1 k with rfl|k
  ·refine⟨.inl rfl,?_⟩;show okI _ _ (if QS p.A j<QS p.A j+QJ f.body then((QS p.A j:Nat)+1:Int)else -1);split
   ·exact .inr ⟨by omega,by omega⟩
   ·exact .inl rfl
  ·obtain⟨it,i,d⟩:=x4a.1 k;obtain⟨y,c,rfl⟩:=x4y.1 d;exact⟨.inr (UU t o (DY i)),q3i t o i (n it i) y c⟩
 refine⟨fun it i z=>?_,key,fun s k=>?_⟩
 ·have q:=n it i;unfold KJ at q;rw[if_pos (.inl z)]at q;rcases(Y0 i).2 with v|v
  ·rw[v]at q;cases q
  ·omega
 ·obtain⟨e,g⟩:=key s k;unfold okSt okI at*
  omega
def XF{p:Pg}(h:QL p=true):p.F.length<=16/\p.A.length<=16/\cntP p.A<=200:=VD (QB h).1
theorem q4x{p:Pg}{n:Str}(h:n∈QK p):∃(k:Nat) (j:k<p.A.length),idxF (fun f=>f.name==n) p.A=k/\p.A.findIdx (fun f=>f.name==n)=k/\p.A.find? (fun f=>f.name==n)=some p.A[k]/\p.A[k].name=n:=by
 obtain⟨k,j,i,l,o⟩:=JV h;refine⟨k,j,i,?_,l,o⟩;unfold idxF at i;cases ha:p.A.any (fun f=>f.name==n)with
 |true=>rw[ha,x4s]at i;omega
 |false=>rw[ha,x5q]at i;omega
def x2a(p:Pg)(k:Nat)(f:Pr):Int:=if QS p.A k<QS p.A k+QJ f.body then((QS p.A k:Nat)+1:Int)else -1
def QF(p:Pg)(j:Nat)(n i:Int):Int:=if i=0 then 0 else if i=n-1 then -1 else loI p j+i-1
theorem ZC(w:Way)(f:Pr)(q:w.p.A[w.j]?=some f)(t:cntP w.p.A<=1000)(v:0<=w.n/\w.n<=5000)(i:Int)(u:0<=i/\i<=5000):aP 47 [.ip w.cells,.int .i64 i] (.int .i64 (QF w.p w.j w.n i)):=by
 refine sC Vy func47 ?_;conv=>whnf
 obtain⟨_,_,_,l,k⟩:=QU w.p;obtain⟨h,o,r,_⟩:=k w.j f q;repeat' ((first|refine dA ?_|refine wI ?_|refine IdxK.at rfl (UG h) rfl ?_|(apply bD<;>intro _<;>try omega))<;>conv=>whnf)
 all_goals exact RetK.int (by unfold QF loI;(repeat' split)<;>omega)
def Xc(l:List Int):∀b:List Bool,(Qw l b).length=b.length:=by
 induction l with
 |nil=>intro b;rfl
 | cons a r h=>
   intro b;show(Qw r (b.set a.toNat true)).length=b.length;rw[h,x6x]
def OneRow(R:Nat->TypeId->Nat->List AV->Prop)(nil:Prop)(l:LV)(H:Heap):Prop:=
 (l=.p .nils/\H=[]/\nil)\/∃q e sz es,l=.hd q 0 es.length/\H=[(q,.own e sz es)]/\(∀x∈es,∀c∈x.cells,c.flat=true)/\R q e sz es
theorem VL{N:Nat}{g:FuncId}{args:List LV}{dst:Option Nat}{K:St->Prop}{avs:List AV}{R:Nat->TypeId->Nat->List AV->Prop}{nil:Prop}(k:Nat)(hu:WY k s=true)(hs:SpecH P g (avs.map .p) [] (OneRow R nil))(ha:FrzL s.H args avs)(hn:nil->setD N s.sl dst (.p .nils) fun sl=>K ⟨sl,s.H⟩)(h:∀q e sz es,R q e sz es->setD N s.sl dst (.hd k 0 es.length) fun sl=>K ⟨sl,(k,.own e sz es)::s.H⟩):CallK P N g args dst s K:=by
 refine⟨fun σ β a w U vals hnv hv=>⟨hs.go vals,?_⟩⟩;obtain⟨hlen,hget⟩:=ha.get;obtain⟨τ,h5,h6,h7,h8⟩:=LG U.heap;have hrel0:HRel τ (fun _=>none) [] w:=⟨h6,fun k c V=>(by cases V),z1w,fun k hk=>(by cases hk),fun k hk=>(by cases hk)⟩;have hno:∀b,¬owns (fun _=>none) [] b:=fun b ⟨j,r,_⟩=>by cases r
 refine(hs.ok τ (fun _=>none) w vals (by rw[x3a];exact hnv.trans hlen) (fun j l r=>?_) hrel0).mono fun e w' ⟨l,u,σ',β',H',he,hR,Z,D,y⟩=>?_
 ·rw[x4q]at r;cases V:avs[j]?with
  |none=>rw[V]at r;cases r
  | some c=>
    rw[V]at r;cases r;obtain⟨l,A,C⟩:=hget j c V;exact .p (h8 l _ c (hv j l A) C)
 ·have Q:σ.lies w':=fun b c z=>D.mem b c (y.le b c (h5 b c z));have hf:Frm (fun _=>False) w w':=⟨y.G.os,y.G.tape,y.G.output,y.G.drawn,y.G.size,fun b z _=>y.G.block b z (hno b)⟩;have hf':Frm (owns β s.H) w w':=⟨hf.os,hf.tape,hf.output,hf.drawn,hf.size,fun b z _=>hf.block b z id⟩;have O:=U.heap.kept (Mem.le_refl σ) Q hf fun b h0 A=>absurd h0 A;rcases hR with⟨rfl,rfl,hnil⟩|⟨q,e0,sz,es,rfl,rfl,hfl,hR⟩
  ·have hr':Rel N σ β s a w':=⟨U.size,U.defers,U.E,O⟩;have hrp:RepL σ β (.p .nils) u:=by
    cases Z with
    |p h=>exact .p (h.flat rfl)
   obtain⟨sl,hK,T⟩:=hr'.setD hrp (hn hnil);exact⟨u,σ,β,_,he,hK,T,Mem.le_refl σ,hf',fun b h0 A=>absurd h0 A,fun b z=>.inl z,fun _ _ _=>rfl⟩
  ·obtain⟨hu1,hu2⟩:=XI hu;have hkl:=YR hu;have B:∀j,j≠k->(β.set k (β' q)) j=β j:=fun j r=>by simp[Lab.set,r]
   have n:(β.set k (β' q)) k=β' q:=by simp[Lab.set]
   have I:∀i,β' q=some i->∀b,i.has b->w.heap.size<=b/\σ b=none/\b<w'.heap.size:=fun i d b z=>by
    have A:=D.apart q (x4w.2 rfl) i d b z;refine⟨?_,?_,A.2⟩
    ·rcases y.own b ⟨q,x4w.2 rfl,i,d,z⟩with C|C
     ·exact absurd C (hno b)
     ·exact C
    ·cases C:σ b with
     |none=>rfl
     |some c=>rw[y.le b c (h5 b c C)]at A;cases A.1
   have hch:(Chunk.own e0 sz es).holds σ (β.set k (β' q)) w' k:=by
    rcases D.chunks q (.own e0 sz es) (x4w.2 rfl)with⟨A,C⟩|⟨i,vs,A,C,h3,h4,h5',h6',h7'⟩
    ·exact .inl ⟨n.trans A,C⟩
    ·refine .inr ⟨i,vs,n.trans A,C,h3,h4,h5',h6',fun m x hx=>⟨(h7' m x hx).1,fun jj c V=>?_⟩⟩;obtain⟨v,h8',h9⟩:=(h7' m x hx).2 jj c V;exact⟨v,h8',h9.flat (hfl x (x4p hx) c (x4p V))⟩
   have J:∀j∈s.H.map (·.1),j≠k:=fun j r=>by
    obtain⟨⟨j',c⟩,hm,rfl⟩:=x4y.1 r;exact(hu1 j' c hm).1
   have hr':Rel N σ (β.set k (β' q)) ⟨s.sl,(k,.own e0 sz es)::s.H⟩ a w':=by
    refine⟨U.size,U.defers,fun i=>(U.E i).set _ (hu2 i),Q,fun j c r=>?_,?_,fun j r i d b z=>?_,fun j r j' hj' i i' d M b z hb'=>?_⟩
    ·rcases x4v.1 r with t|r
     ·cases t;exact hch
     ·exact(O.chunks j c r).set _ (hu1 j c r).1 (hu1 j c r).2
    ·rw[x4o,x6q];exact⟨fun hm=>J k hm rfl,O.nodup⟩
    ·rcases x4v.1 r with t|r
     ·have t:j=k:=t;subst t;rw[n]at d;exact(I i d b z).2
     ·rw[B j (J j r)]at d;exact O.apart j r i d b z
    ·have Y:∀j∈s.H.map (·.1),∀i,(β.set k (β' q)) j=some i->∀b,i.has b->b<w.heap.size:=fun j r i d b z=>by
      rw[B j (J j r)]at d;exact(U.heap.apart j r i d b z).2
     rcases x4v.1 r with t|hm<;>rcases x4v.1 hj' with F|hm'
     ·exact t.trans F.symm
     ·have t:j=k:=t;subst t;rw[n]at d;have:=(I i d b z).1;have:=Y j' hm' i' M b hb';omega
     ·have F:j'=k:=F;subst F;rw[n]at M;have:=(I i' M b hb').1;have:=Y j hm i d b z;omega
     ·rw[B j (J j hm)]at d;rw[B j' (J j' hm')]at M;exact O.inj j hm j' hm' i i' d M b z hb'
   have hrp:RepL σ (β.set k (β' q)) (.hd k 0 es.length) u:=by
    rcases Z.hdI with⟨A,_,C,rfl⟩|⟨i,o,A,C,h3,rfl⟩
    ·rw[C];exact .hdn k (n.trans A)
    ·exact .hd k 0 es.length i o (n.trans A) C h3
   obtain⟨sl,hK,T⟩:=hr'.setD hrp (h q e0 sz es hR);refine⟨u,σ,_,_,he,hK,T,Mem.le_refl σ,hf',fun b h0 A=>absurd h0 A,fun b z=>?_,fun j A _=>B j (by omega)⟩;obtain⟨j,r,i,d,z⟩:=z;rcases x4v.1 r with t|r
   ·have t:j=k:=t;subst t;rw[n]at d;exact .inr (I i d b z).1
   ·rw[B j (J j r)]at d;exact .inl ⟨j,r,i,d,z⟩
def Jg(L:List Str)(_:Nat)(e:TypeId)(sz:Nat)(es:List AV):Prop:=e=9/\sz=1/\es=L.map .str
def Ta(L:List Str):∀x∈L.map AV.str,∀c∈x.cells,c.flat=true:=fun x i c h=>by
 obtain⟨s,_,rfl⟩:=x4y.1 i;rw[x4w.1 (show c∈[AV.str s]from h)];rfl
def NQ{q n:Nat}{nil:Prop}(h:n=L.length):OneRow (Jg L) nil (.hd q 0 n) [(q,.own 9 1 (L.map .str))]:=
 .inr ⟨q,_,_,_,by rw[h,x3a],rfl,Ta L,rfl,rfl,rfl⟩
theorem OneRow.str{n:Nat}(h:n=L.length):OneRow (Jg L) False (.hd 0 0 n) [(0,.own 9 1 (L.map .str))]:=NQ h
def UE{n:Nat}{nil:Prop}(h:n=L.length):OneRow (Jg L) nil (.hd 0 0 n) [(0,.own 9 1 (L.map .str))]:=NQ h
def K9{T:Tab}{D:Bool}{o:Oper}{K:LV->Prop}(hT:TabOK P T){t u:TypeId}{x:Operand}(r:o.op=.binOp .eql t x (.const (.slice none 0 0)) u){i:TyI}(H:T.get t=some i){e:TypeId}(B:i.desc=.slice e){es:List AV}(I:QD s.sl x=.p (.sl es))(A:∀b:Bool,(b=true->es=[])->K (.p (.bool b))):ValO P D s o K:=by
 refine⟨fun σ β l w F _=>?_⟩;have k:=QX F x;rw[I]at k;have d:=hT.of H;rw[B]at d;have y:∃j n c,l.eval x=.slice j n c/\(j.isNone=true->es=[]):=by
  generalize l.eval x=v at k;cases k with
  | p k=>
    cases k with
    |nilsl=>exact⟨none,0,0,rfl,fun _=>rfl⟩
    |slz b=>exact⟨some b,0,0,rfl,fun _=>rfl⟩
    |sl _ b off cap sz cells u J z a G M E=>exact⟨_,_,_,rfl,fun h=>(by cases h)⟩
 obtain⟨j,n,c,y,q⟩:=y;refine⟨_,.bool j.isNone,A j.isNone q,.p (.bool _),fun w' _ _=>?_⟩;have g:l.eval (.const (.slice none 0 0))=.slice none 0 0:=rfl;have C:(eqGuard .eql t x (.const (.slice none 0 0)) (.slice j n c) (.slice none 0 0)).run P w'=.ok () w':=by unfold eqGuard;rfl
 have q:(Op.equal t (.slice j n c) (.slice none 0 0)).run P w'=.ok j.isNone w':=by
  have e:Op.equal t (.slice j n c) (.slice none 0 0)=Op.equalIn (9999+1) t (.slice j n c) (.slice none 0 0):=rfl;rw[e,Op.equalIn,Sem.run_bind,run_underlying d,Result.andThen_ok];cases j<;>rfl
 simp only[execOp,r,y,g,Sem.run_bind,C,Result.andThen_ok,binOp];simp[q]
def TL{es:List AV}{n:Nat}{nil:Prop}(q:Nat)(i:es=L.map .str)(h:n=L.length):OneRow (Jg L) nil (.hd q 0 n) [(q,.own 9 1 es)]:=by
 subst i;exact .inr ⟨q,_,_,_,by rw[h,x3a],rfl,Ta L,rfl,rfl,rfl⟩
theorem XX(l:List Str)(j:l.length<=1000000):SpecH prog 165 [.p (eStrs l)] [] (fun r H=>OneRow (Jg l) (l=[]) r H):=by
 refine sK YC func165 ?_;conv=>whnf
 repeat' ((first|refine x4e rfl ?_|refine aD ?_|refine K9 XM rfl rfl rfl rfl (fun q h=>?_)|refine x9p (fun x i=>by cases i) rfl ?_|refine FJ _ (by simp) (by simp;omega) ?_|(apply bB<;>intro _))<;>conv=>whnf)
 all_goals first
  |exact x6n _ (x4c _) (.inl ⟨rfl,rfl,z0i.1 (h (by assumption))⟩)
  |exact x6n _ (x4c _) (TL 0 rfl (by simp))
inductive CutH:Heap->Heap->Prop
 |nil:CutH [] []
 |same {c:Nat×Chunk} {H H':Heap} (h:CutH H H'):CutH (c::H) (c::H')
 |cut {k:Nat} {e:TypeId} {sz:Nat} {es es':List AV} {H H':Heap} (hp:es' <+: es) (h:CutH H H'):CutH ((k,.own e sz es)::H) ((k,.own e sz es')::H')
theorem CutH.get{H H':Heap}(h:CutH H H'):H'.map (·.1)=H.map (·.1)/\∀j c',(j,c')∈H'->(j,c')∈H\/∃e sz es es',(j,Chunk.own e sz es)∈H/\c'=.own e sz es'/\es' <+: es:=by
 induction h with
 |nil=>exact⟨rfl,by simp⟩
 | same h o=>
   refine⟨by simp[o.1],fun j c' i=>?_⟩;rcases x4v.1 i with rfl|i
   .exact .inl x4z
   .rcases o.2 j c' i with l|⟨e,sz,es,es',l,q⟩
    .exact .inl (x4x _ l)
    .exact .inr ⟨e,sz,es,es',x4x _ l,q⟩
 | @cut k e sz es es' H H' r h o=>
   refine⟨by simp[o.1],fun j c' i=>?_⟩;rcases x4v.1 i with i|i
   .cases i;exact .inr ⟨e,sz,es,es',x4z,rfl,r⟩
   .rcases o.2 j c' i with l|⟨e,sz,es,es',l,q⟩
    .exact .inl (x4x _ l)
    .exact .inr ⟨e,sz,es,es',x4x _ l,q⟩
theorem Le.cut{N:Nat}{sl:List (Nat×LV)}{H H':Heap}(h:CutH H H'):Le N ⟨sl,H⟩ ⟨sl,H'⟩:=fun σ β a w l=>by
 obtain⟨u,I⟩:=h.get;refine⟨σ,β,⟨l.size,l.defers,l.E,⟨l.heap.mem,fun j c' o=>?_,by show(H'.map (·.1)).Nodup;rw[u];exact l.heap.nodup,fun j o=>l.heap.apart j (by rw[<-u];exact o),fun j o J c=>l.heap.inj j (by rw[<-u];exact o) J (by rw[<-u];exact c)⟩⟩,Mem.le_refl σ,Frm.refl _ w,fun b A q=>absurd A q,fun b ⟨j,o,r⟩=>.inl ⟨j,by rw[<-u];exact o,r⟩,fun _ _ _=>rfl⟩;rcases I j c' o with q|⟨e,sz,es,es',q,rfl,v⟩
 .exact l.heap.chunks j c' q
 .rcases l.heap.chunks j _ q with⟨y,z⟩|⟨i,vs,y,z,B,C,D,F,G⟩
  .refine .inl ⟨y,?_⟩;rw[z]at v;exact List.prefix_nil.1 v
  .exact .inr ⟨i,vs,y,z,B,C,x5y v.length_le D,F,fun m x g=>G m x (by
    obtain⟨t,rfl⟩:=v;rw[x5i (x4u.1 g).1];exact g)⟩
theorem DrawK.le{T:Tab}{N:Nat}{ops:Array Oper}{i:Info}{id:Nat}{K:St->Prop}{s':St}(o:Le N s s')(h:DrawK P T N i id ops K s'):DrawK P T N i id ops K s:=by
 refine⟨⟨fun σ β a w u=>?_⟩⟩;obtain⟨σ1,β1,r,l⟩:=o σ β a w u;refine Code.wp_mono (fun e x w' j=>?_) (h.ok.ok σ1 β1 a w r);obtain⟨σ',β',v,j,q,t⟩:=j;exact⟨σ',β',v,j,q,l.trans t⟩
def Li(p:Pg)(id:Int):Option S:=((sheetOf p).l[(id-1).toNat]?).map Item.s
def Xk(a b:Step):Prop:=XK a.src<XK b.src\/(XK a.src=XK b.src/\XK a.dst<XK b.dst)
def Ik(s:Step):Prop:=okSt s/\s.kind=1
theorem GV{a b:Step}(h:a.src=b.src)(i:a.dst=b.dst)(j:a.kind=b.kind):a=b:=by
 cases a;cases b;simp_all
theorem GR{a b:Step}:DO a b=true↔XK a.src<XK b.src\/(XK a.src=XK b.src/\(XK a.dst<XK b.dst\/(XK a.dst=XK b.dst/\a.kind<b.kind))):=by
 have h:DO a b=decide (R0 a b<0):=rfl;rw[h,x5k];unfold R0;simp only[orI];split
 ·rename_i i;rw[JD]at i;split
  ·rename_i j;rw[JD]at j;split
   ·rename_i k;rw[JD]at k;omega
   ·rw[KQ];omega
  ·rename_i j;rw[JD]at j;rw[KQ];omega
 ·rename_i i;rw[JD]at i;rw[KQ];omega
theorem Qk(l:List Step):(KF l).Pairwise fun a b=>DO b a=false:=by
 have:=x9e (le:=fun x y=> !DO y x) (fun a b c i j=>by
  simp only[x7w]at i j⊢;rw[z0w,ne_eq,GR]at i j⊢;omega) (fun a b=>by
  cases i:DO b a with
  |false=>rfl
  | true=>
    have j:DO a b=false:=by
     rw[z0w,ne_eq,GR];rw[GR]at i;omega
    rw[j];rfl) l
 refine List.Pairwise.imp ?_ this;intro a b h;simpa using h
def Zr{a b:Step}(ha:Ik a)(i:Ik b):ZH a b=true↔a=b:=by
 unfold ZH;simp only[x4n,x5k];refine⟨fun h=>GV h.1 h.2 (by rw[ha.2,i.2]),fun h=>by rw[h];exact⟨rfl,rfl⟩⟩
theorem q4b{a b:Step}(ha:Ik a)(i:Ik b)(h:DO b a=false)(j:a≠b):Xk a b:=by
 rw[z0w,ne_eq,GR]at h;unfold Xk;by_cases k:XK a.src=XK b.src
 ·by_cases l:XK a.dst=XK b.dst
  ·exact absurd (GV (YN ha.1.1 i.1.1 k) (YN ha.1.2 i.1.2 l) (by rw[ha.2,i.2])) j
  ·omega
 ·omega
theorem Xg{a b c:Step}(h:Xk a b)(i:Xk b c):Xk a c:=by unfold Xk at*;omega
theorem HJ{a:Step}(h:Xk a a):False:=by unfold Xk at h;omega
theorem LQ:∀(l:List Step)(a:Step),Ik a->(∀s∈l,Ik s)->(a::l).Pairwise (fun a b=>DO b a=false)->(a::XZ a l).Pairwise Xk/\∀s,s∈a::XZ a l↔s∈a::l
 |[],a,_,_,_=>⟨by simp[XZ],by simp[XZ]⟩
 | b::r,a,ha,hl,h=>by
   have n:=hl b x4z;have v:∀s∈r,Ik s:=fun s k=>hl s (x4x _ k);rw[x6t]at h;obtain⟨t,u⟩:=h;obtain⟨p,q⟩:=LQ r b n v u;rw[XZ];cases k:ZH b a with
   | true=>
     obtain rfl:=(Zr n ha).1 k;rw[x4s];exact⟨p,fun s=>by rw[q];simp⟩
   | false=>
     rw[x5q];have o:a≠b:=fun e=>by
      rw[(Zr n ha).2 e.symm]at k;cases k
     have j:=q4b ha n (t b x4z) o;refine⟨?_,fun s=>by rw[x4v,q,<-x4v (a:=s) (b:=a)]⟩;rw[x6t];refine⟨fun s i=>?_,p⟩;rcases x4v.1 i with rfl|i
     .exact j
     .exact Xg j ((x6t.1 p).1 s i)
def SX{l:List Step}(k:∀s∈l,Ik s):(VY l).Pairwise Xk/\∀s,s∈VY l↔s∈l:=by
 have j:∀s,s∈KF l↔s∈l:=fun s=>(Yo l).mem_iff;have o:=Qk l;unfold VY;cases n:KF l with
 | nil=>
   rw[n]at j;exact⟨by simp[NV],fun s=>by rw[<-j];simp[NV]⟩
 | cons a r=>
   rw[n]at j o;have i:∀s∈a::r,Ik s:=fun s h=>k s ((j s).1 h);obtain⟨p,q⟩:=LQ r a (i a x4z) (fun s h=>i s (x4x _ h)) o;exact⟨p,fun s=>by rw[NV,q,j]⟩
theorem Gd:∀{l m:List Step},l.Pairwise Xk->m.Pairwise Xk->(∀s,s∈l↔s∈m)->l=m
 |[],[],_,_,_=>rfl
 |[],b::m,_,_,h=>by have:=(h b).2 x4z;cases this
 |a::l,[],_,_,h=>by have:=(h a).1 x4z;cases this
 | a::l,b::m,hl,hm,h=>by
   rw[x6t]at hl hm;have k:a=b:=by
    rcases x4v.1 ((h a).1 x4z)with e|ha
    .exact e
    .rcases x4v.1 ((h b).2 x4z)with e|n
     .exact e.symm
     .exact (HJ (Xg (hl.1 b n) (hm.1 a ha))).elim
   subst k;congr 1;refine Gd hl.2 hm.2 fun s=>⟨fun i=>?_,fun i=>?_⟩
   .rcases x4v.1 ((h s).1 (x4x _ i))with rfl|j
    .exact (HJ (hl.1 _ i)).elim
    .exact j
   .rcases x4v.1 ((h s).2 (x4x _ i))with rfl|j
    .exact (HJ (hm.1 _ i)).elim
    .exact j
def Np{p:Pg}(h:QL p=true){j:Nat}(l:p.A[j]?=some f):∀s∈QN p j f,Ik s:=by
 obtain⟨_,_,k⟩:=U1 h l;intro s i;refine⟨k s i,?_⟩;unfold QN at i;rcases x4v.1 i with rfl|i
 .rfl
 .obtain ⟨it,_,n⟩:=x4a.1 i;obtain⟨y,_,rfl⟩:=x4y.1 n;rfl
def Q5{p:Pg}(h:QL p=true){j:Nat}(i:p.A[j]?=some f):(QQ p j f).real.Pairwise Xk/\∀s,s∈(QQ p j f).real↔s∈QN p j f:=SX (Np h i)
theorem OI{p:Pg}(h:QL p=true){j:Nat}(n:p.A[j]?=some f){s:Step}(i:s∈QN p j f):s=⟨0,x2a p j f,1⟩\/(1<=s.src/\s.src<=9223372036854775806):=by
 obtain⟨_,_,q⟩:=XF h;obtain⟨_,_,_,o,l⟩:=QU p;obtain⟨_,_,r,_⟩:=l j f n;unfold QN at i;rcases x4v.1 i with rfl|i
 ·exact .inl rfl
 ·obtain⟨it,k,t⟩:=x4a.1 i;obtain⟨y,_,rfl⟩:=x4y.1 t;have:=UU (QB h).1 n (DY k);refine .inr ?_;simp only;omega
end Go.Ab
