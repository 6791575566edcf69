/- flat: where a statement goes on; a procedure's steps. -/
import Derived.Test.YtgpjfppgphaobaaGreatHasA12
set_option linter.all false
set_option maxRecDepth 100000
set_option maxHeartbeats 16000000
namespace Go.Ab
open Go.Proofs.Tryz
open Go.Proofs
variable {L:List Str}{N:List (List Int)}{P:Program}{f:Pr}{it:Item}{m:Nat}{s:St}
def KN(h:Sheet)(f:Pr)(it:Item):List Int:=
 if it.s.kind=5 then [Tm it.s.V it.next,Tm it.s.X it.next]
 else if it.s.kind=6 then [Tm it.s.V it.s.id,it.next]
 else if it.s.kind=7 then [((h.l[(it.loop-1).toNat]?).map Item.next).getD 0]
 else if it.s.kind=8 then [it.loop]
 else if it.s.kind=9 then [-1]
 else if it.s.kind=10 then [(atB f it.s.name).1]
 else [it.next]
def Ja(l:List S)(o:Int):aP 241 [eSs l,.int .i64 o] (.int .i64 (Tm l o)):=by
 unfold eSs;rw[S.avs_eq];exact Cx l o
theorem Vu(p:Pg)(j:Nat)(f:Pr)(v:p.A[j]?=some f)(t:cntP p.A<=1000)(it:Item)(w:it.C=j)(q:it.s.kind=7->1<=it.loop/\it.loop<=(sheetOf p).l.length):aP 183 [.ip (sheetOf p).cells,.agg it.cells] (QI (KN (sheetOf p) f it)):=by
 refine sC LE func183 ?_;conv=>whnf
 have r:=(QU p).2.2.2.1;have x:it.s.kind=7->∃u,(sheetOf p).l[(it.loop-1).toNat]?=some u/\((sheetOf p).l.map fun i=>AV.agg i.cells)[(it.loop-1).toNat]?=some (.agg u.cells):=fun h=>by
  have:=q h;have k:(it.loop-1).toNat<(sheetOf p).l.length:=by omega
  exact⟨_,x1k k,by rw[x1b,x1k k];rfl⟩
 repeat' ((first|refine dA ?_|refine x2j rfl ?_|refine aD ?_|refine bP ?_|refine wI ?_|refine cP (NI p j f v t it.s.name) ?_ (ha:=.cons (Sub.refl _) (.cons (Sub.int w) (.cons (Sub.refl _) .nil)))|refine BsK.pureL rfl rfl ?_|refine cP (Ja it.s.V _) ?_|refine cP (Ja it.s.X _) ?_|(obtain⟨u,n,o⟩:=x (by assumption);refine IdxK.at (by have:=q (by assumption);omega) o rfl ?_)|(apply bD<;>intro _<;>try omega))<;>conv=>whnf)
 all_goals first
  |exact RetK.p (by unfold KN;rw[if_neg (by assumption),if_neg (by assumption),if_pos (by assumption),n];rfl)
  |exact RetK.p (by unfold KN;rw[if_pos (by assumption)];rfl)
  |exact RetK.p (by unfold KN;rw[if_neg (by assumption),if_pos (by assumption)];rfl)
  |exact RetK.p (by unfold KN;rw[if_neg (by assumption),if_neg (by assumption),if_neg (by assumption),if_pos (by assumption)];rfl)
  |exact RetK.p (by unfold KN;rw[if_neg (by assumption),if_neg (by assumption),if_neg (by assumption),if_neg (by assumption),if_pos (by assumption)];rfl)
  |exact RetK.p (by unfold KN;rw[if_neg (by assumption),if_neg (by assumption),if_neg (by assumption),if_neg (by assumption),if_neg (by assumption),if_pos (by assumption)];rfl)
  |exact RetK.p (by unfold KN;rw[if_neg (by assumption),if_neg (by assumption),if_neg (by assumption),if_neg (by assumption),if_neg (by assumption),if_neg (by assumption)];rfl)
def QB(p:Pg)(j:Nat)(f:Pr):List Step:=
 ⟨0,if QT p.A j<QT p.A j+QJ f.body then((QT p.A j:Nat)+1:Int)else -1,1⟩::(itL j 0 (-1) 0 (QT p.A j) f.body).flatMap fun it=>(KN (sheetOf p) f it).map (Step.mk it.s.id · 1)
def itsOf(p:Pg)(j:Nat)(f:Pr):List Item:=itL j 0 (-1) 0 (QT p.A j) f.body
theorem Zy(p:Pg)(j:Nat)(f:Pr)(e:p.A[j]?=some f)(E:cntP p.A<=1000)(G:∀it∈itsOf p j f,it.s.kind=7->1<=it.loop/\it.loop<=(sheetOf p).l.length)(y:∀s∈QB p j f,okSt s):aP 139 [.ip (sheetOf p).cells,.int .i64 j] (eSteps (WA (QB p j f))):=by
 refine sC PI func139 ?_;conv=>whnf
 obtain⟨_,_,_,H,D⟩:=QU p;obtain⟨g,c,R,_⟩:=D j f e;repeat' ((first|(refine iM fun _=>?_)|refine x2j rfl ?_|refine aD ?_|refine cP (Zu (sheetOf p) j _ _ g c) ?_|refine cP (Gf p e E) ?_|refine x6a (fun x T=>by rcases x1n.1 T with rfl;rfl) rfl ?_)<;>conv=>whnf)
 have r:QB p j f=⟨0,if QT p.A j<QT p.A j+QJ f.body then((QT p.A j:Nat)+1:Int)else -1,1⟩::(itsOf p j f).flatMap fun it=>(KN (sheetOf p) f it).map (Step.mk it.s.id · 1):=rfl;have o:itL j 0 (-1) 0 (QT p.A j) f.body=itsOf p j f:=rfl;have z:∀it∈itsOf p j f,it.C=j:=fun it h=>JM _ _ _ _ _ _ it h;have d:(itsOf p j f).length<=1000:=by rw[<-o,XL];omega
 rw[o];generalize itsOf p j f=its at G r z d⊢;have Q:=ZT its;refine lI (fun i:Nat×List Step=>⟨[(0,.p (.ip (sheetOf p).cells)),(5,.hd 0 0 i.2.length),(17,.p (ZP its)),(18,.p (.int .i64 (its.map fun i=>AV.agg i.cells).length)),(19,.j i.1)],[(0,.own 225 3 (avS i.2))]⟩) (fun i=>i.1<=its.length/\i.2.length<=1+2*i.1/\i.2++(its.drop i.1).flatMap (fun it=>(KN (sheetOf p) f it).map (Step.mk it.s.id · 1))=QB p j f) (fun i=>its.length-i.1) (0,[⟨0,if QT p.A j<QT p.A j+QJ f.body then((QT p.A j:Nat)+1:Int)else -1,1⟩]) ⟨x1l _,by simp,by rw[r];rfl⟩ ?_;rintro⟨m,k⟩ ⟨I,J,t⟩;simp only at I J t⊢;rcases x1a m its.length with a|a;rotate_left 1
 ·have v:k=QB p j f:=by
   rw[x2x a]at t;simpa using t
  rw[<-v]at y⊢;conv=>whnf
  repeat' ((first|(apply bD<;>intro _<;>try omega)|(refine cH rH1 0 (Vy k y (by omega)) ?_))<;>conv=>whnf)
  exact⟨_,.hd rfl (by simp[avS]),rfl⟩
 have b:(KN (sheetOf p) f its[m]).length<=2:=by unfold KN;split<;>(try split)<;>(try split)<;>(try split)<;>(try split)<;>(try split)<;>simp
 rw[YX a]at t;have w:=x1c a;conv=>whnf
 repeat' ((first|(refine gX ?_;intros)|refine cP (Vu p j f e E its[m] (z _ w) (G _ w)) ?_|(apply bD<;>intro _<;>try omega))<;>conv=>whnf)
 generalize O:KN (sheetOf p) f its[m]=gs at b t⊢;have F:(gs.map (AV.int .i64)).length=gs.length:=x1j _;refine lI (fun i:Nat×List Step=>⟨[(0,.p (.ip (sheetOf p).cells)),(5,.hd 0 0 i.2.length),(7,.p (.ip its[m].cells)),(17,.p (ZP its)),(18,.p (.int .i64 (its.map fun i=>AV.agg i.cells).length)),(19,.j m),(25,.p (QI gs)),(26,.p (.int .i64 (gs.map (AV.int .i64)).length)),(27,.j i.1)],[(0,.own 225 3 (avS i.2))]⟩) (fun i=>i.1<=gs.length/\i.2.length<=k.length+i.1/\i.2++((gs.drop i.1).map (Step.mk its[m].s.id · 1)++(its.drop (m+1)).flatMap (fun it=>(KN (sheetOf p) f it).map (Step.mk it.s.id · 1)))=QB p j f) (fun i=>gs.length-i.1) (0,k) ⟨x1l _,by simp,t⟩ ?_;rintro⟨q,n⟩ ⟨K,M,u⟩;simp only at K M u⊢;rcases x1a q gs.length with B|B;rotate_left 1
 ·rw[x2x B]at u;conv=>whnf
  repeat' ((first|refine wI ?_|(apply bD<;>intro _<;>try omega))<;>conv=>whnf)
  exact nX (m+1,n) ⟨by simp only;omega,by simp only;omega,by simpa using u⟩
 rw[x2l B,x2g]at u;conv=>whnf
 repeat' ((first|(refine gX ?_;intros)|refine pA 1 24 (by simp[avS]) ?_|(apply bD<;>intro _<;>try omega))<;>conv=>whnf)
 exact⟨(q+1,n++[⟨its[m].s.id,gs[q],1⟩]),⟨by simp only;omega,by simp;omega,by simpa using u⟩,by simp only;omega,Le.of_eq (by simp only[avS,x1h,x1e];rfl)⟩
def bv:Bool->AV
 |true=>.tt
 |false=>.ff
structure Way where
 p:Pg
 j:Nat
 n:Int
 real:List Step
 live:List Bool
def Way.cells(w:Way):List AV:=[.ip (sheetOf w.p).cells,.int .i64 w.j,.int .i64 w.n,eSteps w.real,.sl (w.live.map bv)]
def Oi(p:Pg)(j:Nat)(n:Int)(h:AV)(i:List AV):Heap:=[(1000,.obj 103 [.p (.ip (sheetOf p).cells),.p (.int .i64 j),.p (.int .i64 n),.p h,.hd 2000 0 i.length]),(2000,.own 4 1 i)]
def KM(h i n x:Int):Int:=if x=0 then 0 else if x = -1 then n-1 else if h<=x/\x<i then x-h+1 else -1
def loI(p:Pg)(j:Nat):Int:=(QT p.A j:Nat)+1
def hiI(p:Pg)(j:Nat)(f:Pr):Int:=(QT p.A j+QJ f.body:Nat)+1
theorem LL(w:Way)(f:Pr)(o:w.p.A[w.j]?=some f)(r:cntP w.p.A<=1000)(t:0<=w.n/\w.n<=5000)(x:Int):aP 167 [.ip w.cells,.int .i64 x] (.int .i64 (KM (loI w.p w.j) (hiI w.p w.j f) w.n x)):=by
 refine sC HF func167 ?_;conv=>whnf
 obtain⟨_,_,_,l,k⟩:=QU w.p;obtain⟨i,h,q,_⟩:=k w.j f o;repeat' ((first|refine dA ?_|refine wI ?_|refine IdxK.at rfl (VI i) rfl ?_|refine IdxK.at rfl (VI h) rfl ?_|(apply bD<;>intro _<;>try omega))<;>conv=>whnf)
 all_goals exact RetK.int (by unfold KM loI hiI;(repeat' split)<;>omega)
theorem F9(p:Pg)(j:Nat)(f:Pr)(n:Int)(h:AV)(q:List AV)(r:p.A[j]?=some f)(u:cntP p.A<=1000)(v:0<=n/\n<=5000)(x:Int):
  aH 167 [.ptr 1000 0,.j x] (Oi p j n h q) (.p (.int .i64 (KM (loI p j) (hiI p j f) n x))) (Oi p j n h q):=by
 obtain⟨_,_,_,o,l⟩:=QU p;obtain⟨k,i,t,_⟩:=l j f r;refine sK HF func167 ?_;conv=>whnf
 repeat' ((first|refine dA ?_|refine wI ?_|refine IdxK.at rfl (VI k) rfl ?_|refine IdxK.at rfl (VI i) rfl ?_|(apply bD<;>intro _<;>try omega))<;>conv=>whnf)
 all_goals exact⟨_,x6v (Sub.int (by unfold KM loI hiI;(repeat' split)<;>omega)),rfl,rfl⟩
def avP(l:List (Int×Int)):List AV:=l.map fun x=>.agg [.int .i64 x.1,.int .i64 x.2]
def ixP(p:Pg)(j:Nat)(f:Pr)(n:Int)(s:Step):Int×Int:=(KM (loI p j) (hiI p j f) n s.src,KM (loI p j) (hiI p j f) n s.dst)
theorem WF(w:Way)(f:Pr)(v:w.p.A[w.j]?=some f)(u:cntP w.p.A<=1000)(x:0<=w.n/\w.n<=5000)(l:List Step)(r:l.length<=1000000):aP 125 [.ip w.cells,eSteps l] (.sl (avP (l.map (ixP w.p w.j f w.n)))):=by
 refine sC HD func125 ?_;conv=>whnf
 repeat' ((refine iM fun _=>?_)<;>conv=>whnf)
 have y:(l.map fun s=>AV.agg s.cells).length=l.length:=x1j _;refine lJ (fun i:Nat×List (Int×Int)=>⟨[(0,.p (.ip w.cells)),(5,.hd 0 0 i.2.length),(8,.p (eSteps l)),(9,.p (.int .i64 (l.map fun s=>AV.agg s.cells).length)),(10,.j i.1)],[(0,.own 136 2 (avP i.2))]⟩) (fun i=>i.1<=l.length/\i.2=(l.take i.1).map (ixP w.p w.j f w.n)) (fun i=>l.length-i.1) (0,[]) (lM [(0,.own 136 2 [])]) ⟨x1l _,rfl⟩ ?_;rintro⟨m,h⟩ ⟨t,k⟩;simp only at t k⊢;rcases x1a m l.length with o|o;rotate_left 1
 ·rw[x1i o]at k;subst k;conv=>whnf
  repeat' (apply bD<;>intro _<;>first|omega|conv=>whnf)
  exact⟨_,.hd rfl (by simp[avP]),rfl⟩
 have q:h.length=m:=by rw[k];simp;omega
 conv=>whnf
 repeat' ((first|refine dA ?_|(refine gX ?_;intros)|refine cP (LL w f v u x _) ?_|refine pA 1 16 (by simp[avP]) ?_|(apply bD<;>intro _<;>try omega))<;>conv=>whnf)
 exact⟨(m+1,h++[ixP w.p w.j f w.n l[m]]),⟨by simp only;omega,by simp only;rw[k,x1t o,x1e];rfl⟩,by simp only;omega,Le.of_eq (by simp only[avP,x1h,x1e];rfl)⟩
def Xy{f:FuncId}{args:List LV}{H n:Heap}{e:TypeId}{sz:Nat}{Q:List AV->Prop}(z:ME 0 n fun H=>H=n)(h:SpecH P f args H (fun r H'=>∃es,r=.hd 0 0 es.length/\H'=(0,.own e sz es)::n/\Q es)):SpecH P f args H (fun r H'=>∃es,r=.p (.sl es)/\H'=n/\Q es):=by
 refine⟨h.go,fun σ β w a C D F=>(h.ok σ β w a C D F).mono fun M w' J=>?_⟩;obtain⟨l,u,σ',β',H',I,⟨es,rfl,rfl,G⟩,y,v,q⟩:=J;obtain⟨s',rfl,A⟩:=Le.row (N:=1) (s:=⟨[(0,.hd 0 0 es.length)],(0,.own e sz es)::n⟩) (k:=0) (e:=e) (sz:=sz) (es:=es) (zs:=[0]) rfl (K:=fun s=>s=⟨[(0,.p (.sl es))],n⟩) (by
  show LenK es.length es _;refine⟨rfl,?_⟩;show ME 0 n fun H=>(⟨[(0,.p (.sl es))],H⟩:St)=⟨[(0,.p (.sl es))],n⟩;have key:∀{H1:Heap}{K b:Heap->Prop},(∀H,K H->b H)->ME 0 H1 K->ME 0 H1 b:=fun {H1}=>by
   induction H1 with
   |nil=>intro K b o h;exact o _ h
   | cons x r d=>
     intro K b o h;obtain⟨j,c⟩:=x;simp only[ME]at h⊢;cases B:j==0 with
     | true=>
       simp only[B,x2y]at h⊢;exact d o h
     | false=>
       simp only[B,x2f]at h⊢;cases c with
       |obj e ls=>simp only[WS]at h⊢;exact d (fun H hH=>o _ hH) h
       |own e sz es=>exact d (fun H hH=>o _ hH) h
       |ext x=>exact d (fun H hH=>o _ hH) h
  exact key (fun H hH=>by rw[hH]) z)
 obtain⟨σ2,β2,t,g⟩:=A σ' β' {tmps:=#[u],defers:=[]} w' ⟨rfl,rfl,fun i=>by
  match i with
  |0=>simpa[getS]using y
  |i+1=>exact .p (by simpa[getS]using Rep.any _),v⟩
 exact⟨.p (.sl es),u,σ2,β2,n,I,⟨es,rfl,rfl,G⟩,by simpa[getS]using t.E 0,t.heap,q.trans g⟩
theorem Fq(p:Pg)(j:Nat)(f:Pr)(n:Int)(h:AV)(q:List AV)(y:p.A[j]?=some f)(x:cntP p.A<=1000)(z:0<=n/\n<=5000)(l:List Step)(v:l.length<=1000000):
  SpecH prog 125 [.ptr 1000 0,.p (eSteps l)] (Oi p j n h q) (fun r H=>∃es,r=.p (.sl es)/\H=Oi p j n h q/\es=avP (l.map (ixP p j f n))):=by
 refine Xy (e:=136) (sz:=2) rfl ?_;refine sK HD func125 ?_;conv=>whnf
 repeat' ((refine iM fun _=>?_)<;>conv=>whnf)
 have a:(l.map fun s=>AV.agg s.cells).length=l.length:=x1j _;refine lJ (fun i:Nat×List (Int×Int)=>⟨[(0,.ptr 1000 0),(5,.hd 0 0 i.2.length),(8,.p (eSteps l)),(9,.p (.int .i64 (l.map fun s=>AV.agg s.cells).length)),(10,.j i.1)],(0,.own 136 2 (avP i.2))::Oi p j n h q⟩) (fun i=>i.1<=l.length/\i.2=(l.take i.1).map (ixP p j f n)) (fun i=>l.length-i.1) (0,[]) (lM [(0,.own 136 2 [])] (hnd:=by simp[Oi])) ⟨x1l _,rfl⟩ ?_;rintro⟨m,k⟩ ⟨w,o⟩;simp only at w o⊢;rcases x1a m l.length with t|t;rotate_left 1
 ·rw[x1i t]at o;subst o;conv=>whnf
  repeat' (apply bD<;>intro _<;>first|omega|conv=>whnf)
  exact⟨_,x2u _,avP (l.map (ixP p j f n)),by simp[avP],rfl,rfl⟩
 have u:k.length=m:=by rw[o];simp;omega
 conv=>whnf
 repeat' ((first|refine dA ?_|(refine gX ?_;intros)|refine pA 1 16 (by simp[avP]) ?_|(apply bD<;>intro _<;>try omega)|(refine cH [(1000,1000),(2000,2000)] 0 (F9 p j f n h q y x z _) ?_))<;>conv=>whnf)
 exact⟨(m+1,k++[ixP p j f n l[m]]),⟨by simp only;omega,by simp only;rw[o,x1t t,x1e];rfl⟩,by simp only;omega,lE (hnd:=by simp[Oi]) (hsl:=.r (.cons (.of_eq (by simp only[x1h];rfl)) (.r (.r (.cons (.of_eq rfl) .nil))))) (hH:=.cons rfl (.of_eq (by simp only[avP,x1e];rfl)) (.cons rfl (.refl _) (.cons rfl (.refl _) .nil)))⟩
theorem Ns{l:List Int}{x:Int}(h:l.Pairwise (· <= ·)):(Xc l (l.countP (· < x)) x).Pairwise (· <= ·):=by
 induction l with
 |nil=>simp[Xc]
 | cons a r o=>
   obtain⟨j,n⟩:=x4h.1 h;by_cases ha:a<x
   ·have e:Xc (a::r) ((a::r).countP (· < x)) x=a::Xc r (r.countP (· < x)) x:=by
     unfold Xc;rw[List.countP_cons_of_pos (by simpa using ha)];rfl
    rw[e,x4h];refine⟨fun b i=>?_,o n⟩;unfold Xc at i;rcases x1s.1 i with i|i
    ·exact j b (x6p i)
    ·rcases x1p.1 i with rfl|i
     ·omega
     ·exact j b (List.mem_of_mem_drop i)
   ·have k:(a::r).countP (· < x)=0:=by
     rw[List.countP_eq_zero];intro b i;rcases x1p.1 i with rfl|i
     ·simpa using ha
     ·have:=j b i;simp;omega
    rw[k];show(x::a::r).Pairwise (· <= ·);refine x4h.2 ⟨fun b i=>?_,h⟩;rcases x1p.1 i with rfl|i
    ·omega
    ·have:=j b i;omega
def Vt(n m:Nat)(N:List (List Int)):Prop:=N.length=n/\∀r∈N,r.Pairwise (· <= ·)/\r.length<=m
theorem Di{n:Nat}(h:Vt n m N)(a:Nat)(b:Int):Vt n (m+1) (Ky N a b):=by
 unfold Ky;refine⟨by rw[x3f];exact h.1,fun r j=>?_⟩;rcases x4k j with j|rfl
 ·obtain⟨i,k⟩:=h.2 r j;exact⟨i,by omega⟩
 ·rcases x1a a N.length with ha|ha
  ·have l:N.getD a []∈N:=by
    rw[x1g,x1k ha];exact x1c ha
   obtain⟨i,k⟩:=h.2 _ l;exact⟨Ns i,by rw[W0 x7t];omega⟩
  ·have:N.getD a []=[]:=by simp[x3m ha]
   rw[this];exact⟨by simp[Xc],by simp[Xc]⟩
def K2{n j:Nat}(h:Vt n m N)(k:m<=j):Vt n j N:=⟨h.1,fun r i=>⟨(h.2 r i).1,x2m (h.2 r i).2 k⟩⟩
def Fy(n:Nat)(g:List (List Int)×List (List Int))(e:Int×Int):List (List Int)×List (List Int):=
 bif ZF n e.1&&ZF n e.2 && !(g.1.getD e.1.toNat []).contains e.2 then(Ky g.1 e.1.toNat e.2,Ky g.2 e.2.toNat e.1)else g
def QC(n:Nat)(l:List (Int×Int)):List (List Int)×List (List Int):=l.foldl (Fy n) (List.replicate n [],List.replicate n [])
def eMat(m:List (List Int)):AV:=.sl ((avI m).map .sl)
def VY(g:List (List Int)×List (List Int)):AV:=.ip [eMat g.1,eMat g.2]
def Wl(n:Nat)(g:List (List Int)×List (List Int))(e:Int×Int):(Fy n g e).1=bif ZF n e.1&&ZF n e.2 && !(g.1.getD e.1.toNat []).contains e.2 then Ky g.1 e.1.toNat e.2 else g.1:=by
 unfold Fy;cases ZF n e.1&&ZF n e.2 && !(g.1.getD e.1.toNat []).contains e.2<;>rfl
def Jy(n:Nat)(g:List (List Int)×List (List Int))(e:Int×Int):(Fy n g e).2=bif ZF n e.1&&ZF n e.2 && !(g.1.getD e.1.toNat []).contains e.2 then Ky g.2 e.2.toNat e.1 else g.2:=by
 unfold Fy;cases ZF n e.1&&ZF n e.2 && !(g.1.getD e.1.toNat []).contains e.2<;>rfl
theorem El{n:Nat}{g:List (List Int)×List (List Int)}(h:Vt n m g.1/\Vt n m g.2)(e:Int×Int):Vt n (m+1) (Fy n g e).1/\Vt n (m+1) (Fy n g e).2:=by
 rw[Wl,Jy];cases ZF n e.1&&ZF n e.2 && !(g.1.getD e.1.toNat []).contains e.2
 ·exact⟨K2 h.1 (by omega),K2 h.2 (by omega)⟩
 ·exact⟨Di h.1 _ _,Di h.2 _ _⟩
def PZ{n:Nat}{l:List (Int×Int)}(h:m<l.length):QC n (l.take (m+1))=Fy n (QC n (l.take m)) l[m]:=by
 unfold QC;rw[x1t h,x5v];rfl
theorem DJ{n:Nat}{l:List (Int×Int)}:∀{m:Nat},m<=l.length->Vt n m (QC n (l.take m)).1/\Vt n m (QC n (l.take m)).2
 | 0,_=>by
   have:Vt n 0 (List.replicate n []):=⟨by simp,fun r i=>by rw[x3b i];simp⟩;exact⟨this,this⟩
 | m+1,h=>by
   rw[PZ h];exact El (DJ (by omega)) _
def K8{h:Nat}{sl:List (Nat×LV)}(n a b:Nat)(k:(sl.all fun x=>x.2.xfree 0)=true)(l:(sl.all fun x=>x.2.xfree 1)=true):
  Le h ⟨sl,[(2,.obj 236 [.hd a 0 n,.hd b 0 n]),(1,.own 56 1 (List.replicate n .nils)),(0,.own 56 1 (List.replicate n .nils))]⟩
   ⟨sl,[(2,.obj 236 [.hd a 0 n,.hd b 0 n]),(1,.ext (.mat 56 3 1 (List.replicate n []) [])),(0,.ext (.mat 56 3 1 (List.replicate n []) []))]⟩:=by
 have o:=YS (N:=h) (sl:=sl) (H:=[(2,.obj 236 [.hd a 0 n,.hd b 0 n]),(1,.own 56 1 (List.replicate n .nils)),(0,.own 56 1 (List.replicate n .nils))])
  (H':=[(2,.obj 236 [.hd a 0 n,.hd b 0 n]),(1,.own 56 1 (List.replicate n .nils)),(0,.ext (.mat 56 3 1 (List.replicate (List.replicate n AV.nils).length []) []))])
  0 3 1 (e:=56) (es:=List.replicate n .nils) rfl (fun x j=>x3b j) rfl k rfl rfl (by simp[JY])
 have i:=YS (N:=h) (sl:=sl) (H:=[(2,.obj 236 [.hd a 0 n,.hd b 0 n]),(1,.own 56 1 (List.replicate n .nils)),(0,.ext (.mat 56 3 1 (List.replicate (List.replicate n AV.nils).length []) []))])
  (H':=[(2,.obj 236 [.hd a 0 n,.hd b 0 n]),(1,.ext (.mat 56 3 1 (List.replicate (List.replicate n AV.nils).length []) [])),(0,.ext (.mat 56 3 1 (List.replicate (List.replicate n AV.nils).length []) []))])
  1 3 1 (e:=56) (es:=List.replicate n .nils) rfl (fun x j=>x3b j) rfl l rfl rfl (by simp[JY])
 have:=o.trans i;simpa using this
theorem Va(n:Nat)(z:n<=5000)(l:List (Int×Int))(y:l.length<=1000000):aP 184 [.int .i64 n,.sl (avP l)] (VY (QC n l)):=by
 refine sC N7 func184 ?_;conv=>whnf
 repeat' ((first|(refine gX ?_;intros)|refine dA ?_|refine x5i n rfl (by show 24*n<=140737488355328;omega) (by unfold maxLen;omega) ?_|(apply bD<;>intro _<;>try omega)|refine x2j ?_ ?_)<;>conv=>whnf)
 all_goals have a:(avP l).length=l.length:=x1j _
 ·refine lJ (fun m:Nat=>⟨[(5,.ptr (0+1+1) 0),(20,.p (.sl (avP l))),(21,.p (.int .i64 (avP l).length)),(22,.j m)],[(0+1+1,.obj 236 [.hd 0 0 n,.hd (0+1) 0 n]),(0,.ext (.mat 56 3 1 (avI (QC n (l.take m)).1) [])),(0+1,.ext (.mat 56 3 1 (avI (QC n (l.take m)).2) []))]⟩) (fun m=>m<=l.length) (fun m=>l.length-m) 0 (by
    refine Le.trans (K8 n _ _ rfl rfl) ?_;exact lE (hH:=.cons rfl (.refl _) (.cons rfl (.of_eq (by simp[avI,QC])) (.cons rfl (.of_eq (by simp[avI,QC])) .nil)))) (x1l _) ?_
  rintro m w;obtain⟨g1,h⟩:=DJ (n:=n) w;rcases x1a m l.length with q|q
  ·have v:(avP l)[m]?=some (.agg [.int .i64 l[m].1,.int .i64 l[m].2]):=by simp[avP,q]
   conv=>whnf
   repeat' ((first|refine x2j rfl ?_|refine wI ?_|refine iT v ?_|refine x3c 0 rfl (by decide) ?_|refine x3c 1 rfl (by decide) ?_|(apply bD<;>intro _<;>try omega)|(refine cJ [(1000,0+1+1),(2001,0),(2002,1)] 0 (Do n _ _ l[m].1 l[m].2 g1.1 h.1 z (fun r u=>⟨(g1.2 r u).1,by have:=(g1.2 r u).2;omega⟩) (fun r u=>⟨(h.2 r u).1,by have:=(h.2 r u).2;omega⟩)) ?_;rintro l' H' ⟨t,rfl,rfl⟩))<;>conv=>whnf)
   exact⟨m+1,q,by omega,Le.of_eq (by rw[PZ q,Wl,Jy];rfl)⟩
  ·rw[x1i q]at g1 h⊢;conv=>whnf
   repeat' (apply bD<;>intro _<;>first|omega|conv=>whnf)
   exact⟨_,.ptr (cs:=[eMat (QC n l).1,eMat (QC n l).2]) rfl rfl (fun i x c k o=>by
    match i,k,o with
    |0,k,o=>cases k;cases o;exact .mat rfl (by rw[avI,x1j,g1.1])
    |1,k,o=>cases k;cases o;exact .mat rfl (by rw[avI,x1j,h.1])),rfl⟩
 ·refine lJ (fun m:Nat=>⟨[(5,.ptr (0+1+1) 0),(20,.p (.sl (avP l))),(21,.p (.int .i64 (avP l).length)),(22,.j m)],[(0+1+1,.obj 236 [.hd (0+1) 0 n,.hd 0 0 n]),(0+1,.ext (.mat 56 3 1 (avI (QC n (l.take m)).1) [])),(0,.ext (.mat 56 3 1 (avI (QC n (l.take m)).2) []))]⟩) (fun m=>m<=l.length) (fun m=>l.length-m) 0 (by
    refine Le.trans (K8 n _ _ rfl rfl) ?_;exact lE (hH:=.cons rfl (.refl _) (.cons rfl (.of_eq (by simp[avI,QC])) (.cons rfl (.of_eq (by simp[avI,QC])) .nil)))) (x1l _) ?_
  rintro m w;obtain⟨g1,h⟩:=DJ (n:=n) w;rcases x1a m l.length with q|q
  ·have v:(avP l)[m]?=some (.agg [.int .i64 l[m].1,.int .i64 l[m].2]):=by simp[avP,q]
   conv=>whnf
   repeat' ((first|refine x2j rfl ?_|refine wI ?_|refine iT v ?_|refine x3c 0 rfl (by decide) ?_|refine x3c 1 rfl (by decide) ?_|(apply bD<;>intro _<;>try omega)|(refine cJ [(1000,0+1+1),(2001,1),(2002,0)] 0 (Do n _ _ l[m].1 l[m].2 g1.1 h.1 z (fun r u=>⟨(g1.2 r u).1,by have:=(g1.2 r u).2;omega⟩) (fun r u=>⟨(h.2 r u).1,by have:=(h.2 r u).2;omega⟩)) ?_;rintro l' H' ⟨t,rfl,rfl⟩))<;>conv=>whnf)
   exact⟨m+1,q,by omega,Le.of_eq (by rw[PZ q,Wl,Jy];rfl)⟩
  ·rw[x1i q]at g1 h⊢;conv=>whnf
   repeat' (apply bD<;>intro _<;>first|omega|conv=>whnf)
   exact⟨_,.ptr (cs:=[eMat (QC n l).1,eMat (QC n l).2]) rfl rfl (fun i x c k o=>by
    match i,k,o with
    |0,k,o=>cases k;cases o;exact .mat rfl (by rw[avI,x1j,g1.1])
    |1,k,o=>cases k;cases o;exact .mat rfl (by rw[avI,x1j,h.1])),rfl⟩
def JE(st:List Bool×List Int)(b:Int):List Bool×List Int:=bif st.1.getD b.toNat false then st else(st.1.set b.toNat true,st.2++[b])
def ZV(rows:List (List Int)):Nat->Nat->List Bool×List Int->List Bool×List Int
 |0,_,st=>st
 | k+1,i,st=>match st.2[i]?with
   |some a=>ZV rows k (i+1) ((rows.getD a.toNat []).foldl JE st)
   |none=>st
def wkInv(n:Nat)(st:List Bool×List Int):Prop:=st.1.length=n/\st.2.length<=st.1.count true/\∀x∈st.2,0<=x/\x<n
theorem LX{n:Nat}{st:List Bool×List Int}(h:wkInv n st){b:Int}(p:0<=b/\b<n):wkInv n (JE st b):=by
 unfold JE;obtain⟨k,o,l⟩:=h;have i:b.toNat<st.1.length:=by omega
 cases r:st.1.getD b.toNat false with
 |true=>exact⟨k,o,l⟩
 | false=>
   have q:st.1[b.toNat]=false:=by simpa[i]using r
   refine⟨by simpa using k,?_,fun x j=>?_⟩
   ·simp only[x2f,x1h,x2k];rw[List.count_set i,q];simp;omega
   ·rcases x1s.1 j with j|j
    ·exact l x j
    ·rw[x1n.1 j];exact p
def Cu{n:Nat}{l:List Int}:∀{st:List Bool×List Int},wkInv n st->(∀b∈l,0<=b/\b<n)->wkInv n (l.foldl JE st):=by
 induction l with
 |nil=>intro st h _;exact h
 |cons b r k=>intro st h i;exact k (LX h (i b x1f)) fun c j=>i c (x1d _ j)
def FA{n:Nat}{st:List Bool×List Int}(h:wkInv n st):st.2.length<=n:=by
 refine x2m h.2.1 ?_;rw[<-h.1];exact List.count_le_length
def XY(n:Nat)(rows:List (List Int)):Prop:=rows.length=n/\∀r∈rows,∀b∈r,0<=b/\b<n
def E9(st:List Bool×List Int):Heap:=[(1000,.own 4 1 (st.1.map bv)),(2000,.own 3 1 (st.2.map (.int .i64)))]
theorem K3(n:Nat)(J:n<=5000)(rows:List (List Int))(D:XY n rows)(st:List Bool×List Int)(I:wkInv n st):
  aH 186 [.p (eMat rows),.hd 1000 0 n,.hd 2000 0 st.2.length] (E9 st) (.hd 2000 0 (ZV rows (n+1) 0 st).2.length) (E9 (ZV rows (n+1) 0 st)):=by
 refine sK Fd func186 ?_;conv=>whnf
 skip
 refine lI (fun x:Nat×List Bool×List Int=>⟨[(0,.p (eMat rows)),(1,.hd 1000 0 n),(2,.hd 2000 0 x.2.2.length),(7,.j x.1)],E9 x.2⟩) (fun x=>wkInv n x.2/\x.1<=x.2.2.length/\ZV rows (n+1-x.1) x.1 x.2=ZV rows (n+1) 0 st) (fun x=>n-x.1) (0,st) ⟨I,x1l _,rfl⟩ ?_;rintro⟨i,seen,h⟩ ⟨b,E,l⟩;simp only at b E l⊢;have g:=FA b;simp only at g;rw[show n+1-i=n-i+1 by omega,ZV]at l;rcases x1a i h.length with y|y;rotate_left 1
 ·simp only[x3m y]at l;conv=>whnf
  repeat' ((first|(refine iM fun _=>?_)|(apply bD<;>intro _<;>try omega))<;>conv=>whnf)
  exact⟨_,x6z (by rw[<-l]),rfl,by rw[<-l];rfl⟩
 simp only[x1k y]at l;have K:=b.2.2 _ (x1c y);have w:h[i].toNat<rows.length:=by rw[D.1];omega
 have a:((avI rows).map AV.sl)[h[i].toNat]?=some (.sl (rows[h[i].toNat].map (.int .i64))):=by simp[avI,w]
 have e:rows.getD h[i].toNat []=rows[h[i].toNat]:=by simp[w]
 rw[e]at l;have v:=D.2 _ (x1c w);conv=>whnf
 repeat' ((first|(refine iM fun _=>?_)|refine x2j rfl ?_|refine iO i ?_|refine x8g i 0 (.int .i64 h[i]) (by omega) (by simp[y]) ?_|refine iT a ?_|(apply bD<;>intro _<;>try omega))<;>conv=>whnf)
 have A:(rows[h[i].toNat].map (AV.int .i64)).length<=9223372036854775807:=by assumption
 generalize rows[h[i].toNat]=row at v l A⊢;have H:(row.map (AV.int .i64)).length=row.length:=x1j _;refine lI (fun x:Nat×List Bool×List Int=>⟨[(0,.p (eMat rows)),(1,.hd 1000 0 n),(2,.hd 2000 0 x.2.2.length),(7,.j i),(22,.p (.sl (row.map (.int .i64)))),(23,.p (.int .i64 (row.map (AV.int .i64)).length)),(24,.j x.1)],E9 x.2⟩) (fun x=>wkInv n x.2/\h.length<=x.2.2.length/\x.1<=row.length/\ZV rows (n-i) (i+1) ((row.drop x.1).foldl JE x.2)=ZV rows (n+1) 0 st) (fun x=>row.length-x.1) (0,seen,h) ⟨b,x2q _,x1l _,l⟩ ?_;rintro⟨q,k,t2⟩ ⟨t,B,F,u⟩;simp only at t B F u⊢;have z:=FA t;simp only at z;rcases x1a q row.length with c|c;rotate_left 1
 ·rw[x2x c]at u;conv=>whnf
  repeat' ((first|refine wI ?_|(apply bD<;>intro _<;>try omega))<;>conv=>whnf)
  exact nX (i+1,k,t2) ⟨t,by simp only;omega,by simp only;rw[show n+1-(i+1)=n-i by omega];exact u⟩
 rw[x2l c,x4d]at u;have G:=v _ (x1c c);have C:=LX t G;have o:row[q].toNat<k.length:=by have:=t.1;simp only at this;omega
 cases r:k.getD row[q].toNat false with
 | true=>
   have d:JE (k,t2) row[q]=(k,t2):=by unfold JE;simp only[r,x2y]
   have e2:(k.map bv)[row[q].toNat]?=some .tt:=by
    have:k[row[q].toNat]=true:=by simpa[o]using r
    simp[o,this,bv]
   rw[d]at u;conv=>whnf
   repeat' ((first|(refine gX ?_;intros)|refine x3c row[q].toNat (by omega) (by have:=t.1;simp only at this;omega) ?_|refine x8g row[q].toNat 0 .tt (by omega) e2 ?_|(apply bD<;>intro _<;>try omega))<;>conv=>whnf)
   all_goals exact nX (q+1,k,t2) ⟨t,B,by simp only;omega,u⟩
 | false=>
   have d:JE (k,t2) row[q]=(k.set row[q].toNat true,t2++[row[q]]):=by unfold JE;simp only[r,x2f]
   have e2:(k.map bv)[row[q].toNat]?=some .ff:=by
    have:k[row[q].toNat]=false:=by simpa[o]using r
    simp[o,this,bv]
   rw[d]at u C;conv=>whnf
   repeat' ((first|(refine gX ?_;intros)|refine x3c row[q].toNat (by omega) (by have:=t.1;simp only at this;omega) ?_|refine x8g row[q].toNat 0 .ff (by omega) e2 ?_|refine x5r row[q].toNat 0 .ff .tt (by omega) e2 (x2q 1) rfl ?_|refine pI ?_|(apply bD<;>intro _<;>try omega))<;>conv=>whnf)
   all_goals exact⟨(q+1,k.set row[q].toNat true,t2++[row[q]]),⟨C,by simp;omega,by simp only;omega,u⟩,by simp only;omega,Le.of_eq (by simp only[E9,x1h,x1e,x2s];rfl)⟩
def FZ:Nat->List Bool->List Int
 |_,[]=>[]
 |i,b::r=>bif b then(i:Int)::FZ (i+1) r else FZ (i+1) r
theorem B0(seen:List Bool)(t:seen.length<=1000000):
  SpecH prog 187 [.hd 1000 0 seen.length] [(1000,.own 4 1 (seen.map bv))] (fun r H=>∃es,r=.p (.sl es)/\H=[(1000,.own 4 1 (seen.map bv))]/\es=(FZ 0 seen).map (.int .i64)):=by
 refine Xy (e:=3) (sz:=1) rfl ?_;refine sK Yr func187 ?_;conv=>whnf
 repeat' ((refine iM fun _=>?_)<;>conv=>whnf)
 refine lJ (fun i:Nat×List Int=>⟨[(3,.hd 0 0 i.2.length),(6,.hd 1000 0 seen.length),(7,.j seen.length),(8,.j i.1)],[(0,.own 3 1 (i.2.map (.int .i64))),(1000,.own 4 1 (seen.map bv))]⟩) (fun i=>i.1<=seen.length/\i.2.length<=i.1/\i.2++FZ i.1 (seen.drop i.1)=FZ 0 seen) (fun i=>seen.length-i.1) (0,[]) (lM [(0,.own 3 1 [])]) ⟨x1l _,x2q _,rfl⟩ ?_;rintro⟨m,n⟩ ⟨o,q,k⟩;simp only at o q k⊢;rcases x1a m seen.length with l|l;rotate_left 1
 ·rw[x2x l,FZ,x2i]at k;subst k;conv=>whnf
  repeat' (apply bD<;>intro _<;>first|omega|conv=>whnf)
  exact⟨_,x2u _,(FZ 0 seen).map (.int .i64),by simp,rfl,rfl⟩
 rw[x2l l,FZ]at k;cases h:seen[m]with
 | true=>
   rw[h,x2y]at k;have e2:(seen.map bv)[m]?=some .tt:=by simp[l,h,bv]
   conv=>whnf
   repeat' ((first|refine gX ?_|refine x3c m rfl l ?_|refine lO e2 ?_|refine pI ?_|(apply bD<;>intro _<;>try omega))<;>conv=>whnf)
   exact⟨(m+1,n++[(m:Int)]),⟨by simp only;omega,by simp;omega,by simpa using k⟩,by simp only;omega,Le.of_eq (by simp only[x1h,x1e];rfl)⟩
 | false=>
   rw[h,x2f]at k;have e2:(seen.map bv)[m]?=some .ff:=by simp[l,h,bv]
   conv=>whnf
   repeat' ((first|refine gX ?_|refine x3c m rfl l ?_|refine lO e2 ?_|(apply bD<;>intro _<;>try omega))<;>conv=>whnf)
   exact nX (m+1,n) ⟨by simp only;omega,by simp only;omega,k⟩
theorem HI(g:List (List Int)×List (List Int))(a:Int):aP 185 [VY g,.int .i64 a] (.bool (ZF g.1.length a)):=by
 refine sC KK func185 ?_;conv=>whnf
 repeat' ((first|(refine iM fun _=>?_)|(apply bD<;>intro _<;>try omega))<;>conv=>whnf)
 all_goals have h:((avI g.1).map AV.sl).length=g.1.length:=by simp[avI]
 all_goals first
  |exact RetK.bool (by unfold ZF;simp[*];done)
  |exact RetK.ff (by unfold ZF;simp;omega)
 all_goals trace_state
def FM(n:Nat)(l:List Int):List Bool×List Int:=l.foldl (fun st a=>bif ZF n a then JE st a else st) (List.replicate n false,[])
def WX(rows:List (List Int))(l:List Int):List Bool:=(ZV rows (rows.length+1) 0 (FM rows.length l)).1
def PM(n:Nat):wkInv n (List.replicate n false,[]):=⟨by simp,by simp[List.count_replicate],by simp⟩
theorem FC{n:Nat}{rows:List (List Int)}(l:XY n rows):∀(k i:Nat){st:List Bool×List Int},wkInv n st->wkInv n (ZV rows k i st)
 |0,_,_,h=>h
 | k+1,i,st,h=>by
   rw[ZV];split
   ·rename_i a ha;have o:=h.2.2 a (x1o ha);refine FC l k (i+1) (Cu h ?_);have j:a.toNat<rows.length:=by rw[l.1];omega
    rw[x1g,x1k j];exact l.2 _ (x1c j)
   ·exact h
def XO{n:Nat}{a:Int}(h:ZF n a=true):0<=a/\a<n:=by
 unfold ZF at h;simpa using h
theorem Qh(n:Nat)(D:n<=5000)(g:List (List Int)×List (List Int))(v:XY n g.1)(l:List Int)(c:l.length<=1000000):aP 141 [VY g,QI l] (QI (FZ 0 (WX g.1 l))):=by
 refine sC BF func141 ?_;conv=>whnf
 have B:((avI g.1).map AV.sl).length=n:=by simp[avI,v.1]
 repeat' ((first|(refine gX ?_;intros)|refine x5i n (by rw[B]) (by show 1*n<=140737488355328;omega) (by unfold maxLen;omega) ?_)<;>conv=>whnf)
 have C:(l.map (AV.int .i64)).length=l.length:=x1j _;refine lJ (fun x:Nat×List Bool×List Int=>⟨[(0,.p (VY g)),(5,.hd 0 0 n),(6,.hd 1 0 x.2.2.length),(17,.p (QI l)),(18,.p (.int .i64 (l.map (AV.int .i64)).length)),(19,.j x.1)],[(0,.own 4 1 (x.2.1.map bv)),(1,.own 3 1 (x.2.2.map (.int .i64)))]⟩) (fun x=>x.1<=l.length/\wkInv n x.2/\(l.drop x.1).foldl (fun st a=>bif ZF n a then JE st a else st) x.2=FM n l) (fun x=>l.length-x.1) (0,List.replicate n false,[]) (lM [(1,.own 3 1 [])] (hH:=.cons rfl (.of_eq (by rw[x4r];rfl)) (.new x1f .nil))) ⟨x1l _,PM n,rfl⟩ ?_;rintro⟨m,seen,i⟩ ⟨e,r,q⟩;simp only at e r q⊢;have hsl:seen.length=n:=r.1;have E:i.length<=n:=FA r;rcases x1a m l.length with y|y;rotate_left 1
 ·rw[x2x y,List.foldl_nil]at q;conv=>whnf
  repeat' ((first|(apply bD<;>intro _<;>try omega)|(refine cH rH2 0 (K3 n D g.1 v (seen,i) r) ?_))<;>conv=>whnf)
  have z:(ZV g.1 (n+1) 0 (seen,i)).1.length=n:=(FC v _ _ r).1;refine cJ rH1 0 (B0 (ZV g.1 (n+1) 0 (seen,i)).1 (by omega)) ?_ (ha:=(x2b (x6z (by rw[z];rfl)) x4v));rintro l' H' ⟨es,rfl,rfl,rfl⟩;conv=>whnf
  skip
  exact RetK.p (by unfold QI WX;rw[v.1,<-q])
 rw[x2l y,x4d]at q;have t:aP 185 [VY g,.int .i64 l[m]] (.bool (ZF n l[m])):=by
  have:=HI g l[m]
  rwa[v.1]at this
 cases o:seen.getD l[m].toNat false with
 | true=>
   have u:(bif ZF n l[m]then JE (seen,i) l[m]else(seen,i))=(seen,i):=by unfold JE;simp only[o,x2y];cases ZF n l[m]<;>rfl
   have e2:ZF n l[m]=true->(seen.map bv)[l[m].toNat]?=some .tt:=fun h=>by
    have A:=XO h;have k:l[m].toNat<seen.length:=by omega
    have:seen[l[m].toNat]=true:=by simpa[k]using o
    simp[k,this,bv]
   rw[u]at q;conv=>whnf
   repeat' ((first|(refine gX ?_;intros)|refine cP t ?_|refine x3c l[m].toNat (by have:=XO (by assumption);omega) (by have:=XO (by assumption);omega) ?_|refine x8g l[m].toNat 0 .tt (by omega) (e2 (by assumption)) ?_|((first|apply bD|apply bB)<;>intro _<;>try omega))<;>conv=>whnf)
   all_goals exact nX (m+1,seen,i) ⟨by simp only;omega,r,q⟩
 | false=>
   have e2:ZF n l[m]=true->(seen.map bv)[l[m].toNat]?=some .ff:=fun h=>by
    have A:=XO h;have k:l[m].toNat<seen.length:=by omega
    have:seen[l[m].toNat]=false:=by simpa[k]using o
    simp[k,this,bv]
   conv=>whnf
   repeat' ((first|(refine gX ?_;intros)|refine cP t ?_|refine x3c l[m].toNat (by have:=XO (by assumption);omega) (by have:=XO (by assumption);omega) ?_|refine x8g l[m].toNat 0 .ff (by omega) (e2 (by assumption)) ?_|refine x5r l[m].toNat 0 .ff .tt (by omega) (e2 (by assumption)) (x2q 1) rfl ?_|refine pI ?_|((first|apply bD|apply bB)<;>intro _<;>try omega))<;>conv=>whnf)
   ·have w:ZF n l[m]=true:=by assumption
    have u:(bif ZF n l[m]then JE (seen,i) l[m]else(seen,i))=(seen.set l[m].toNat true,i++[l[m]]):=by unfold JE;simp only[o,w,x2y,x2f]
    have b:=LX r (XO w);rw[u]at q;have d:JE (seen,i) l[m]=(seen.set l[m].toNat true,i++[l[m]]):=by unfold JE;simp only[o,x2f]
    rw[d]at b;exact⟨(m+1,seen.set l[m].toNat true,i++[l[m]]),⟨by simp only;omega,b,q⟩,by simp only;omega,Le.of_eq (by simp only[x1h,x1e,x2s];rfl)⟩
   ·have w:ZF n l[m]=false:=by assumption
    have u:(bif ZF n l[m]then JE (seen,i) l[m]else(seen,i))=(seen,i):=by rw[w];rfl
    rw[u]at q;exact nX (m+1,seen,i) ⟨by simp only;omega,r,q⟩
theorem Fz(w:Way)(f:Pr)(n:Nat)(q:w.n=n)(k:w.p.A[w.j]?=some f)(i:cntP w.p.A<=1000)(o:n<=5000)(l:List Step)(h:l.length<=1000000):aP 140 [.ip w.cells,eSteps l] (VY (QC n (l.map (ixP w.p w.j f w.n)))):=by
 refine sC HB func140 ?_;conv=>whnf
 repeat' ((first|refine dA ?_|refine cP (WF w f k i (by omega) l h) ?_ (ha:=.cons (Sub.refl _) (.cons (Sub.refl _) .nil))|refine cP (Va n o (l.map (ixP w.p w.j f w.n)) (by rw[x1j];exact h)) ?_ (ha:=.cons (Sub.int q) (.cons (Sub.refl _) .nil)))<;>conv=>whnf)
 exact RetK.p rfl
theorem Fw(p:Pg)(j:Nat)(f:Pr)(n:Nat)(h:AV)(k:List AV)(q:p.A[j]?=some f)(o:cntP p.A<=1000)(r:n<=5000)(l:List Step)(i:l.length<=1000000):
  aH 140 [.ptr 1000 0,.p (eSteps l)] (Oi p j n h k) (.p (VY (QC n (l.map (ixP p j f n))))) (Oi p j n h k):=by
 refine sK HB func140 ?_;conv=>whnf
 refine DrawK.of XG mixed (.cons 0 false (.cons 1 false (.cons 2 false (.cons 4 false (.cons 5 false (.fork 3 (.cons 6 true (.cons 7 true (.cons 8 true .nil))) 6 (.cons 3 true (.cons 7 true (.cons 8 true .nil))))))))) (by kernel_rfl) ?_;conv=>whnf
 repeat' ((first|refine cP (Va n r (l.map (ixP p j f n)) (by rw[x1j];exact i)) ?_ (ha:=.cons (Sub.refl _) (.cons (Sub.refl _) .nil))|refine x2j ?_ ?_|(refine cJ [(1000,1000),(2000,2000)] 0 (Fq p j f n h k q o (by omega) l i) ?_;rintro l' H' ⟨es,rfl,rfl,rfl⟩))<;>conv=>whnf)
 all_goals exact⟨_,x2u _,rfl,rfl⟩
def Kf{n:Nat}(h:XY n N){a:Nat}{b:Int}(o:0<=b/\b<n):XY n (Ky N a b):=by
 unfold Ky;refine⟨by rw[x3f];exact h.1,fun r k x i=>?_⟩;rcases x4k k with k|rfl
 .exact h.2 r k x i
 .unfold Xc at i;have l:∀y∈N.getD a [],0<=y/\y<n:=fun y j=>by
   rcases x1a a N.length with ha|ha
   .rw [x1g,x1k ha]at j;exact h.2 _ (x1c ha) y j
   .rw [x1g,x3m ha]at j;cases j
  rcases x1s.1 i with i|i
  .exact l x (x6p i)
  .rcases x1p.1 i with rfl|i
   .exact o
   .exact l x (List.mem_of_mem_drop i)
def q0n{n:Nat}{g:List (List Int)×List (List Int)}(h:XY n g.1/\XY n g.2)(e:Int×Int):XY n (Fy n g e).1/\XY n (Fy n g e).2:=by
 rw[Wl,Jy];cases i:ZF n e.1&&ZF n e.2 && !(g.1.getD e.1.toNat []).contains e.2
 .exact h
 .simp only[x2z]at i;exact⟨Kf h.1 (XO i.1.2),Kf h.2 (XO i.1.1)⟩
def EA{n:Nat}(l:List (Int×Int)):∀{g:List (List Int)×List (List Int)},XY n g.1/\XY n g.2->XY n (l.foldl (Fy n) g).1/\XY n (l.foldl (Fy n) g).2:=by
 induction l with
 |nil=>intro g h;exact h
 |cons e r i=>intro g h;exact i (q0n h e)
def JV(n:Nat)(l:List (Int×Int)):XY n (QC n l).1/\XY n (QC n l).2:=by
 have h:XY n (List.replicate n []):=⟨by simp,fun r i=>by rw[x3b i];simp⟩;exact EA l ⟨h,h⟩
theorem Wr.eq{n m:Int}{K:Int->Prop}(h:n=m)(i : -9223372036854775808<=m)(j:m<=9223372036854775807)(l:K m):Wr .i64 n K:=by
 subst h;exact Wr.i64 i j l
theorem Xb:∀(a:Step)(l:List Step),(XX a l).length<=l.length
 |_,[]=>x2q _
 | a,b::r=>by
   have:=Xb b r;rw[XX];cases ZY b a<;>simp<;>omega
theorem Bf(l:List Step):(WA l).length<=l.length:=by
 unfold WA;rw[<-X4 (l:=l)];cases JI l with
 |nil=>exact x2q _
 | cons a r=>
   have:=Xb a r;simp[BC];omega
def Cl(h:Sheet)(f:Pr)(it:Item):(KN h f it).length<=2:=by
 unfold KN;split<;>(try split)<;>(try split)<;>(try split)<;>(try split)<;>(try split)<;>simp
theorem Xl{α β:Type}{g:α->List β}(h:∀x,(g x).length<=2):∀l:List α,(l.flatMap g).length<=2*l.length
 |[]=>by simp
 | a::r=>by
   have:=Xl h r;have:=h a;rw[x3s,x1h,x2r];omega
theorem Z1(p:Pg)(j:Nat)(f:Pr):(QB p j f).length<=1+2*QJ f.body:=by
 unfold QB;have:=Xl (g:=fun it=>(KN (sheetOf p) f it).map (Step.mk it.s.id · 1)) (fun it=>by rw[x1j];exact Cl _ _ _) (itL j 0 (-1) 0 (QT p.A j) f.body);rw[XL]at this;rw[x2r];omega
theorem Rv:∀(i:Nat)(l:List Bool)(a:Int),a∈FZ i l->(i:Int)<=a/\a<i+l.length
 |_,[],_,h=>by rw[FZ]at h;cases h
 | i,b::r,a,h=>by
   rw[FZ]at h;have key:a∈FZ (i+1) r->(i:Int)<=a/\a<i+(b::r).length:=fun h=>by
    have:=Rv (i+1) r a h;simp only[x2r];omega
   cases b with
   |false=>exact key h
   | true=>
     rcases x1p.1 h with rfl|h
     ·simp only[x2r];omega
     ·exact key h
def S8(n:Nat)(l:List Int):wkInv n (FM n l):=by
 unfold FM;have:∀(l:List Int)(st:List Bool×List Int),wkInv n st->wkInv n (l.foldl (fun st a=>bif ZF n a then JE st a else st) st):=fun l=>by
  induction l with
  |nil=>intro st h;exact h
  | cons a r j=>
    intro st h;refine j _ ?_;show wkInv n (bif ZF n a then JE st a else st);cases i:ZF n a with
    |true=>exact LX h (XO i)
    |false=>exact h
 exact this l _ (PM n)
def TP{n:Nat}{rows:List (List Int)}(h:XY n rows)(l:List Int):(WX rows l).length=n:=by
 unfold WX;rw[h.1];exact(FC h _ _ (S8 n l)).1
def LZ(l:List Int)(b:List Bool):List Bool:=l.foldl (fun b a=>b.set a.toNat true) b
def QQ(p:Pg)(j:Nat)(f:Pr):Way:=
 let h:=WA (QB p j f);let n:=QJ f.body+2
 ⟨p,j,n,h,LZ (FZ 0 (WX (QC n (h.map (ixP p j f n))).1 [0])) (List.replicate n false)⟩
theorem q3f(p:Pg)(j:Nat)(f:Pr)(y:p.A[j]?=some f)(D:cntP p.A<=1000)(G:∀it∈itsOf p j f,it.s.kind=7->1<=it.loop/\it.loop<=(sheetOf p).l.length)(g:∀s∈QB p j f,okSt s):aP 77 [.ip (sheetOf p).cells,.int .i64 j] (.ip (QQ p j f).cells):=by
 refine sC Sr func77 ?_;conv=>whnf
 obtain⟨_,_,_,E,C⟩:=QU p;obtain⟨d,w,H,_⟩:=C j f y;repeat' ((first|refine dA ?_|refine x2j rfl ?_|refine aR ?_|refine IdxK.at rfl (VI d) rfl ?_|refine IdxK.at rfl (VI w) rfl ?_|refine cP (Zy p j f y D G g) ?_|refine Wr.eq (m:=QJ f.body) (by omega) (by omega) (by omega) ?_|refine Wr.eq (m:=(QJ f.body+2:Nat)) (by omega) (by omega) (by omega) ?_|refine x5i (QJ f.body+2) rfl (by show 1*_<=140737488355328;omega) (by unfold maxLen;omega) ?_)<;>conv=>whnf)
 have B:(WA (QB p j f)).length<=1000000:=by have:=Bf (QB p j f);have:=Z1 p j f;omega
 refine cJ rH2 0 (Fw p j f (QJ f.body+2) (eSteps (WA (QB p j f))) (List.replicate (QJ f.body+2) .ff) y D (by omega) (WA (QB p j f)) B) ?_ (hH:=x2h (j:=0) rfl rfl (CSub.of_eq (by rw[x3v];rfl)) (x2h (j:=1) rfl rfl (CSub.refl _) x3n));rintro l' H' ⟨rfl,rfl⟩;conv=>whnf
 obtain⟨o,_⟩:=JV (QJ f.body+2) ((WA (QB p j f)).map (ixP p j f (QJ f.body+2:Nat)));repeat' ((first|(refine gX ?_;intros)|refine cP (Qh (QJ f.body+2) (by omega) _ o [0] (by simp)) ?_ (ha:=.cons (Sub.refl _) (.cons (Sub.refl _) .nil)))<;>conv=>whnf)
 have q:∀a∈FZ 0 (WX (QC (QJ f.body+2) ((WA (QB p j f)).map (ixP p j f (QJ f.body+2:Nat)))).1 [0]),0<=a/\a<(QJ f.body+2:Nat):=fun a ha=>by
  have:=Rv _ _ _ ha;rw[TP o]at this;omega
 have e:QQ p j f=⟨p,j,(QJ f.body+2:Nat),WA (QB p j f),LZ (FZ 0 (WX (QC (QJ f.body+2) ((WA (QB p j f)).map (ixP p j f (QJ f.body+2:Nat)))).1 [0])) (List.replicate (QJ f.body+2) false)⟩:=rfl;rw[e];have z:((FZ 0 (WX (QC (QJ f.body+2) ((WA (QB p j f)).map (ixP p j f (QJ f.body+2:Nat)))).1 [0])).map (AV.int .i64)).length<=9223372036854775807:=by assumption
 generalize FZ 0 (WX (QC (QJ f.body+2) ((WA (QB p j f)).map (ixP p j f (QJ f.body+2:Nat)))).1 [0])=lst at q z⊢;have I:(lst.map (AV.int .i64)).length=lst.length:=x1j _;refine lJ (fun x:Nat×List Bool=>⟨[(5,.ptr 0 0),(46,.p (QI lst)),(47,.p (.int .i64 (lst.map (AV.int .i64)).length)),(48,.j x.1)],[(0,.obj 103 [.p (.ip (sheetOf p).cells),.j j,.j (QJ f.body+2:Nat),.p (eSteps (WA (QB p j f))),.hd 1 0 (QJ f.body+2)]),(1,.own 4 1 (x.2.map bv))]⟩) (fun x=>x.1<=lst.length/\x.2.length=QJ f.body+2/\LZ (lst.drop x.1) x.2=LZ lst (List.replicate (QJ f.body+2) false)) (fun x=>lst.length-x.1) (0,List.replicate (QJ f.body+2) false) (Le.of_eq (by simp only[x4r,x3v];rfl)) ⟨x1l _,by simp,rfl⟩ ?_;rintro⟨m,b⟩ ⟨F,t,n⟩;simp only at F t n⊢;rcases x1a m lst.length with r|r;rotate_left 1
 ·rw[x2x r]at n;rw[<-n];conv=>whnf
  repeat' (apply bD<;>intro _<;>first|omega|conv=>whnf)
  exact⟨_,.ptr (cs:=[.ip (sheetOf p).cells,.int .i64 j,.int .i64 (QJ f.body+2:Nat),eSteps (WA (QB p j f)),.sl (b.map bv)]) rfl rfl (fun i x c h k=>by
   match i,h,k with
   |0,h,k=>cases h;cases k;exact .p (Sub.refl _)
   |1,h,k=>cases h;cases k;exact .p (Sub.refl _)
   |2,h,k=>cases h;cases k;exact .p (Sub.refl _)
   |3,h,k=>cases h;cases k;exact .p (Sub.refl _)
   |4,h,k=>cases h;cases k;exact .hd rfl (by rw[x1j,t])),rfl⟩
 rw[x2l r]at n;have ha:=q _ (x1c r);have u:lst[m].toNat<b.length:=by omega
 have v:(b.map bv)[lst[m].toNat]?=some (bv b[lst[m].toNat]):=by simp[u]
 conv=>whnf
 repeat' ((first|(refine gX ?_;intros)|refine x3c lst[m].toNat (by omega) (by omega) ?_|refine x5r lst[m].toNat 0 (bv b[lst[m].toNat]) .tt (by omega) v (x2q 1) (by cases b[lst[m].toNat]<;>rfl) ?_|(apply bD<;>intro _<;>try omega))<;>conv=>whnf)
 exact⟨(m+1,b.set lst[m].toNat true),⟨by simp only;omega,by simp only[x3f];exact t,n⟩,by simp only;omega,Le.of_eq (by simp only[x2s];rfl)⟩
theorem QP{p:Pg}(h:QA p=true):DG p=true/\(XQ p).1=0/\(YQ p).1=0/\(Zh p).1=0/\(NF p).1=0:=by
 unfold QA q3m at h;simp only[x3u]at h;by_cases i:DG p=false
 ·rw[if_pos i]at h;cases h
 rw[if_neg i]at h;by_cases j:(XQ p).1=0
 ·rw[if_neg (by omega)]at h;by_cases k:(YQ p).1=0
  ·rw[if_neg (by omega)]at h;by_cases l:(Zh p).1=0
   ·rw[if_neg (by omega)]at h;exact⟨by simpa using i,j,k,l,h⟩
   ·rw[if_pos l]at h;exact absurd h l
  ·rw[if_pos k]at h;exact absurd h k
 ·rw[if_pos j]at h;exact absurd h j
theorem U7{f:Pr}:∀(l:List Item)(seen:List Str){s:List Str},DC f l seen=.ok s->∀it∈l,JT f it=true
 |[],_,_,_,it,h=>by cases h
 | a::r,seen,s,h,it,i=>by
   rw[DC]at h;cases k:JU seen a.s.W with
   |none=>rw[k]at h;cases h
   | some n=>
     rw[k]at h;simp only at h;cases j:JT f a with
     |false=>rw[j]at h;cases h
     | true=>
       rw[j,x2y]at h;rcases x1p.1 i with rfl|i
       .exact j
       .exact U7 r n h it i
theorem J4{p:Pg}(q:(XQ p).1=0)(h:(Zh p).1=0){j:Nat}(k:p.A[j]?=some f):∀it∈itsOf p j f,JT f it=true:=by
 unfold Zh at h;rw[if_neg (by omega)]at h;have l:(List.range p.A.length).findSome? (JL p)=none:=by
  cases o:(List.range p.A.length).findSome? (JL p)with
  |none=>rfl
  |some a=>rw[o]at h;cases h
 rw[List.findSome?_eq_none_iff]at l;have i:j<p.A.length:=(x1m.1 k).1;have:=l j (x3h.2 i);unfold JL at this;rw[k]at this;simp only at this;cases n:DC f (itL (j:Nat) 0 (-1) 0 (QT p.A j) f.body) []with
 |error id=>rw[n]at this;cases this
 |ok seen=>exact U7 _ _ n
mutual
theorem ES:∀(t u v:S),u∈flS t->v∈u.V\/v∈u.X->v∈flS t
 | .mk id kind W name C x has args V X,u,v,h,hv=>by
   rw[flS]at h⊢;rcases x1p.1 h with rfl|h
   ·refine x1d _ (x1s.2 ?_);rcases hv with hv|hv
    ·exact .inl (Gi V v hv)
    ·exact .inr (Gi X v hv)
   ·rcases x1s.1 h with h|h
    ·exact x1d _ (x1s.2 (.inl (Za V u v h hv)))
    ·exact x1d _ (x1s.2 (.inr (Za X u v h hv)))
theorem Za:∀(l:List S)(u v:S),u∈flL l->v∈u.V\/v∈u.X->v∈flL l
 |[],u,v,h,hv=>by rw[flL]at h;cases h
 | t::r,u,v,h,hv=>by
   rw[flL]at h⊢;rcases x1s.1 h with h|h
   ·exact x1s.2 (.inl (ES t u v h hv))
   ·exact x1s.2 (.inr (Za r u v h hv))
end
def MV{p:Pg}{j:Nat}(h:it∈itsOf p j f):it.s∈flL f.body:=by
 unfold itsOf at h;rw[<-Qf (j:Nat) 0 (-1) 0 (QT p.A j) f.body];exact x1r.2 ⟨it,h,rfl⟩
theorem VT{p:Pg}(n:DG p=true){j:Nat}(l:p.A[j]?=some f){t:S}(h:t∈flL f.body):(QT p.A j:Int)+1<=t.id/\t.id<=(QT p.A j+QJ f.body:Nat):=by
 have i:=CM n l;have k:t.id∈LC (QT p.A j) (QJ f.body):=by
  rw[<-i];exact x1r.2 ⟨t,h,rfl⟩
 have:=I4 k;omega
def U3{p:Pg}{j:Nat}(h:it∈itsOf p j f):okI (QT p.A j) (QT p.A j+QJ f.body) it.next/\(it.loop=0\/((QT p.A j:Int)+1<=it.loop/\it.loop<=(QT p.A j+QJ f.body:Nat))):=
 Hw (j:Nat) _ _ f.body 0 (-1) 0 _ it h (.inl rfl) (.inl rfl) (x2q _) (x2q _)
theorem LW{p:Pg}{j:Nat}(q:p.A[j]?=some f){k:Nat}(t:QT p.A j<=k)(u:k<QT p.A j+QJ f.body):∃it,(sheetOf p).l[k]?=some it/\it∈itsOf p j f:=by
 obtain⟨_,_,_,n,h⟩:=QU p;obtain⟨_,_,r,o⟩:=h j f q;have i:k<(sheetOf p).l.length:=by omega
 refine⟨(sheetOf p).l[k],x1k i,?_⟩;unfold itsOf;rw[<-o];refine x4g.2 ⟨k-QT p.A j,?_⟩;rw[x3y,x3q,if_pos (by omega),show QT p.A j+(k-QT p.A j)=k by omega,x1k i]
theorem q1g{p:Pg}(B:DG p=true){j:Nat}(c:p.A[j]?=some f)(h:it∈itsOf p j f)(q:JT f it=true):∀x∈KN (sheetOf p) f it,okI (QT p.A j) (QT p.A j+QJ f.body) x:=by
 obtain⟨y,g⟩:=U3 h;have E:=MV h;have e:=VT B c E;have n:∀(l:List S)(o:Int),(∀v∈l,v∈it.s.V\/v∈it.s.X)->okI (QT p.A j) (QT p.A j+QJ f.body) o->okI (QT p.A j) (QT p.A j+QJ f.body) (Tm l o):=fun l o a H=>by
  cases l with
  |nil=>exact H
  |cons v r=>exact .inr (VT B c (Za f.body it.s v E (a v x1f)))
 have w:it.s.kind=7\/it.s.kind=8->(QT p.A j:Int)+1<=it.loop/\it.loop<=(QT p.A j+QJ f.body:Nat):=fun z=>by
  unfold JT at q;rw[if_pos z]at q;rcases g with d|d
  ·rw[d]at q;cases q
  ·exact d
 intro x i;unfold KN at i;split at i
 ·simp only[x1p,x6q,or_false]at i;rcases i with rfl|rfl
  ·exact n _ _ (fun v a=>.inl a) y
  ·exact n _ _ (fun v a=>.inr a) y
 split at i
 ·simp only[x1p,x6q,or_false]at i;rcases i with rfl|rfl
  ·exact n _ _ (fun v a=>.inl a) (.inr e)
  ·exact y
 split at i
 ·rename_i z;have F:=w (.inl z);obtain⟨u,C,D⟩:=LW c (k:=(it.loop-1).toNat) (by omega) (by omega);rw[C]at i;rw[x1n.1 i];exact(U3 D).1
 split at i
 ·rename_i z;rw[x1n.1 i];exact .inr (w (.inr z))
 split at i
 ·rw[x1n.1 i];exact .inl rfl
 split at i
 ·rename_i J K _ z;rw[x1n.1 i];unfold JT at q;rw[if_neg (by omega),if_pos z]at q;unfold atB at q⊢;split
  ·rename_i t I;exact .inr (VT B c (x5e I))
  ·rename_i G;rw[G]at q;simp only at q;cases b:f.fin.any fun s=>it.s.name==s with
   |true=>exact .inl rfl
   |false=>rw[b]at q;cases q
 ·rw[x1n.1 i];exact y
theorem V4{p:Pg}(h:QA p=true){j:Nat}(o:p.A[j]?=some f):(∀it∈itsOf p j f,it.s.kind=7->1<=it.loop/\it.loop<=(sheetOf p).l.length)/\
  (∀s∈QB p j f,(s.src=0\/((QT p.A j:Int)+1<=s.src/\s.src<=(QT p.A j+QJ f.body:Nat)))/\okI (QT p.A j) (QT p.A j+QJ f.body) s.dst)/\∀s∈QB p j f,okSt s:=by
 obtain⟨t,b,_,r,_⟩:=QP h;have n:=J4 b r o;obtain⟨_,_,_,w,u⟩:=QU p;obtain⟨_,_,a,_⟩:=u j f o;obtain⟨_,_,x⟩:=WO t;have key:∀s∈QB p j f,(s.src=0\/((QT p.A j:Int)+1<=s.src/\s.src<=(QT p.A j+QJ f.body:Nat)))/\okI (QT p.A j) (QT p.A j+QJ f.body) s.dst:=fun s k=>by
  unfold QB at k;rcases x1p.1 k with rfl|k
  ·refine⟨.inl rfl,?_⟩;show okI _ _ (if QT p.A j<QT p.A j+QJ f.body then((QT p.A j:Nat)+1:Int)else -1);split
   ·exact .inr ⟨by omega,by omega⟩
   ·exact .inl rfl
  ·obtain⟨it,i,d⟩:=x2p.1 k;obtain⟨y,c,rfl⟩:=x1r.1 d;exact⟨.inr (VT t o (MV i)),q1g t o i (n it i) y c⟩
 refine⟨fun it i z=>?_,key,fun s k=>?_⟩
 ·have q:=n it i;unfold JT at q;rw[if_pos (.inl z)]at q;rcases(U3 i).2 with v|v
  ·rw[v]at q;cases q
  ·omega
 ·obtain⟨e,g⟩:=key s k;unfold okSt okI at*
  omega
def XK{p:Pg}(h:QA p=true):p.F.length<=16/\p.A.length<=16/\cntP p.A<=200:=WO (QP h).1
theorem q1d{p:Pg}{n:Str}(h:n∈QH p):∃(k:Nat) (j:k<p.A.length),idxF (fun f=>f.name==n) p.A=k/\p.A.findIdx (fun f=>f.name==n)=k/\p.A.find? (fun f=>f.name==n)=some p.A[k]/\p.A[k].name=n:=by
 obtain⟨k,j,i,l,o⟩:=DH h;refine⟨k,j,i,?_,l,o⟩;unfold idxF at i;cases ha:p.A.any (fun f=>f.name==n)with
 |true=>rw[ha,x2y]at i;omega
 |false=>rw[ha,x2f]at i;omega
def x0u(p:Pg)(k:Nat)(f:Pr):Int:=if QT p.A k<QT p.A k+QJ f.body then((QT p.A k:Nat)+1:Int)else -1
def QD(p:Pg)(j:Nat)(n i:Int):Int:=if i=0 then 0 else if i=n-1 then -1 else loI p j+i-1
theorem ZD(w:Way)(f:Pr)(q:w.p.A[w.j]?=some f)(t:cntP w.p.A<=1000)(v:0<=w.n/\w.n<=5000)(i:Int)(u:0<=i/\i<=5000):aP 47 [.ip w.cells,.int .i64 i] (.int .i64 (QD w.p w.j w.n i)):=by
 refine sC Wh func47 ?_;conv=>whnf
 obtain⟨_,_,_,l,k⟩:=QU w.p;obtain⟨h,o,r,_⟩:=k w.j f q;repeat' ((first|refine dA ?_|refine wI ?_|refine IdxK.at rfl (VI h) rfl ?_|(apply bD<;>intro _<;>try omega))<;>conv=>whnf)
 all_goals exact RetK.int (by unfold QD loI;(repeat' split)<;>omega)
def Qo(l:List Int):∀b:List Bool,(LZ l b).length=b.length:=by
 induction l with
 |nil=>intro b;rfl
 | cons a r h=>
   intro b;show(LZ r (b.set a.toNat true)).length=b.length;rw[h,x3f]
def OneRow(R:Nat->TypeId->Nat->List AV->Prop)(nil:Prop)(l:LV)(H:Heap):Prop:=
 (l=.p .nils/\H=[]/\nil)\/∃q e sz es,l=.hd q 0 es.length/\H=[(q,.own e sz es)]/\(∀x∈es,∀c∈x.cells,c.flat=true)/\R q e sz es
theorem VU{N:Nat}{g:FuncId}{args:List LV}{dst:Option Nat}{K:St->Prop}{avs:List AV}{R:Nat->TypeId->Nat->List AV->Prop}{nil:Prop}(k:Nat)(hu:ZC k s=true)(hs:SpecH P g (avs.map .p) [] (OneRow R nil))(ha:FrzL s.H args avs)(hn:nil->setD N s.sl dst (.p .nils) fun sl=>K ⟨sl,s.H⟩)(h:∀q e sz es,R q e sz es->setD N s.sl dst (.hd k 0 es.length) fun sl=>K ⟨sl,(k,.own e sz es)::s.H⟩):CallK P N g args dst s K:=by
 refine⟨fun σ β a w U vals hnv hv=>⟨hs.go vals,?_⟩⟩;obtain⟨hlen,hget⟩:=ha.get;obtain⟨τ,h5,h6,h7,h8⟩:=MQ U.heap;have hrel0:HRel τ (fun _=>none) [] w:=⟨h6,fun k c V=>(by cases V),x8d,fun k hk=>(by cases hk),fun k hk=>(by cases hk)⟩;have hno:∀b,¬owns (fun _=>none) [] b:=fun b ⟨j,r,_⟩=>by cases r
 refine(hs.ok τ (fun _=>none) w vals (by rw[x1j];exact hnv.trans hlen) (fun j l r=>?_) hrel0).mono fun e w' ⟨l,u,σ',β',H',he,hR,Z,D,y⟩=>?_
 ·rw[x1b]at r;cases V:avs[j]?with
  |none=>rw[V]at r;cases r
  | some c=>
    rw[V]at r;cases r;obtain⟨l,A,C⟩:=hget j c V;exact .p (h8 l _ c (hv j l A) C)
 ·have Q:σ.lies w':=fun b c z=>D.mem b c (y.le b c (h5 b c z));have hf:Frm (fun _=>False) w w':=⟨y.G.os,y.G.tape,y.G.output,y.G.drawn,y.G.size,fun b z _=>y.G.block b z (hno b)⟩;have hf':Frm (owns β s.H) w w':=⟨hf.os,hf.tape,hf.output,hf.drawn,hf.size,fun b z _=>hf.block b z id⟩;have O:=U.heap.kept (Mem.le_refl σ) Q hf fun b h0 A=>absurd h0 A;rcases hR with⟨rfl,rfl,hnil⟩|⟨q,e0,sz,es,rfl,rfl,hfl,hR⟩
  ·have hr':Rel N σ β s a w':=⟨U.size,U.defers,U.E,O⟩;have hrp:RepL σ β (.p .nils) u:=by
    cases Z with
    |p h=>exact .p (h.flat rfl)
   obtain⟨sl,hK,T⟩:=hr'.setD hrp (hn hnil);exact⟨u,σ,β,_,he,hK,T,Mem.le_refl σ,hf',fun b h0 A=>absurd h0 A,fun b z=>.inl z,fun _ _ _=>rfl⟩
  ·obtain⟨hu1,hu2⟩:=XT hu;have hkl:=YK hu;have B:∀j,j≠k->(β.set k (β' q)) j=β j:=fun j r=>by simp[Lab.set,r]
   have n:(β.set k (β' q)) k=β' q:=by simp[Lab.set]
   have I:∀i,β' q=some i->∀b,i.has b->w.heap.size<=b/\σ b=none/\b<w'.heap.size:=fun i d b z=>by
    have A:=D.apart q (x1n.2 rfl) i d b z;refine⟨?_,?_,A.2⟩
    ·rcases y.own b ⟨q,x1n.2 rfl,i,d,z⟩with C|C
     ·exact absurd C (hno b)
     ·exact C
    ·cases C:σ b with
     |none=>rfl
     |some c=>rw[y.le b c (h5 b c C)]at A;cases A.1
   have hch:(Chunk.own e0 sz es).holds σ (β.set k (β' q)) w' k:=by
    rcases D.chunks q (.own e0 sz es) (x1n.2 rfl)with⟨A,C⟩|⟨i,vs,A,C,h3,h4,h5',h6',h7'⟩
    ·exact .inl ⟨n.trans A,C⟩
    ·refine .inr ⟨i,vs,n.trans A,C,h3,h4,h5',h6',fun m x hx=>⟨(h7' m x hx).1,fun jj c V=>?_⟩⟩;obtain⟨v,h8',h9⟩:=(h7' m x hx).2 jj c V;exact⟨v,h8',h9.flat (hfl x (x1o hx) c (x1o V))⟩
   have J:∀j∈s.H.map (·.1),j≠k:=fun j r=>by
    obtain⟨⟨j',c⟩,hm,rfl⟩:=x1r.1 r;exact(hu1 j' c hm).1
   have hr':Rel N σ (β.set k (β' q)) ⟨s.sl,(k,.own e0 sz es)::s.H⟩ a w':=by
    refine⟨U.size,U.defers,fun i=>(U.E i).set _ (hu2 i),Q,fun j c r=>?_,?_,fun j r i d b z=>?_,fun j r j' hj' i i' d M b z hb'=>?_⟩
    ·rcases x1p.1 r with t|r
     ·cases t;exact hch
     ·exact(O.chunks j c r).set _ (hu1 j c r).1 (hu1 j c r).2
    ·rw[x2g,x3g];exact⟨fun hm=>J k hm rfl,O.nodup⟩
    ·rcases x1p.1 r with t|r
     ·have t:j=k:=t;subst t;rw[n]at d;exact(I i d b z).2
     ·rw[B j (J j r)]at d;exact O.apart j r i d b z
    ·have Y:∀j∈s.H.map (·.1),∀i,(β.set k (β' q)) j=some i->∀b,i.has b->b<w.heap.size:=fun j r i d b z=>by
      rw[B j (J j r)]at d;exact(U.heap.apart j r i d b z).2
     rcases x1p.1 r with t|hm<;>rcases x1p.1 hj' with F|hm'
     ·exact t.trans F.symm
     ·have t:j=k:=t;subst t;rw[n]at d;have:=(I i d b z).1;have:=Y j' hm' i' M b hb';omega
     ·have F:j'=k:=F;subst F;rw[n]at M;have:=(I i' M b hb').1;have:=Y j hm i d b z;omega
     ·rw[B j (J j hm)]at d;rw[B j' (J j' hm')]at M;exact O.inj j hm j' hm' i i' d M b z hb'
   have hrp:RepL σ (β.set k (β' q)) (.hd k 0 es.length) u:=by
    rcases Z.hdI with⟨A,_,C,rfl⟩|⟨i,o,A,C,h3,rfl⟩
    ·rw[C];exact .hdn k (n.trans A)
    ·exact .hd k 0 es.length i o (n.trans A) C h3
   obtain⟨sl,hK,T⟩:=hr'.setD hrp (h q e0 sz es hR);refine⟨u,σ,_,_,he,hK,T,Mem.le_refl σ,hf',fun b h0 A=>absurd h0 A,fun b z=>?_,fun j A _=>B j (by omega)⟩;obtain⟨j,r,i,d,z⟩:=z;rcases x1p.1 r with t|r
   ·have t:j=k:=t;subst t;rw[n]at d;exact .inr (I i d b z).1
   ·rw[B j (J j r)]at d;exact .inl ⟨j,r,i,d,z⟩
def Yn(L:List Str)(_:Nat)(e:TypeId)(sz:Nat)(es:List AV):Prop:=e=9/\sz=1/\es=L.map .str
def RG(L:List Str):∀x∈L.map AV.str,∀c∈x.cells,c.flat=true:=fun x i c h=>by
 obtain⟨s,_,rfl⟩:=x1r.1 i;rw[x1n.1 (show c∈[AV.str s]from h)];rfl
def BM{q n:Nat}{nil:Prop}(h:n=L.length):OneRow (Yn L) nil (.hd q 0 n) [(q,.own 9 1 (L.map .str))]:=
 .inr ⟨q,_,_,_,by rw[h,x1j],rfl,RG L,rfl,rfl,rfl⟩
theorem OneRow.str{n:Nat}(h:n=L.length):OneRow (Yn L) False (.hd 0 0 n) [(0,.own 9 1 (L.map .str))]:=BM h
def UD{n:Nat}{nil:Prop}(h:n=L.length):OneRow (Yn L) nil (.hd 0 0 n) [(0,.own 9 1 (L.map .str))]:=BM h
def Ju{T:Tab}{D:Bool}{o:Oper}{K:LV->Prop}(hT:TabOK P T){t u:TypeId}{x:Operand}(r:o.op=.binOp .eql t x (.const (.slice none 0 0)) u){i:TyI}(H:T.get t=some i){e:TypeId}(B:i.desc=.slice e){es:List AV}(I:QG s.sl x=.p (.sl es))(A:∀b:Bool,(b=true->es=[])->K (.p (.bool b))):ValO P D s o K:=by
 refine⟨fun σ β l w F _=>?_⟩;have k:=QX F x;rw[I]at k;have d:=hT.of H;rw[B]at d;have y:∃j n c,l.eval x=.slice j n c/\(j.isNone=true->es=[]):=by
  generalize l.eval x=v at k;cases k with
  | p k=>
    cases k with
    |nilsl=>exact⟨none,0,0,rfl,fun _=>rfl⟩
    |slz b=>exact⟨some b,0,0,rfl,fun _=>rfl⟩
    |sl _ b off cap sz cells u J z a G M E=>exact⟨_,_,_,rfl,fun h=>(by cases h)⟩
 obtain⟨j,n,c,y,q⟩:=y;refine⟨_,.bool j.isNone,A j.isNone q,.p (.bool _),fun w' _ _=>?_⟩;have g:l.eval (.const (.slice none 0 0))=.slice none 0 0:=rfl;have C:(eqGuard .eql t x (.const (.slice none 0 0)) (.slice j n c) (.slice none 0 0)).run P w'=.ok () w':=by unfold eqGuard;rfl
 have q:(Op.equal t (.slice j n c) (.slice none 0 0)).run P w'=.ok j.isNone w':=by
  have e:Op.equal t (.slice j n c) (.slice none 0 0)=Op.equalIn (9999+1) t (.slice j n c) (.slice none 0 0):=rfl;rw[e,Op.equalIn,Sem.run_bind,run_underlying d,Result.andThen_ok];cases j<;>rfl
 simp only[execOp,r,y,g,Sem.run_bind,C,Result.andThen_ok,binOp];simp[q]
def T2{es:List AV}{n:Nat}{nil:Prop}(q:Nat)(i:es=L.map .str)(h:n=L.length):OneRow (Yn L) nil (.hd q 0 n) [(q,.own 9 1 es)]:=by
 subst i;exact .inr ⟨q,_,_,_,by rw[h,x1j],rfl,RG L,rfl,rfl,rfl⟩
theorem QO(l:List Str)(j:l.length<=1000000):SpecH prog 165 [.p (eStrs l)] [] (fun r H=>OneRow (Yn l) (l=[]) r H):=by
 refine sK YD func165 ?_;conv=>whnf
 repeat' ((first|refine x2j rfl ?_|refine aD ?_|refine Ju XG rfl rfl rfl rfl (fun q h=>?_)|refine x6a (fun x i=>by cases i) rfl ?_|refine HK _ (by simp) (by simp;omega) ?_|(apply bB<;>intro _))<;>conv=>whnf)
 all_goals first
  |exact x3e _ (x2u _) (.inl ⟨rfl,rfl,x8y.1 (h (by assumption))⟩)
  |exact x3e _ (x2u _) (T2 0 rfl (by simp))
inductive CutH:Heap->Heap->Prop
 |nil:CutH [] []
 |same {c:Nat×Chunk} {H H':Heap} (h:CutH H H'):CutH (c::H) (c::H')
 |cut {k:Nat} {e:TypeId} {sz:Nat} {es es':List AV} {H H':Heap} (hp:es' <+: es) (h:CutH H H'):CutH ((k,.own e sz es)::H) ((k,.own e sz es')::H')
theorem CutH.get{H H':Heap}(h:CutH H H'):H'.map (·.1)=H.map (·.1)/\∀j c',(j,c')∈H'->(j,c')∈H\/∃e sz es es',(j,Chunk.own e sz es)∈H/\c'=.own e sz es'/\es' <+: es:=by
 induction h with
 |nil=>exact⟨rfl,by simp⟩
 | same h o=>
   refine⟨by simp[o.1],fun j c' i=>?_⟩;rcases x1p.1 i with rfl|i
   .exact .inl x1f
   .rcases o.2 j c' i with l|⟨e,sz,es,es',l,q⟩
    .exact .inl (x1d _ l)
    .exact .inr ⟨e,sz,es,es',x1d _ l,q⟩
 | @cut k e sz es es' H H' r h o=>
   refine⟨by simp[o.1],fun j c' i=>?_⟩;rcases x1p.1 i with i|i
   .cases i;exact .inr ⟨e,sz,es,es',x1f,rfl,r⟩
   .rcases o.2 j c' i with l|⟨e,sz,es,es',l,q⟩
    .exact .inl (x1d _ l)
    .exact .inr ⟨e,sz,es,es',x1d _ l,q⟩
theorem Le.cut{N:Nat}{sl:List (Nat×LV)}{H H':Heap}(h:CutH H H'):Le N ⟨sl,H⟩ ⟨sl,H'⟩:=fun σ β a w l=>by
 obtain⟨u,I⟩:=h.get;refine⟨σ,β,⟨l.size,l.defers,l.E,⟨l.heap.mem,fun j c' o=>?_,by show(H'.map (·.1)).Nodup;rw[u];exact l.heap.nodup,fun j o=>l.heap.apart j (by rw[<-u];exact o),fun j o J c=>l.heap.inj j (by rw[<-u];exact o) J (by rw[<-u];exact c)⟩⟩,Mem.le_refl σ,Frm.refl _ w,fun b A q=>absurd A q,fun b ⟨j,o,r⟩=>.inl ⟨j,by rw[<-u];exact o,r⟩,fun _ _ _=>rfl⟩;rcases I j c' o with q|⟨e,sz,es,es',q,rfl,v⟩
 .exact l.heap.chunks j c' q
 .rcases l.heap.chunks j _ q with⟨y,z⟩|⟨i,vs,y,z,B,C,D,F,G⟩
  .refine .inl ⟨y,?_⟩;rw[z]at v;exact List.prefix_nil.1 v
  .exact .inr ⟨i,vs,y,z,B,C,x2m v.length_le D,F,fun m x g=>G m x (by
    obtain⟨t,rfl⟩:=v;rw[x3l (x1m.1 g).1];exact g)⟩
theorem DrawK.le{T:Tab}{N:Nat}{ops:Array Oper}{i:Info}{id:Nat}{K:St->Prop}{s':St}(o:Le N s s')(h:DrawK P T N i id ops K s'):DrawK P T N i id ops K s:=by
 refine⟨⟨fun σ β a w u=>?_⟩⟩;obtain⟨σ1,β1,r,l⟩:=o σ β a w u;refine Code.wp_mono (fun e x w' j=>?_) (h.ok.ok σ1 β1 a w r);obtain⟨σ',β',v,j,q,t⟩:=j;exact⟨σ',β',v,j,q,l.trans t⟩
def S7(p:Pg)(id:Int):Option S:=((sheetOf p).l[(id-1).toNat]?).map Item.s
def Qd(a b:Step):Prop:=XU a.src<XU b.src\/(XU a.src=XU b.src/\XU a.dst<XU b.dst)
def Ek(s:Step):Prop:=okSt s/\s.kind=1
theorem KF{a b:Step}(h:a.src=b.src)(i:a.dst=b.dst)(j:a.kind=b.kind):a=b:=by
 cases a;cases b;simp_all
theorem KO{a b:Step}:FL a b=true↔XU a.src<XU b.src\/(XU a.src=XU b.src/\(XU a.dst<XU b.dst\/(XU a.dst=XU b.dst/\a.kind<b.kind))):=by
 have h:FL a b=decide (Mb a b<0):=rfl;rw[h,x3u];unfold Mb;simp only[orI];split
 ·rename_i i;rw[JZ]at i;split
  ·rename_i j;rw[JZ]at j;split
   ·rename_i k;rw[JZ]at k;omega
   ·rw[NL];omega
  ·rename_i j;rw[JZ]at j;rw[NL];omega
 ·rename_i i;rw[JZ]at i;rw[NL];omega
theorem LG(l:List Step):(JI l).Pairwise fun a b=>FL b a=false:=by
 have:=x7u (le:=fun x y=> !FL y x) (fun a b c i j=>by
  simp only[x4e]at i j⊢;rw[x7d,ne_eq,KO]at i j⊢;omega) (fun a b=>by
  cases i:FL b a with
  |false=>rfl
  | true=>
    have j:FL a b=false:=by
     rw[x7d,ne_eq,KO];rw[KO]at i;omega
    rw[j];rfl) l
 refine List.Pairwise.imp ?_ this;intro a b h;simpa using h
def Xo{a b:Step}(ha:Ek a)(i:Ek b):ZY a b=true↔a=b:=by
 unfold ZY;simp only[x2z,x3u];refine⟨fun h=>KF h.1 h.2 (by rw[ha.2,i.2]),fun h=>by rw[h];exact⟨rfl,rfl⟩⟩
theorem q1i{a b:Step}(ha:Ek a)(i:Ek b)(h:FL b a=false)(j:a≠b):Qd a b:=by
 rw[x7d,ne_eq,KO]at h;unfold Qd;by_cases k:XU a.src=XU b.src
 ·by_cases l:XU a.dst=XU b.dst
  ·exact absurd (KF (YV ha.1.1 i.1.1 k) (YV ha.1.2 i.1.2 l) (by rw[ha.2,i.2])) j
  ·omega
 ·omega
theorem Qb{a b c:Step}(h:Qd a b)(i:Qd b c):Qd a c:=by unfold Qd at*;omega
theorem GD{a:Step}(h:Qd a a):False:=by unfold Qd at h;omega
theorem NT:∀(l:List Step)(a:Step),Ek a->(∀s∈l,Ek s)->(a::l).Pairwise (fun a b=>FL b a=false)->(a::XX a l).Pairwise Qd/\∀s,s∈a::XX a l↔s∈a::l
 |[],a,_,_,_=>⟨by simp[XX],by simp[XX]⟩
 | b::r,a,ha,hl,h=>by
   have n:=hl b x1f;have v:∀s∈r,Ek s:=fun s k=>hl s (x1d _ k);rw[x4h]at h;obtain⟨t,u⟩:=h;obtain⟨p,q⟩:=NT r b n v u;rw[XX];cases k:ZY b a with
   | true=>
     obtain rfl:=(Xo n ha).1 k;rw[x2y];exact⟨p,fun s=>by rw[q];simp⟩
   | false=>
     rw[x2f];have o:a≠b:=fun e=>by
      rw[(Xo n ha).2 e.symm]at k;cases k
     have j:=q1i ha n (t b x1f) o;refine⟨?_,fun s=>by rw[x1p,q,<-x1p (a:=s) (b:=a)]⟩;rw[x4h];refine⟨fun s i=>?_,p⟩;rcases x1p.1 i with rfl|i
     .exact j
     .exact Qb j ((x4h.1 p).1 s i)
def TG{l:List Step}(k:∀s∈l,Ek s):(WA l).Pairwise Qd/\∀s,s∈WA l↔s∈l:=by
 have j:∀s,s∈JI l↔s∈l:=fun s=>(Y5 l).mem_iff;have o:=LG l;unfold WA;cases n:JI l with
 | nil=>
   rw[n]at j;exact⟨by simp[BC],fun s=>by rw[<-j];simp[BC]⟩
 | cons a r=>
   rw[n]at j o;have i:∀s∈a::r,Ek s:=fun s h=>k s ((j s).1 h);obtain⟨p,q⟩:=NT r a (i a x1f) (fun s h=>i s (x1d _ h)) o;exact⟨p,fun s=>by rw[BC,q,j]⟩
theorem Kn:∀{l m:List Step},l.Pairwise Qd->m.Pairwise Qd->(∀s,s∈l↔s∈m)->l=m
 |[],[],_,_,_=>rfl
 |[],b::m,_,_,h=>by have:=(h b).2 x1f;cases this
 |a::l,[],_,_,h=>by have:=(h a).1 x1f;cases this
 | a::l,b::m,hl,hm,h=>by
   rw[x4h]at hl hm;have k:a=b:=by
    rcases x1p.1 ((h a).1 x1f)with e|ha
    .exact e
    .rcases x1p.1 ((h b).2 x1f)with e|n
     .exact e.symm
     .exact (GD (Qb (hl.1 b n) (hm.1 a ha))).elim
   subst k;congr 1;refine Kn hl.2 hm.2 fun s=>⟨fun i=>?_,fun i=>?_⟩
   .rcases x1p.1 ((h s).1 (x1d _ i))with rfl|j
    .exact (GD (hl.1 _ i)).elim
    .exact j
   .rcases x1p.1 ((h s).2 (x1d _ i))with rfl|j
    .exact (GD (hm.1 _ i)).elim
    .exact j
def Pu{p:Pg}(h:QA p=true){j:Nat}(l:p.A[j]?=some f):∀s∈QB p j f,Ek s:=by
 obtain⟨_,_,k⟩:=V4 h l;intro s i;refine⟨k s i,?_⟩;unfold QB at i;rcases x1p.1 i with rfl|i
 .rfl
 .obtain ⟨it,_,n⟩:=x2p.1 i;obtain⟨y,_,rfl⟩:=x1r.1 n;rfl
def MA{p:Pg}(h:QA p=true){j:Nat}(i:p.A[j]?=some f):(QQ p j f).real.Pairwise Qd/\∀s,s∈(QQ p j f).real↔s∈QB p j f:=TG (Pu h i)
theorem IN{p:Pg}(h:QA p=true){j:Nat}(n:p.A[j]?=some f){s:Step}(i:s∈QB p j f):s=⟨0,x0u p j f,1⟩\/(1<=s.src/\s.src<=9223372036854775806):=by
 obtain⟨_,_,q⟩:=XK h;obtain⟨_,_,_,o,l⟩:=QU p;obtain⟨_,_,r,_⟩:=l j f n;unfold QB at i;rcases x1p.1 i with rfl|i
 ·exact .inl rfl
 ·obtain⟨it,k,t⟩:=x2p.1 i;obtain⟨y,_,rfl⟩:=x1r.1 t;have:=VT (QP h).1 n (MV k);refine .inr ?_;simp only;omega
end Go.Ab
