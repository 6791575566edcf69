/- The reference's measure of a program. -/
import Derived.Laws.StructEq
import Derived.ChangeKeysEq
import Derived.Test.YtgpjfppgphaobaaGreatEndA13
set_option linter.all false
set_option maxRecDepth 100000
set_option maxHeartbeats 16000000
open List (Nodup)
namespace Go.Ab
open Go.Proofs.Tryz
open Go.Proofs
variable {f:Pr}{k:Nat}{l:List Str}{p:Pg}{y:Int}
def q1e(p:Pg):Bool:=decide (gPg p<=20000)
def q6o(h:q1e p=true):Fit p:=by
 have:=x2w p;have j:gPg p<=20000:=by simpa[q1e]using h
 unfold Fit;omega
def YH(p:Pg):aP 8 [.agg p.cells] (.bool (q1e p)):=by
 refine sC PA func8 ?_;conv=>whnf
 have L:(p.A.map fun f=>AV.agg f.cells).length=p.A.length:=x3a _;have H:=XO (a:=0+PF p.F) (by omega);repeat' ((refine cP (XR p.F 0 (by omega)) ?_ (ha:=.cons (Sub.refl _) (.cons (Sub.refl _) .nil)))<;>conv=>whnf)
 refine lI (fun y:Nat×Int=>⟨[(1,.p (.ip p.cells)),(3,.j y.2),(4,.j y.1)],[]⟩) (fun y=>y.1<=p.A.length/\(0<=y.2/\y.2<=20001)/\XY (y.2+L0 (p.A.drop y.1))=XY (gPg p:Nat)) (fun y=>p.A.length-y.1) (0,XY (0+PF p.F)) ⟨x4j _,H,by
  show XY (XY (0+PF p.F)+L0 p.A)=_;rw[ZU (by omega)];congr 1;unfold gPg;omega⟩ ?_
 rintro⟨j,m⟩ ⟨C,r,t⟩;simp only at C r t⊢;have q:∀{x:Int},0<=x/\x<=20001->XY x=XY (gPg p:Nat)->(decide (x<=20000))=q1e p:=fun {x} M h=>by
  unfold q1e;unfold XY at h;by_cases d:gPg p<=20000
  .rw [x5n d,x5k];split at h<;>split at h<;>omega
  .rw [x5r d,x7j];split at h<;>split at h<;>omega
 rcases x4f j p.A.length with b|b;rotate_left 1
 .rw [x4l b,L0]at t;conv=>whnf
  repeat' ((first|(refine iM fun _=>?_)|(apply bD<;>intro _<;>try omega))<;>conv=>whnf)
  all_goals exact RetK.bool (q r (by rw[<-t];simp))
 rw[x5j b,L0]at t;have c:gPr p.A[j]=1+p.A[j].name.length+PF p.A[j].zd+PF p.A[j].fin+Iv p.A[j].B+gL p.A[j].body:=rfl;have I:=XO (a:=m+(1+p.A[j].name.length:Nat)) (by omega);have J:=XO (a:=XY (m+(1+p.A[j].name.length:Nat))+PF p.A[j].zd) (by omega);have g:=XO (a:=XY (XY (m+(1+p.A[j].name.length:Nat))+PF p.A[j].zd)+PF p.A[j].fin) (by omega);conv=>whnf
 repeat' ((first|(refine gX ?_;intros)|refine dA ?_|refine cP (QT p.A[j].name _ r) ?_|refine cP (XR p.A[j].zd _ I) ?_|refine cP (XR p.A[j].fin _ J) ?_|(apply bD<;>intro _<;>try omega))<;>conv=>whnf)
 rotate_left 1
 .exact RetK.bool (q r (by rw[<-t,<-YL (by omega) r.2 (by omega),D1 r.2]))
 have e:XY (XY (XY (XY (m+(1+p.A[j].name.length:Nat))+PF p.A[j].zd)+PF p.A[j].fin)+(Iv p.A[j].B+(gL p.A[j].body+L0 (p.A.drop (j+1))):Nat))=XY (gPg p:Nat):=by
  rw[ZU (by omega),x9i,ZU (by omega),x9i,ZU (by omega),<-t,c];congr 1;omega
 generalize XY (XY (XY (m+(1+p.A[j].name.length:Nat))+PF p.A[j].zd)+PF p.A[j].fin)=m0 at g e⊢;have G:(p.A[j].B.map fun a=>AV.agg a.cells).length=p.A[j].B.length:=x3a _;refine lI (fun y:Nat×Int=>⟨[(1,.p (.ip p.cells)),(3,.j y.2),(4,.j j),(5,.p (.ip p.A[j].cells)),(6,.j y.1)],[]⟩) (fun y=>y.1<=p.A[j].B.length/\(0<=y.2/\y.2<=20001)/\XY (y.2+(Iv (p.A[j].B.drop y.1)+(gL p.A[j].body+L0 (p.A.drop (j+1))):Nat))=XY (gPg p:Nat)) (fun y=>p.A[j].B.length-y.1) (0,m0) ⟨x4j _,g,e⟩ ?_;rintro⟨a,n⟩ ⟨D,u,v⟩;simp only at D u v⊢;have fin:XY (n+(gL p.A[j].body+L0 (p.A.drop (j+1)):Nat))=XY (gPg p:Nat)->(0<=XY (n+gL p.A[j].body)/\XY (n+gL p.A[j].body)<=20001)/\XY (XY (n+gL p.A[j].body)+L0 (p.A.drop (j+1)))=XY (gPg p:Nat):=fun h=>by
  refine⟨XO (by omega),?_⟩;rw[ZU (by omega),<-h];congr 1;omega
 have w:n>20000->XY (n+(gL p.A[j].body+L0 (p.A.drop (j+1)):Nat))=XY (gPg p:Nat):=fun h=>by
  rw[<-v,<-YL h u.2 (by omega),<-YL h u.2 (by omega)]
 rcases x4f a p.A[j].B.length with ha|ha;rotate_left 1
 .have E:XY (n+(gL p.A[j].body+L0 (p.A.drop (j+1)):Nat))=XY (gPg p:Nat):=by
   rw[x4l ha,Iv,x6i]at v;exact v
  obtain⟨f1,f2⟩:=fin E;conv=>whnf
  repeat' ((first|(refine gX ?_;intros)|refine cP (UL (gL p.A[j].body+1) p.A[j].body (by omega) n u) ?_ (ha:=.cons (Sub.refl _) (.cons (Sub.refl _) .nil))|(apply bD<;>intro _<;>try omega))<;>conv=>whnf)
  all_goals exact nX (j+1,XY (n+gL p.A[j].body)) ⟨by simp only;omega,f1,f2⟩
 rw[x5j ha,Iv]at v;conv=>whnf
 repeat' ((first|(refine gX ?_;intros)|refine cP (QT p.A[j].B[a].name _ u) ?_|refine cP (UL (gL p.A[j].body+1) p.A[j].body (by omega) n u) ?_ (ha:=.cons (Sub.refl _) (.cons (Sub.refl _) .nil))|(apply bD<;>intro _<;>try omega))<;>conv=>whnf)
 .have z:XY (XY (n+(1+p.A[j].B[a].name.length:Nat))+(Iv (p.A[j].B.drop (a+1))+(gL p.A[j].body+L0 (p.A.drop (j+1))):Nat))=XY (gPg p:Nat):=by
   rw[ZU (by omega),<-v];congr 1;omega
  exact nX (a+1,XY (n+(1+p.A[j].B[a].name.length:Nat))) ⟨by simp only;omega,XO (by omega),z⟩
 .obtain ⟨f1,f2⟩:=fin (w (by omega));exact nX (j+1,XY (n+gL p.A[j].body)) ⟨by simp only;omega,f1,f2⟩
inductive SubE:List AV->List AV->Prop
 |nil:SubE [] []
 |cons {a b:AV} {xs ys:List AV} (h:SubL a.cells b.cells) (hs:SubE xs ys):SubE (a::xs) (b::ys)
theorem SubE.get{xs m:List AV}(h:SubE xs m):xs.length=m.length/\∀(i:Nat)(b:AV),m[i]?=some b->∃a,xs[i]?=some a/\SubL a.cells b.cells:=by
 induction h with
 |nil=>exact⟨rfl,by simp⟩
 | cons h r q=>
   refine⟨by simp[q.1],fun i b j=>?_⟩;cases i with
   |zero=>simp at j;subst j;exact⟨_,rfl,h⟩
   |succ i=>exact q.2 i b (by simpa using j)
theorem Sub.sl{xs w:List AV}(h:SubE xs w):Sub (.sl xs) (.sl w):=fun σ v hr=>by
 obtain⟨A,z⟩:=h.get;cases hr with
 | nilsl=>
   obtain rfl:w=[]:=by simpa using A.symm
   exact .nilsl
 | slz b=>
   obtain rfl:w=[]:=by simpa using A.symm
   exact .slz b
 | sl _ b off cap sz cells u F D t C G B=>
   rw[A];refine .sl w b off cap sz cells u F (by omega) t (fun i e r=>?_) (fun i e j c r g=>?_) (fun i e j c r g=>?_)
   .obtain ⟨a,m,q⟩:=z i e r;rw[<-C i a m,q.1]
   .obtain ⟨a,m,q⟩:=z i e r;obtain⟨d,x,_⟩:=q.get g;exact G i a j d m x
   .obtain ⟨a,m,q⟩:=z i e r;obtain⟨d,x,E⟩:=q.get g;exact E _ _ (B i a j d m x)
def Wy(n:Int):aP 54 [.int .i64 n] (.agg (X.mk 1 n [] []).cells):=by
 refine sC MP func54 ?_;conv=>whnf
 repeat' (refine x4e rfl ?_;conv=>whnf)
 exact⟨_,.p (Sub.agg x2t),rfl⟩
def Z6(s:Str):aP 55 [.str s] (.agg (X.mk 2 0 s []).cells):=by
 refine sC PI func55 ?_;conv=>whnf
 repeat' (refine x4e rfl ?_;conv=>whnf)
 exact⟨_,.p (Sub.agg x2t),rfl⟩
def HI(op:Int)(a b:X):aP 56 [.int .i64 op,.agg a.cells,.agg b.cells] (.agg (X.mk op 0 [] [a,b]).cells):=by
 refine sC MN func56 ?_;conv=>whnf
 repeat' ((first|refine x4e rfl ?_|refine aD ?_|refine BsK.pureL rfl rfl ?_)<;>conv=>whnf)
 have e:X.avs [a,b]=[.agg a.cells,.agg b.cells]:=by simp only[X.avs,X.av_eq]
 exact⟨_,.p (Sub.agg (SubL.cons (Sub.refl _) (SubL.cons (Sub.refl _) (SubL.cons (Sub.refl _) (SubL.cons (Sub.of_eq (by show _=AV.sl (X.avs [a,b]);rw[e];rfl)) SubL.nil))))),rfl⟩
def bs(l:List Nat):Str:=l.map fun n=>UInt8.ofNat n
def someP:Pg:=⟨[[103]],[
 ⟨[109,97,105,110],[],[[118]],[
   .mk 1 1 [] [118] [] (.mk 1 2 [] []) false [] [] [],
   .mk 2 4 [] [103] [112] (.mk 0 0 [] []) false [⟨false,[],.mk 1 3 [] []⟩,⟨true,[118],.mk 0 0 [] []⟩] [] [],
   .mk 3 3 [] [] [] (.mk 2 0 [118] []) false [] [] [],
   .mk 4 3 [] [] [] (.mk 2 0 [103] []) false [] [] []],[]⟩,
 ⟨[112],[⟨[120],false⟩,⟨[121],true⟩],[],[
   .mk 5 1 [] [121] [] (.mk 8 0 [] [.mk 2 0 [121] [],.mk 2 0 [120] []]) false [] [] [],
   .mk 6 5 [] [] [] (.mk 12 0 [] [.mk 2 0 [121] [],.mk 1 9 [] []]) false [] [.mk 7 10 [] [101] [] (.mk 0 0 [] []) false [] [] []] [],
   .mk 8 9 [] [] [] (.mk 2 0 [121] []) true [] [] []],[[101]]⟩]⟩
def Z5:aP 32 [] (.agg someP.cells):=by
 refine sC PE func32 ?_;conv=>whnf
 repeat' ((first|refine cP (Wy _) ?_|refine cP (Z6 _) ?_|refine gX ?_|refine BsK.pureL rfl rfl ?_|refine cP (HI 8 (.mk 2 0 [121] []) (.mk 2 0 [120] [])) ?_|refine cP (HI 12 (.mk 2 0 [121] []) (.mk 1 9 [] [])) ?_)<;>conv=>whnf)
 exact⟨_,.p (Sub.agg (by repeat' (first|exact SubL.nil|exact SubE.nil|exact Sub.nils|exact Sub.ff rfl|exact Sub.tt rfl|refine SubL.cons ?_ ?_|refine SubE.cons ?_ ?_|exact Sub.refl _|refine Sub.agg ?_|refine Sub.sl ?_))),rfl⟩
def V4:Fit someP:=by unfold Fit;decide
def HM:QL someP=true:=by kernel_rfl
def f0:Pr:=someP.A[0]'(by decide)
def f1:Pr:=someP.A[1]'(by decide)
def q7r:VY (QN someP 0 f0)=[⟨0,1,1⟩,⟨1,2,1⟩,⟨2,3,1⟩,⟨3,4,1⟩,⟨4,-1,1⟩]:=by
 have h:QN someP 0 f0=[⟨0,1,1⟩,⟨1,2,1⟩,⟨2,3,1⟩,⟨3,4,1⟩,⟨4,-1,1⟩]:=by kernel_rfl
 unfold VY KF;rw[h,List.mergeSort_of_pairwise (by decide)];rfl
def q7t:VY (QN someP 1 f1)=[⟨0,5,1⟩,⟨5,6,1⟩,⟨6,7,1⟩,⟨6,8,1⟩,⟨7,-1,1⟩,⟨8,-1,1⟩]:=by
 have h:QN someP 1 f1=[⟨0,5,1⟩,⟨5,6,1⟩,⟨6,7,1⟩,⟨6,8,1⟩,⟨7,-1,1⟩,⟨8,-1,1⟩]:=by kernel_rfl
 unfold VY KF;rw[h,List.mergeSort_of_pairwise (by decide)];rfl
def Ss(n k:Int):Int:=if k<1 then 0 else if n.tmod k<0 then n.tmod k+k else n.tmod k
def T4{n k:Int}(j:0<k):0<=Ss n k/\Ss n k<k:=by
 unfold Ss;have q:=Int.tmod_lt_of_pos n j;have r : -k<n.tmod k:=by
  rcases Int.le_total 0 n with h|h
  .have:=Int.tmod_nonneg k h;omega
  .have m:=Int.tmod_lt_of_pos (-n) j;rw[Int.neg_tmod]at m;omega
 rw[if_neg (by omega)];split<;>omega
def Wu(n k:Int)(m:k<=1000000):aP 18 [.int .i64 n,.int .i64 k] (.int .i64 (Ss n k)):=by
 refine sC MB func18 ?_;conv=>whnf
 have j:=fun h:0<k=>T4 (n:=n) h;repeat' ((first|refine x4e (by omega) ?_|(apply bD<;>intro _<;>try omega))<;>conv=>whnf)
 all_goals first
  | (refine Wr.i64 (by have:=j (by omega);unfold Ss at this;rw[if_neg (by omega),if_pos (by assumption)]at this;omega) (by have:=j (by omega);unfold Ss at this;rw[if_neg (by omega),if_pos (by assumption)]at this;omega) ?_
     conv=>whnf
     exact RetK.int (by unfold Ss;rw[if_neg (by assumption),if_pos (by assumption)]))
  |exact RetK.int (by unfold Ss;rw[if_pos (by assumption)])
  |exact RetK.int (by unfold Ss;rw[if_neg (by assumption),if_neg (by assumption)])
def inS(l:List Str)(x:Str):Bool:=l.any fun y=>y==x
theorem Pb{α β:Type}{f:α->β}:∀{l:List α},(l.map f).Nodup->∀a∈l,∀b∈l,f a=f b->a=b
 |[],_,a,ha,_,_,_=>by cases ha
 | c::r,h,a,ha,b,hb,e=>by
   rw[x4o,x6q]at h;rcases x4v.1 ha with m|m
   .rcases x4v.1 hb with j|j
    .rw [m,j]
    .exact (h.1 (x4y.2 ⟨b,j,by rw[<-e,m]⟩)).elim
   .rcases x4v.1 hb with j|j
    .exact (h.1 (x4y.2 ⟨a,m,by rw[e,j]⟩)).elim
    .exact Pb h.2 a m b j e
theorem LE{α:Type}[DecidableEq α]:∀{l m:List α},l.Nodup->(∀s∈l,s∈m)->l.length<=m.length
 |[],m,_,_=>x4j _
 | a::r,m,h,hs=>by
   rw[x6q]at h;have ha:=hs a x4z;have n:=LE (m:=m.erase a) h.2 fun s j=>(List.mem_erase_of_ne (fun e=>h.1 (by rw[<-e];exact j))).2 (hs s (x4x _ j));rw[List.length_erase_of_mem ha]at n;have:=x9h ha;simp only[x5g];omega
def Sk(n c:Nat):(Qn n c).Nodup:=by
 unfold Qn Nodup;rw[List.pairwise_map];exact List.Pairwise.imp (fun h e=>h (by omega)) (List.nodup_range' (s:=n+1) (n:=c) (step:=1))
def L7(m:BC p=true){j:Nat}(h:p.A[j]?=some f):(itsOf p j f).map (fun n=>n.s.id)=Qn (QS p.A j) (QJ f.body):=by
 rw[<-AY m h,<-Xj (j:Nat) 0 (-1) 0 (QS p.A j) f.body,x8t];rfl
def q2v(q:BC p=true){j:Nat}(n:p.A[j]?=some f){a b:Item}(ha:a∈itsOf p j f)(m:b∈itsOf p j f)(h:a.s.id=b.s.id):a=b:=
 Pb (f:=fun r:Item=>r.s.id) (by rw[L7 q n];exact Sk _ _) a ha b m h
def q7f{j:Nat}{t:S}(h:t∈flL f.body):∃m∈itsOf p j f,m.s=t:=by
 rw[<-Xj (j:Nat) 0 (-1) 0 (QS p.A j) f.body]at h;obtain⟨m,n,q⟩:=x4y.1 h;exact⟨m,n,q⟩
def T2{l:List Step}(h:l.Pairwise Xk):l.Nodup:=h.imp fun h e=>by subst e;exact HJ h
def RG{n c:Nat}{a:Int}(h:(n:Int)+1<=a)(j:a<=(n+c:Nat)):a∈Qn n c:=by
 unfold Qn;refine x4y.2 ⟨a.toNat,List.mem_range'.2 ⟨a.toNat-(n+1),by omega,by omega⟩,by omega⟩
inductive Rch{α:Type}(R:α->α->Prop)(a:α):α->Prop
 |refl:Rch R a a
 |tail {b c:α} (h:Rch R a b) (hr:R b c):Rch R a c
theorem Rch.trans{α:Type}{R:α->α->Prop}{a b c:α}(h:Rch R a b)(j:Rch R b c):Rch R a c:=by
 induction j with
 |refl=>exact h
 |tail _ hr m=>exact .tail m hr
theorem Rch.head{α:Type}{R:α->α->Prop}{a b c:α}(hr:R a b)(h:Rch R b c):Rch R a c:=Rch.trans (.tail .refl hr) h
theorem Rch.mono{α:Type}{R R':α->α->Prop}(h:∀x y,R x y->R' x y){a b:α}(hr:Rch R a b):Rch R' a b:=by
 induction hr with
 |refl=>exact .refl
 |tail _ hr j=>exact .tail j (h _ _ hr)
theorem Rch.closed{α:Type}{R:α->α->Prop}{S:α->Prop}(j:∀x y,S x->R x y->S y){a b:α}(ha:S a)(h:Rch R a b):S b:=by
 induction h with
 |refl=>exact ha
 |tail _ hr m=>exact j _ _ m hr
structure WkM(n:Nat)(st:List Bool×List Int):Prop where
 inv:wkInv n st
 mem:∀x,x∈st.2↔(0<=x/\x<n)/\st.1.getD x.toNat false=true
theorem WkM.start(n:Nat):WkM n (List.replicate n false,[]):=⟨NI n,fun x=>by
 simp only[x8m,false_iff,not_and];intro _;rw[x3i,x5v];split<;>simp⟩
theorem WkM.see{n:Nat}{st:List Bool×List Int}(h:WkM n st){b:Int}(r:0<=b/\b<n):WkM n (KH st b)/\(∀x,x∈(KH st b).2↔x∈st.2\/x=b)/\st.2 <+: (KH st b).2:=by
 have u:=Qz h.inv r;cases t:st.1.getD b.toNat false with
 | true=>
   have e:KH st b=st:=by unfold KH;rw[t];rfl
   rw[e];refine⟨h,fun x=>⟨.inl,fun m=>?_⟩,List.prefix_refl _⟩;rcases m with m|rfl
   .exact m
   .exact (h.mem _).2 ⟨r,t⟩
 | false=>
   have e:KH st b=(st.1.set b.toNat true,st.2++[b]):=by unfold KH;rw[t];rfl
   rw[e]at u⊢;have v:=h.inv.1;refine⟨⟨u,fun x=>?_⟩,fun x=>by simp,List.prefix_append _ _⟩;rw[x4g,x4w,h.mem];simp only[x3i,z0j];by_cases m:x=b
   .subst m;rw[if_pos rfl,if_pos (by omega)];simp[r]
   .constructor
    .rintro (⟨q,j⟩|j)
     .refine ⟨q,?_⟩;rw[if_neg (by omega)];exact j
     .exact absurd j m
    .rintro ⟨q,j⟩;rw[if_neg (by omega)]at j;exact .inl ⟨q,j⟩
theorem WkM.fold{n:Nat}:∀(l:List Int){st:List Bool×List Int},WkM n st->(∀b∈l,0<=b/\b<n)->WkM n (l.foldl KH st)/\(∀x,x∈(l.foldl KH st).2↔x∈st.2\/x∈l)/\st.2 <+: (l.foldl KH st).2
 |[],st,h,_=>⟨h,fun x=>by simp,List.prefix_refl _⟩
 | b::r,st,h,hl=>by
   obtain⟨j,m,q⟩:=h.see (hl b x4z);obtain⟨t,u,v⟩:=WkM.fold r j fun c w=>hl c (x4x _ w);refine⟨t,fun x=>?_,q.trans v⟩;rw[x7v,u,m,x4v,or_assoc]
def Fo(rows:List (List Int))(x y:Int):Prop:=y∈rows.getD x.toNat []
def DT{n:Nat}{rows:List (List Int)}(hr:XG n rows){x:Int}(h:Fo rows x y):0<=y/\y<n:=by
 unfold Fo at h;rw[x3i]at h;cases j:rows[x.toNat]?with
 |none=>rw[j]at h;simp at h
 |some r=>rw[j]at h;exact hr.2 r (x4p j) y h
def Gw{α:Type}{l m:List α}(h:l <+: m){i:Nat}{a:α}(ha:l[i]?=some a):m[i]?=some a:=by
 obtain⟨t,rfl⟩:=h;rw[x5i (x4u.1 ha).1];exact ha
theorem Jq{n:Nat}{rows:List (List Int)}(hr:XG n rows):∀(k i:Nat){st:List Bool×List Int},WkM n st->i<=st.2.length->n+1<=k+i->(∀(m:Nat)(a:Int),m<i->st.2[m]?=some a->∀b,Fo rows a b->b∈st.2)->
  WkM n (ZJ rows k i st)/\(∀x∈st.2,x∈(ZJ rows k i st).2)/\(∀x∈(ZJ rows k i st).2,∀b,Fo rows x b->b∈(ZJ rows k i st).2)/\(∀S:Int->Prop,(∀x∈st.2,S x)->(∀x b,S x->Fo rows x b->S b)->∀x∈(ZJ rows k i st).2,S x)
 | 0,i,st,h,hi,hk,_=>by
   have:=BJ h.inv;omega
 | k+1,i,st,h,hi,hk,hc=>by
   rw[ZJ];split
   .rename_i a ha;have A:=(x4u.1 ha).1;have z:∀b∈rows.getD a.toNat [],0<=b/\b<n:=fun b r=>DT hr r;obtain⟨D,e,g⟩:=h.fold (rows.getD a.toNat []) z;obtain⟨E,F,G,H⟩:=Jq hr k (i+1) D (x5y A g.length_le) (by omega) fun m c B q b r=>by
     rw[e];rcases x4f m i with v|v
     .have w:m<st.2.length:=by omega
      have u:st.2[m]?=some c:=by
       have:=Gw g (x3e w);rw[x3e w,<-this,q]
      exact .inl (hc m c v u b r)
     .obtain rfl:m=i:=by omega
      have:=Gw g ha;rw[this]at q;cases q;exact .inr r
    refine⟨E,fun x j=>F x ((e x).2 (.inl j)),G,fun S d t=>H S (fun x j=>?_) t⟩;rcases(e x).1 j with j|j
    .exact d x j
    .exact t a x (d a (x4p ha)) j
   .rename_i ha;have C:st.2.length<=i:=x8g.1 ha;refine⟨h,fun x j=>j,fun x j b r=>?_,fun S d _=>d⟩;obtain⟨m,B⟩:=x7x.1 j;exact hc m x (by have:=(x4u.1 B).1;omega) B b r
theorem Z0{n:Nat}:∀(l:List Int){st:List Bool×List Int},WkM n st->WkM n (l.foldl (fun st a=>bif ZT n a then KH st a else st) st)/\∀x,x∈(l.foldl (fun st a=>bif ZT n a then KH st a else st) st).2↔x∈st.2\/(x∈l/\ZT n x=true)
 |[],st,h=>⟨h,fun x=>by simp⟩
 | a::r,st,h=>by
   rw[x7v];cases u:ZT n a with
   | true=>
     obtain⟨v,w,_⟩:=h.see (ZZ u);obtain⟨q,t⟩:=Z0 r v;rw[x4s];refine⟨q,fun x=>?_⟩;rw[t,w,x4v];constructor
     .rintro ((j|rfl)|⟨j,m⟩)
      .exact .inl j
      .exact .inr ⟨.inl rfl,u⟩
      .exact .inr ⟨.inr j,m⟩
     .rintro (j|⟨rfl|j,m⟩)
      .exact .inl (.inl j)
      .exact .inl (.inr rfl)
      .exact .inr ⟨j,m⟩
   | false=>
     obtain⟨q,t⟩:=Z0 r h;rw[x5q];refine⟨q,fun x=>?_⟩;rw[t,x4v];constructor
     .rintro (j|⟨j,m⟩)
      .exact .inl j
      .exact .inr ⟨.inr j,m⟩
     .rintro (j|⟨rfl|j,m⟩)
      .exact .inl j
      .rw [u]at m;cases m
      .exact .inr ⟨j,m⟩
theorem T0:∀(l:List Bool)(i:Nat)(y:Int),y∈DG i l ↔ ∃k:Nat,l[k]?=some true/\y=((i+k:Nat):Int)
 |[],i,y=>by simp[DG]
 | b::r,i,y=>by
   have m:=T0 r (i+1) y;have key:(∃k:Nat,(b::r)[k]?=some true/\y=((i+k:Nat):Int))↔(b=true/\y=(i:Int))\/∃k:Nat,r[k]?=some true/\y=((i+1+k:Nat):Int):=by
    constructor
    .rintro ⟨k,h,j⟩;cases k with
     |zero=>simp at h;exact .inl ⟨h,by simpa using j⟩
     |succ k=>exact .inr ⟨k,by simpa using h,by rw[j];omega⟩
    .rintro (⟨h,j⟩|⟨k,h,j⟩)
     .exact ⟨0,by simp[h],by simpa using j⟩
     .exact ⟨k+1,by simpa using h,by rw[j];omega⟩
   rw[key,<-m,DG];cases b<;>simp
def N6{n:Nat}{rows:List (List Int)}(hr:XG n rows)(l:List Int)(y:Int):y∈DG 0 (WB rows l) ↔ ∃a∈l,ZT n a=true/\Rch (Fo rows) a y:=by
 obtain⟨c,d⟩:=Z0 (n:=n) l (WkM.start n);obtain⟨u,e,g,A⟩:=Jq hr (rows.length+1) 0 (st:=DI rows.length l) (by rw[hr.1];exact c) (x4j _) (by rw[hr.1];omega) (fun m a C=>by omega);have t:∀x,x∈(DI rows.length l).2↔x∈l/\ZT n x=true:=fun x=>by
  rw[hr.1];unfold DI;rw[d];simp
 have r:∀y,y∈DG 0 (WB rows l)↔y∈(ZJ rows (rows.length+1) 0 (DI rows.length l)).2:=fun y=>by
  rw[T0,u.mem];show(∃k:Nat,(ZJ rows (rows.length+1) 0 (DI rows.length l)).1[k]?=some true/\_)↔_;constructor
  .rintro ⟨k,j,h⟩;have q:=(x4u.1 j).1;rw[u.inv.1]at q;refine⟨by omega,?_⟩;rw[h,x3i];simp[j]
  .rintro ⟨j,h⟩;have q:y.toNat<(ZJ rows (rows.length+1) 0 (DI rows.length l)).1.length:=by rw[u.inv.1];omega
   refine⟨y.toNat,?_,by omega⟩;rw[x3i,x3e q]at h;rw[x3e q];simpa using h
 rw[r];constructor
 .intro B;refine A (fun y=>∃a∈l,ZT n a=true/\Rch (Fo rows) a y) (fun x z=>?_) (fun x b ⟨a,j,h,v⟩ w=>⟨a,j,h,.tail v w⟩) y B;obtain⟨j,h⟩:=(t x).1 z;exact⟨x,j,h,.refl⟩
 .rintro ⟨a,j,h,v⟩;exact v.closed (S:=fun y=>y∈(ZJ rows (rows.length+1) 0 (DI rows.length l)).2) (fun x b z w=>g x z b w) (e a ((t a).2 ⟨j,h⟩))
def RF{l:List Int}{b x:Int}:x∈Zp l k b↔x∈l\/x=b:=by
 unfold Zp;rw[x4g,x4v];have:x∈l↔x∈l.take k\/x∈l.drop k:=by rw[<-x4g,z0b]
 rw[this];constructor
 .rintro (h|h|h)
  .exact .inl (.inl h)
  .exact .inr h
  .exact .inl (.inr h)
 .rintro ((h|h)|h)
  .exact .inl h
  .exact .inr (.inr h)
  .exact .inr (.inl h)
def Ic{n:Nat}{g:List (List Int)×List (List Int)}(v:g.1.length=n)(e:Int×Int){x:Int}(t:0<=x/\x<n):y∈(Dh n g e).1.getD x.toNat []↔y∈g.1.getD x.toNat []\/((x,y)=e/\ZT n y=true):=by
 rw[Vp];cases j:(ZT n e.1&&ZT n e.2 && !(g.1.getD e.1.toNat []).contains e.2)with
 | true=>
   simp only[x4n,x7w]at j;obtain⟨⟨q,r⟩,_⟩:=j;have u:=ZZ q;rw[x4s];unfold Gv;rw[x3i,z0j];by_cases m:e.1.toNat=x.toNat
   .rw [if_pos m,if_pos (by omega)];simp only[x5b];rw[RF,<-m];have:x=e.1:=by omega
    constructor
    .rintro (h|h)
     .exact .inl h
     .exact .inr ⟨by rw[this,h],by rw[h];exact r⟩
    .rintro (h|⟨h,_⟩)
     .exact .inl h
     .exact .inr (by rw[<-h])
   .rw [if_neg m,<-x3i];constructor
    .exact .inl
    .rintro (h|⟨h,_⟩)
     .exact h
     .exact absurd (by rw[<-h]) m
 | false=>
   rw[x5q];constructor
   .exact .inl
   .rintro (h|⟨rfl,h⟩)
    .exact h
    .have q:ZT n x=true:=by unfold ZT;simp[t]
     simp only[q,h,Bool.true_and,Bool.not_eq_false']at j;simpa using j
def Rw{n:Nat}{g:List (List Int)×List (List Int)}(h:g.1.length=n)(e:Int×Int):(Dh n g e).1.length=n:=by
 rw[Vp];cases(ZT n e.1&&ZT n e.2 && !(g.1.getD e.1.toNat []).contains e.2)with
 |true=>rw[x4s];unfold Gv;rw[x6x];exact h
 |false=>exact h
theorem P4{n:Nat}{x y:Int}(q:0<=x/\x<n):∀(l:List (Int×Int)){g:List (List Int)×List (List Int)},g.1.length=n->(y∈(l.foldl (Dh n) g).1.getD x.toNat []↔y∈g.1.getD x.toNat []\/((x,y)∈l/\ZT n y=true))
 |[],g,_=>by simp
 | e::r,g,h=>by
   rw[x7v,P4 q r (Rw h e),Ic h e q,x4v];constructor
   .rintro ((j|⟨j,m⟩)|⟨j,m⟩)
    .exact .inl j
    .exact .inr ⟨.inl j,m⟩
    .exact .inr ⟨.inr j,m⟩
   .rintro (j|⟨j|j,m⟩)
    .exact .inl (.inl j)
    .exact .inl (.inr ⟨j,m⟩)
    .exact .inr ⟨j,m⟩
def BT{n:Nat}{l:List (Int×Int)}{x:Int}(h:0<=x/\x<n):Fo (QA n l).1 x y↔(x,y)∈l/\ZT n y=true:=by
 unfold Fo QA;rw[P4 h l (by simp)];have:(List.replicate n ([]:List Int)).getD x.toNat []=[]:=by
  rw[x3i,x5v];split<;>rfl
 rw[this];simp
def L4{n:Nat}{l:List (Int×Int)}(u:0<n)(y:Int):y∈DG 0 (WB (QA n l).1 [0])↔Rch (fun a b=>(a,b)∈l/\ZT n b=true) 0 y:=by
 rw[N6 (JP n l).1];have t:ZT n 0=true:=by unfold ZT;simp;omega
 constructor
 .rintro ⟨a,ha,_,h⟩;obtain rfl:a=0:=by simpa using ha
  exact(h.closed (S:=fun x:Int=>(0<=x/\x<n)/\Rch (fun a b=>(a,b)∈l/\ZT n b=true) 0 x) (fun x y ⟨m,q⟩ j=>by
   have r:=(BT m).1 j;exact⟨ZZ r.2,.tail q r⟩) ⟨⟨by omega,by omega⟩,.refl⟩).2
 .intro h;refine⟨0,by simp,t,?_⟩;exact(h.closed (S:=fun x:Int=>(0<=x/\x<n)/\Rch (Fo (QA n l).1) 0 x) (fun x y ⟨m,q⟩ j=>⟨ZZ j.2,.tail q ((BT m).2 j)⟩) ⟨⟨by omega,by omega⟩,.refl⟩).2
def stR(F:List Step)(a b:Int):Prop:=∃s∈F,s.src=a/\s.dst=b
def plP(p:Pg)(j:Nat)(f:Pr)(x:Int):Prop:=x=0\/x = -1\/((QS p.A j:Int)+1<=x/\x<=(QS p.A j+QJ f.body:Nat))
def ixI(p:Pg)(j:Nat)(f:Pr)(x:Int):Int:=JN (loI p j) (hiI p j f) (QJ f.body+2:Nat) x
def WU{j:Nat}{x:Int}(h:plP p j f x):0<=ixI p j f x/\ixI p j f x<(QJ f.body+2:Nat):=by
 unfold ixI JN loI hiI;unfold plP at h
 (repeat' split)<;>omega
def DJ{j:Nat}{x:Int}(m:plP p j f x)(n:plP p j f y)(h:ixI p j f x=ixI p j f y):x=y:=by
 unfold ixI JN loI hiI at h;unfold plP at m n
 (repeat' split at h)<;>omega
def JS(h:QL p=true){j:Nat}(m:p.A[j]?=some f):∀s∈(QQ p j f).real,plP p j f s.src/\plP p j f s.dst:=fun s t=>by
 obtain⟨_,n⟩:=Q5 h m;obtain⟨_,q,_⟩:=U1 h m;obtain⟨u,r⟩:=q s ((n s).1 t);unfold okI at r;unfold plP;omega
def TW(h:UQ l=false):l.Nodup:=by
 unfold UQ at h;rw[List.any_eq_false]at h;unfold Nodup;rw[x7i];intro i j t m r q;have n:=h j (x5a.2 m);apply n;rw[x6s];refine⟨l[i],?_,?_⟩
 .exact x6u.2 ⟨i,by simp;omega,by simp⟩
 .rw [x3e m];simp[q]
def Ly(h:QL p=true):(QK p).Nodup:=by
 obtain⟨n,m,_⟩:=QB h;unfold QO at m;rw[n,x4s]at m;cases j:WO p with
 |true=>rw[j]at m;cases m
 | false=>
   unfold WO at j;simp only[x8p]at j;exact TW j.2.1
def OA(h:QL p=true){j:Nat}{g:Pr}(r:p.A[j]?=some f)(q:p.A[k]?=some g)(u:f.name=g.name):j=k/\f=g:=by
 have v:=Ly h;have m:(QK p)[j]?=some f.name:=by simp[QK,r]
 have t:(QK p)[k]?=some g.name:=by simp[QK,q]
 rw[u]at m;have n:=(x4u.1 m).1;obtain rfl:j=k:=(List.getElem?_inj n v).1 (m.trans t.symm);rw[r]at q;exact⟨rfl,x8z q⟩
def C2:∀(k:Nat)(l:List S)(_:QJ l<k)(_:QJ l<=1000000),aP 38 [eSs l] (.int .i64 (QJ l)):=by
 intro k;induction k with
 |zero=>intro l h;omega
 | succ k w=>
   intro l a b;have u:=S.avs_len l;have c:l.length<=QJ l:=by
    clear a b u;induction l with
    |nil=>simp
    |cons t r m=>rw[QJ,UK,x5g];omega
   refine sC Di func38 ?_;conv=>whnf
   repeat' ((refine iM fun _=>?_)<;>conv=>whnf)
   refine lJ (fun y:Nat×Nat=>⟨[(0,.p (eSs l)),(3,.j y.2),(8,.p (.int .i64 (S.avs l).length)),(9,.j y.1)],[]⟩) (fun y=>y.1<=l.length/\y.2+QJ (l.drop y.1)=QJ l+(l.length-y.1)) (fun y=>l.length-y.1) (0,l.length) (Le.of_eq (by simp only[S.avs_len];rfl)) ⟨x4j _,by simp;omega⟩ ?_;rintro⟨j,n⟩ ⟨x,v⟩;simp only at x v⊢;rcases x4f j l.length with q|q
   .have d:=MI q;have z:=UK l[j];have e:QJ (l.drop j)<=QJ l:=by
     have:∀(l:List S)(j:Nat),QJ (l.drop j)<=QJ l:=fun l=>by
      induction l with
      |nil=>intro j;simp
      | cons t r m=>
        intro j;cases j with
        |zero=>simp
        |succ j=>rw[List.drop_succ_cons,QJ];have:=m j;omega
     exact this l j
    conv=>whnf
    repeat' ((first|refine dA ?_|(refine gX ?_;intros)|refine cP (w l[j].V (by omega) (by omega)) ?_ (ha:=.cons (Sub.refl _) .nil)|refine cP (w l[j].Z (by omega) (by omega)) ?_ (ha:=.cons (Sub.refl _) .nil)|(apply bD<;>intro _<;>try omega))<;>conv=>whnf)
    all_goals exact nX (j+1,n+(QJ l[j].V+QJ l[j].Z)) ⟨by simp only;omega,by simp only;omega⟩
   .conv=>whnf
    rw[x4l q,QJ]at v;repeat' (apply bD<;>intro _<;>first|omega|conv=>whnf)
    exact RetK.int (by omega)
def C1(p:Pg)(v:cntP p.A<=1000):aP 10 [.agg p.cells] (.int .i64 (cntP p.A)):=by
 refine sC De func10 ?_;conv=>whnf
 have t:(p.A.map fun f=>AV.agg f.cells).length=p.A.length:=x3a _;repeat' ((refine iM fun _=>?_)<;>conv=>whnf)
 refine lI (fun y:Nat×Nat=>⟨[(3,.j y.2),(7,.p (.sl (p.A.map fun f=>.agg f.cells))),(8,.p (.int .i64 (p.A.map fun f=>AV.agg f.cells).length)),(9,.j y.1)],[]⟩) (fun y=>y.1<=p.A.length/\y.2+cntP (p.A.drop y.1)=cntP p.A) (fun y=>p.A.length-y.1) (0,0) ⟨x4j _,by simp⟩ ?_;rintro⟨j,n⟩ ⟨q,m⟩;simp only at q m⊢;rcases x4f j p.A.length with h|h
 .have u:=U6 h;have r:=Wg _ _ (x4h h);conv=>whnf
  repeat' ((first|(refine gX ?_;intros)|refine cP (C2 (QJ p.A[j].body+1) p.A[j].body (by omega) (by omega)) ?_ (ha:=.cons (Sub.refl _) .nil)|(apply bD<;>intro _<;>try omega))<;>conv=>whnf)
  exact nX (j+1,n+QJ p.A[j].body) ⟨by simp only;omega,by simp only;omega⟩
 .conv=>whnf
  rw[x4l h,cntP]at m;repeat' (apply bD<;>intro _<;>first|omega|conv=>whnf)
  exact RetK.int (by omega)
def Ng(p:Pg)(h:Int):Bool:=QL p&&decide ((cntP p.A:Int)<=h)
def HU{x:Str}:inS l x=true↔x∈l:=by
 unfold inS;rw[x6s];constructor
 .rintro ⟨y,j,m⟩;have:y=x:=by simpa using m
  rw[<-this];exact j
 .intro h;exact⟨x,h,by simp⟩
def D6(h:QL p=true){j:Nat}(r:p.A[j]?=some f){a:Int}(d:(QS p.A j:Int)+1<=a)(e:a<=(QS p.A j+QJ f.body:Nat)):∃t∈flL f.body,Li p a=some t/\t.id=a:=by
 obtain⟨n,v,x⟩:=GM r (k:=(a-1).toNat) (by omega) (by omega);refine⟨n.s,DY x,by unfold Li;rw[v];rfl,?_⟩;obtain⟨_,_,_,w,u⟩:=QU p;obtain⟨_,_,c,b⟩:=u j f r;have m:=L7 (QB h).1 r;have z:(itsOf p j f)[(a-1).toNat-QS p.A j]?=some n:=by
  unfold itsOf;rw[<-b,x5o,x5s,if_pos (by omega),show QS p.A j+((a-1).toNat-QS p.A j)=(a-1).toNat by omega];exact v
 have q:((itsOf p j f).map fun n=>n.s.id)[(a-1).toNat-QS p.A j]?=some n.s.id:=by rw[x4q,z];rfl
 rw[m]at q;unfold Qn at q;rw[x4q,List.getElem?_range' (by omega)]at q;simp at q;omega
def Lv{s:Str}(h:s∈l):s∈Go.Lib.compact l:=by
 have key:∀(j:Nat)(m:j<l.length),l[j]∈Go.Lib.compact l:=fun j=>by
  induction j with
  | zero=>
    intro m;refine x4y.2 ⟨0,x5h.2 ⟨by simpa using m,by simp[Go.Lib.keeps]⟩,?_⟩;simp[m]
  | succ j r=>
    intro m;cases q:Go.Lib.keeps l.toArray (j+1)with
    | true=>
      refine x4y.2 ⟨j+1,x5h.2 ⟨by simpa using m,q⟩,?_⟩;simp[m]
    | false=>
      have n:j<l.length:=by omega
      have:l[j+1]=l[j]:=by
       unfold Go.Lib.keeps at q;simp[m,n]at q;exact q
      rw[this];exact r n
 obtain⟨j,m,rfl⟩:=x6u.1 h;exact key j m
def UD{s:Str}:s∈Go.Lib.compact l↔s∈l:=⟨NU,Lv⟩
theorem JU{s:Str}:∀(l out:List Str),s∈XW out l↔s∈out\/s∈l
 |[],out=>by rw[XW];simp
 | n::r,out=>by
   rw[XW,JU r];split
   .rename_i h;obtain⟨m,q,j⟩:=x6s.1 h;have:n=m:=by simpa using j
    subst this;constructor
    .rintro (h|h)
     .exact .inl h
     .exact .inr (x4x _ h)
    .rintro (h|h)
     .exact .inl h
     .rcases x4v.1 h with rfl|h
      .exact .inl q
      .exact .inr h
   .simp only[x4g,x4v,x8m,or_assoc,false_or]
theorem X7:∀(l out:List Str),∃r,XW out l=out++r
 |[],out=>⟨[],by rw[XW];simp⟩
 | n::r,out=>by
   rw[XW];split
   .exact X7 r out
   .obtain ⟨j,h⟩:=X7 r (out++[n]);exact⟨n::j,by rw[h];simp⟩
theorem Yd{p:Pg}(z:(QO p).1=0)(n:Str):∀(fuel i:Nat)(out:List Str),out.Nodup->(∀s∈out,s∈QK p)->(∀s∈out,Rch (fun x y=>y∈US p x) n s)->n∈out->i<=out.length->(∀(j:Nat)(m:Str),j<i->out[j]?=some m->∀y∈US p m,y∈out)->p.A.length+1<=fuel+i->
  (∀s∈UC p fuel i out,Rch (fun x y=>y∈US p x) n s)/\n∈UC p fuel i out/\∀m∈UC p fuel i out,∀y∈US p m,y∈UC p fuel i out
 | 0,i,out,h1,h2,h3,h4,h5,h6,h7=>by
   have:=YG h1 h2;have d:(QK p).length=p.A.length:=x3a _;omega
 | fuel+1,i,out,h1,h2,h3,h4,h5,h6,h7=>by
   rw[UC];cases u:out[i]?with
   | none=>
     have b:out.length<=i:=x8g.1 u;refine⟨h3,h4,fun m t y v=>?_⟩;have t:m∈out:=t;show y∈out;obtain⟨j,w,rfl⟩:=x6u.1 t;exact h6 j _ (by omega) (x3e w) y v
   | some m=>
     have b:=(x4u.1 u).1;have t:m∈out:=x4p u;obtain⟨g1,a,_⟩:=VT (US p m) h1 h2 fun s h=>FL z h;obtain⟨r,hr⟩:=X7 (US p m) out;refine Yd z n fuel (i+1) (XW out (US p m)) g1 a (fun s h=>?_) ((JU _ _).2 (.inl h4)) (by rw[hr,x3o];omega) (fun j c w q y v=>?_) (by omega)
     .rcases (JU _ _).1 h with h|h
      .exact h3 s h
      .exact .tail (h3 m t) h
     .rw [hr,x5i (by omega)]at q;rcases x4f j i with h|h
      .exact (JU _ _).2 (.inl (h6 j c h q y v))
      .have:j=i:=by omega
       subst this;rw[u]at q;cases q;exact(JU _ _).2 (.inr v)
def Ii(v:(QO p).1=0){n s:Str}(u:n∈QK p):s∈Iz p n↔Rch (fun x y=>y∈US p x) n s:=by
 obtain⟨q,r,t⟩:=Yd v n (p.A.length+1) 0 [n] (by simp) (by simpa using u) (fun s h=>by rcases x4w.1 h with rfl;exact .refl) (by simp) (x4j _) (fun j m h=>absurd h (by omega)) (by omega);unfold Iz;rw[XJ];exact⟨q s,fun h=>Rch.closed (fun x y w z=>t x w y z) r h⟩
def Um(j:(QO p).1=0){n v:Str}(h:n∈QK p):v∈KS p n ↔ ∃m,Rch (fun x y=>y∈US p x) n m/\v∈Je p m:=by
 unfold KS DW;rw[UD,XJ,x4a];simp only[Ii j h]
theorem Wi{α:Type}{R:α->α->Prop}(irr:∀a,¬R a a)(t:∀a b c,R a b->R b c->R a c):∀{l m:List α},l.Pairwise R->m.Pairwise R->(∀s,s∈l↔s∈m)->l=m
 |[],[],_,_,_=>rfl
 |[],b::m,_,_,h=>by have:=(h b).2 x4z;cases this
 |a::l,[],_,_,h=>by have:=(h a).1 x4z;cases this
 | a::l,b::m,hl,hm,h=>by
   rw[x6t]at hl hm;have r:a=b:=by
    rcases x4v.1 ((h a).1 x4z)with j|j
    .exact j
    rcases x4v.1 ((h b).2 x4z)with q|q
    .exact q.symm
    exact absurd (t _ _ _ (hl.1 b q) (hm.1 a j)) (irr a)
   subst r;rw[Wi irr t hl.2 hm.2 fun s=>?_];constructor
   .intro n;rcases x4v.1 ((h s).1 (x4x _ n))with rfl|j
    .exact absurd (hl.1 s n) (irr s)
    .exact j
   .intro n;rcases x4v.1 ((h s).2 (x4x _ n))with rfl|j
    .exact absurd (hm.1 s n) (irr s)
    .exact j
def q0a(l:List Str):(YK l).Pairwise fun a b=>a<=b:=by
 have:=x9e (le:=fun x y:Str=>decide (x<=y)) (fun a b c j m=>by
  rw[x5k]at j m⊢;exact List.le_trans j m) (fun a b=>by
  rcases List.le_total a b with h|h
  .rw [x5n h];rfl
  .rw [x5n h];exact Bool.or_true _) l
 exact this.imp fun h=>by simpa using h
def Bk(h:l.Pairwise fun a b=>a<=b):(Go.Lib.compact l).Pairwise ltT:=by
 unfold Go.Lib.compact Go.Lib.compactUpTo;rw[List.pairwise_map];refine(List.Pairwise.filter _ (List.pairwise_lt_range (n:=l.length))).imp_of_mem fun {i k} c d e=>?_;obtain⟨q,_⟩:=x5h.1 c;obtain⟨j,m⟩:=x5h.1 d;rw[x5a]at q j;have le:∀(a b:Nat)(_:a<=b)(w:b<l.length),l[a]'(by omega)<=l[b]:=fun a b z w=>by
  rcases x4f a b with r|r
  .exact x7i.1 h a b (by omega) w r
  .obtain rfl:a=b:=by omega
   exact List.le_refl _
 have g:∀(a:Nat)(ha:a<l.length),l.toArray[a]! = l[a]:=fun a ha=>by simp[ha]
 rw[g i q,g k j];unfold Go.Lib.keeps at m;rw[x5k,g k j,g (k-1) (by omega)]at m;have u:l[k]≠l[k-1]'(by omega):=by
  rcases m with v|v
  .omega
  .exact v
 have r:=le i (k-1) (by omega) (by omega);have x:=le (k-1) k (by omega) j;rcases List.le_iff_lt_or_eq.1 x with t|t
 .exact NB.2 (List.lt_of_le_of_lt r t)
 .exact absurd t.symm u
def VK(l:List Str):List Str:=Go.Lib.compact (YK l)
def XA{s:Str}:s∈VK l↔s∈l:=by unfold VK;rw[UD,XJ]
def ZM(l:List Str):(VK l).Pairwise ltT:=Bk (q0a l)
def q0z{m:List Str}(h:m.Pairwise ltT)(j:∀s,s∈m↔s∈l):m=VK l:=Wi ltT.irr ltT.trans h (ZM l) fun s=>by rw[j,XA]
section
variable {α:Type}{R:α->α->Prop}{l out:List α}{i k:Nat}
def HG{s:α}(h:k<l.length):s∈l.take (k+1)↔s∈l.take k\/s=l[k]:=by
 rw[x4k h,x4g,x4w]
end
section
variable {P:Program}{T:Tab}{N:Nat}{o:Oper}{K:St->Prop}{s:St}
end
section
variable {P:Program}{T:Tab}{N:Nat}{o:Oper}{s:St}{hr:Bool}
def Ak{σ:Mem}{β:Lab}{H:Heap}{w:World}(h:HRel σ β H w){q:Nat}{i:BInfo}(B:k∈H.map (·.1))(g:β k=some i)(t:i.has q){vs:Array Value}{H':Heap}(hH:H'.map (·.1)=H.map (·.1))(z:∀j c,(j,c)∈H'->j≠k->(j,c)∈H)(x:∀c,(k,c)∈H'->c.holds σ β (w.setRow q vs) k):
  HRel σ β H' (w.setRow q vs)/\Later σ β H w σ β H' (w.setRow q vs):=by
 have a:=h.apart k B i g q t;have v:∀b,b≠q->(w.setRow q vs).heap[b]?=w.heap[b]?:=fun b m=>setRow_other w q b vs m;refine⟨⟨fun b c m=>?_,fun j c r=>?_,by rw[hH];exact h.nodup,fun j r i' n b m=>?_,fun j r L A=>h.inj j (hH▸r) L (hH▸A)⟩,Mem.le_refl σ,⟨rfl,rfl,rfl,x4m _,by simp,fun b _ J=>v b fun e=>J ⟨k,B,i,g,e.symm▸t⟩⟩,fun b F G=>absurd F G,fun b m=>?_,fun _ _ _=>rfl⟩
 .have C:b≠q:=fun e=>by rw[e,a.1]at m;cases m
  obtain⟨e,E,I⟩:=h.mem b c m;exact⟨e,E,(v b C).trans I⟩
 .by_cases u:j=k
  .subst u;exact x c r
  .have D:=z j c r u;refine(h.chunks j c D).mono (Mem.le_refl σ) fun i' n b m=>v _ fun e=>u ?_;exact h.inj j (x4y.2 ⟨_,D,rfl⟩) k B i' i n g b m (e.symm▸t)
 .have:=h.apart j (hH▸r) i' n b m;exact⟨this.1,by simpa using this.2⟩
 .obtain ⟨j,r,i',n,d⟩:=m;exact .inl ⟨j,hH▸r,i',n,d⟩
def setCell(b:Nat)(c:AV)(l:List (Nat×AV)):List (Nat×AV):=l.map fun x=>if x.1=b then(b,c)else x
end
def Rz{P:Program}{T:Tab}{N:Nat}(hT:TabOK P T){s:St}{o:Oper}{K:St->Prop}{t:TypeId}{x v:Operand}(hop:o.op=.store t x v)(hd:o.dst=none){a off:Nat}(hx:QD s.sl x=.ext k (.rptr a off)){u:AV}(hv:QD s.sl v=.p u)(hone:u.one=true)(huc:u.cells=[u]){e e2:TypeId}{rows:List (List AV)}{D:List Nat}(hg:getH s.H k=some (.ext (.mat e e2 1 rows D))){it:TyI}(ht:T.get t=some it)(hsz:it.size=1){row:List AV}(J:rows[a]?=some row)(hnh:a∉D)(hoff:off<row.length)(h:Wv s.H k (.ext (.mat e e2 1 (rows.set a (row.set off u)) D)) fun H=>K ⟨s.sl,H⟩):OpK P N s o K:=by
 refine⟨fun σ β ac w hr Q=>?_⟩;obtain⟨H',hK,h1,h2,h3⟩:=VO hr.heap.nodup h;have U:=QX hr.E x;have O:=QX hr.E v;rw[hx]at U;rw[hv]at O;have hk1:=QP hg;generalize hxe:ac.eval x=xv at U;generalize hve:ac.eval v=vv at O;cases O with
 |p hvr=>
 cases U with
 |ext _ _ i _ hi hdx=>
 obtain⟨b,c,n,rfl⟩:=hdx;rcases hr.heap.chunks k _ (QG hg)with⟨h0,_⟩|⟨i',vs,hi',hisz,hh,hvs,hle,hmax,hsl',C,r⟩
 .rw [hi]at h0;cases h0
 rw[hi]at hi';cases hi';have hb:i.has b:=.inr ⟨c,x4p n⟩;rcases(r a row J).2 hnh with⟨h4,_⟩|⟨V,c',ws,h4,h5,h6,h7,h8,h9,h10⟩
 .rw [n]at h4;cases h4
 rw[n]at h4;cases h4;have F:vv.oneCell'=true:=hvr.oneCell hone;have G:vv.cells=#[vv]:=by cases vv<;>first|rfl|simp[Value.oneCell']at F
 have hoffw:off<ws.size:=by omega
 let q:Array Value:=(ws.toList.take off++[vv]++ws.toList.drop (off+1)).toArray;have hrun:(execOp ac.eval o).run P w=.ok .skip (w.setRow b q):=by
  have hst:=run_storeCells_at P b off e2 [vv] 0 ws w h6 (by simp;omega) (by simpa using F);simp only[x8d,x4i]at hst;have M:=(hT _ _ ht).sizeOf;simp[execOp,hop,Instr.storeAt,Instr.sureAddr,hxe,hve,storeVar,M,hsz,G,hst,q]
 have B:∀p,q[p]?=if p=off then some vv else ws[p]?:=fun p=>by
  simp only[q,x9n];by_cases g1:p<off
  .rw [if_neg (by omega),x4r,x5i (by simp;omega),x5s,if_pos g1];simp
  .by_cases Y:p=off
   .subst Y;rw[if_pos rfl,x4r,x5t (by simp;omega)];simp only[x5z,x6g];rw[show p-min p ws.size=0 by omega];rfl
   .rw [if_neg Y,x5t (by simp;omega)];simp only[x3o,x5z,x6g,x4i,x5o,x7f];congr 1;omega
 have z:∀V,V≠b->(w.setRow b q).heap[V]?=w.heap[V]?:=fun V hb'=>setRow_other w b V q hb';have hal:a<rows.length:=(x4u.1 J).1;obtain⟨h11,h12⟩:=Ak hr.heap hk1 hi hb (vs:=q) h1 h2 (fun d hd=>h3 d hd▸by
  refine .inr ⟨i,vs,hi,hisz,(z _ (C a b c n).1).trans hh,hvs,by simpa using hle,hmax,by simpa using hsl',C,fun Z L A=>⟨fun hin=>?_,fun hnin=>?_⟩⟩
  .by_cases g:Z=a
   .subst g;exact absurd hin hnh
   .rw [x5p (x7d g)]at A;exact(r Z L A).1 hin
  .by_cases g:Z=a
   .subst g;rw[x5f hal]at A;cases A;refine .inr ⟨b,c,q,n,by simpa using h5,setRow_heap w b ws _ e2 _ h6,?_,by simpa using h8,h9,fun m y hy=>?_⟩
    .simp only[q,x8y,x3o,x5z,x6c,x6g,x4i];omega
    .by_cases gm:m=off
     .subst gm;rw[x5f hoff]at hy;cases hy;refine⟨by rw[huc];rfl,fun j c' I=>?_⟩;rw[huc]at I
      match j,I with
      |0,I=>cases I;exact⟨vv,by rw[x9f,x8d,B,if_pos rfl],hvr⟩
      |j+1,I=>simp at I
     .rw [x5p (x7d gm)]at hy;obtain⟨g1,Y⟩:=h10 m y hy;refine⟨g1,fun j c' I=>?_⟩;obtain⟨u',g3,g4⟩:=Y j c' I;have hj0:j=0:=by
       have:=(x4u.1 I).1;omega
      subst hj0;exact⟨u',by rw[B,if_neg (by omega)];exact g3,g4⟩
   .rw [x5p (x7d g)]at A;rcases(r Z L A).2 hnin with g1|⟨b1,c1,ws1,g1,Y,g3,g4⟩
    .exact .inl g1
    .refine .inr ⟨b1,c1,ws1,g1,Y,(z b1 fun he=>?_).trans g3,g4⟩;subst he;exact g ((C a b1 c n).2 Z c1 g1))
 refine PV hrun ⟨σ,β,⟨s.sl,H'⟩,hK,⟨?_,?_,?_,h11⟩,h12⟩
 .rw [hd];exact hr.size
 .rw [hd];exact hr.defers
 .rw [hd];exact hr.E
def Kt{s:St}{q:Nat}{c u:Chunk}{K:St->Prop}(h:KT s k q c u K):∃v,K v/\KT s k q c u fun w=>w=v:=by
 unfold KT at h⊢;obtain⟨sl,z,_⟩:=WR (by rfl) h;have key:∀{f:LV->LV}{l:List (Nat×LV)}{K:List (Nat×LV)->Prop},Y8 f l K↔K (l.map fun x=>(x.1,f x.2)):=fun {f} l=>by
  induction l with
  |nil=>intro K;rfl
  |cons x r t=>intro K;simp only[Y8,XB,t,x4o]
 have n:∀{f:LV->LV}{c:Chunk}{H:Heap},∃H',∀K:Heap->Prop,Xh k q f c H K↔K H':=fun {f c} H=>by
  induction H with
  |nil=>exact⟨[],fun K=>z0g⟩
  | cons x r t=>
    obtain⟨H',m⟩:=t;obtain⟨j,d⟩:=x;simp only[Xh,LL];cases j==q with
    |true=>exact⟨H',fun K=>by simp only[x4s];exact m _⟩
    | false=>
      cases j==k with
      |true=>exact⟨(j,c)::H',fun K=>by simp only[x4s,x5q];exact m _⟩
      |false=>exact⟨(j,d.mapL f)::H',fun K=>by simp only[x5q];exact m _⟩
 rw[key]at h;simp only[key];obtain⟨H',m⟩:=n (f:=LV.xkill k) (c:=c) (H:=s.H);rw[m]at h;exact⟨_,h,(m _).2 rfl⟩
theorem OpK.focus{P:Program}{T:Tab}{N:Nat}(hT:TabOK P T){s:St}{o:Oper}{K:St->Prop}(t k a x:Nat){e e2 sz:Nat}{rows:List (List AV)}{j:List Nat}{row:List AV}(M:WY x s=true)(G:getH s.H k=some (.ext (.mat e e2 sz rows j)))(v:rows[a]?=some row)(b:a∉j)(u:ZN k=false)(L:getS s.sl t=.ext k (.row a row.length))(h:KT s k x (.ext (.mat e e2 sz rows (a::j))) (.own e2 sz row) fun r=>opW P T N ⟨(t,.hd x 0 row.length)::r.sl,r.H⟩ o K):OpK P N s o K:=by
 obtain⟨r,h,F⟩:=Kt h;refine⟨fun σ β C w hr Q=>?_⟩;obtain⟨β',m,J,B,q⟩:=RX hr M G v b u F;have c:Rel N σ β' ⟨(t,.hd x 0 row.length)::r.sl,r.H⟩ C w:=⟨m.size,m.defers,fun i=>by
  show RepL σ β' (getS ((t,.hd x 0 row.length)::r.sl) i) _;simp only[getS];cases I:t==i with
  | true=>
    have:t=i:=by simpa using I
    subst this;have A:=hr.E t;rw[L]at A;exact q _ A
  |false=>exact m.E i,m.heap⟩
 exact Oper.wp_mono (fun U w' ⟨σ',β'',O,D,g,z⟩=>⟨σ',β'',O,D,g,J.trans z⟩) (Yy hT h c Q)
def EJ{α:Type}{l m:List α}{j:Nat}(h:l.take j=m.take j)(q:j<l.length)(r:j<m.length)(n:l[j]=m[j]):l.take (j+1)=m.take (j+1):=by
 rw[x4k q,x4k r,h,n]
def IX{α:Type}{l m:List α}{j:Nat}(h:l.take j=m.take j)(n:l.length<=j)(q:m.length<=j):l=m:=by
 rwa[x4b n,x4b q]at h
def eBs(l:List Bool):AV:=.sl (l.map bv)
def MC(b:Bool):(bv b).cells=[bv b]:=by cases b<;>rfl
def HP(l m:List Bool):aP 174 [eBs l,eBs m] (.bool (decide (l=m))):=by
 refine sC KP func174 ?_;conv=>whnf
 have z:(l.map bv).length=l.length:=x3a _;have a:(m.map bv).length=m.length:=x3a _;repeat' ((first|(refine iM fun _=>?_)|(apply bE<;>intro _<;>try omega))<;>conv=>whnf)
 all_goals first
  |exact RetK.ff (x5r fun h=>by subst h;omega)
  |skip
 have v:l.length=m.length:=by omega
 refine lI (fun j:Nat=>⟨[(0,.p (eBs l)),(1,.p (eBs m)),(12,.p (.int .i64 (l.map bv).length)),(13,.j j)],[]⟩) (fun j=>j<=l.length/\l.take j=m.take j) (fun j=>l.length-j) 0 ⟨x4j _,rfl⟩ ?_;rintro j ⟨b,u⟩;rcases x4f j l.length with r|r
 .have t:(l.map bv)[j]?=some (bv l[j]):=by rw[x4q,x3e r];rfl
  have e2:(m.map bv)[j]?=some (bv (m[j]'(by omega))):=by rw[x4q,x3e (by omega)];rfl
  have q:l[j]=m[j]'(by omega)->l.take (j+1)=m.take (j+1):=fun h=>EJ u r (by omega) h;have n:l[j]≠m[j]'(by omega)->¬l=m:=fun h w=>h (by subst w;rfl);generalize l[j]=x at t q n;generalize m[j]'(by omega)=y at e2 q n;cases x<;>cases y <;>
  conv=>whnf
  repeat' ((first|refine dA ?_|refine wI ?_|refine iT t ?_|refine iT e2 ?_|refine Zv XM rfl rfl rfl rfl rfl ?_|((first|apply bD|apply bE)<;>intro _<;>try omega))<;>conv=>whnf)
  all_goals first
   |exact RetK.ff (x5r (n (by decide)))
   |exact nX (j+1) ⟨by omega,q rfl⟩
   |(exfalso;simp_all;done)
 .conv=>whnf
  repeat' (apply bD<;>intro _<;>first|omega|conv=>whnf)
  exact RetK.tt (x5n (IX u r (by omega)))
def bmI(fm:List (List Bool)):List (List AV):=fm.map fun r=>r.map bv
def shH(fm:List (List Bool)):Heap:=[(1000,.ext (.mat 101 4 1 (bmI fm) []))]
def KA(fm:List (List Bool))(l:List Int)(b:Nat):Bool:=l.all fun a=>(fm.getD a.toNat []).getD b false
def XN(fm:List (List Bool))(l:List Int)(n:Nat):List Bool:=(List.range n).map (KA fm l)
def Xa(fm:List (List Bool))(l:List Int)(n j:Nat)(c:Bool):List Bool:=(XN fm l n).take j++c::List.replicate (n-j-1) false
def Nv{fm:List (List Bool)}{l:List Int}{n j:Nat}(q:j<n)(c:Bool):((Xa fm l n j c).map bv)[j]?=some (bv c):=by
 have h:((XN fm l n).take j).length=j:=by unfold XN;simp;omega
 have m:(Xa fm l n j c)[j]?=some c:=by
  unfold Xa;rw[x5t (by omega),h,x8w];rfl
 rw[x4q,m];rfl
def Nu{fm:List (List Bool)}{l:List Int}{n j:Nat}(h:j<n)(c c':Bool):((Xa fm l n j c).map bv).set j (bv c')=(Xa fm l n j c').map bv:=by
 rw[<-x5d];congr 1;unfold Xa;rw[x7k _ _ (by unfold XN;simp;omega)];have:j-((XN fm l n).take j).length=0:=by unfold XN;simp;omega
 rw[this];rfl
def SH{fm:List (List Bool)}{l:List Int}{n j:Nat}(h:j<n):Xa fm l n j (KA fm l j)=(XN fm l n).take (j+1)++List.replicate (n-(j+1)) false:=by
 unfold Xa;have:(XN fm l n)[j]?=some (KA fm l j):=by unfold XN;simp[h]
 rw[List.take_add_one,this,x4r];rfl
def SG{fm:List (List Bool)}{l:List Int}{n j:Nat}(h:j<n):(XN fm l n).take j++List.replicate (n-j) false=Xa fm l n j false:=by
 unfold Xa;rw[show n-j=(n-j-1)+1 by omega,x8v];congr 2
def Hd{α:Type}{f:α->Bool}{l:List α}{i:Nat}(h:i<l.length):(l.take (i+1)).all f=((l.take i).all f&&f l[i]):=by
 rw[x4k h,List.all_append];simp
def C5(fm:List (List Bool))(l:List Int)(n:Nat)(M:fm.length=n)(F:n<=5000)(hr:∀r∈fm,r.length=n)(L:l.length<=1000000)(G:∀x∈l,0<=x/\x<n):aH 173 [.hd 1000 0 n,.p (XQ l)] (shH fm) (.hd 0 0 n) ((0,.own 4 1 ((XN fm l n).map bv))::shH fm):=by
 refine sK B2 func173 ?_;conv=>whnf
 have E:(l.map (AV.int .i64)).length=l.length:=x3a _;repeat' ((first|(refine gX ?_;intros)|refine x8a n rfl (by show 1*_<=140737488355328;omega) (by unfold maxLen;omega) ?_)<;>conv=>whnf)
 refine lJ (fun j:Nat=>⟨[(0,.hd 1000 0 n),(1,.p (XQ l)),(5,.hd 0 0 n),(13,.j n),(14,.j j)],(0,.own 4 1 (((XN fm l n).take j++List.replicate (n-j) false).map bv))::shH fm⟩) (fun j=>j<=n) (fun j=>n-j) 0 (Le.of_eq (by rw[show((XN fm l n).take 0++List.replicate (n-0) false).map bv=List.replicate n .ff by simp[bv]];rfl)) (x4j _) ?_;intro j I;rcases x4f j n with h|h;rotate_left 1
 .have t:j=n:=by omega
  subst t;have C:((XN fm l j).take j++List.replicate (j-j) false)=XN fm l j:=by
   rw[x8w,x4b (by unfold XN;simp)];simp
  rw[C];conv=>whnf
  repeat' (apply bD<;>intro _<;>first|omega|conv=>whnf)
  exact⟨_,x4c _,rfl,rfl⟩
 rw[SG h];have b:=Nv (fm:=fm) (l:=l) h false;have e:=Nu (fm:=fm) (l:=l) h false true;generalize(Xa fm l n j false).map bv=row0 at b e⊢;unfold shH;conv=>whnf
 repeat' ((first|(refine gX ?_;intros)|refine x6b j rfl h ?_|refine x8l j 0 _ (bv true) (by show(0+j)*1=j*1+0;omega) b (x4m _) rfl ?_|(apply bD<;>intro _<;>try omega))<;>conv=>whnf)
 rw[e];refine lI (fun i:Nat=>⟨[(0,.hd 1000 0 n),(1,.p (XQ l)),(5,.hd 0 0 n),(6,.j j),(13,.j n),(14,.j j),(20,.p (XQ l)),(21,.p (.int .i64 (l.map (AV.int .i64)).length)),(22,.j i)],(0,.own 4 1 ((Xa fm l n j ((l.take i).all fun a=>(fm.getD a.toNat []).getD j false)).map bv))::shH fm⟩) (fun i=>i<=l.length) (fun i=>l.length-i) 0 (x4j _) ?_;intro i J;rcases x4f i l.length with d|d;rotate_left 1
 .have t:i=l.length:=by omega
  subst t;rw[x4b (x4m _),show(l.all fun a=>(fm.getD a.toNat []).getD j false)=KA fm l j from rfl,SH h];conv=>whnf
  repeat' ((first|refine wI ?_|(apply bD<;>intro _<;>try omega))<;>conv=>whnf)
  exact nX (j+1) h
 have H:=G _ (x4h d);have q:l[i].toNat<fm.length:=by omega
 have A:=hr _ (x4h q);have D:(l.map (AV.int .i64))[i]?=some (.int .i64 l[i]):=by rw[x4q,x3e d];rfl
 have w:(bmI fm)[l[i].toNat]?=some (fm[l[i].toNat].map bv):=by unfold bmI;rw[x4q,x3e q];rfl
 have z:(fm[l[i].toNat].map bv)[j]?=some (bv (fm[l[i].toNat][j]'(by omega))):=by rw[x4q,x3e (by omega)];rfl
 have u:((l.take (i+1)).all fun a=>(fm.getD a.toNat []).getD j false)=(((l.take i).all fun a=>(fm.getD a.toNat []).getD j false)&&fm[l[i].toNat][j]'(by omega)):=by
  rw[Hd d];congr 1;simp only[x3i];rw[x3e q,x5b,x3e (by omega),x5b]
 have B:(fm[l[i].toNat].map bv).length=n:=by rw[x3a,A]
 generalize fm[l[i].toNat][j]'(by omega)=v at z u;generalize((l.take i).all fun a=>(fm.getD a.toNat []).getD j false)=c at u⊢;have m:=Nv (fm:=fm) (l:=l) h c;have g:=Nu (fm:=fm) (l:=l) h c (c&&v);generalize(Xa fm l n j c).map bv=row at m g⊢;cases c<;>cases v<;>unfold shH <;>
 conv=>whnf
 repeat' ((first|(refine gX ?_;intros)|refine x6b j rfl h ?_|refine x6b l[i].toNat (by omega) (by omega) ?_|refine x6b j rfl (by rw[B];exact h) ?_|refine z1q j 0 _ (by show(0+j)*1=j*1+0;omega) m ?_|refine x9q l[i].toNat _ (by omega) w (by simp) ?_|refine RLd.mk _ j 0 _ w (by simp) (by omega) z ?_|refine x8l j 0 _ (bv false) (by show(0+j)*1=j*1+0;omega) m (x4m _) rfl ?_|refine x8l j 0 _ (bv true) (by show(0+j)*1=j*1+0;omega) m (x4m _) rfl ?_|(apply bD<;>intro _<;>try omega))<;>conv=>whnf)
 all_goals first
  |exact⟨i+1,d,by omega,Le.of_eq (by rw[u,<-g];rfl)⟩
  |(exfalso;simp_all;done)
def filRow(n a:Nat):List Bool:=(List.range n).map fun b=>decide (a<n-1)||decide (a=b)
def BF(n a:Nat):(filRow n a).length=n:=by unfold filRow;simp
inductive Avd(nx:List (List Int))(n b:Nat):Nat->Prop
 |exit (h:b≠n-1):Avd nx n b (n-1)
 |step {a t:Nat} (hab:a≠b) (ht:(t:Int)∈nx.getD a []) (h:Avd nx n b t):Avd nx n b a
def rowF(n:Nat)(nx:List (List Int))(fm:List (List Bool))(a:Nat):List Bool:=(XN fm (nx.getD a []) n).set a true
def bitF(fm:List (List Bool))(a b:Nat):Bool:=(fm.getD a []).getD b false
def Q7(n:Nat)(nx:List (List Int))(fm:List (List Bool))(a:Nat):(rowF n nx fm a).length=n:=by unfold rowF XN;simp
def Wo{n:Nat}{nx:List (List Int)}{fm:List (List Bool)}{a b:Nat}(j:b<n):(rowF n nx fm a).getD b false=(decide (a=b)||KA fm (nx.getD a []) b):=by
 unfold rowF;have m:(XN fm (nx.getD a []) n)[b]?=some (KA fm (nx.getD a []) b):=by unfold XN;simp[j]
 have q:(XN fm (nx.getD a []) n).length=n:=by unfold XN;simp
 rw[x3i];by_cases h:a=b
 .subst h;rw[x5f (by omega),x5n rfl];rfl
 .rw [x5p h,m,x5r h];rfl
def GN{fm:List (List Bool)}{l:List Int}{b:Nat}:KA fm l b=true ↔ ∀t∈l,bitF fm t.toNat b=true:=by
 unfold KA bitF;rw[x6w]
structure FolI(n:Nat)(nx:List (List Int))(fm:List (List Bool)):Prop where
 len:fm.length=n
 rows:∀r∈fm,r.length=n
 last:fm.getD (n-1) []=filRow n (n-1)
 post:∀a b,a<n-1->b<n->(rowF n nx fm a).getD b false=true->bitF fm a b=true
 min:∀a b,a<n->b<n->bitF fm a b=false->Avd nx n b a
structure FollowP(n:Nat)(nx:List (List Int))(fm:List (List Bool)):Prop where
 inv:FolI n nx fm
 fix:∀a,a<n-1->fm.getD a []=rowF n nx fm a
def Kn{n a b:Nat}(h:b<n):(filRow n a).getD b false=(decide (a<n-1)||decide (a=b)):=by
 unfold filRow;rw[x3i,x4q,x7z h];rfl
def CC{n a b:Nat}(ha:a<n)(h:b<n):bitF ((List.range n).map (filRow n)) a b=(decide (a<n-1)||decide (a=b)):=by
 have j:((List.range n).map (filRow n)).getD a []=filRow n a:=by
  rw[x3i,x4q,x7z ha];rfl
 unfold bitF;rw[j,Kn h]
theorem FolI.start{n:Nat}(m:2<=n)(nx:List (List Int)):FolI n nx ((List.range n).map (filRow n)):=by
 refine⟨by simp,fun r hr=>?_,?_,fun a b ha j _=>?_,fun a b ha j h=>?_⟩
 .obtain ⟨a,_,rfl⟩:=x4y.1 hr;exact BF n a
 .rw [x3i,x4q,x7z (by omega)];rfl
 .rw [CC (by omega) j,x5n ha];rfl
 .rw [CC ha j,x8p,x7j,x7j]at h;have:a=n-1:=by omega
  subst this;exact .exit fun e=>h.2 e.symm
def Hm{fm:List (List Bool)}{a:Nat}(ha:a<fm.length)(l:List Bool)(x b:Nat):bitF (fm.set a l) x b=if x=a then l.getD b false else bitF fm x b:=by
 unfold bitF;by_cases h:x=a
 .subst h;rw[if_pos rfl,x3i (l:=fm.set x l),x5f ha];rfl
 .rw [if_neg h,x3i (l:=fm.set a l),x5p (x7d h),<-x3i]
theorem FolI.step{n:Nat}{nx:List (List Int)}{fm:List (List Bool)}(h:FolI n nx fm)(A:∀a,∀x∈nx.getD a [],0<=x/\x<(n:Int)){a:Nat}(ha:a<n-1):FolI n nx (fm.set a (rowF n nx fm a)):=by
 have q:a<fm.length:=by have:=h.len;omega
 have mono:∀x b,b<n->bitF (fm.set a (rowF n nx fm a)) x b=true->bitF fm x b=true:=fun x b m j=>by
  rw[Hm q]at j;split at j
  .rename_i z;subst z;exact h.post _ b ha m j
  .exact j
 have v:∀x b,b<n->(rowF n nx (fm.set a (rowF n nx fm a)) x).getD b false=true->(rowF n nx fm x).getD b false=true:=fun x b m j=>by
  rw[Wo m,x7r]at j⊢;rcases j with j|j
  .exact .inl j
  .exact .inr (GN.2 fun t B=>mono _ b m (GN.1 j t B))
 refine⟨by rw[x6x];exact h.len,fun r hr=>?_,?_,fun x b j m hr=>?_,fun x b j m u=>?_⟩
 .rcases x7q hr with hr|rfl
  .exact h.rows r hr
  .exact Q7 _ _ _ _
 .rw [x3i,x5p (by omega),<-x3i];exact h.last
 .have D:=v x b m hr;rw[Hm q];split
  .rename_i z;subst z;exact D
  .exact h.post x b j m D
 .rw [Hm q]at u;split at u
  .rename_i z;subst z;rw[Wo m,x8p,x7j]at u;have g:¬∀t∈nx.getD x [],bitF fm t.toNat b=true:=fun w=>by
    rw[GN.2 w]at u;cases u.2
   obtain⟨t,B⟩:=Classical.not_forall.1 g;obtain⟨c,C⟩:=Classical.not_imp.1 B;have hr:=A x t c;have e:bitF fm t.toNat b=false:=by cases E:bitF fm t.toNat b with|true=>exact absurd E C|false=>rfl
   exact .step u.1 (by rw[x8f hr.1];exact c) (h.min t.toNat b (by omega) m e)
  .exact h.min x b j m u
def Rp(fm:List (List Bool)):Nat:=(fm.map fun r=>r.count true).sum
def q3b{fm:List (List Bool)}{a:Nat}(ha:a<fm.length)(l:List Bool):Rp (fm.set a l)+(fm.getD a []).count true=Rp fm+l.count true:=by
 unfold Rp;induction fm generalizing a with
 |nil=>simp at ha
 | cons r fm h=>
   cases a with
   |zero=>simp;omega
   | succ a=>
     have:=h (a:=a) (by simpa using ha);simp only[List.set_cons_succ,x4o,x9l,List.getD_cons_succ];omega
theorem Hr:∀{r s:List Bool},r.length=s.length->(∀b:Nat,r.getD b false=true->s.getD b false=true)->r≠s->r.count true<s.count true
 |[],[],_,_,h=>absurd rfl h
 | x::r,y::s,hl,hle,hne=>by
   have m:=hle 0;have hr:∀b:Nat,r.getD b false=true->s.getD b false=true:=fun b q=>hle (b+1) q;have n:r.count true<=s.count true:=by
    by_cases j:r=s
    .subst j;exact x4m _
    .exact Nat.le_of_lt (Hr (by simpa using hl) hr j)
   simp only[List.getD_cons_zero]at m;by_cases j:r=s
   .subst j;cases x<;>cases y
    .exact absurd rfl hne
    .simp
    .cases m rfl
    .exact absurd rfl hne
   .have:=Hr (by simpa using hl) hr j;cases x<;>cases y<;>simp_all<;>omega
theorem FolI.less{n:Nat}{nx:List (List Int)}{fm:List (List Bool)}(h:FolI n nx fm){a:Nat}(ha:a<n-1)(t:rowF n nx fm a≠fm.getD a []):Rp (fm.set a (rowF n nx fm a))<Rp fm:=by
 have j:a<fm.length:=by have:=h.len;omega
 have v:=q3b j (rowF n nx fm a);have u:(fm.getD a []).length=n:=by
  rw[x3i,x3e j];exact h.rows _ (x4h j)
 have w:=Hr (r:=rowF n nx fm a) (s:=fm.getD a []) (by rw[Q7,u]) (fun b q=>by
  rcases x4f b n with m|m
  .exact h.post a b ha m q
  .rw [x3i,x6j (by rw[Q7];exact m)]at q;cases q) t
 omega
def CA{E:Int->Int->Prop}{B:List Int}{u x:Int}(h:Rch E u x)(w:u∈B)(m:x∉B):∃z y,z∈B/\E z y/\y∉B/\Rch E u y/\Rch E y x:=by
 induction h with
 |refl=>exact absurd w m
 | @tail b c h hr a=>
   by_cases j:b∈B
   .exact ⟨b,c,j,hr,m,.tail h hr,.refl⟩
   .obtain ⟨z,y,n,q,r,t,v⟩:=a j;exact⟨z,y,n,q,r,t,.tail v hr⟩
def chainE(E:Int->Int->Prop):List Int->Prop
 |[]=>True
 |[_]=>True
 |a::b::r=>E a b/\chainE E (b::r)
theorem NZ{E:Int->Int->Prop}:∀(l:List Int){a y:Int},chainE E (l++[a])->y∈l++[a]->Rch E y a
 | [],a,y,_,j=>by
   simp at j;rw[j];exact .refl
 | [b],a,y,h,j=>by
   simp at j;rcases j with rfl|rfl
   .exact .tail .refl h.1
   .exact .refl
 | b::c::r,a,y,h,j=>by
   have m:chainE E ((c::r)++[a]):=h.2;rcases x4v.1 j with rfl|j
   .exact .head h.1 (NZ (c::r) m (by simp))
   .exact NZ (c::r) m j
theorem U0{E:Int->Int->Prop}:∀(l:List Int){a b:Int},chainE E (l++[a])->E a b->chainE E (l++[a]++[b])
 |[],a,b,_,hb=>⟨hb,trivial⟩
 |[c],a,b,h,hb=>⟨h.1,hb,trivial⟩
 |c::d::r,a,b,h,hb=>⟨h.1,U0 (d::r) h.2 hb⟩
theorem Ky{E:Int->Int->Prop}:∀(l:List Int){a:Int},chainE E (l++[a])->chainE E l
 |[],_,_=>trivial
 |[_],_,_=>trivial
 |c::d::r,_,h=>⟨h.1,Ky (d::r) h.2⟩
structure DfsI(n:Nat)(E:Int->Int->Prop)(out stack:List Int):Prop where
 nd:(out++stack).Nodup
 rng:∀x∈out++stack,0<=x/\x<n
 path:chainE E stack
 cl:∀u∈out,∀v,E u v->v∈out\/v∈stack
 J:∀u∈out,∀x,Rch E u x->x∉out->∃s∈stack,Rch E u s/\Rch E s u/\Rch E s x
 K:∀(i:Nat)(r:Int),out[i]?=some r->∀u,Rch E u r->Rch E r u\/∃u',Rch E u u'/\Rch E u' u/\(u'∉out\/∃j,i<j/\out[j]?=some u')
theorem DfsI.start(n:Nat)(E:Int->Int->Prop):DfsI n E [] []:=⟨by simp,by simp,trivial,by simp,by simp,by simp⟩
theorem DfsI.push{n:Nat}{E:Int->Int->Prop}{out stack:List Int}(h:DfsI n E out stack){b:Int}(w:0<=b/\b<n)(z:b∉out++stack)(a:chainE E (stack++[b])):DfsI n E out (stack++[b]):=by
 refine⟨?_,fun x j=>?_,a,fun u q v c=>?_,fun u q x j r=>?_,h.K⟩
 .rw [<-x4r,x7u];refine⟨h.nd,by simp,fun x j y g=>?_⟩;rw[x4w.1 g];exact fun e=>z (e▸j)
 .rw [<-x4r]at j;rcases x4g.1 j with j|j
  .exact h.rng x j
  .rw [x4w.1 j];exact w
 .rcases h.cl u q v c with m|m
  .exact .inl m
  .exact .inr (x4g.2 (.inl m))
 .obtain ⟨s,m,t⟩:=h.J u q x j r;exact⟨s,x4g.2 (.inl m),t⟩
theorem DfsI.pop{n:Nat}{E:Int->Int->Prop}{out st:List Int}{a:Int}(h:DfsI n E out (st++[a]))(ha:∀v,E a v->v∈out\/v∈st++[a]):DfsI n E (out++[a]) st:=by
 have hnd:=h.nd;rw[x7u]at hnd;obtain⟨hn1,Q,C⟩:=hnd;rw[x7u]at Q;obtain⟨hn4,_,hn5⟩:=Q;have Z:a∉out:=fun q=>C a q a (by simp) rfl;have F:a∉st:=fun q=>hn5 a q a (by simp) rfl;have L:∀u∈out++[a],∀v,E u v->v∈out++[a]\/v∈st:=fun u w v hv=>by
  have:v∈out\/v∈st++[a]:=by
   rcases x4g.1 w with w|w
   .exact h.cl u w v hv
   .rw [x4w.1 w]at hv;exact ha v hv
  rcases this with m|m
  .exact .inl (x4g.2 (.inl m))
  .rcases x4g.1 m with m|m
   .exact .inr m
   .exact .inl (x4g.2 (.inr m))
 have M:∀u∈out++[a],∀x,Rch E u x->x∉out++[a]->∃y∈st,Rch E u y/\Rch E y x:=fun u w x g G=>by
  obtain⟨z,y,m,D,b,t,H⟩:=CA g w G;rcases L z m y D with c|c
  .exact absurd c b
  .exact ⟨y,c,t,H⟩
 have Y:∀y∈st,Rch E y a:=fun y I=>NZ st h.path (x4g.2 (.inl I));refine⟨?_,fun x g=>?_,Ky st h.path,L,fun u w x g G=>?_,fun i r O u w=>?_⟩
 .rw [x4r,x7u];refine⟨hn1,?_,fun x g y I=>C x g y (by simp at I⊢;exact I.symm)⟩;rw[x7u];refine⟨by simp,hn4,fun x g y I e=>?_⟩;rw[x4w.1 g]at e;exact F (e▸I)
 .refine h.rng x ?_;simp only[x4g,x4w]at g⊢;rcases g with(m|m)|m
  .exact .inl m
  .exact .inr (.inr m)
  .exact .inr (.inl m)
 .obtain ⟨y,m,D,b⟩:=M u w x g G;rcases x4g.1 w with w|w
  .have hyo:y∉out:=fun q=>C y q y (x4g.2 (.inl m)) rfl;obtain⟨s,t,H,c,h7⟩:=h.J u w y D hyo;rcases x4g.1 t with t|t
   .exact ⟨s,t,H,c,h7.trans b⟩
   .rw [x4w.1 t]at H c;exact⟨y,m,D,(Y y m).trans c,b⟩
  .rw [x4w.1 w]at D⊢;exact⟨y,m,D,Y y m,b⟩
 .rcases x4f i out.length with B|B
  .rw [x5i B]at O;rcases h.K i r O u w with m|⟨u',m,D,b⟩
   .exact .inl m
   .refine .inr ⟨u',m,D,?_⟩;rcases b with b|⟨j,b,t⟩
    .by_cases U:u'=a
     .exact .inr ⟨out.length,B,by rw[U];simp⟩
     .exact .inl fun q=>by
       rcases x4g.1 q with q|q
       .exact b q
       .exact U (x4w.1 q)
    .exact .inr ⟨j,b,by rw[x5i (x4u.1 t).1];exact t⟩
  .have hr:r=a:=by
    have m:=(x4u.1 O).1;simp at m;rw[x5t B,show i-out.length=0 by omega]at O;simpa using O.symm
   subst hr;by_cases A:Rch E r u
   .exact .inl A
   .right;by_cases V:u∈out
    .obtain ⟨s,t,H,c,h7⟩:=h.J u V r w Z;rcases x4g.1 t with t|t
     .refine ⟨s,H,c,.inl fun q=>?_⟩;rcases x4g.1 q with q|q
      .exact C s q s (x4g.2 (.inl t)) rfl
      .rw [x4w.1 q]at t;exact F t
     .rw [x4w.1 t]at c;exact absurd c A
    .refine ⟨u,.refl,.refl,.inl fun q=>?_⟩;rcases x4g.1 q with q|q
     .exact V q
     .rw [x4w.1 q]at A;exact A .refl
structure EndsP(n:Nat)(E:Int->Int->Prop)(es:List Int):Prop where
 nd:es.Nodup
 mem:∀x:Int,x∈es↔0<=x/\x<n
 K:∀(i:Nat)(r:Int),es[i]?=some r->∀u:Int,0<=u/\u<n->Rch E u r->Rch E r u\/∃u',Rch E u u'/\Rch E u' u/\∃j,i<j/\es[j]?=some u'
theorem DfsI.fin{n:Nat}{E:Int->Int->Prop}(w:∀x y,E x y->0<=y/\y<n){out:List Int}(h:DfsI n E out [])(j:∀x:Int,0<=x/\x<n->x∈out):EndsP n E out:=by
 refine⟨by simpa using h.nd,fun x=>⟨fun b=>h.rng x (by simpa using b),j x⟩,fun i r z u t a=>?_⟩;rcases h.K i r z u a with q|⟨c,q,v,m⟩
 .exact .inl q
 .refine .inr ⟨c,q,v,?_⟩;rcases m with m|m
  .exfalso;apply m;apply j;cases q with
   |refl=>exact t
   |tail _ hr=>exact w _ _ hr
  .exact m
def sccP(E:Int->Int->Prop)(x y:Int):Prop:=Rch E x y/\Rch E y x
theorem sccP.refl{E:Int->Int->Prop}(x:Int):sccP E x x:=⟨.refl,.refl⟩
theorem sccP.symm{E:Int->Int->Prop}{x:Int}(h:sccP E x y):sccP E y x:=⟨h.2,h.1⟩
theorem sccP.trans{E:Int->Int->Prop}{x y z:Int}(h:sccP E x y)(j:sccP E y z):sccP E x z:=⟨h.1.trans j.1,j.2.trans h.2⟩
def SeenP(E:Int->Int->Prop)(es:List Int)(i:Nat)(x:Int):Prop:=∃(j:Nat) (y:Int),i<=j/\es[j]?=some y/\sccP E x y
def CX{n:Nat}{E:Int->Int->Prop}(B:∀x y,E x y->(0<=x/\x<n)/\0<=y/\y<n){es:List Int}(h:EndsP n E es){i:Nat}{r:Int}(A:es[i]?=some r)(hr:¬SeenP E es (i+1) r)(x:Int):
  Rch (fun a b=>E b a/\¬SeenP E es (i+1) b) r x↔sccP E r x:=by
 have g:=(h.mem r).1 (x4p A);constructor
 .intro C;have key:(0<=x/\x<n)/\¬SeenP E es (i+1) x/\Rch E x r:=C.closed (S:=fun x:Int=>(0<=x/\x<n)/\¬SeenP E es (i+1) x/\Rch E x r) (fun a b ⟨u,d,m⟩ ⟨q,v⟩=>⟨(B _ _ q).1,v,.head q m⟩) ⟨g,hr,.refl⟩;refine⟨?_,key.2.2⟩;rcases h.K i r A x key.1 key.2.2 with u|⟨G,u,d,j,m,q⟩
  .exact u
  .exact absurd ⟨j,G,m,q,u,d⟩ key.2.1
 .rintro ⟨u,d⟩;have e:∀y,sccP E r y->¬SeenP E es (i+1) y:=fun y D ⟨j,z,m,q,v⟩=>hr ⟨j,z,m,q,D.trans v⟩;have key:∀{a b:Int},Rch E a b->Rch E r a->Rch E b r->Rch (fun a b=>E b a/\¬SeenP E es (i+1) b) b a:=fun {a b} t=>by
   induction t with
   |refl=>intro _ _;exact .refl
   | @tail b c t w F=>
     intro m q;have v:Rch E b r:=.head w q;exact .head ⟨w,e b ⟨m.trans t,v⟩⟩ (F m v)
  exact key d u .refl
def Ey{E:Int->Int->Prop}{es:List Int}{i:Nat}{r:Int}(w:es[i]?=some r)(hr:SeenP E es (i+1) r)(x:Int):SeenP E es i x↔SeenP E es (i+1) x:=by
 constructor
 .rintro ⟨j,y,q,h,m⟩;rcases Nat.eq_or_lt_of_le q with n|n
  .subst n;rw[w]at h;cases h;obtain⟨k,z,t,u,v⟩:=hr;exact⟨k,z,t,u,m.trans v⟩
  .exact ⟨j,y,n,h,m⟩
 .rintro ⟨j,y,q,h,m⟩;exact⟨j,y,by omega,h,m⟩
def Nw{E:Int->Int->Prop}{es:List Int}{i:Nat}{r:Int}(u:es[i]?=some r)(x:Int):SeenP E es i x↔SeenP E es (i+1) x\/sccP E r x:=by
 constructor
 .rintro ⟨j,y,t,m,n⟩;rcases Nat.eq_or_lt_of_le t with q|q
  .subst q;rw[u]at m;cases m;exact .inr n.symm
  .exact .inl ⟨j,y,q,m,n⟩
 .rintro (⟨j,y,t,m,n⟩|h)
  .exact ⟨j,y,by omega,m,n⟩
  .exact ⟨i,r,x4m _,u,h.symm⟩
def q0f{n:Nat}{E:Int->Int->Prop}{es:List Int}(h:EndsP n E es){x:Int}(q:0<=x/\x<n):SeenP E es 0 x:=by
 obtain⟨j,m⟩:=x7x.1 ((h.mem x).2 q);exact⟨j,x,x4j _,m,.refl x⟩
end Go.Ab
