/- The reference's measure of a program. -/
import Derived.Laws.StructEq
import Derived.ChangeKeysEq
import Derived.Test.YtgpjfppgphaobaaGreatHasA13
set_option linter.all false
set_option maxRecDepth 100000
set_option maxHeartbeats 16000000
open List (Nodup)
namespace Go.Ab
open Go.Proofs.Tryz
open Go.Proofs
variable {P:Program}{T:Tab}{f:Pr}{k:Nat}{l:List Str}{o:Oper}{p:Pg}{y:Int}
def OJ(p:Pg):Bool:=decide (gPg p<=20000)
def q4d(h:OJ p=true):Fit p:=by
 have:=q9n p;have j:gPg p<=20000:=by simpa[OJ]using h
 unfold Fit;omega
def UI(p:Pg):aP 8 [.agg p.cells] (.bool (OJ p)):=by
 refine sC BD func8 ?_;conv=>whnf
 have L:(p.A.map fun f=>AV.agg f.cells).length=p.A.length:=x1j _;have H:=XS (a:=0+BQ p.F) (by omega);repeat' ((refine cP (XP p.F 0 (by omega)) ?_ (ha:=.cons (Sub.refl _) (.cons (Sub.refl _) .nil)))<;>conv=>whnf)
 refine lI (fun y:Nat×Int=>⟨[(1,.p (.ip p.cells)),(3,.j y.2),(4,.j y.1)],[]⟩) (fun y=>y.1<=p.A.length/\(0<=y.2/\y.2<=20001)/\XW (y.2+Np (p.A.drop y.1))=XW (gPg p:Nat)) (fun y=>p.A.length-y.1) (0,XW (0+BQ p.F)) ⟨x1l _,H,by
  show XW (XW (0+BQ p.F)+Np p.A)=_;rw[ZZ (by omega)];congr 1;unfold gPg;omega⟩ ?_
 rintro⟨j,m⟩ ⟨C,r,t⟩;simp only at C r t⊢;have q:∀{x:Int},0<=x/\x<=20001->XW x=XW (gPg p:Nat)->(decide (x<=20000))=OJ p:=fun {x} M h=>by
  unfold OJ;unfold XW at h;by_cases d:gPg p<=20000
  .rw [x3x d,x3u];split at h<;>split at h<;>omega
  .rw [x3w d,x4n];split at h<;>split at h<;>omega
 rcases x1a j p.A.length with b|b;rotate_left 1
 .rw [x2x b,Np]at t;conv=>whnf
  repeat' ((first|(refine iM fun _=>?_)|(apply bD<;>intro _<;>try omega))<;>conv=>whnf)
  all_goals exact RetK.bool (q r (by rw[<-t];simp))
 rw[x2l b,Np]at t;have c:gPr p.A[j]=1+p.A[j].name.length+BQ p.A[j].zb+BQ p.A[j].fin+Eu p.A[j].B+gL p.A[j].body:=rfl;have I:=XS (a:=m+(1+p.A[j].name.length:Nat)) (by omega);have J:=XS (a:=XW (m+(1+p.A[j].name.length:Nat))+BQ p.A[j].zb) (by omega);have g:=XS (a:=XW (XW (m+(1+p.A[j].name.length:Nat))+BQ p.A[j].zb)+BQ p.A[j].fin) (by omega);conv=>whnf
 repeat' ((first|(refine gX ?_;intros)|refine dA ?_|refine cP (QL p.A[j].name _ r) ?_|refine cP (XP p.A[j].zb _ I) ?_|refine cP (XP p.A[j].fin _ J) ?_|(apply bD<;>intro _<;>try omega))<;>conv=>whnf)
 rotate_left 1
 .exact RetK.bool (q r (by rw[<-t,<-YY (by omega) r.2 (by omega),Ha r.2]))
 have e:XW (XW (XW (XW (m+(1+p.A[j].name.length:Nat))+BQ p.A[j].zb)+BQ p.A[j].fin)+(Eu p.A[j].B+(gL p.A[j].body+Np (p.A.drop (j+1))):Nat))=XW (gPg p:Nat):=by
  rw[ZZ (by omega),x7y,ZZ (by omega),x7y,ZZ (by omega),<-t,c];congr 1;omega
 generalize XW (XW (XW (m+(1+p.A[j].name.length:Nat))+BQ p.A[j].zb)+BQ p.A[j].fin)=m0 at g e⊢;have G:(p.A[j].B.map fun a=>AV.agg a.cells).length=p.A[j].B.length:=x1j _;refine lI (fun y:Nat×Int=>⟨[(1,.p (.ip p.cells)),(3,.j y.2),(4,.j j),(5,.p (.ip p.A[j].cells)),(6,.j y.1)],[]⟩) (fun y=>y.1<=p.A[j].B.length/\(0<=y.2/\y.2<=20001)/\XW (y.2+(Eu (p.A[j].B.drop y.1)+(gL p.A[j].body+Np (p.A.drop (j+1))):Nat))=XW (gPg p:Nat)) (fun y=>p.A[j].B.length-y.1) (0,m0) ⟨x1l _,g,e⟩ ?_;rintro⟨a,n⟩ ⟨D,u,v⟩;simp only at D u v⊢;have fin:XW (n+(gL p.A[j].body+Np (p.A.drop (j+1)):Nat))=XW (gPg p:Nat)->(0<=XW (n+gL p.A[j].body)/\XW (n+gL p.A[j].body)<=20001)/\XW (XW (n+gL p.A[j].body)+Np (p.A.drop (j+1)))=XW (gPg p:Nat):=fun h=>by
  refine⟨XS (by omega),?_⟩;rw[ZZ (by omega),<-h];congr 1;omega
 have w:n>20000->XW (n+(gL p.A[j].body+Np (p.A.drop (j+1)):Nat))=XW (gPg p:Nat):=fun h=>by
  rw[<-v,<-YY h u.2 (by omega),<-YY h u.2 (by omega)]
 rcases x1a a p.A[j].B.length with ha|ha;rotate_left 1
 .have E:XW (n+(gL p.A[j].body+Np (p.A.drop (j+1)):Nat))=XW (gPg p:Nat):=by
   rw[x2x ha,Eu,x4u]at v;exact v
  obtain⟨f1,f2⟩:=fin E;conv=>whnf
  repeat' ((first|(refine gX ?_;intros)|refine cP (UJ (gL p.A[j].body+1) p.A[j].body (by omega) n u) ?_ (ha:=.cons (Sub.refl _) (.cons (Sub.refl _) .nil))|(apply bD<;>intro _<;>try omega))<;>conv=>whnf)
  all_goals exact nX (j+1,XW (n+gL p.A[j].body)) ⟨by simp only;omega,f1,f2⟩
 rw[x2l ha,Eu]at v;conv=>whnf
 repeat' ((first|(refine gX ?_;intros)|refine cP (QL p.A[j].B[a].name _ u) ?_|refine cP (UJ (gL p.A[j].body+1) p.A[j].body (by omega) n u) ?_ (ha:=.cons (Sub.refl _) (.cons (Sub.refl _) .nil))|(apply bD<;>intro _<;>try omega))<;>conv=>whnf)
 .have z:XW (XW (n+(1+p.A[j].B[a].name.length:Nat))+(Eu (p.A[j].B.drop (a+1))+(gL p.A[j].body+Np (p.A.drop (j+1))):Nat))=XW (gPg p:Nat):=by
   rw[ZZ (by omega),<-v];congr 1;omega
  exact nX (a+1,XW (n+(1+p.A[j].B[a].name.length:Nat))) ⟨by simp only;omega,XS (by omega),z⟩
 .obtain ⟨f1,f2⟩:=fin (w (by omega));exact nX (j+1,XW (n+gL p.A[j].body)) ⟨by simp only;omega,f1,f2⟩
inductive SubE:List AV->List AV->Prop
 |nil:SubE [] []
 |cons {a b:AV} {xs ys:List AV} (h:SubL a.cells b.cells) (hs:SubE xs ys):SubE (a::xs) (b::ys)
theorem SubE.get{xs m:List AV}(h:SubE xs m):xs.length=m.length/\∀(i:Nat)(b:AV),m[i]?=some b->∃a,xs[i]?=some a/\SubL a.cells b.cells:=by
 induction h with
 |nil=>exact⟨rfl,by simp⟩
 | cons h r q=>
   refine⟨by simp[q.1],fun i b j=>?_⟩;cases i with
   |zero=>simp at j;subst j;exact⟨_,rfl,h⟩
   |succ i=>exact q.2 i b (by simpa using j)
theorem Sub.sl{xs w:List AV}(h:SubE xs w):Sub (.sl xs) (.sl w):=fun σ v hr=>by
 obtain⟨A,z⟩:=h.get;cases hr with
 | nilsl=>
   obtain rfl:w=[]:=by simpa using A.symm
   exact .nilsl
 | slz b=>
   obtain rfl:w=[]:=by simpa using A.symm
   exact .slz b
 | sl _ b off cap sz cells u F D t C G B=>
   rw[A];refine .sl w b off cap sz cells u F (by omega) t (fun i e r=>?_) (fun i e j c r g=>?_) (fun i e j c r g=>?_)
   .obtain ⟨a,m,q⟩:=z i e r;rw[<-C i a m,q.1]
   .obtain ⟨a,m,q⟩:=z i e r;obtain⟨d,x,_⟩:=q.get g;exact G i a j d m x
   .obtain ⟨a,m,q⟩:=z i e r;obtain⟨d,x,E⟩:=q.get g;exact E _ _ (B i a j d m x)
def Zp(n:Int):aP 54 [.int .i64 n] (.agg (X.mk 1 n [] []).cells):=by
 refine sC NJ func54 ?_;conv=>whnf
 repeat' (refine x2j rfl ?_;conv=>whnf)
 exact⟨_,.p (Sub.agg x0z),rfl⟩
def Xx(s:Str):aP 55 [.str s] (.agg (X.mk 2 0 s []).cells):=by
 refine sC BP func55 ?_;conv=>whnf
 repeat' (refine x2j rfl ?_;conv=>whnf)
 exact⟨_,.p (Sub.agg x0z),rfl⟩
def HX(op:Int)(a b:X):aP 56 [.int .i64 op,.agg a.cells,.agg b.cells] (.agg (X.mk op 0 [] [a,b]).cells):=by
 refine sC NK func56 ?_;conv=>whnf
 repeat' ((first|refine x2j rfl ?_|refine aD ?_|refine BsK.pureL rfl rfl ?_)<;>conv=>whnf)
 have e:X.avs [a,b]=[.agg a.cells,.agg b.cells]:=by simp only[X.avs,X.av_eq]
 exact⟨_,.p (Sub.agg (SubL.cons (Sub.refl _) (SubL.cons (Sub.refl _) (SubL.cons (Sub.refl _) (SubL.cons (Sub.of_eq (by show _=AV.sl (X.avs [a,b]);rw[e];rfl)) SubL.nil))))),rfl⟩
def bs(l:List Nat):Str:=l.map fun n=>UInt8.ofNat n
def someP:Pg:=⟨[[103]],[
 ⟨[109,97,105,110],[],[[118]],[
   .mk 1 1 [] [118] [] (.mk 1 2 [] []) false [] [] [],
   .mk 2 4 [] [103] [112] (.mk 0 0 [] []) false [⟨false,[],.mk 1 3 [] []⟩,⟨true,[118],.mk 0 0 [] []⟩] [] [],
   .mk 3 3 [] [] [] (.mk 2 0 [118] []) false [] [] [],
   .mk 4 3 [] [] [] (.mk 2 0 [103] []) false [] [] []],[]⟩,
 ⟨[112],[⟨[120],false⟩,⟨[121],true⟩],[],[
   .mk 5 1 [] [121] [] (.mk 8 0 [] [.mk 2 0 [121] [],.mk 2 0 [120] []]) false [] [] [],
   .mk 6 5 [] [] [] (.mk 12 0 [] [.mk 2 0 [121] [],.mk 1 9 [] []]) false [] [.mk 7 10 [] [101] [] (.mk 0 0 [] []) false [] [] []] [],
   .mk 8 9 [] [] [] (.mk 2 0 [121] []) true [] [] []],[[101]]⟩]⟩
def Xq:aP 32 [] (.agg someP.cells):=by
 refine sC BB func32 ?_;conv=>whnf
 repeat' ((first|refine cP (Zp _) ?_|refine cP (Xx _) ?_|refine gX ?_|refine BsK.pureL rfl rfl ?_|refine cP (HX 8 (.mk 2 0 [121] []) (.mk 2 0 [120] [])) ?_|refine cP (HX 12 (.mk 2 0 [121] []) (.mk 1 9 [] [])) ?_)<;>conv=>whnf)
 exact⟨_,.p (Sub.agg (by repeat' (first|exact SubL.nil|exact SubE.nil|exact Sub.nils|exact Sub.ff rfl|exact Sub.tt rfl|refine SubL.cons ?_ ?_|refine SubE.cons ?_ ?_|exact Sub.refl _|refine Sub.agg ?_|refine Sub.sl ?_))),rfl⟩
def W9:Fit someP:=by unfold Fit;decide
def GS:QA someP=true:=by kernel_rfl
def f0:Pr:=someP.A[0]'(by decide)
def f1:Pr:=someP.A[1]'(by decide)
def q5w:WA (QB someP 0 f0)=[⟨0,1,1⟩,⟨1,2,1⟩,⟨2,3,1⟩,⟨3,4,1⟩,⟨4,-1,1⟩]:=by
 have h:QB someP 0 f0=[⟨0,1,1⟩,⟨1,2,1⟩,⟨2,3,1⟩,⟨3,4,1⟩,⟨4,-1,1⟩]:=by kernel_rfl
 unfold WA JI;rw[h,List.mergeSort_of_pairwise (by decide)];rfl
def q5v:WA (QB someP 1 f1)=[⟨0,5,1⟩,⟨5,6,1⟩,⟨6,7,1⟩,⟨6,8,1⟩,⟨7,-1,1⟩,⟨8,-1,1⟩]:=by
 have h:QB someP 1 f1=[⟨0,5,1⟩,⟨5,6,1⟩,⟨6,7,1⟩,⟨6,8,1⟩,⟨7,-1,1⟩,⟨8,-1,1⟩]:=by kernel_rfl
 unfold WA JI;rw[h,List.mergeSort_of_pairwise (by decide)];rfl
def Rj(n k:Int):Int:=if k<1 then 0 else if n.tmod k<0 then n.tmod k+k else n.tmod k
def Hj{n k:Int}(j:0<k):0<=Rj n k/\Rj n k<k:=by
 unfold Rj;have q:=Int.tmod_lt_of_pos n j;have r : -k<n.tmod k:=by
  rcases Int.le_total 0 n with h|h
  .have:=Int.tmod_nonneg k h;omega
  .have m:=Int.tmod_lt_of_pos (-n) j;rw[Int.neg_tmod]at m;omega
 rw[if_neg (by omega)];split<;>omega
def Zb(n k:Int)(m:k<=1000000):aP 18 [.int .i64 n,.int .i64 k] (.int .i64 (Rj n k)):=by
 refine sC NY func18 ?_;conv=>whnf
 have j:=fun h:0<k=>Hj (n:=n) h;repeat' ((first|refine x2j (by omega) ?_|(apply bD<;>intro _<;>try omega))<;>conv=>whnf)
 all_goals first
  | (refine Wr.i64 (by have:=j (by omega);unfold Rj at this;rw[if_neg (by omega),if_pos (by assumption)]at this;omega) (by have:=j (by omega);unfold Rj at this;rw[if_neg (by omega),if_pos (by assumption)]at this;omega) ?_
     conv=>whnf
     exact RetK.int (by unfold Rj;rw[if_neg (by assumption),if_pos (by assumption)]))
  |exact RetK.int (by unfold Rj;rw[if_pos (by assumption)])
  |exact RetK.int (by unfold Rj;rw[if_neg (by assumption),if_neg (by assumption)])
def inS(l:List Str)(x:Str):Bool:=l.any fun y=>y==x
theorem Bg{α β:Type}{f:α->β}:∀{l:List α},(l.map f).Nodup->∀a∈l,∀b∈l,f a=f b->a=b
 |[],_,a,ha,_,_,_=>by cases ha
 | c::r,h,a,ha,b,hb,e=>by
   rw[x2g,x3g]at h;rcases x1p.1 ha with m|m
   .rcases x1p.1 hb with j|j
    .rw [m,j]
    .exact (h.1 (x1r.2 ⟨b,j,by rw[<-e,m]⟩)).elim
   .rcases x1p.1 hb with j|j
    .exact (h.1 (x1r.2 ⟨a,m,by rw[e,j]⟩)).elim
    .exact Bg h.2 a m b j e
theorem MP{α:Type}[DecidableEq α]:∀{l m:List α},l.Nodup->(∀s∈l,s∈m)->l.length<=m.length
 |[],m,_,_=>x1l _
 | a::r,m,h,hs=>by
   rw[x3g]at h;have ha:=hs a x1f;have n:=MP (m:=m.erase a) h.2 fun s j=>(List.mem_erase_of_ne (fun e=>h.1 (by rw[<-e];exact j))).2 (hs s (x1d _ j));rw[List.length_erase_of_mem ha]at n;have:=x7f ha;simp only[x2r];omega
def Tl(n c:Nat):(LC n c).Nodup:=by
 unfold LC Nodup;rw[List.pairwise_map];exact List.Pairwise.imp (fun h e=>h (by omega)) (List.nodup_range' (s:=n+1) (n:=c) (step:=1))
def Na(m:DG p=true){j:Nat}(h:p.A[j]?=some f):(itsOf p j f).map (fun n=>n.s.id)=LC (QT p.A j) (QJ f.body):=by
 rw[<-CM m h,<-Qf (j:Nat) 0 (-1) 0 (QT p.A j) f.body,x5s];rfl
def OP(q:DG p=true){j:Nat}(n:p.A[j]?=some f){a b:Item}(ha:a∈itsOf p j f)(m:b∈itsOf p j f)(h:a.s.id=b.s.id):a=b:=
 Bg (f:=fun r:Item=>r.s.id) (by rw[Na q n];exact Tl _ _) a ha b m h
def q4a{j:Nat}{t:S}(h:t∈flL f.body):∃m∈itsOf p j f,m.s=t:=by
 rw[<-Qf (j:Nat) 0 (-1) 0 (QT p.A j) f.body]at h;obtain⟨m,n,q⟩:=x1r.1 h;exact⟨m,n,q⟩
def Ru{l:List Step}(h:l.Pairwise Qd):l.Nodup:=h.imp fun h e=>by subst e;exact GD h
def La{n c:Nat}{a:Int}(h:(n:Int)+1<=a)(j:a<=(n+c:Nat)):a∈LC n c:=by
 unfold LC;refine x1r.2 ⟨a.toNat,List.mem_range'.2 ⟨a.toNat-(n+1),by omega,by omega⟩,by omega⟩
inductive Rch{α:Type}(R:α->α->Prop)(a:α):α->Prop
 |refl:Rch R a a
 |tail {b c:α} (h:Rch R a b) (hr:R b c):Rch R a c
theorem Rch.trans{α:Type}{R:α->α->Prop}{a b c:α}(h:Rch R a b)(j:Rch R b c):Rch R a c:=by
 induction j with
 |refl=>exact h
 |tail _ hr m=>exact .tail m hr
theorem Rch.head{α:Type}{R:α->α->Prop}{a b c:α}(hr:R a b)(h:Rch R b c):Rch R a c:=Rch.trans (.tail .refl hr) h
theorem Rch.mono{α:Type}{R R':α->α->Prop}(h:∀x y,R x y->R' x y){a b:α}(hr:Rch R a b):Rch R' a b:=by
 induction hr with
 |refl=>exact .refl
 |tail _ hr j=>exact .tail j (h _ _ hr)
theorem Rch.closed{α:Type}{R:α->α->Prop}{S:α->Prop}(j:∀x y,S x->R x y->S y){a b:α}(ha:S a)(h:Rch R a b):S b:=by
 induction h with
 |refl=>exact ha
 |tail _ hr m=>exact j _ _ m hr
structure WkM(n:Nat)(st:List Bool×List Int):Prop where
 inv:wkInv n st
 mem:∀x,x∈st.2↔(0<=x/\x<n)/\st.1.getD x.toNat false=true
theorem WkM.start(n:Nat):WkM n (List.replicate n false,[]):=⟨PM n,fun x=>by
 simp only[x6q,false_iff,not_and];intro _;rw[x1g,x2n];split<;>simp⟩
theorem WkM.see{n:Nat}{st:List Bool×List Int}(h:WkM n st){b:Int}(r:0<=b/\b<n):WkM n (JE st b)/\(∀x,x∈(JE st b).2↔x∈st.2\/x=b)/\st.2 <+: (JE st b).2:=by
 have u:=LX h.inv r;cases t:st.1.getD b.toNat false with
 | true=>
   have e:JE st b=st:=by unfold JE;rw[t];rfl
   rw[e];refine⟨h,fun x=>⟨.inl,fun m=>?_⟩,List.prefix_refl _⟩;rcases m with m|rfl
   .exact m
   .exact (h.mem _).2 ⟨r,t⟩
 | false=>
   have e:JE st b=(st.1.set b.toNat true,st.2++[b]):=by unfold JE;rw[t];rfl
   rw[e]at u⊢;have v:=h.inv.1;refine⟨⟨u,fun x=>?_⟩,fun x=>by simp,List.prefix_append _ _⟩;rw[x1s,x1n,h.mem];simp only[x1g,x7m];by_cases m:x=b
   .subst m;rw[if_pos rfl,if_pos (by omega)];simp[r]
   .constructor
    .rintro (⟨q,j⟩|j)
     .refine ⟨q,?_⟩;rw[if_neg (by omega)];exact j
     .exact absurd j m
    .rintro ⟨q,j⟩;rw[if_neg (by omega)]at j;exact .inl ⟨q,j⟩
theorem WkM.fold{n:Nat}:∀(l:List Int){st:List Bool×List Int},WkM n st->(∀b∈l,0<=b/\b<n)->WkM n (l.foldl JE st)/\(∀x,x∈(l.foldl JE st).2↔x∈st.2\/x∈l)/\st.2 <+: (l.foldl JE st).2
 |[],st,h,_=>⟨h,fun x=>by simp,List.prefix_refl _⟩
 | b::r,st,h,hl=>by
   obtain⟨j,m,q⟩:=h.see (hl b x1f);obtain⟨t,u,v⟩:=WkM.fold r j fun c w=>hl c (x1d _ w);refine⟨t,fun x=>?_,q.trans v⟩;rw[x4d,u,m,x1p,or_assoc]
def Hs(rows:List (List Int))(x y:Int):Prop:=y∈rows.getD x.toNat []
def FF{n:Nat}{rows:List (List Int)}(hr:XY n rows){x:Int}(h:Hs rows x y):0<=y/\y<n:=by
 unfold Hs at h;rw[x1g]at h;cases j:rows[x.toNat]?with
 |none=>rw[j]at h;simp at h
 |some r=>rw[j]at h;exact hr.2 r (x1o j) y h
def Ku{α:Type}{l m:List α}(h:l <+: m){i:Nat}{a:α}(ha:l[i]?=some a):m[i]?=some a:=by
 obtain⟨t,rfl⟩:=h;rw[x3l (x1m.1 ha).1];exact ha
theorem Yv{n:Nat}{rows:List (List Int)}(hr:XY n rows):∀(k i:Nat){st:List Bool×List Int},WkM n st->i<=st.2.length->n+1<=k+i->(∀(m:Nat)(a:Int),m<i->st.2[m]?=some a->∀b,Hs rows a b->b∈st.2)->
  WkM n (ZV rows k i st)/\(∀x∈st.2,x∈(ZV rows k i st).2)/\(∀x∈(ZV rows k i st).2,∀b,Hs rows x b->b∈(ZV rows k i st).2)/\(∀S:Int->Prop,(∀x∈st.2,S x)->(∀x b,S x->Hs rows x b->S b)->∀x∈(ZV rows k i st).2,S x)
 | 0,i,st,h,hi,hk,_=>by
   have:=FA h.inv;omega
 | k+1,i,st,h,hi,hk,hc=>by
   rw[ZV];split
   .rename_i a ha;have A:=(x1m.1 ha).1;have z:∀b∈rows.getD a.toNat [],0<=b/\b<n:=fun b r=>FF hr r;obtain⟨D,e,g⟩:=h.fold (rows.getD a.toNat []) z;obtain⟨E,F,G,H⟩:=Yv hr k (i+1) D (x2m A g.length_le) (by omega) fun m c B q b r=>by
     rw[e];rcases x1a m i with v|v
     .have w:m<st.2.length:=by omega
      have u:st.2[m]?=some c:=by
       have:=Ku g (x1k w);rw[x1k w,<-this,q]
      exact .inl (hc m c v u b r)
     .obtain rfl:m=i:=by omega
      have:=Ku g ha;rw[this]at q;cases q;exact .inr r
    refine⟨E,fun x j=>F x ((e x).2 (.inl j)),G,fun S d t=>H S (fun x j=>?_) t⟩;rcases(e x).1 j with j|j
    .exact d x j
    .exact t a x (d a (x1o ha)) j
   .rename_i ha;have C:st.2.length<=i:=x6h.1 ha;refine⟨h,fun x j=>j,fun x j b r=>?_,fun S d _=>d⟩;obtain⟨m,B⟩:=x4g.1 j;exact hc m x (by have:=(x1m.1 B).1;omega) B b r
theorem X5{n:Nat}:∀(l:List Int){st:List Bool×List Int},WkM n st->WkM n (l.foldl (fun st a=>bif ZF n a then JE st a else st) st)/\∀x,x∈(l.foldl (fun st a=>bif ZF n a then JE st a else st) st).2↔x∈st.2\/(x∈l/\ZF n x=true)
 |[],st,h=>⟨h,fun x=>by simp⟩
 | a::r,st,h=>by
   rw[x4d];cases u:ZF n a with
   | true=>
     obtain⟨v,w,_⟩:=h.see (XO u);obtain⟨q,t⟩:=X5 r v;rw[x2y];refine⟨q,fun x=>?_⟩;rw[t,w,x1p];constructor
     .rintro ((j|rfl)|⟨j,m⟩)
      .exact .inl j
      .exact .inr ⟨.inl rfl,u⟩
      .exact .inr ⟨.inr j,m⟩
     .rintro (j|⟨rfl|j,m⟩)
      .exact .inl (.inl j)
      .exact .inl (.inr rfl)
      .exact .inr ⟨j,m⟩
   | false=>
     obtain⟨q,t⟩:=X5 r h;rw[x2f];refine⟨q,fun x=>?_⟩;rw[t,x1p];constructor
     .rintro (j|⟨j,m⟩)
      .exact .inl j
      .exact .inr ⟨.inr j,m⟩
     .rintro (j|⟨rfl|j,m⟩)
      .exact .inl j
      .rw [u]at m;cases m
      .exact .inr ⟨j,m⟩
theorem Rw:∀(l:List Bool)(i:Nat)(y:Int),y∈FZ i l ↔ ∃k:Nat,l[k]?=some true/\y=((i+k:Nat):Int)
 |[],i,y=>by simp[FZ]
 | b::r,i,y=>by
   have m:=Rw r (i+1) y;have key:(∃k:Nat,(b::r)[k]?=some true/\y=((i+k:Nat):Int))↔(b=true/\y=(i:Int))\/∃k:Nat,r[k]?=some true/\y=((i+1+k:Nat):Int):=by
    constructor
    .rintro ⟨k,h,j⟩;cases k with
     |zero=>simp at h;exact .inl ⟨h,by simpa using j⟩
     |succ k=>exact .inr ⟨k,by simpa using h,by rw[j];omega⟩
    .rintro (⟨h,j⟩|⟨k,h,j⟩)
     .exact ⟨0,by simp[h],by simpa using j⟩
     .exact ⟨k+1,by simpa using h,by rw[j];omega⟩
   rw[key,<-m,FZ];cases b<;>simp
def P0{n:Nat}{rows:List (List Int)}(hr:XY n rows)(l:List Int)(y:Int):y∈FZ 0 (WX rows l) ↔ ∃a∈l,ZF n a=true/\Rch (Hs rows) a y:=by
 obtain⟨c,d⟩:=X5 (n:=n) l (WkM.start n);obtain⟨u,e,g,A⟩:=Yv hr (rows.length+1) 0 (st:=FM rows.length l) (by rw[hr.1];exact c) (x1l _) (by rw[hr.1];omega) (fun m a C=>by omega);have t:∀x,x∈(FM rows.length l).2↔x∈l/\ZF n x=true:=fun x=>by
  rw[hr.1];unfold FM;rw[d];simp
 have r:∀y,y∈FZ 0 (WX rows l)↔y∈(ZV rows (rows.length+1) 0 (FM rows.length l)).2:=fun y=>by
  rw[Rw,u.mem];show(∃k:Nat,(ZV rows (rows.length+1) 0 (FM rows.length l)).1[k]?=some true/\_)↔_;constructor
  .rintro ⟨k,j,h⟩;have q:=(x1m.1 j).1;rw[u.inv.1]at q;refine⟨by omega,?_⟩;rw[h,x1g];simp[j]
  .rintro ⟨j,h⟩;have q:y.toNat<(ZV rows (rows.length+1) 0 (FM rows.length l)).1.length:=by rw[u.inv.1];omega
   refine⟨y.toNat,?_,by omega⟩;rw[x1g,x1k q]at h;rw[x1k q];simpa using h
 rw[r];constructor
 .intro B;refine A (fun y=>∃a∈l,ZF n a=true/\Rch (Hs rows) a y) (fun x z=>?_) (fun x b ⟨a,j,h,v⟩ w=>⟨a,j,h,.tail v w⟩) y B;obtain⟨j,h⟩:=(t x).1 z;exact⟨x,j,h,.refl⟩
 .rintro ⟨a,j,h,v⟩;exact v.closed (S:=fun y=>y∈(ZV rows (rows.length+1) 0 (FM rows.length l)).2) (fun x b z w=>g x z b w) (e a ((t a).2 ⟨j,h⟩))
def R0{l:List Int}{b x:Int}:x∈Xc l k b↔x∈l\/x=b:=by
 unfold Xc;rw[x1s,x1p];have:x∈l↔x∈l.take k\/x∈l.drop k:=by rw[<-x1s,x7a]
 rw[this];constructor
 .rintro (h|h|h)
  .exact .inl (.inl h)
  .exact .inr h
  .exact .inl (.inr h)
 .rintro ((h|h)|h)
  .exact .inl h
  .exact .inr (.inr h)
  .exact .inr (.inl h)
def Er{n:Nat}{g:List (List Int)×List (List Int)}(v:g.1.length=n)(e:Int×Int){x:Int}(t:0<=x/\x<n):y∈(Fy n g e).1.getD x.toNat []↔y∈g.1.getD x.toNat []\/((x,y)=e/\ZF n y=true):=by
 rw[Wl];cases j:(ZF n e.1&&ZF n e.2 && !(g.1.getD e.1.toNat []).contains e.2)with
 | true=>
   simp only[x2z,x4e]at j;obtain⟨⟨q,r⟩,_⟩:=j;have u:=XO q;rw[x2y];unfold Ky;rw[x1g,x7m];by_cases m:e.1.toNat=x.toNat
   .rw [if_pos m,if_pos (by omega)];simp only[x2c];rw[R0,<-m];have:x=e.1:=by omega
    constructor
    .rintro (h|h)
     .exact .inl h
     .exact .inr ⟨by rw[this,h],by rw[h];exact r⟩
    .rintro (h|⟨h,_⟩)
     .exact .inl h
     .exact .inr (by rw[<-h])
   .rw [if_neg m,<-x1g];constructor
    .exact .inl
    .rintro (h|⟨h,_⟩)
     .exact h
     .exact absurd (by rw[<-h]) m
 | false=>
   rw[x2f];constructor
   .exact .inl
   .rintro (h|⟨rfl,h⟩)
    .exact h
    .have q:ZF n x=true:=by unfold ZF;simp[t]
     simp only[q,h,Bool.true_and,Bool.not_eq_false']at j;simpa using j
def L0{n:Nat}{g:List (List Int)×List (List Int)}(h:g.1.length=n)(e:Int×Int):(Fy n g e).1.length=n:=by
 rw[Wl];cases(ZF n e.1&&ZF n e.2 && !(g.1.getD e.1.toNat []).contains e.2)with
 |true=>rw[x2y];unfold Ky;rw[x3f];exact h
 |false=>exact h
theorem B2{n:Nat}{x y:Int}(q:0<=x/\x<n):∀(l:List (Int×Int)){g:List (List Int)×List (List Int)},g.1.length=n->(y∈(l.foldl (Fy n) g).1.getD x.toNat []↔y∈g.1.getD x.toNat []\/((x,y)∈l/\ZF n y=true))
 |[],g,_=>by simp
 | e::r,g,h=>by
   rw[x4d,B2 q r (L0 h e),Er h e q,x1p];constructor
   .rintro ((j|⟨j,m⟩)|⟨j,m⟩)
    .exact .inl j
    .exact .inr ⟨.inl j,m⟩
    .exact .inr ⟨.inr j,m⟩
   .rintro (j|⟨j|j,m⟩)
    .exact .inl (.inl j)
    .exact .inl (.inr ⟨j,m⟩)
    .exact .inr ⟨j,m⟩
def DK{n:Nat}{l:List (Int×Int)}{x:Int}(h:0<=x/\x<n):Hs (QC n l).1 x y↔(x,y)∈l/\ZF n y=true:=by
 unfold Hs QC;rw[B2 h l (by simp)];have:(List.replicate n ([]:List Int)).getD x.toNat []=[]:=by
  rw[x1g,x2n];split<;>rfl
 rw[this];simp
def Nt{n:Nat}{l:List (Int×Int)}(u:0<n)(y:Int):y∈FZ 0 (WX (QC n l).1 [0])↔Rch (fun a b=>(a,b)∈l/\ZF n b=true) 0 y:=by
 rw[P0 (JV n l).1];have t:ZF n 0=true:=by unfold ZF;simp;omega
 constructor
 .rintro ⟨a,ha,_,h⟩;obtain rfl:a=0:=by simpa using ha
  exact(h.closed (S:=fun x:Int=>(0<=x/\x<n)/\Rch (fun a b=>(a,b)∈l/\ZF n b=true) 0 x) (fun x y ⟨m,q⟩ j=>by
   have r:=(DK m).1 j;exact⟨XO r.2,.tail q r⟩) ⟨⟨by omega,by omega⟩,.refl⟩).2
 .intro h;refine⟨0,by simp,t,?_⟩;exact(h.closed (S:=fun x:Int=>(0<=x/\x<n)/\Rch (Hs (QC n l).1) 0 x) (fun x y ⟨m,q⟩ j=>⟨XO j.2,.tail q ((DK m).2 j)⟩) ⟨⟨by omega,by omega⟩,.refl⟩).2
def stR(F:List Step)(a b:Int):Prop:=∃s∈F,s.src=a/\s.dst=b
def plP(p:Pg)(j:Nat)(f:Pr)(x:Int):Prop:=x=0\/x = -1\/((QT p.A j:Int)+1<=x/\x<=(QT p.A j+QJ f.body:Nat))
def ixI(p:Pg)(j:Nat)(f:Pr)(x:Int):Int:=KM (loI p j) (hiI p j f) (QJ f.body+2:Nat) x
def KL{j:Nat}{x:Int}(h:plP p j f x):0<=ixI p j f x/\ixI p j f x<(QJ f.body+2:Nat):=by
 unfold ixI KM loI hiI;unfold plP at h
 (repeat' split)<;>omega
def Ce{j:Nat}{x:Int}(m:plP p j f x)(n:plP p j f y)(h:ixI p j f x=ixI p j f y):x=y:=by
 unfold ixI KM loI hiI at h;unfold plP at m n
 (repeat' split at h)<;>omega
def JK(h:QA p=true){j:Nat}(m:p.A[j]?=some f):∀s∈(QQ p j f).real,plP p j f s.src/\plP p j f s.dst:=fun s t=>by
 obtain⟨_,n⟩:=MA h m;obtain⟨_,q,_⟩:=V4 h m;obtain⟨u,r⟩:=q s ((n s).1 t);unfold okI at r;unfold plP;omega
def On(h:VD l=false):l.Nodup:=by
 unfold VD at h;rw[List.any_eq_false]at h;unfold Nodup;rw[x6f];intro i j t m r q;have n:=h j (x3h.2 m);apply n;rw[x4f];refine⟨l[i],?_,?_⟩
 .exact x4q.2 ⟨i,by simp;omega,by simp⟩
 .rw [x1k m];simp[q]
def Sw:∀(k:Nat)(l:List S)(_:QJ l<k)(_:QJ l<=1000000),aP 38 [eSs l] (.int .i64 (QJ l)):=by
 intro k;induction k with
 |zero=>intro l h;omega
 | succ k w=>
   intro l a b;have u:=S.avs_len l;have c:l.length<=QJ l:=by
    clear a b u;induction l with
    |nil=>simp
    |cons t r m=>rw[QJ,VE,x2r];omega
   refine sC Fa func38 ?_;conv=>whnf
   repeat' ((refine iM fun _=>?_)<;>conv=>whnf)
   refine lJ (fun y:Nat×Nat=>⟨[(0,.p (eSs l)),(3,.j y.2),(8,.p (.int .i64 (S.avs l).length)),(9,.j y.1)],[]⟩) (fun y=>y.1<=l.length/\y.2+QJ (l.drop y.1)=QJ l+(l.length-y.1)) (fun y=>l.length-y.1) (0,l.length) (Le.of_eq (by simp only[S.avs_len];rfl)) ⟨x1l _,by simp;omega⟩ ?_;rintro⟨j,n⟩ ⟨x,v⟩;simp only at x v⊢;rcases x1a j l.length with q|q
   .have d:=NR q;have z:=VE l[j];have e:QJ (l.drop j)<=QJ l:=by
     have:∀(l:List S)(j:Nat),QJ (l.drop j)<=QJ l:=fun l=>by
      induction l with
      |nil=>intro j;simp
      | cons t r m=>
        intro j;cases j with
        |zero=>simp
        |succ j=>rw[List.drop_succ_cons,QJ];have:=m j;omega
     exact this l j
    conv=>whnf
    repeat' ((first|refine dA ?_|(refine gX ?_;intros)|refine cP (w l[j].V (by omega) (by omega)) ?_ (ha:=.cons (Sub.refl _) .nil)|refine cP (w l[j].X (by omega) (by omega)) ?_ (ha:=.cons (Sub.refl _) .nil)|(apply bD<;>intro _<;>try omega))<;>conv=>whnf)
    all_goals exact nX (j+1,n+(QJ l[j].V+QJ l[j].X)) ⟨by simp only;omega,by simp only;omega⟩
   .conv=>whnf
    rw[x2x q,QJ]at v;repeat' (apply bD<;>intro _<;>first|omega|conv=>whnf)
    exact RetK.int (by omega)
def Sz(p:Pg)(v:cntP p.A<=1000):aP 10 [.agg p.cells] (.int .i64 (cntP p.A)):=by
 refine sC Fc func10 ?_;conv=>whnf
 have t:(p.A.map fun f=>AV.agg f.cells).length=p.A.length:=x1j _;repeat' ((refine iM fun _=>?_)<;>conv=>whnf)
 refine lI (fun y:Nat×Nat=>⟨[(3,.j y.2),(7,.p (.sl (p.A.map fun f=>.agg f.cells))),(8,.p (.int .i64 (p.A.map fun f=>AV.agg f.cells).length)),(9,.j y.1)],[]⟩) (fun y=>y.1<=p.A.length/\y.2+cntP (p.A.drop y.1)=cntP p.A) (fun y=>p.A.length-y.1) (0,0) ⟨x1l _,by simp⟩ ?_;rintro⟨j,n⟩ ⟨q,m⟩;simp only at q m⊢;rcases x1a j p.A.length with h|h
 .have u:=V9 h;have r:=Zr _ _ (x1c h);conv=>whnf
  repeat' ((first|(refine gX ?_;intros)|refine cP (Sw (QJ p.A[j].body+1) p.A[j].body (by omega) (by omega)) ?_ (ha:=.cons (Sub.refl _) .nil)|(apply bD<;>intro _<;>try omega))<;>conv=>whnf)
  exact nX (j+1,n+QJ p.A[j].body) ⟨by simp only;omega,by simp only;omega⟩
 .conv=>whnf
  rw[x2x h,cntP]at m;repeat' (apply bD<;>intro _<;>first|omega|conv=>whnf)
  exact RetK.int (by omega)
def Xg{hr:Bool}{s:St}{K:LV->Prop}(hT:TabOK P T){t u:TypeId}{x y:Operand}(h:o.op=.binOp .eql t x y u){i:TyI}(d:T.get t=some i)(v:i.desc=.bool){a b:Bool}(g:q0r (QG s.sl x)=some a)(A:q0r (QG s.sl y)=some b)(r:K (.p (.bool (a==b)))):ValO P hr s o K:=by
 refine⟨fun σ β B w j _=>⟨_,.bool (a==b),r,.p (.bool _),fun w' _ _=>?_⟩⟩;have n:=Zm (QX j x) g;have q:=Zm (QX j y) A;have m:=hT.of d;rw[v]at m;have c:(eqGuard .eql t x y (.bool a) (.bool b)).run P w'=.ok () w':=by unfold eqGuard;rfl
 have z:(Op.equal t (.bool a) (.bool b)).run P w'=.ok (a==b) w':=by
  have e:Op.equal t (.bool a) (.bool b)=Op.equalIn (9999+1) t (.bool a) (.bool b):=rfl;rw[e,Op.equalIn,Sem.run_bind,run_underlying m,Result.andThen_ok];rfl
 simp only[execOp,h,n,q,Sem.run_bind,c,Result.andThen_ok,binOp];simp[z]
def FQ{x:Str}:inS l x=true↔x∈l:=by
 unfold inS;rw[x4f];constructor
 .rintro ⟨y,j,m⟩;have:y=x:=by simpa using m
  rw[<-this];exact j
 .intro h;exact⟨x,h,by simp⟩
def F2(h:QA p=true){j:Nat}(r:p.A[j]?=some f){a:Int}(d:(QT p.A j:Int)+1<=a)(e:a<=(QT p.A j+QJ f.body:Nat)):∃t∈flL f.body,S7 p a=some t/\t.id=a:=by
 obtain⟨n,v,x⟩:=LW r (k:=(a-1).toNat) (by omega) (by omega);refine⟨n.s,MV x,by unfold S7;rw[v];rfl,?_⟩;obtain⟨_,_,_,w,u⟩:=QU p;obtain⟨_,_,c,b⟩:=u j f r;have m:=Na (QP h).1 r;have z:(itsOf p j f)[(a-1).toNat-QT p.A j]?=some n:=by
  unfold itsOf;rw[<-b,x3y,x3q,if_pos (by omega),show QT p.A j+((a-1).toNat-QT p.A j)=(a-1).toNat by omega];exact v
 have q:((itsOf p j f).map fun n=>n.s.id)[(a-1).toNat-QT p.A j]?=some n.s.id:=by rw[x1b,z];rfl
 rw[m]at q;unfold LC at q;rw[x1b,List.getElem?_range' (by omega)]at q;simp at q;omega
def M2{s:Str}(h:s∈l):s∈Go.Lib.compact l:=by
 have key:∀(j:Nat)(m:j<l.length),l[j]∈Go.Lib.compact l:=fun j=>by
  induction j with
  | zero=>
    intro m;refine x1r.2 ⟨0,x3k.2 ⟨by simpa using m,by simp[Go.Lib.keeps]⟩,?_⟩;simp[m]
  | succ j r=>
    intro m;cases q:Go.Lib.keeps l.toArray (j+1)with
    | true=>
      refine x1r.2 ⟨j+1,x3k.2 ⟨by simpa using m,q⟩,?_⟩;simp[m]
    | false=>
      have n:j<l.length:=by omega
      have:l[j+1]=l[j]:=by
       unfold Go.Lib.keeps at q;simp[m,n]at q;exact q
      rw[this];exact r n
 obtain⟨j,m,rfl⟩:=x4q.1 h;exact key j m
def Uy{s:Str}:s∈Go.Lib.compact l↔s∈l:=⟨BA,M2⟩
theorem Hl{α:Type}{R:α->α->Prop}(irr:∀a,¬R a a)(t:∀a b c,R a b->R b c->R a c):∀{l m:List α},l.Pairwise R->m.Pairwise R->(∀s,s∈l↔s∈m)->l=m
 |[],[],_,_,_=>rfl
 |[],b::m,_,_,h=>by have:=(h b).2 x1f;cases this
 |a::l,[],_,_,h=>by have:=(h a).1 x1f;cases this
 | a::l,b::m,hl,hm,h=>by
   rw[x4h]at hl hm;have r:a=b:=by
    rcases x1p.1 ((h a).1 x1f)with j|j
    .exact j
    rcases x1p.1 ((h b).2 x1f)with q|q
    .exact q.symm
    exact absurd (t _ _ _ (hl.1 b q) (hm.1 a j)) (irr a)
   subst r;rw[Hl irr t hl.2 hm.2 fun s=>?_];constructor
   .intro n;rcases x1p.1 ((h s).1 (x1d _ n))with rfl|j
    .exact absurd (hl.1 s n) (irr s)
    .exact j
   .intro n;rcases x1p.1 ((h s).2 (x1d _ n))with rfl|j
    .exact absurd (hm.1 s n) (irr s)
    .exact j
def Ou(l:List Str):(UA l).Pairwise fun a b=>a<=b:=by
 have:=x7u (le:=fun x y:Str=>decide (x<=y)) (fun a b c j m=>by
  rw[x3u]at j m⊢;exact List.le_trans j m) (fun a b=>by
  rcases List.le_total a b with h|h
  .rw [x3x h];rfl
  .rw [x3x h];exact Bool.or_true _) l
 exact this.imp fun h=>by simpa using h
def Du(h:l.Pairwise fun a b=>a<=b):(Go.Lib.compact l).Pairwise ltT:=by
 unfold Go.Lib.compact Go.Lib.compactUpTo;rw[List.pairwise_map];refine(List.Pairwise.filter _ (List.pairwise_lt_range (n:=l.length))).imp_of_mem fun {i k} c d e=>?_;obtain⟨q,_⟩:=x3k.1 c;obtain⟨j,m⟩:=x3k.1 d;rw[x3h]at q j;have le:∀(a b:Nat)(_:a<=b)(w:b<l.length),l[a]'(by omega)<=l[b]:=fun a b z w=>by
  rcases x1a a b with r|r
  .exact x6f.1 h a b (by omega) w r
  .obtain rfl:a=b:=by omega
   exact List.le_refl _
 have g:∀(a:Nat)(ha:a<l.length),l.toArray[a]! = l[a]:=fun a ha=>by simp[ha]
 rw[g i q,g k j];unfold Go.Lib.keeps at m;rw[x3u,g k j,g (k-1) (by omega)]at m;have u:l[k]≠l[k-1]'(by omega):=by
  rcases m with v|v
  .omega
  .exact v
 have r:=le i (k-1) (by omega) (by omega);have x:=le (k-1) k (by omega) j;rcases List.le_iff_lt_or_eq.1 x with t|t
 .exact PY.2 (List.lt_of_le_of_lt r t)
 .exact absurd t.symm u
def VW(l:List Str):List Str:=Go.Lib.compact (UA l)
def WZ{s:Str}:s∈VW l↔s∈l:=by unfold VW;rw[Uy,YJ]
def ZH(l:List Str):(VW l).Pairwise ltT:=Du (Ou l)
def IT{m:List Str}(h:m.Pairwise ltT)(j:∀s,s∈m↔s∈l):m=VW l:=Hl ltT.irr ltT.trans h (ZH l) fun s=>by rw[j,WZ]
section
variable {α:Type}{R:α->α->Prop}{l out:List α}{i k:Nat}
def GP{s:α}(h:k<l.length):s∈l.take (k+1)↔s∈l.take k\/s=l[k]:=by
 rw[x1t h,x1s,x1n]
end
section
variable {P:Program}{T:Tab}{N:Nat}{o:Oper}{K:St->Prop}{s:St}
end
section
variable {P:Program}{T:Tab}{N:Nat}{o:Oper}{s:St}{hr:Bool}
def Ct{σ:Mem}{β:Lab}{H:Heap}{w:World}(h:HRel σ β H w){q:Nat}{i:BInfo}(B:k∈H.map (·.1))(g:β k=some i)(t:i.has q){vs:Array Value}{H':Heap}(hH:H'.map (·.1)=H.map (·.1))(z:∀j c,(j,c)∈H'->j≠k->(j,c)∈H)(x:∀c,(k,c)∈H'->c.holds σ β (w.setRow q vs) k):
  HRel σ β H' (w.setRow q vs)/\Later σ β H w σ β H' (w.setRow q vs):=by
 have a:=h.apart k B i g q t;have v:∀b,b≠q->(w.setRow q vs).heap[b]?=w.heap[b]?:=fun b m=>setRow_other w q b vs m;refine⟨⟨fun b c m=>?_,fun j c r=>?_,by rw[hH];exact h.nodup,fun j r i' n b m=>?_,fun j r L A=>h.inj j (hH▸r) L (hH▸A)⟩,Mem.le_refl σ,⟨rfl,rfl,rfl,x2q _,by simp,fun b _ J=>v b fun e=>J ⟨k,B,i,g,e.symm▸t⟩⟩,fun b F G=>absurd F G,fun b m=>?_,fun _ _ _=>rfl⟩
 .have C:b≠q:=fun e=>by rw[e,a.1]at m;cases m
  obtain⟨e,E,I⟩:=h.mem b c m;exact⟨e,E,(v b C).trans I⟩
 .by_cases u:j=k
  .subst u;exact x c r
  .have D:=z j c r u;refine(h.chunks j c D).mono (Mem.le_refl σ) fun i' n b m=>v _ fun e=>u ?_;exact h.inj j (x1r.2 ⟨_,D,rfl⟩) k B i' i n g b m (e.symm▸t)
 .have:=h.apart j (hH▸r) i' n b m;exact⟨this.1,by simpa using this.2⟩
 .obtain ⟨j,r,i',n,d⟩:=m;exact .inl ⟨j,hH▸r,i',n,d⟩
def setCell(b:Nat)(c:AV)(l:List (Nat×AV)):List (Nat×AV):=l.map fun x=>if x.1=b then(b,c)else x
end
def Mo{N:Nat}(hT:TabOK P T){s:St}{K:St->Prop}{t:TypeId}{x v:Operand}(hop:o.op=.store t x v)(hd:o.dst=none){a off:Nat}(hx:QG s.sl x=.ext k (.rptr a off)){u:AV}(hv:QG s.sl v=.p u)(hone:u.one=true)(huc:u.cells=[u]){e e2:TypeId}{rows:List (List AV)}{D:List Nat}(hg:getH s.H k=some (.ext (.mat e e2 1 rows D))){it:TyI}(ht:T.get t=some it)(hsz:it.size=1){row:List AV}(J:rows[a]?=some row)(hnh:a∉D)(hoff:off<row.length)(h:Zd s.H k (.ext (.mat e e2 1 (rows.set a (row.set off u)) D)) fun H=>K ⟨s.sl,H⟩):OpK P N s o K:=by
 refine⟨fun σ β ac w hr Q=>?_⟩;obtain⟨H',hK,h1,h2,h3⟩:=VF hr.heap.nodup h;have U:=QX hr.E x;have O:=QX hr.E v;rw[hx]at U;rw[hv]at O;have hk1:=QF hg;generalize hxe:ac.eval x=xv at U;generalize hve:ac.eval v=vv at O;cases O with
 |p hvr=>
 cases U with
 |ext _ _ i _ hi hdx=>
 obtain⟨b,c,n,rfl⟩:=hdx;rcases hr.heap.chunks k _ (QK hg)with⟨h0,_⟩|⟨i',vs,hi',hisz,hh,hvs,hle,hmax,hsl',C,r⟩
 .rw [hi]at h0;cases h0
 rw[hi]at hi';cases hi';have hb:i.has b:=.inr ⟨c,x1o n⟩;rcases(r a row J).2 hnh with⟨h4,_⟩|⟨V,c',ws,h4,h5,h6,h7,h8,h9,h10⟩
 .rw [n]at h4;cases h4
 rw[n]at h4;cases h4;have F:vv.oneCell'=true:=hvr.oneCell hone;have G:vv.cells=#[vv]:=by cases vv<;>first|rfl|simp[Value.oneCell']at F
 have hoffw:off<ws.size:=by omega
 let q:Array Value:=(ws.toList.take off++[vv]++ws.toList.drop (off+1)).toArray;have hrun:(execOp ac.eval o).run P w=.ok .skip (w.setRow b q):=by
  have hst:=run_storeCells_at P b off e2 [vv] 0 ws w h6 (by simp;omega) (by simpa using F);simp only[x5l,x2k]at hst;have M:=(hT _ _ ht).sizeOf;simp[execOp,hop,Instr.storeAt,Instr.sureAddr,hxe,hve,storeVar,M,hsz,G,hst,q]
 have B:∀p,q[p]?=if p=off then some vv else ws[p]?:=fun p=>by
  simp only[q,x6i];by_cases g1:p<off
  .rw [if_neg (by omega),x2w,x3l (by simp;omega),x3q,if_pos g1];simp
  .by_cases Y:p=off
   .subst Y;rw[if_pos rfl,x2w,x2o (by simp;omega)];simp only[x2d,x3r];rw[show p-min p ws.size=0 by omega];rfl
   .rw [if_neg Y,x2o (by simp;omega)];simp only[x1h,x2d,x3r,x2k,x3y,x4t];congr 1;omega
 have z:∀V,V≠b->(w.setRow b q).heap[V]?=w.heap[V]?:=fun V hb'=>setRow_other w b V q hb';have hal:a<rows.length:=(x1m.1 J).1;obtain⟨h11,h12⟩:=Ct hr.heap hk1 hi hb (vs:=q) h1 h2 (fun d hd=>h3 d hd▸by
  refine .inr ⟨i,vs,hi,hisz,(z _ (C a b c n).1).trans hh,hvs,by simpa using hle,hmax,by simpa using hsl',C,fun Z L A=>⟨fun hin=>?_,fun hnin=>?_⟩⟩
  .by_cases g:Z=a
   .subst g;exact absurd hin hnh
   .rw [x2a (x4s g)]at A;exact(r Z L A).1 hin
  .by_cases g:Z=a
   .subst g;rw[x2t hal]at A;cases A;refine .inr ⟨b,c,q,n,by simpa using h5,setRow_heap w b ws _ e2 _ h6,?_,by simpa using h8,h9,fun m y hy=>?_⟩
    .simp only[q,x5f,x1h,x2d,x4z,x3r,x2k];omega
    .by_cases gm:m=off
     .subst gm;rw[x2t hoff]at hy;cases hy;refine⟨by rw[huc];rfl,fun j c' I=>?_⟩;rw[huc]at I
      match j,I with
      |0,I=>cases I;exact⟨vv,by rw[x6s,x5l,B,if_pos rfl],hvr⟩
      |j+1,I=>simp at I
     .rw [x2a (x4s gm)]at hy;obtain⟨g1,Y⟩:=h10 m y hy;refine⟨g1,fun j c' I=>?_⟩;obtain⟨u',g3,g4⟩:=Y j c' I;have hj0:j=0:=by
       have:=(x1m.1 I).1;omega
      subst hj0;exact⟨u',by rw[B,if_neg (by omega)];exact g3,g4⟩
   .rw [x2a (x4s g)]at A;rcases(r Z L A).2 hnin with g1|⟨b1,c1,ws1,g1,Y,g3,g4⟩
    .exact .inl g1
    .refine .inr ⟨b1,c1,ws1,g1,Y,(z b1 fun he=>?_).trans g3,g4⟩;subst he;exact g ((C a b1 c n).2 Z c1 g1))
 refine DR hrun ⟨σ,β,⟨s.sl,H'⟩,hK,⟨?_,?_,?_,h11⟩,h12⟩
 .rw [hd];exact hr.size
 .rw [hd];exact hr.defers
 .rw [hd];exact hr.E
def Ji{s:St}{q:Nat}{c u:Chunk}{K:St->Prop}(h:KV s k q c u K):∃v,K v/\KV s k q c u fun w=>w=v:=by
 unfold KV at h⊢;obtain⟨sl,z,_⟩:=WK (by rfl) h;have key:∀{f:LV->LV}{l:List (Nat×LV)}{K:List (Nat×LV)->Prop},Uz f l K↔K (l.map fun x=>(x.1,f x.2)):=fun {f} l=>by
  induction l with
  |nil=>intro K;rfl
  |cons x r t=>intro K;simp only[Uz,XF,t,x2g]
 have n:∀{f:LV->LV}{c:Chunk}{H:Heap},∃H',∀K:Heap->Prop,Qp k q f c H K↔K H':=fun {f c} H=>by
  induction H with
  |nil=>exact⟨[],fun K=>x7r⟩
  | cons x r t=>
    obtain⟨H',m⟩:=t;obtain⟨j,d⟩:=x;simp only[Qp,MK];cases j==q with
    |true=>exact⟨H',fun K=>by simp only[x2y];exact m _⟩
    | false=>
      cases j==k with
      |true=>exact⟨(j,c)::H',fun K=>by simp only[x2y,x2f];exact m _⟩
      |false=>exact⟨(j,d.mapL f)::H',fun K=>by simp only[x2f];exact m _⟩
 rw[key]at h;simp only[key];obtain⟨H',m⟩:=n (f:=LV.xkill k) (c:=c) (H:=s.H);rw[m]at h;exact⟨_,h,(m _).2 rfl⟩
theorem OpK.focus{N:Nat}(hT:TabOK P T){s:St}{K:St->Prop}(t k a x:Nat){e e2 sz:Nat}{rows:List (List AV)}{j:List Nat}{row:List AV}(M:ZC x s=true)(G:getH s.H k=some (.ext (.mat e e2 sz rows j)))(v:rows[a]?=some row)(b:a∉j)(u:ZG k=false)(L:getS s.sl t=.ext k (.row a row.length))(h:KV s k x (.ext (.mat e e2 sz rows (a::j))) (.own e2 sz row) fun r=>opW P T N ⟨(t,.hd x 0 row.length)::r.sl,r.H⟩ o K):OpK P N s o K:=by
 obtain⟨r,h,F⟩:=Ji h;refine⟨fun σ β C w hr Q=>?_⟩;obtain⟨β',m,J,B,q⟩:=Ld hr M G v b u F;have c:Rel N σ β' ⟨(t,.hd x 0 row.length)::r.sl,r.H⟩ C w:=⟨m.size,m.defers,fun i=>by
  show RepL σ β' (getS ((t,.hd x 0 row.length)::r.sl) i) _;simp only[getS];cases I:t==i with
  | true=>
    have:t=i:=by simpa using I
    subst this;have A:=hr.E t;rw[L]at A;exact q _ A
  |false=>exact m.E i,m.heap⟩
 exact Oper.wp_mono (fun U w' ⟨σ',β'',O,D,g,z⟩=>⟨σ',β'',O,D,g,J.trans z⟩) (Ub hT h c Q)
def AG{α:Type}{l m:List α}{j:Nat}(h:l.take j=m.take j)(q:j<l.length)(r:j<m.length)(n:l[j]=m[j]):l.take (j+1)=m.take (j+1):=by
 rw[x1t q,x1t r,h,n]
def Ei{α:Type}{l m:List α}{j:Nat}(h:l.take j=m.take j)(n:l.length<=j)(q:m.length<=j):l=m:=by
 rwa[x1i n,x1i q]at h
def eBs(l:List Bool):AV:=.sl (l.map bv)
def NN(b:Bool):(bv b).cells=[bv b]:=by cases b<;>rfl
def GR(l m:List Bool):aP 174 [eBs l,eBs m] (.bool (decide (l=m))):=by
 refine sC JO func174 ?_;conv=>whnf
 have z:(l.map bv).length=l.length:=x1j _;have a:(m.map bv).length=m.length:=x1j _;repeat' ((first|(refine iM fun _=>?_)|(apply bE<;>intro _<;>try omega))<;>conv=>whnf)
 all_goals first
  |exact RetK.ff (x3w fun h=>by subst h;omega)
  |skip
 have v:l.length=m.length:=by omega
 refine lI (fun j:Nat=>⟨[(0,.p (eBs l)),(1,.p (eBs m)),(12,.p (.int .i64 (l.map bv).length)),(13,.j j)],[]⟩) (fun j=>j<=l.length/\l.take j=m.take j) (fun j=>l.length-j) 0 ⟨x1l _,rfl⟩ ?_;rintro j ⟨b,u⟩;rcases x1a j l.length with r|r
 .have t:(l.map bv)[j]?=some (bv l[j]):=by rw[x1b,x1k r];rfl
  have e2:(m.map bv)[j]?=some (bv (m[j]'(by omega))):=by rw[x1b,x1k (by omega)];rfl
  have q:l[j]=m[j]'(by omega)->l.take (j+1)=m.take (j+1):=fun h=>AG u r (by omega) h;have n:l[j]≠m[j]'(by omega)->¬l=m:=fun h w=>h (by subst w;rfl);generalize l[j]=x at t q n;generalize m[j]'(by omega)=y at e2 q n;cases x<;>cases y <;>
  conv=>whnf
  repeat' ((first|refine dA ?_|refine wI ?_|refine iT t ?_|refine iT e2 ?_|refine Xh XG rfl rfl rfl rfl rfl ?_|((first|apply bD|apply bE)<;>intro _<;>try omega))<;>conv=>whnf)
  all_goals first
   |exact RetK.ff (x3w (n (by decide)))
   |exact nX (j+1) ⟨by omega,q rfl⟩
   |(exfalso;simp_all;done)
 .conv=>whnf
  repeat' (apply bD<;>intro _<;>first|omega|conv=>whnf)
  exact RetK.tt (x3x (Ei u r (by omega)))
def bmI(fm:List (List Bool)):List (List AV):=fm.map fun r=>r.map bv
def shH(fm:List (List Bool)):Heap:=[(1000,.ext (.mat 101 4 1 (bmI fm) []))]
def KY(fm:List (List Bool))(l:List Int)(b:Nat):Bool:=l.all fun a=>(fm.getD a.toNat []).getD b false
def XD(fm:List (List Bool))(l:List Int)(n:Nat):List Bool:=(List.range n).map (KY fm l)
def X1(fm:List (List Bool))(l:List Int)(n j:Nat)(c:Bool):List Bool:=(XD fm l n).take j++c::List.replicate (n-j-1) false
def P6{fm:List (List Bool)}{l:List Int}{n j:Nat}(q:j<n)(c:Bool):((X1 fm l n j c).map bv)[j]?=some (bv c):=by
 have h:((XD fm l n).take j).length=j:=by unfold XD;simp;omega
 have m:(X1 fm l n j c)[j]?=some c:=by
  unfold X1;rw[x2o (by omega),h,x5g];rfl
 rw[x1b,m];rfl
def P7{fm:List (List Bool)}{l:List Int}{n j:Nat}(h:j<n)(c c':Bool):((X1 fm l n j c).map bv).set j (bv c')=(X1 fm l n j c').map bv:=by
 rw[<-x2s];congr 1;unfold X1;rw[x4l _ _ (by unfold XD;simp;omega)];have:j-((XD fm l n).take j).length=0:=by unfold XD;simp;omega
 rw[this];rfl
def TR{fm:List (List Bool)}{l:List Int}{n j:Nat}(h:j<n):X1 fm l n j (KY fm l j)=(XD fm l n).take (j+1)++List.replicate (n-(j+1)) false:=by
 unfold X1;have:(XD fm l n)[j]?=some (KY fm l j):=by unfold XD;simp[h]
 rw[List.take_add_one,this,x2w];rfl
def TL{fm:List (List Bool)}{l:List Int}{n j:Nat}(h:j<n):(XD fm l n).take j++List.replicate (n-j) false=X1 fm l n j false:=by
 unfold X1;rw[show n-j=(n-j-1)+1 by omega,x5h];congr 2
def Gd{α:Type}{f:α->Bool}{l:List α}{i:Nat}(h:i<l.length):(l.take (i+1)).all f=((l.take i).all f&&f l[i]):=by
 rw[x1t h,List.all_append];simp
def Sy(fm:List (List Bool))(l:List Int)(n:Nat)(M:fm.length=n)(F:n<=5000)(hr:∀r∈fm,r.length=n)(L:l.length<=1000000)(G:∀x∈l,0<=x/\x<n):aH 173 [.hd 1000 0 n,.p (QI l)] (shH fm) (.hd 0 0 n) ((0,.own 4 1 ((XD fm l n).map bv))::shH fm):=by
 refine sK D0 func173 ?_;conv=>whnf
 have E:(l.map (AV.int .i64)).length=l.length:=x1j _;repeat' ((first|(refine gX ?_;intros)|refine x5i n rfl (by show 1*_<=140737488355328;omega) (by unfold maxLen;omega) ?_)<;>conv=>whnf)
 refine lJ (fun j:Nat=>⟨[(0,.hd 1000 0 n),(1,.p (QI l)),(5,.hd 0 0 n),(13,.j n),(14,.j j)],(0,.own 4 1 (((XD fm l n).take j++List.replicate (n-j) false).map bv))::shH fm⟩) (fun j=>j<=n) (fun j=>n-j) 0 (Le.of_eq (by rw[show((XD fm l n).take 0++List.replicate (n-0) false).map bv=List.replicate n .ff by simp[bv]];rfl)) (x1l _) ?_;intro j I;rcases x1a j n with h|h;rotate_left 1
 .have t:j=n:=by omega
  subst t;have C:((XD fm l j).take j++List.replicate (j-j) false)=XD fm l j:=by
   rw[x5g,x1i (by unfold XD;simp)];simp
  rw[C];conv=>whnf
  repeat' (apply bD<;>intro _<;>first|omega|conv=>whnf)
  exact⟨_,x2u _,rfl,rfl⟩
 rw[TL h];have b:=P6 (fm:=fm) (l:=l) h false;have e:=P7 (fm:=fm) (l:=l) h false true;generalize(X1 fm l n j false).map bv=row0 at b e⊢;unfold shH;conv=>whnf
 repeat' ((first|(refine gX ?_;intros)|refine x3c j rfl h ?_|refine x5r j 0 _ (bv true) (by show(0+j)*1=j*1+0;omega) b (x2q _) rfl ?_|(apply bD<;>intro _<;>try omega))<;>conv=>whnf)
 rw[e];refine lI (fun i:Nat=>⟨[(0,.hd 1000 0 n),(1,.p (QI l)),(5,.hd 0 0 n),(6,.j j),(13,.j n),(14,.j j),(20,.p (QI l)),(21,.p (.int .i64 (l.map (AV.int .i64)).length)),(22,.j i)],(0,.own 4 1 ((X1 fm l n j ((l.take i).all fun a=>(fm.getD a.toNat []).getD j false)).map bv))::shH fm⟩) (fun i=>i<=l.length) (fun i=>l.length-i) 0 (x1l _) ?_;intro i J;rcases x1a i l.length with d|d;rotate_left 1
 .have t:i=l.length:=by omega
  subst t;rw[x1i (x2q _),show(l.all fun a=>(fm.getD a.toNat []).getD j false)=KY fm l j from rfl,TR h];conv=>whnf
  repeat' ((first|refine wI ?_|(apply bD<;>intro _<;>try omega))<;>conv=>whnf)
  exact nX (j+1) h
 have H:=G _ (x1c d);have q:l[i].toNat<fm.length:=by omega
 have A:=hr _ (x1c q);have D:(l.map (AV.int .i64))[i]?=some (.int .i64 l[i]):=by rw[x1b,x1k d];rfl
 have w:(bmI fm)[l[i].toNat]?=some (fm[l[i].toNat].map bv):=by unfold bmI;rw[x1b,x1k q];rfl
 have z:(fm[l[i].toNat].map bv)[j]?=some (bv (fm[l[i].toNat][j]'(by omega))):=by rw[x1b,x1k (by omega)];rfl
 have u:((l.take (i+1)).all fun a=>(fm.getD a.toNat []).getD j false)=(((l.take i).all fun a=>(fm.getD a.toNat []).getD j false)&&fm[l[i].toNat][j]'(by omega)):=by
  rw[Gd d];congr 1;simp only[x1g];rw[x1k q,x2c,x1k (by omega),x2c]
 have B:(fm[l[i].toNat].map bv).length=n:=by rw[x1j,A]
 generalize fm[l[i].toNat][j]'(by omega)=v at z u;generalize((l.take i).all fun a=>(fm.getD a.toNat []).getD j false)=c at u⊢;have m:=P6 (fm:=fm) (l:=l) h c;have g:=P7 (fm:=fm) (l:=l) h c (c&&v);generalize(X1 fm l n j c).map bv=row at m g⊢;cases c<;>cases v<;>unfold shH <;>
 conv=>whnf
 repeat' ((first|(refine gX ?_;intros)|refine x3c j rfl h ?_|refine x3c l[i].toNat (by omega) (by omega) ?_|refine x3c j rfl (by rw[B];exact h) ?_|refine x8g j 0 _ (by show(0+j)*1=j*1+0;omega) m ?_|refine x6w l[i].toNat _ (by omega) w (by simp) ?_|refine RLd.mk _ j 0 _ w (by simp) (by omega) z ?_|refine x5r j 0 _ (bv false) (by show(0+j)*1=j*1+0;omega) m (x2q _) rfl ?_|refine x5r j 0 _ (bv true) (by show(0+j)*1=j*1+0;omega) m (x2q _) rfl ?_|(apply bD<;>intro _<;>try omega))<;>conv=>whnf)
 all_goals first
  |exact⟨i+1,d,by omega,Le.of_eq (by rw[u,<-g];rfl)⟩
  |(exfalso;simp_all;done)
def filRow(n a:Nat):List Bool:=(List.range n).map fun b=>decide (a<n-1)||decide (a=b)
def DX(n a:Nat):(filRow n a).length=n:=by unfold filRow;simp
inductive Avd(nx:List (List Int))(n b:Nat):Nat->Prop
 |exit (h:b≠n-1):Avd nx n b (n-1)
 |step {a t:Nat} (hab:a≠b) (ht:(t:Int)∈nx.getD a []) (h:Avd nx n b t):Avd nx n b a
def rowF(n:Nat)(nx:List (List Int))(fm:List (List Bool))(a:Nat):List Bool:=(XD fm (nx.getD a []) n).set a true
def bitF(fm:List (List Bool))(a b:Nat):Bool:=(fm.getD a []).getD b false
def W5(n:Nat)(nx:List (List Int))(fm:List (List Bool))(a:Nat):(rowF n nx fm a).length=n:=by unfold rowF XD;simp
def Ht{n:Nat}{nx:List (List Int)}{fm:List (List Bool)}{a b:Nat}(j:b<n):(rowF n nx fm a).getD b false=(decide (a=b)||KY fm (nx.getD a []) b):=by
 unfold rowF;have m:(XD fm (nx.getD a []) n)[b]?=some (KY fm (nx.getD a []) b):=by unfold XD;simp[j]
 have q:(XD fm (nx.getD a []) n).length=n:=by unfold XD;simp
 rw[x1g];by_cases h:a=b
 .subst h;rw[x2t (by omega),x3x rfl];rfl
 .rw [x2a h,m,x3w h];rfl
def DD{fm:List (List Bool)}{l:List Int}{b:Nat}:KY fm l b=true ↔ ∀t∈l,bitF fm t.toNat b=true:=by
 unfold KY bitF;rw[x3d]
structure FolI(n:Nat)(nx:List (List Int))(fm:List (List Bool)):Prop where
 len:fm.length=n
 rows:∀r∈fm,r.length=n
 last:fm.getD (n-1) []=filRow n (n-1)
 post:∀a b,a<n-1->b<n->(rowF n nx fm a).getD b false=true->bitF fm a b=true
 min:∀a b,a<n->b<n->bitF fm a b=false->Avd nx n b a
structure FollowP(n:Nat)(nx:List (List Int))(fm:List (List Bool)):Prop where
 inv:FolI n nx fm
 fix:∀a,a<n-1->fm.getD a []=rowF n nx fm a
def Js{n a b:Nat}(h:b<n):(filRow n a).getD b false=(decide (a<n-1)||decide (a=b)):=by
 unfold filRow;rw[x1g,x1b,x4a h];rfl
def C7{n a b:Nat}(ha:a<n)(h:b<n):bitF ((List.range n).map (filRow n)) a b=(decide (a<n-1)||decide (a=b)):=by
 have j:((List.range n).map (filRow n)).getD a []=filRow n a:=by
  rw[x1g,x1b,x4a ha];rfl
 unfold bitF;rw[j,Js h]
theorem FolI.start{n:Nat}(m:2<=n)(nx:List (List Int)):FolI n nx ((List.range n).map (filRow n)):=by
 refine⟨by simp,fun r hr=>?_,?_,fun a b ha j _=>?_,fun a b ha j h=>?_⟩
 .obtain ⟨a,_,rfl⟩:=x1r.1 hr;exact DX n a
 .rw [x1g,x1b,x4a (by omega)];rfl
 .rw [C7 (by omega) j,x3x ha];rfl
 .rw [C7 ha j,x6b,x4n,x4n]at h;have:a=n-1:=by omega
  subst this;exact .exit fun e=>h.2 e.symm
def Gm{fm:List (List Bool)}{a:Nat}(ha:a<fm.length)(l:List Bool)(x b:Nat):bitF (fm.set a l) x b=if x=a then l.getD b false else bitF fm x b:=by
 unfold bitF;by_cases h:x=a
 .subst h;rw[if_pos rfl,x1g (l:=fm.set x l),x2t ha];rfl
 .rw [if_neg h,x1g (l:=fm.set a l),x2a (x4s h),<-x1g]
theorem FolI.step{n:Nat}{nx:List (List Int)}{fm:List (List Bool)}(h:FolI n nx fm)(A:∀a,∀x∈nx.getD a [],0<=x/\x<(n:Int)){a:Nat}(ha:a<n-1):FolI n nx (fm.set a (rowF n nx fm a)):=by
 have q:a<fm.length:=by have:=h.len;omega
 have mono:∀x b,b<n->bitF (fm.set a (rowF n nx fm a)) x b=true->bitF fm x b=true:=fun x b m j=>by
  rw[Gm q]at j;split at j
  .rename_i z;subst z;exact h.post _ b ha m j
  .exact j
 have v:∀x b,b<n->(rowF n nx (fm.set a (rowF n nx fm a)) x).getD b false=true->(rowF n nx fm x).getD b false=true:=fun x b m j=>by
  rw[Ht m,x5c]at j⊢;rcases j with j|j
  .exact .inl j
  .exact .inr (DD.2 fun t B=>mono _ b m (DD.1 j t B))
 refine⟨by rw[x3f];exact h.len,fun r hr=>?_,?_,fun x b j m hr=>?_,fun x b j m u=>?_⟩
 .rcases x4k hr with hr|rfl
  .exact h.rows r hr
  .exact W5 _ _ _ _
 .rw [x1g,x2a (by omega),<-x1g];exact h.last
 .have D:=v x b m hr;rw[Gm q];split
  .rename_i z;subst z;exact D
  .exact h.post x b j m D
 .rw [Gm q]at u;split at u
  .rename_i z;subst z;rw[Ht m,x6b,x4n]at u;have g:¬∀t∈nx.getD x [],bitF fm t.toNat b=true:=fun w=>by
    rw[DD.2 w]at u;cases u.2
   obtain⟨t,B⟩:=Classical.not_forall.1 g;obtain⟨c,C⟩:=Classical.not_imp.1 B;have hr:=A x t c;have e:bitF fm t.toNat b=false:=by cases E:bitF fm t.toNat b with|true=>exact absurd E C|false=>rfl
   exact .step u.1 (by rw[x6l hr.1];exact c) (h.min t.toNat b (by omega) m e)
  .exact h.min x b j m u
def L9(fm:List (List Bool)):Nat:=(fm.map fun r=>r.count true).sum
def q0o{fm:List (List Bool)}{a:Nat}(ha:a<fm.length)(l:List Bool):L9 (fm.set a l)+(fm.getD a []).count true=L9 fm+l.count true:=by
 unfold L9;induction fm generalizing a with
 |nil=>simp at ha
 | cons r fm h=>
   cases a with
   |zero=>simp;omega
   | succ a=>
     have:=h (a:=a) (by simpa using ha);simp only[List.set_cons_succ,x2g,x7q,List.getD_cons_succ];omega
theorem Gt:∀{r s:List Bool},r.length=s.length->(∀b:Nat,r.getD b false=true->s.getD b false=true)->r≠s->r.count true<s.count true
 |[],[],_,_,h=>absurd rfl h
 | x::r,y::s,hl,hle,hne=>by
   have m:=hle 0;have hr:∀b:Nat,r.getD b false=true->s.getD b false=true:=fun b q=>hle (b+1) q;have n:r.count true<=s.count true:=by
    by_cases j:r=s
    .subst j;exact x2q _
    .exact Nat.le_of_lt (Gt (by simpa using hl) hr j)
   simp only[List.getD_cons_zero]at m;by_cases j:r=s
   .subst j;cases x<;>cases y
    .exact absurd rfl hne
    .simp
    .cases m rfl
    .exact absurd rfl hne
   .have:=Gt (by simpa using hl) hr j;cases x<;>cases y<;>simp_all<;>omega
theorem FolI.less{n:Nat}{nx:List (List Int)}{fm:List (List Bool)}(h:FolI n nx fm){a:Nat}(ha:a<n-1)(t:rowF n nx fm a≠fm.getD a []):L9 (fm.set a (rowF n nx fm a))<L9 fm:=by
 have j:a<fm.length:=by have:=h.len;omega
 have v:=q0o j (rowF n nx fm a);have u:(fm.getD a []).length=n:=by
  rw[x1g,x1k j];exact h.rows _ (x1c j)
 have w:=Gt (r:=rowF n nx fm a) (s:=fm.getD a []) (by rw[W5,u]) (fun b q=>by
  rcases x1a b n with m|m
  .exact h.post a b ha m q
  .rw [x1g,x3m (by rw[W5];exact m)]at q;cases q) t
 omega
def C8{E:Int->Int->Prop}{B:List Int}{u x:Int}(h:Rch E u x)(w:u∈B)(m:x∉B):∃z y,z∈B/\E z y/\y∉B/\Rch E u y/\Rch E y x:=by
 induction h with
 |refl=>exact absurd w m
 | @tail b c h hr a=>
   by_cases j:b∈B
   .exact ⟨b,c,j,hr,m,.tail h hr,.refl⟩
   .obtain ⟨z,y,n,q,r,t,v⟩:=a j;exact⟨z,y,n,q,r,t,.tail v hr⟩
def chainE(E:Int->Int->Prop):List Int->Prop
 |[]=>True
 |[_]=>True
 |a::b::r=>E a b/\chainE E (b::r)
theorem BT{E:Int->Int->Prop}:∀(l:List Int){a y:Int},chainE E (l++[a])->y∈l++[a]->Rch E y a
 | [],a,y,_,j=>by
   simp at j;rw[j];exact .refl
 | [b],a,y,h,j=>by
   simp at j;rcases j with rfl|rfl
   .exact .tail .refl h.1
   .exact .refl
 | b::c::r,a,y,h,j=>by
   have m:chainE E ((c::r)++[a]):=h.2;rcases x1p.1 j with rfl|j
   .exact .head h.1 (BT (c::r) m (by simp))
   .exact BT (c::r) m j
theorem V3{E:Int->Int->Prop}:∀(l:List Int){a b:Int},chainE E (l++[a])->E a b->chainE E (l++[a]++[b])
 |[],a,b,_,hb=>⟨hb,trivial⟩
 |[c],a,b,h,hb=>⟨h.1,hb,trivial⟩
 |c::d::r,a,b,h,hb=>⟨h.1,V3 (d::r) h.2 hb⟩
theorem Jd{E:Int->Int->Prop}:∀(l:List Int){a:Int},chainE E (l++[a])->chainE E l
 |[],_,_=>trivial
 |[_],_,_=>trivial
 |c::d::r,_,h=>⟨h.1,Jd (d::r) h.2⟩
structure DfsI(n:Nat)(E:Int->Int->Prop)(out stack:List Int):Prop where
 nd:(out++stack).Nodup
 rng:∀x∈out++stack,0<=x/\x<n
 path:chainE E stack
 cl:∀u∈out,∀v,E u v->v∈out\/v∈stack
 J:∀u∈out,∀x,Rch E u x->x∉out->∃s∈stack,Rch E u s/\Rch E s u/\Rch E s x
 K:∀(i:Nat)(r:Int),out[i]?=some r->∀u,Rch E u r->Rch E r u\/∃u',Rch E u u'/\Rch E u' u/\(u'∉out\/∃j,i<j/\out[j]?=some u')
theorem DfsI.start(n:Nat)(E:Int->Int->Prop):DfsI n E [] []:=⟨by simp,by simp,trivial,by simp,by simp,by simp⟩
theorem DfsI.push{n:Nat}{E:Int->Int->Prop}{out stack:List Int}(h:DfsI n E out stack){b:Int}(w:0<=b/\b<n)(z:b∉out++stack)(a:chainE E (stack++[b])):DfsI n E out (stack++[b]):=by
 refine⟨?_,fun x j=>?_,a,fun u q v c=>?_,fun u q x j r=>?_,h.K⟩
 .rw [<-x2w,x4b];refine⟨h.nd,by simp,fun x j y g=>?_⟩;rw[x1n.1 g];exact fun e=>z (e▸j)
 .rw [<-x2w]at j;rcases x1s.1 j with j|j
  .exact h.rng x j
  .rw [x1n.1 j];exact w
 .rcases h.cl u q v c with m|m
  .exact .inl m
  .exact .inr (x1s.2 (.inl m))
 .obtain ⟨s,m,t⟩:=h.J u q x j r;exact⟨s,x1s.2 (.inl m),t⟩
theorem DfsI.pop{n:Nat}{E:Int->Int->Prop}{out st:List Int}{a:Int}(h:DfsI n E out (st++[a]))(ha:∀v,E a v->v∈out\/v∈st++[a]):DfsI n E (out++[a]) st:=by
 have hnd:=h.nd;rw[x4b]at hnd;obtain⟨hn1,Q,C⟩:=hnd;rw[x4b]at Q;obtain⟨hn4,_,hn5⟩:=Q;have Z:a∉out:=fun q=>C a q a (by simp) rfl;have F:a∉st:=fun q=>hn5 a q a (by simp) rfl;have L:∀u∈out++[a],∀v,E u v->v∈out++[a]\/v∈st:=fun u w v hv=>by
  have:v∈out\/v∈st++[a]:=by
   rcases x1s.1 w with w|w
   .exact h.cl u w v hv
   .rw [x1n.1 w]at hv;exact ha v hv
  rcases this with m|m
  .exact .inl (x1s.2 (.inl m))
  .rcases x1s.1 m with m|m
   .exact .inr m
   .exact .inl (x1s.2 (.inr m))
 have M:∀u∈out++[a],∀x,Rch E u x->x∉out++[a]->∃y∈st,Rch E u y/\Rch E y x:=fun u w x g G=>by
  obtain⟨z,y,m,D,b,t,H⟩:=C8 g w G;rcases L z m y D with c|c
  .exact absurd c b
  .exact ⟨y,c,t,H⟩
 have Y:∀y∈st,Rch E y a:=fun y I=>BT st h.path (x1s.2 (.inl I));refine⟨?_,fun x g=>?_,Jd st h.path,L,fun u w x g G=>?_,fun i r O u w=>?_⟩
 .rw [x2w,x4b];refine⟨hn1,?_,fun x g y I=>C x g y (by simp at I⊢;exact I.symm)⟩;rw[x4b];refine⟨by simp,hn4,fun x g y I e=>?_⟩;rw[x1n.1 g]at e;exact F (e▸I)
 .refine h.rng x ?_;simp only[x1s,x1n]at g⊢;rcases g with(m|m)|m
  .exact .inl m
  .exact .inr (.inr m)
  .exact .inr (.inl m)
 .obtain ⟨y,m,D,b⟩:=M u w x g G;rcases x1s.1 w with w|w
  .have hyo:y∉out:=fun q=>C y q y (x1s.2 (.inl m)) rfl;obtain⟨s,t,H,c,h7⟩:=h.J u w y D hyo;rcases x1s.1 t with t|t
   .exact ⟨s,t,H,c,h7.trans b⟩
   .rw [x1n.1 t]at H c;exact⟨y,m,D,(Y y m).trans c,b⟩
  .rw [x1n.1 w]at D⊢;exact⟨y,m,D,Y y m,b⟩
 .rcases x1a i out.length with B|B
  .rw [x3l B]at O;rcases h.K i r O u w with m|⟨u',m,D,b⟩
   .exact .inl m
   .refine .inr ⟨u',m,D,?_⟩;rcases b with b|⟨j,b,t⟩
    .by_cases U:u'=a
     .exact .inr ⟨out.length,B,by rw[U];simp⟩
     .exact .inl fun q=>by
       rcases x1s.1 q with q|q
       .exact b q
       .exact U (x1n.1 q)
    .exact .inr ⟨j,b,by rw[x3l (x1m.1 t).1];exact t⟩
  .have hr:r=a:=by
    have m:=(x1m.1 O).1;simp at m;rw[x2o B,show i-out.length=0 by omega]at O;simpa using O.symm
   subst hr;by_cases A:Rch E r u
   .exact .inl A
   .right;by_cases V:u∈out
    .obtain ⟨s,t,H,c,h7⟩:=h.J u V r w Z;rcases x1s.1 t with t|t
     .refine ⟨s,H,c,.inl fun q=>?_⟩;rcases x1s.1 q with q|q
      .exact C s q s (x1s.2 (.inl t)) rfl
      .rw [x1n.1 q]at t;exact F t
     .rw [x1n.1 t]at c;exact absurd c A
    .refine ⟨u,.refl,.refl,.inl fun q=>?_⟩;rcases x1s.1 q with q|q
     .exact V q
     .rw [x1n.1 q]at A;exact A .refl
structure EndsP(n:Nat)(E:Int->Int->Prop)(es:List Int):Prop where
 nd:es.Nodup
 mem:∀x:Int,x∈es↔0<=x/\x<n
 K:∀(i:Nat)(r:Int),es[i]?=some r->∀u:Int,0<=u/\u<n->Rch E u r->Rch E r u\/∃u',Rch E u u'/\Rch E u' u/\∃j,i<j/\es[j]?=some u'
theorem DfsI.fin{n:Nat}{E:Int->Int->Prop}(w:∀x y,E x y->0<=y/\y<n){out:List Int}(h:DfsI n E out [])(j:∀x:Int,0<=x/\x<n->x∈out):EndsP n E out:=by
 refine⟨by simpa using h.nd,fun x=>⟨fun b=>h.rng x (by simpa using b),j x⟩,fun i r z u t a=>?_⟩;rcases h.K i r z u a with q|⟨c,q,v,m⟩
 .exact .inl q
 .refine .inr ⟨c,q,v,?_⟩;rcases m with m|m
  .exfalso;apply m;apply j;cases q with
   |refl=>exact t
   |tail _ hr=>exact w _ _ hr
  .exact m
def sccP(E:Int->Int->Prop)(x y:Int):Prop:=Rch E x y/\Rch E y x
theorem sccP.refl{E:Int->Int->Prop}(x:Int):sccP E x x:=⟨.refl,.refl⟩
theorem sccP.symm{E:Int->Int->Prop}{x:Int}(h:sccP E x y):sccP E y x:=⟨h.2,h.1⟩
theorem sccP.trans{E:Int->Int->Prop}{x y z:Int}(h:sccP E x y)(j:sccP E y z):sccP E x z:=⟨h.1.trans j.1,j.2.trans h.2⟩
def SeenP(E:Int->Int->Prop)(es:List Int)(i:Nat)(x:Int):Prop:=∃(j:Nat) (y:Int),i<=j/\es[j]?=some y/\sccP E x y
def SB{n:Nat}{E:Int->Int->Prop}(B:∀x y,E x y->(0<=x/\x<n)/\0<=y/\y<n){es:List Int}(h:EndsP n E es){i:Nat}{r:Int}(A:es[i]?=some r)(hr:¬SeenP E es (i+1) r)(x:Int):
  Rch (fun a b=>E b a/\¬SeenP E es (i+1) b) r x↔sccP E r x:=by
 have g:=(h.mem r).1 (x1o A);constructor
 .intro C;have key:(0<=x/\x<n)/\¬SeenP E es (i+1) x/\Rch E x r:=C.closed (S:=fun x:Int=>(0<=x/\x<n)/\¬SeenP E es (i+1) x/\Rch E x r) (fun a b ⟨u,d,m⟩ ⟨q,v⟩=>⟨(B _ _ q).1,v,.head q m⟩) ⟨g,hr,.refl⟩;refine⟨?_,key.2.2⟩;rcases h.K i r A x key.1 key.2.2 with u|⟨G,u,d,j,m,q⟩
  .exact u
  .exact absurd ⟨j,G,m,q,u,d⟩ key.2.1
 .rintro ⟨u,d⟩;have e:∀y,sccP E r y->¬SeenP E es (i+1) y:=fun y D ⟨j,z,m,q,v⟩=>hr ⟨j,z,m,q,D.trans v⟩;have key:∀{a b:Int},Rch E a b->Rch E r a->Rch E b r->Rch (fun a b=>E b a/\¬SeenP E es (i+1) b) b a:=fun {a b} t=>by
   induction t with
   |refl=>intro _ _;exact .refl
   | @tail b c t w F=>
     intro m q;have v:Rch E b r:=.head w q;exact .head ⟨w,e b ⟨m.trans t,v⟩⟩ (F m v)
  exact key d u .refl
def Ag{E:Int->Int->Prop}{es:List Int}{i:Nat}{r:Int}(w:es[i]?=some r)(hr:SeenP E es (i+1) r)(x:Int):SeenP E es i x↔SeenP E es (i+1) x:=by
 constructor
 .rintro ⟨j,y,q,h,m⟩;rcases Nat.eq_or_lt_of_le q with n|n
  .subst n;rw[w]at h;cases h;obtain⟨k,z,t,u,v⟩:=hr;exact⟨k,z,t,u,m.trans v⟩
  .exact ⟨j,y,n,h,m⟩
 .rintro ⟨j,y,q,h,m⟩;exact⟨j,y,by omega,h,m⟩
def P5{E:Int->Int->Prop}{es:List Int}{i:Nat}{r:Int}(u:es[i]?=some r)(x:Int):SeenP E es i x↔SeenP E es (i+1) x\/sccP E r x:=by
 constructor
 .rintro ⟨j,y,t,m,n⟩;rcases Nat.eq_or_lt_of_le t with q|q
  .subst q;rw[u]at m;cases m;exact .inr n.symm
  .exact .inl ⟨j,y,q,m,n⟩
 .rintro (⟨j,y,t,m,n⟩|h)
  .exact ⟨j,y,by omega,m,n⟩
  .exact ⟨i,r,x2q _,u,h.symm⟩
def O4{n:Nat}{E:Int->Int->Prop}{es:List Int}(h:EndsP n E es){x:Int}(q:0<=x/\x<n):SeenP E es 0 x:=by
 obtain⟨j,m⟩:=x4g.1 ((h.mem x).2 q);exact⟨j,x,x1l _,m,.refl x⟩
end Go.Ab
