/- LAW: rounds of what goes out of procedures. -/
import Derived.Test.YtgpjfppgphaobaaGreatHasA17
set_option linter.all false
set_option maxRecDepth 100000
set_option maxHeartbeats 16000000
open List (length)
open Nat (beq)
namespace Go.Ab
open Go.Proofs.Tryz
open Go.Proofs
variable {O':List (List Str)}{l:List Bool}
def bkO(p:Pg)(O:List (List Str)):Book:=⟨sheetOf p,[],[],[],[],O⟩
def prA(p:Pg)(i:Nat):Pr:=p.A.getD i Pr0
def UW{p:Pg}{i:Nat}(h:i<p.A.length):p.A[i]?=some (prA p i):=by
 unfold prA;rw[x1g,x1k h];rfl
def UH{p:Pg}{i:Nat}{f:Pr}(h:p.A[i]?=some f):prA p i=f:=by
 unfold prA;rw[x1g,h];rfl
def dfB(p:Pg)(O:List (List Str)):List (List Str):=(sheetOf p).l.map fun h=>VW (PR (bkO p O) h.s)
def otA(p:Pg)(D:List (List Str))(i:Nat):List Str:=VW (Po p i (prA p i) D (itsOf p i (prA p i)))
def otB(p:Pg)(D:List (List Str)):List (List Str):=(List.range p.A.length).map (otA p D)
def rdO(p:Pg)(O:List (List Str)):List (List Str):=otB p (dfB p O)
def itO(p:Pg):Nat->List (List Str)
 |0=>List.replicate p.A.length []
 |k+1=>rdO p (itO p k)
def UR{l:List Str}(h:l.Pairwise ltT):l.Nodup:=List.Pairwise.imp (S:=fun a b=>a≠b) (fun {a b} (j:ltT a b)=>fun(k:a=b)=>ltT.irr b (by rw[k]at j;exact j)) h
def YU(l:List Str):(VW l).length<=l.length:=JH (UR (ZH l)) fun s h=>WZ.1 h
structure OkO(p:Pg)(O:List (List Str)):Prop where
 len:O.length=p.A.length
 rise:∀o∈O,o.Pairwise ltT
 sub:∀i,i<p.A.length->∀n∈O.getD i [],outB p (prA p i) n=true
def HA{O:List (List Str)}(h:∀o∈O,o.Pairwise ltT)(i:Nat):(O.getD i []).Pairwise ltT:=by
 rw[x1g];rcases x1a i O.length with j|j
 .rw [x1k j];exact h _ (x1c j)
 .rw [x3m j];exact .nil
def Gr{p:Pg}{n:Str}:comB p n=true↔n=GQ\/n∈p.F:=by
 unfold comB;simp only[x5c,x5p,x4f,exists_eq_right']
def IW{p:Pg}{f:Pr}{n:Str}:outB p f n=true↔(n=GQ\/n∈p.F)\/(⟨n,true⟩:Param)∈f.B:=by
 unfold outB;rw[x5c,Gr,x3u]
def Kz{p:Pg}(h:QA p=true)(i:Nat):(prA p i).B.length<=8:=by
 rcases x1a i p.A.length with j|j
 .exact (KR.1 (M1 (QP h).1 (x1o (UW j)))).1
 .unfold prA;rw[x1g,x3m j];decide
theorem OkO.len25{p:Pg}{O:List (List Str)}(r:QA p=true)(h:OkO p O)(i:Nat):(O.getD i []).length<=25:=by
 rcases x1a i p.A.length with q|q
 ·have t:=JH (m:=GQ::p.F++(prA p i).B.map Param.name) (UR (HA h.rise i)) fun n u=>by
   rcases IW.1 (h.sub i q n u)with(rfl|j)|j
   ·exact x3p _ x1f
   ·exact x3p _ (x1d _ j)
   ·exact x4m _ (x1r.2 ⟨_,j,rfl⟩)
  have j:=Kz r i;have v:=(XK r).1;rw[x1h,x2r,x1j]at t;omega
 ·rw[x1g,x3m (by rw[h.len];exact q)];exact x1l _
def Zl{p:Pg}(h:QA p=true){t:S}(e:t∈VL p)(z:t.kind=4):∃k,k<p.A.length/\caI p t=(k:Nat)/\caP p t=prA p k/\(prA p k).name=t.C/\(prA p k).B.map Param.ref=t.args.map Arg.ref:=by
 obtain⟨_,d,ha,_⟩:=QP h;have s:=(SH d).1 ha t e z;unfold HR at s;rw[x2z]at s;have j:=s.2;cases r:p.A.find? (fun f=>f.name==t.C)with
 |none=>rw[r]at j;cases j
 | some f=>
   rw[r]at j;have c:t.C∈QH p:=x1r.2 ⟨f,x5e r,by simpa using x6e r⟩;obtain⟨k,v,y,_,u,b⟩:=q1d c;rw[r]at u;have q:p.A[k]=f:=(x5b u).symm;have w:prA p k=f:=by rw[<-q];exact UH (x1k v)
   have m:caI p t=(k:Nat):=y;refine⟨k,v,m,?_,?_,?_⟩
   .unfold caP;rw[m];rfl
   .rw [w,<-q];exact b
   .rw [w];unfold TN at j;exact x4i j
theorem HN{p:Pg}(h:QA p=true){t:S}(s:t∈VL p)(q:t.kind=4):t.args.length=(caP p t).B.length/\t.args.length<=8:=by
 obtain⟨k,_,_,j,_,m⟩:=Zl h s q;have r:=x4w length m;rw[x1j,x1j]at r;have:=Kz h k;rw[j];omega
theorem OkO.call{p:Pg}{O:List (List Str)}(j:QA p=true)(h:OkO p O){b:Book}(v:b.s=sheetOf p)(r:b.Z=O){t:S}(u:t∈VL p)(m:t.kind=4):CallOk b t:=by
 obtain⟨k,g,w,y,_⟩:=Zl j u m;obtain⟨z,c⟩:=HN j u m;have e:b.s.p=p:=by rw[v];exact(QU p).1
 have q:caO b t=O.getD (caI p t).toNat []:=by unfold caO;rw[e,r]
 refine⟨by rw[e];omega,by rw[e];omega,by rw[e,r,h.len];exact x2q _,?_,?_,by rw[e];omega,by omega⟩
 ·rw[q];exact HA h.rise _
 ·rw[q];have:=h.len25 j (caI p t).toNat;omega
def SA{p:Pg}{O:List (List Str)}{b:Book}(j:b.s=sheetOf p)(h:b.Z=O)(t:S):PR b t=PR (bkO p O) t:=by
 unfold PR caO bkO;rw[j,h]
theorem NC{p:Pg}{O:List (List Str)}(j:QA p=true)(h:OkO p O){t:S}(m:t∈VL p):(PR (bkO p O) t).length<=34:=by
 unfold PR
 (repeat' split)<;>try (simp;done)
 rename_i k;have v:=Ri t (caP p t) (caO (bkO p O) t) t.args.length;have q:=(HN j m k).2;have r:=h.len25 j (caI p t).toNat;have s:((caO (bkO p O) t).filter (comB p)).length<=(O.getD (caI p t).toNat []).length:=x3a _ _;show((if t.name=[]then []else [t.name])++A8 t (caP p t) (caO (bkO p O) t) t.args.length++(caO (bkO p O) t).filter (comB p)).length<=34;rw[x1h,x1h];have u:(if t.name=[]then []else [t.name]).length<=1:=by split<;>simp
 omega
def Ga(p:Pg)(O:List (List Str)):(dfB p O).length=(sheetOf p).l.length:=x1j _
def leO(O O':List (List Str)):Prop:=∀i n,n∈O.getD i []->n∈O'.getD i []
def Hm{t:S}{f:Pr}{O:List Str}{n:Str}:n∈A8 t f O t.args.length ↔ ∃x∈(t.args.zip f.B).take t.args.length,(x.1.ref=true/\x.2.name∈O)/\x.1.name=n:=by
 unfold A8 q6g;simp only[x1r,x3k,x2z,FQ,and_assoc]
theorem SE{p:Pg}{O:List (List Str)}(h:leO O O'){t:S}{n:Str}(j:n∈PR (bkO p O) t):n∈PR (bkO p O') t:=by
 unfold PR at j⊢
 (repeat' split at j)
 ·rw[if_pos (by assumption)];exact j
 ·rw[if_neg (by assumption),if_pos (by assumption)];exact j
 ·rw[if_neg (by assumption),if_neg (by assumption),if_pos (by assumption)];exact j
 ·rw[if_neg (by assumption),if_neg (by assumption),if_neg (by assumption),if_pos (by assumption)];unfold q0c at j⊢;rcases x1s.1 j with j|j
  ·rcases x1s.1 j with j|j
   ·exact x3p _ (x3p _ j)
   ·refine x3p _ (x4m _ ?_);obtain⟨x,k,⟨m,q⟩,r⟩:=Hm.1 j;exact Hm.2 ⟨x,k,⟨m,h _ _ q⟩,r⟩
  ·obtain⟨k,m⟩:=x3k.1 j;exact x4m _ (x3k.2 ⟨h _ _ k,m⟩)
 ·cases j
def JP{α β:Type}{f:α->List β}{l:List α}{i:Nat}{n:β}:n∈(l.map f).getD i [] ↔ ∃x,l[i]?=some x/\n∈f x:=by
 rw[x1g,x1b];cases l[i]?with
 |none=>simp
 |some x=>simp
def EG{p:Pg}{O:List (List Str)}(h:leO O O'):leO (dfB p O) (dfB p O'):=fun i n m=>by
 obtain⟨q,j,k⟩:=JP.1 m;exact JP.2 ⟨q,j,WZ.2 (SE h (WZ.1 k))⟩
def lvB(p:Pg)(i:Nat)(id:Int):Bool:=(QQ p i (prA p i)).live.getD (ixI p i (prA p i) id).toNat false
def IV{p:Pg}{i:Nat}{D:List (List Str)}{n:Str}:n∈Po p i (prA p i) D (itsOf p i (prA p i)) ↔ ∃h∈itsOf p i (prA p i),lvB p i h.s.id=true/\n∈Qu D h.s.id/\outB p (prA p i) n=true:=by
 unfold Po;rw[x2p];refine x7w fun h=>and_congr_right fun _=>?_;unfold q5u lvB;cases(QQ p i (prA p i)).live.getD (ixI p i (prA p i) h.s.id).toNat false with
 |false=>simp
 |true=>simp[x3k]
def M6{p:Pg}{D:List (List Str)}{i:Nat}(k:i<p.A.length){n:Str}:n∈(otB p D).getD i [] ↔ ∃it∈itsOf p i (prA p i),lvB p i it.s.id=true/\n∈Qu D it.s.id/\outB p (prA p i) n=true:=by
 unfold otB;rw[JP,<-IV];constructor
 .rintro ⟨x,j,m⟩;rw[x4a k]at j;cases j;exact WZ.1 m
 .exact fun h=>⟨i,x4a k,WZ.2 h⟩
def IZ{p:Pg}{D m:List (List Str)}(h:leO D m):leO (otB p D) (otB p m):=fun i n q=>by
 rcases x1a i p.A.length with k|k
 .obtain ⟨u,j,r,s,t⟩:=(M6 k).1 q;exact(M6 k).2 ⟨u,j,r,h _ _ s,t⟩
 .obtain ⟨x,j,_⟩:=JP.1 q;rw[x3m (by simpa using k)]at j;cases j
def IL{p:Pg}{O:List (List Str)}(h:leO O O'):leO (rdO p O) (rdO p O'):=IZ (EG h)
theorem OB(p:Pg):∀k,leO (itO p k) (itO p (k+1))
 | 0=>fun i n h=>by
   unfold itO at h;rw[x1g,x2n]at h;split at h<;>cases h
 |k+1=>IL (OB p k)
def OA(p:Pg)(D:List (List Str)):OkO p (otB p D):=by
 refine⟨by unfold otB;rw[x1j,x3o],fun o m=>?_,fun i j n k=>?_⟩
 .obtain ⟨i,_,rfl⟩:=x1r.1 m;exact ZH _
 .obtain ⟨q,_,_,_,h⟩:=(M6 j).1 k;exact h
def U2(p:Pg):∀k,OkO p (itO p k)
 | 0=>by
   refine⟨by unfold itO;rw[x3v],fun o j=>?_,fun i m n h=>?_⟩
   .rw [x3b j];exact .nil
   .unfold itO at h;rw[x1g,x2n]at h;split at h<;>cases h
 |k+1=>OA p _
def tot(O:List (List Str)):Nat:=(O.map length).sum
def Iy{a b:List Str}{O:List (List Str)}(h:leO (a::O) (b::O')):(∀n∈a,n∈b)/\leO O O':=⟨fun n j=>h 0 n j,fun i n j=>h (i+1) n j⟩
theorem Ok{a b:List Str}(ha:a.Pairwise ltT)(q:b.Pairwise ltT)(k:∀n∈a,n∈b)(t:b.length<=a.length):a=b:=by
 refine Hl ltT.irr ltT.trans ha q fun s=>⟨k s,fun h=>?_⟩;refine x5m fun r=>?_;have:=JH (l:=s::a) (m:=b) (x3g.2 ⟨r,UR ha⟩) fun n j=>by
  rcases x1p.1 j with rfl|j
  ·exact h
  ·exact k n j
 rw[x2r]at this;omega
theorem AB:∀{O O':List (List Str)},O.length=O'.length->(∀o∈O,o.Pairwise ltT)->(∀o∈O',o.Pairwise ltT)->leO O O'->tot O<=tot O'/\(tot O'<=tot O->O=O')
 |[],[],_,_,_,_=>⟨x2q _,fun _=>rfl⟩
 |[],_::_,h,_,_,_=>by cases h
 |_::_,[],h,_,_,_=>by cases h
 | a::O,b::O',hl,h1,h2,h=>by
   obtain⟨k,m⟩:=Iy h;obtain⟨s,q⟩:=AB (O:=O) (O':=O') (by simpa using hl) (fun o j=>h1 o (x1d _ j)) (fun o j=>h2 o (x1d _ j)) m;have ha:=h1 a x1f;have r:=h2 b x1f;have t:=JH (UR ha) k;have e:∀(x:List Str)(l:List (List Str)),tot (x::l)=x.length+tot l:=fun x l=>by unfold tot;rw[x2g,x7q]
   rw[e,e];exact⟨by omega,fun u=>by rw[Ok ha r k (by omega),q (by omega)]⟩
theorem F3:∀{O:List (List Str)},(∀o∈O,o.length<=25)->tot O<=25*O.length
 |[],_=>x2q _
 | a::O,h=>by
   have k:=F3 (O:=O) fun o j=>h o (x1d _ j);have m:=h a x1f;have e:tot (a::O)=a.length+tot O:=by unfold tot;rw[x2g,x7q]
   rw[e,x2r];omega
theorem OkO.tot{p:Pg}{O:List (List Str)}(j:QA p=true)(h:OkO p O):Go.Ab.tot O<=400:=by
 have m:=F3 (O:=O) fun o r=>by
  obtain⟨i,q,rfl⟩:=x4q.1 r;have:=h.len25 j i
  rwa[x1g,x1k q]at this
 have t:=(XK j).2.1;rw[h.len]at m;omega
def R6{p:Pg}{k:Nat}(h:itO p (k+1)≠itO p k):Go.Ab.tot (itO p k)<Go.Ab.tot (itO p (k+1)):=by
 obtain⟨q,m⟩:=AB (O:=itO p k) (O':=itO p (k+1)) (by rw[(U2 p k).len,(U2 p (k+1)).len]) (U2 p k).rise (U2 p (k+1)).rise (OB p k);rcases x1a (Go.Ab.tot (itO p k)) (Go.Ab.tot (itO p (k+1)))with j|j
 .exact j
 .exact absurd (m j).symm h
section
variable (p:Pg)(i:Nat)(f:Pr)(D U:List (List Str))(o:List Str)(x:Str)
def idN(a:Int):Int:=QD p i (QJ f.body+2:Nat) a
def hitN(a:Int):Bool:=bif decide (a=(QJ f.body+2:Nat)-1)then inS o x else bif decide (0<a)then inS (Qu U (idN p i f a)) x else false
def ML(a:Int):Bool:=bif decide (a=(QJ f.body+2:Nat)-1)then false else bif decide (0<a)then !inS (Qu D (idN p i f a)) x else true
def netR(p:Pg)(i:Nat)(f:Pr):List (List Int):=UG (QJ f.body+2) (KU (QQ p i f) f)
def q7v:List (Int×Int):=(KU (QQ p i f) f).filter fun t=>ML p i f D x t.1
def Sd:Bool:=(FZ 0 (WX (QC (QJ f.body+2) (q7v p i f D x)).1 [0])).any (hitN p i f U o x)
end
section
variable {p:Pg}{i:Nat}{f:Pr}{D U:List (List Str)}{o:List Str}{x:Str}
def nR(p:Pg)(i:Nat)(f:Pr)(D:List (List Str))(x:Str)(a b:Int):Prop:=ML p i f D x a=true/\(a,b)∈KU (QQ p i f) f
theorem MF(h:QA p=true)(m:p.A[i]?=some f):Sd p i f D U o x=true ↔ ∃a,Rch (nR p i f D x) 0 a/\hitN p i f U o x a=true:=by
 unfold Sd;rw[x4f];refine x7w fun a=>and_congr_left fun _=>?_;rw[Nt (by omega)];have e:∀a b,((a,b)∈q7v p i f D x/\ZF (QJ f.body+2) b=true)↔nR p i f D x a b:=fun a b=>by
  unfold q7v nR;rw[x3k];constructor
  ·exact fun j=>⟨j.1.2,j.1.1⟩
  ·intro j;have k:=(GM h m _ j.2).2;exact⟨⟨j.2,j.1⟩,by unfold ZF;simp;omega⟩
 exact⟨fun j=>j.mono fun a b k=>(e a b).1 k,fun j=>j.mono fun a b k=>(e a b).2 k⟩
def M4(h:QA p=true)(s:p.A[i]?=some f){S:Int->Prop}(k:S 0)(m:∀a,S a->hitN p i f U o x a=false)(q:∀a b,S a->nR p i f D x a b->S b):Sd p i f D U o x=false:=by
 cases t:Sd p i f D U o x with
 |false=>rfl
 | true=>
   obtain⟨a,r,j⟩:=(MF h s).1 t;rw[m a (Rch.closed q k r)]at j;cases j
structure NedI(p:Pg)(i:Nat)(f:Pr)(D U:List (List Str))(o:List Str)(x:Str)(n:Nat)(seen:List Bool)(todo:List Int):Prop where
 len:seen.length=n
 rng:∀a∈todo,0<=a/\a<(n:Int)
 way:∀a:Int,(a=0\/seen.getD a.toNat false=true/\0<=a)->Rch (nR p i f D x) 0 a
 td:∀a∈todo,a=0\/seen.getD a.toNat false=true/\0<=a
 done:∀a:Int,(a=0\/seen.getD a.toNat false=true/\0<=a)->a∉todo->hitN p i f U o x a=false/\∀b,nR p i f D x a b->seen.getD b.toNat false=true
structure NedJ(p:Pg)(i:Nat)(f:Pr)(D U:List (List Str))(o:List Str)(x:Str)(n:Nat)(a:Int)(k:Nat)(seen:List Bool)(todo:List Int):Prop where
 len:seen.length=n
 rng:∀a∈todo,0<=a/\a<(n:Int)
 way:∀a:Int,(a=0\/seen.getD a.toNat false=true/\0<=a)->Rch (nR p i f D x) 0 a
 td:∀a∈todo,a=0\/seen.getD a.toNat false=true/\0<=a
 me:Rch (nR p i f D x) 0 a
 done:∀b:Int,(b=0\/seen.getD b.toNat false=true/\0<=b)->b∉todo->b≠a->hitN p i f U o x b=false/\∀c,nR p i f D x b c->seen.getD c.toNat false=true
 row:∀c∈((netR p i f).getD a.toNat []).take k,seen.getD c.toNat false=true
def q2m{k j:Nat}(h:(l.set k true).getD j false=true):j=k\/l.getD j false=true:=by
 rcases Nat.decEq j k with m|rfl
 .right
  rwa[x1g,x2a (x4s m),<-x1g]at h
 .exact .inl rfl
def Nl{k j:Nat}(h:l.getD j false=true):(l.set k true).getD j false=true:=by
 rcases Nat.decEq j k with q|rfl
 .rwa [x1g,x2a (x4s q),<-x1g]
 .have r:j<l.length:=by
   rcases x1a j l.length with m|m
   .exact m
   .rw [x1g,x3m m]at h;cases h
  rw[x1g,x2t r];rfl
def q0q{k:Nat}(h:k<l.length):(l.set k true).getD k false=true:=by
 rw[x1g,x2t h];rfl
variable {n:Nat}{seen:List Bool}{todo:List Int}{a:Int}
theorem NedI.start(n:Nat)(m:0<n):NedI p i f D U o x n (List.replicate n false) [0]:=by
 have j:∀k:Nat,(List.replicate n false).getD k false=true->False:=fun k h=>by
  rw[x1g,x2n]at h;split at h<;>cases h
 refine⟨x3v,fun a ha=>by rw[x1n.1 ha];omega,fun a ha=>?_,fun a ha=>.inl (x1n.1 ha),fun a ha m=>?_⟩
 ·rcases ha with rfl|⟨h,_⟩
  ·exact .refl
  ·exact(j _ h).elim
 ·rcases ha with rfl|⟨h,_⟩
  ·exact absurd (x1n.2 rfl) m
  ·exact(j _ h).elim
theorem NedI.stop(h:QA p=true)(q:p.A[i]?=some f)(j:NedI p i f D U o x n seen []):Sd p i f D U o x=false:=by
 refine M4 h q (S:=fun a=>a=0\/seen.getD a.toNat false=true/\0<=a) (.inl rfl) (fun a ha=>(j.done a ha (by simp)).1) fun a b ha m=>?_;have r:=(j.done a ha (by simp)).2 b m;have t:=(GM h q _ m.2).2;exact .inr ⟨r,t.1⟩
theorem NedI.skip(j:NedI p i f D U o x n seen (todo++[a]))(u:hitN p i f U o x a=false)(r:ML p i f D x a=false):NedI p i f D U o x n seen todo:=by
 refine⟨j.len,fun b m=>j.rng b (x3p _ m),j.way,fun b m=>j.td b (x3p _ m),fun b m w=>?_⟩;by_cases t:b=a
 .subst t;exact⟨u,fun c v=>by rw[v.1]at r;cases r⟩
 .exact j.done b m fun q=>(x1s.1 q).elim w fun q=>t (x1n.1 q)
theorem NedI.open(j:NedI p i f D U o x n seen (todo++[a])):NedJ p i f D U o x n a 0 seen todo:=
 ⟨j.len,fun b m=>j.rng b (x3p _ m),j.way,fun b m=>j.td b (x3p _ m),j.way a (j.td a (x4m _ (x1n.2 rfl))),
   fun b m u t=>j.done b m fun q=>(x1s.1 q).elim u fun q=>t (x1n.1 q),fun c r=>by rw[List.take_zero]at r;cases r⟩
theorem NedJ.shut(h:QA p=true)(r:p.A[i]?=some f){k:Nat}(j:NedJ p i f D U o x n a k seen todo)(w:((netR p i f).getD a.toNat []).length<=k)(u:hitN p i f U o x a=false):NedI p i f D U o x n seen todo:=by
 refine⟨j.len,j.rng,j.way,j.td,fun b v y=>?_⟩;by_cases q:b=a
 ·subst q;refine⟨u,fun c m=>j.row c ?_⟩;rw[x1i w];exact(Uf fun t z=>(GM h r t z).1).2 ⟨(b,c),m.2,by have:=(GM h r _ m.2).1;simp only at this⊢;omega,rfl⟩
 ·exact j.done b v y q
theorem NedJ.old{k:Nat}(j:NedJ p i f D U o x n a k seen todo)(r:k<((netR p i f).getD a.toNat []).length)(t:seen.getD (((netR p i f).getD a.toNat [])[k]).toNat false=true):NedJ p i f D U o x n a (k+1) seen todo:=by
 refine⟨j.len,j.rng,j.way,j.td,j.me,j.done,fun c q=>?_⟩;rcases(GP r).1 q with m|rfl
 .exact j.row c m
 .exact t
theorem NedJ.new{k:Nat}(q:NedJ p i f D U o x n a k seen todo)(B:k<((netR p i f).getD a.toNat []).length){c:Int}(e:c=((netR p i f).getD a.toNat [])[k])(y:0<=c/\c<(n:Int))(z:nR p i f D x a c):NedJ p i f D U o x n a (k+1) (seen.set c.toNat true) (todo++[c]):=by
 have v:c.toNat<seen.length:=by rw[q.len];omega
 have t:∀b:Int,(b=0\/(seen.set c.toNat true).getD b.toNat false=true/\0<=b)->b=c\/(b=0\/seen.getD b.toNat false=true/\0<=b):=fun b m=>by
  rcases m with j|⟨j,r⟩
  ·exact .inr (.inl j)
  ·rcases q2m j with u|u
   ·exact .inl (by omega)
   ·exact .inr (.inr ⟨u,r⟩)
 refine⟨by rw[x3f];exact q.len,fun b m=>?_,fun b m=>?_,fun b m=>?_,q.me,fun b m w A=>?_,fun b m=>?_⟩
 ·rcases x1s.1 m with j|j
  ·exact q.rng b j
  ·rw[x1n.1 j];exact y
 ·rcases t b m with rfl|j
  ·exact .tail q.me z
  ·exact q.way b j
 ·rcases x1s.1 m with j|j
  ·rcases q.td b j with r|r
   ·exact .inl r
   ·exact .inr ⟨Nl r.1,r.2⟩
  ·rw[x1n.1 j];exact .inr ⟨q0q v,y.1⟩
 ·rcases t b m with rfl|j
  ·exact absurd (x4m _ (x1n.2 rfl)) w
  ·obtain⟨r,u⟩:=q.done b j (fun h=>w (x3p _ h)) A;exact⟨r,fun d g=>Nl (u d g)⟩
 ·rcases(GP B).1 m with j|j
  ·exact Nl (q.row b j)
  ·rw[j,<-e];exact q0q v
end
def R1(p:Pg)(i:Nat)(f:Pr)(D U:List (List Str))(o:List Str):List Str:=(p.F++[GQ]).filter (Sd p i f D U o)
def fzL{N:Nat}{a b c d e:AV}{L:List Str}{n:Nat}(j:n=(L.map AV.str).length):
  Le N ⟨[(0,.p a),(1,.p b),(5,.p .nils),(6,.p c),(27,.hd 0 0 n),(28,.p d),(29,.p e)],[(0,.own 9 1 (L.map .str))]⟩ ⟨[(0,.p a),(1,.p b),(5,.hd 0 0 0),(6,.p c),(27,.p (eStrs L)),(28,.p d),(29,.p e)],[(0,.own 9 1 [])]⟩:=by
 subst j;obtain⟨s',rfl,h⟩:=Le.row (N:=N) (s:=⟨[(0,.p a),(1,.p b),(5,.p .nils),(6,.p c),(27,.hd 0 0 (L.map AV.str).length),(28,.p d),(29,.p e)],[(0,.own 9 1 (L.map .str))]⟩) (k:=0) (e:=9) (sz:=1) (es:=L.map .str) (zs:=[27]) rfl
  (K:=fun s=>s=⟨[(0,.p a),(1,.p b),(5,.p .nils),(6,.p c),(27,.p (eStrs L)),(28,.p d),(29,.p e)],[]⟩) ⟨rfl,rfl⟩
 exact h.trans (lM [(0,.own 9 1 [])])
theorem H7(b:Book)(p:Pg)(R:b.s=sheetOf p)(h:QA p=true)(i:Nat)(f:Pr)(k:p.A[i]?=some f)(O:b.ways[i]?=some (QQ p i f))(o:List Str)(K:∀x,aP 166 [.ip b.cells,.int .i64 i,eMat (netR p i f),.str x] (.bool (Sd p i f b.M b.Y o x))):SpecH prog 109 [.p (.ip b.cells),.j i] [] (fun r H=>OneRow (Yn (R1 p i f b.M b.Y o)) False r H):=by
 refine sK Ww func109 ?_;conv=>whnf
 have C:b.s.p=p:=by rw[R];exact(QU p).1
 have V:=(XK h).1;have P:=Gs h k;have B:=Mt (QQ p i f) f (QJ f.body+2) (q0y h k) (GM h k) (by omega);have v:aP 164 [.ip (QQ p i f).cells] (eMat (netR p i f)):=B;have g:SpecH prog 165 ([eStrs p.F].map .p) [] (OneRow (Yn p.F) (p.F=[])):=QO p.F (by omega);have E:(b.ways.map fun w=>AV.ip w.cells)[i]?=some (.ip (QQ p i f).cells):=by rw[x1b,O];rfl
 generalize QQ p i f=w at*
 generalize netR p i f=net at*
 repeat' ((first|refine iT E ?_|refine cP v ?_)<;>conv=>whnf)
 obtain⟨L,d⟩ : ∃L,L=p.F++[GQ]:=⟨_,rfl⟩;have J:L.length<=17:=by rw[d,x1h];simp;omega
 have y:R1 p i f b.M b.Y o=L.filter (Sd p i f b.M b.Y o):=by unfold R1;rw[d]
 rw[y];generalize Sd p i f b.M b.Y o=ned at*
 refine VU 0 rfl g (.cons (.p (Sub.of_eq (by rw[C]))) .nil) (fun z=>?_) (fun q e sz es N=>?_);rotate_left;obtain⟨rfl,rfl,rfl⟩:=N
 rotate_right
 all_goals
  conv=>whnf
  repeat' ((first|(refine gX ?_;intros)|refine ZE (es:=[]) rfl (by simp) ?_|refine pS ?_)<;>conv=>whnf)
 all_goals
  refine lJ (fun x:Nat×List Str=>⟨[(0,.p (.ip b.cells)),(1,.j i),(5,.hd 0 0 x.2.length),(6,.p (eMat net)),(27,.p (eStrs L)),(28,.p (.int .i64 (L.map AV.str).length)),(29,.j x.1)],[(0,.own 9 1 (x.2.map .str))]⟩) (fun x=>x.1<=L.length/\x.2=(L.take x.1).filter ned/\x.2.length<=x.1) (fun x=>L.length-x.1) (0,[]) (by first
    |exact Le.trans (Le.of_eq (by rw[d,z];rfl)) (fzL (L:=L) rfl)
    |exact Le.trans (Le.of_eq (by rw[d];simp only[x1e,x1h];rfl)) (fzL (L:=L) rfl)
    |trace_state) ⟨x1l _,by simp,by simp⟩ ?_
  rintro⟨j,m⟩ ⟨G,t,I⟩;simp only at G t I⊢;have Q:(L.map AV.str).length=L.length:=x1j _;rcases x1a j L.length with k|k
  ·have c:=x1t k;have u:=K L[j];have T:(L.map AV.str)[j]?=some (.str L[j]):=by simp[k]
   cases hnd:ned L[j];all_goals
    rw[hnd]at u;conv=>whnf
    repeat' ((first|(refine gX ?_;intros)|refine cP u ?_|refine ZE (by simp) (by rw[x1j];omega) ?_|refine Br.tt ?_|refine Br.ff ?_|(apply bD<;>intro _<;>try omega))<;>conv=>whnf)
   all_goals first
    |exact⟨(j+1,m++[L[j]]),⟨k,by simp only;rw[c,x3t,x4p hnd,t];rfl,by simp;omega⟩,by simp only;omega,Le.of_eq (by simp only[x1h,x1e];rfl)⟩
    |exact nX (j+1,m) ⟨k,by simp only;rw[c,x3t,x4c (by rw[hnd];decide),t];simp,by simp only;omega⟩
  ·rw[x1i k]at t;subst t;conv=>whnf
   repeat' (apply bD<;>intro _<;>first|omega|conv=>whnf)
   all_goals exact x3e _ (x2u _) (OneRow.str rfl)
def GT(h:Str)(k id:Int)(n:Str):Vx:=⟨h,k,id,n⟩
theorem MR(b:AV)(i:Int)(f:Pr)(vs:List Vx)(k id:Int)(sl:List Str)(t:vs.length+sl.length<=100000000):aH 114 [.ptr 1000 0,.j k,.j id,.p (eStrs sl)] (vH b i f vs) (.p (.tup [])) (vH b i f (vs++sl.map (GT f.name k id))):=by
 refine sK Q9 func114 ?_;conv=>whnf
 repeat' ((first|(refine gX ?_;intros)|refine dA ?_|((first|apply bD|apply bE|apply bN|apply bB)<;>intro _<;>try omega))<;>conv=>whnf)
 have s:(sl.map AV.str).length=sl.length:=x1j _;refine lJ (fun j:Nat=>⟨[(0,.ptr 1000 0),(1,.j k),(2,.j id),(10,.p (eStrs sl)),(11,.p (.int .i64 (sl.map AV.str).length)),(12,.j j)],vH b i f (vs++(sl.take j).map (GT f.name k id))⟩) (fun j=>j<=sl.length) (fun j=>sl.length-j) 0 (Le.of_eq (by rw[List.take_zero,x7c,x2i];rfl)) (x1l _) ?_;intro j r;rcases x1a j sl.length with h|h;rotate_left 1
 ·rw[x1i h];conv=>whnf
  repeat' ((first|(refine gX ?_;intros)|refine dA ?_|((first|apply bD|apply bE|apply bN|apply bB)<;>intro _<;>try omega))<;>conv=>whnf)
  exact⟨_,x2u _,rfl,rfl⟩
 have e:vs++(sl.take (j+1)).map (GT f.name k id)=(vs++(sl.take j).map (GT f.name k id))++[GT f.name k id sl[j]]:=by
  rw[x1t h,x1e,x2w];rfl
 have q:(vs++(sl.take j).map (GT f.name k id)).length<=vs.length+j:=by simp;omega
 generalize vs++(sl.take j).map (GT f.name k id)=acc at*
 have m:(avV acc).length=acc.length:=x1j _;conv=>whnf
 repeat' ((first|(refine gX ?_;intros)|refine dA ?_|refine pA 1 48 m.symm ?_|((first|apply bD|apply bE|apply bN|apply bB)<;>intro _<;>try omega)|(refine cH [(1000,1000),(1001,2000)] 0 (MS b i f acc k id (sl[j]'h)) ?_)|refine x2j ?_ ?_)<;>conv=>whnf)
 all_goals exact⟨j+1,by omega,by omega,Le.of_eq (by rw[e];simp only[vH,pcO,avV,x1e,x1h];rfl)⟩
theorem KA(b:AV)(i:Int)(f:Pr)(es:List Eg)(x y:Vx)(k:Int)(m:es.length<=100000000):aH 73 [.ptr 1000 0,.p (.agg x.cells),.p (.agg y.cells),.j k] (eH b i f es) (.p (.tup [])) (eH b i f (es++[⟨x,y,k⟩])):=by
 refine sK NH func73 ?_;have h:(avE es).length=es.length:=x1j _;conv=>whnf
 repeat' ((first|(refine gX ?_;intros)|refine dA ?_|refine pA 1 104 h.symm ?_|((first|apply bD|apply bE|apply bN|apply bB)<;>intro _<;>try omega)|refine x2j ?_ ?_)<;>conv=>whnf)
 all_goals exact⟨_,x2u _,rfl,by simp only[eH,pcO,avE,x1e,x1h];rfl⟩
theorem PN(n:Str):aP 169 [.str n] (.bool (n==retS)):=by
 refine sC HP func169 ?_;conv=>whnf
 repeat' ((first|(refine gX ?_;intros)|refine dA ?_|((first|apply bD|apply bE|apply bN|apply bB)<;>intro _<;>try omega))<;>conv=>whnf)
 all_goals exact RetK.p rfl
theorem q4c(l:List Str)(g:Nat)(p:Str->Bool)(m:∀s,aP g [.str s] (.bool (p s))):aP 156 [eStrs l,.fn g []] (.int .i64 (idxF p l)):=by
 refine sC XE func156 ?_;conv=>whnf
 refine iM fun _=>?_;have r:(l.map AV.str).length=l.length:=x1j _;conv=>whnf
 refine lI (fun j:Nat=>⟨[(0,.p (eStrs l)),(1,.p (.fn g [])),(7,.p (.int .i64 (l.map AV.str).length)),(8,.j j)],[]⟩) (fun j=>j<=l.length/\(l.drop j).any p=l.any p/\l.findIdx p=j+(l.drop j).findIdx p) (fun j=>l.length-j) 0 ⟨x1l _,rfl,by simp⟩ ?_;rintro j ⟨q,h,k⟩;conv=>whnf
 repeat' ((first|(refine gX ?_;intros)|refine dA ?_|refine cP (m _) ?_|((first|apply bD|apply bE|apply bN|apply bB)<;>intro _<;>try omega))<;>conv=>whnf)
 ·exact RetK.int (Zi (p:=p) (by omega) (by assumption) h k).symm
 ·exact nX (j+1) ⟨by omega,by rw[<-h,Dq (p:=p) (by omega) (by assumption)],by rw[k,EB (p:=p) (by omega) (by assumption)];omega⟩
 ·exact RetK.int (by rw[Hq];rw[<-h,Wa (by omega)])
theorem q1b{l:List Str}{p:Str->Bool}(h:l.any p=true):∃(k:Nat) (m:k<l.length),idxF p l=k/\p l[k]=true/\(l.take k).filter (fun s=> !p s)=l.take k:=by
 have m:l.findIdx p<l.length:=List.findIdx_lt_length_of_exists (x4f.1 h);refine⟨l.findIdx p,m,by unfold idxF;rw[h];rfl,List.findIdx_getElem,List.filter_eq_self.2 fun s q=>?_⟩;obtain⟨j,r,rfl⟩:=List.mem_take_iff_getElem.1 q;have:=List.not_of_lt_findIdx (p:=p) (xs:=l) (i:=j) (by omega);simp[this]
theorem q1x(l:List Str)(A:l.length<=1000000)(g:Nat)(p:Str->Bool)(B:∀s,aP g [.str s] (.bool (p s))):aH 168 [.hd 1000 0 l.length,.p (.fn g [])] [(1000,.own 9 1 (l.map .str))] (.hd 1000 0 (l.filter fun s=> !p s).length) [(1000,.own 9 1 ((l.filter fun s=> !p s).map .str))]:=by
 refine sK VB func168 ?_;have t:=q4c l g p B;have L:(l.map AV.str).length=l.length:=x1j _;cases ha:l.any p with
 | false=>
   have w:idxF p l = -1:=by unfold idxF;rw[ha];rfl
   have e:l.filter (fun s=> !p s)=l:=List.filter_eq_self.2 fun s K=>by
    have:=List.any_eq_false.1 ha s K;simpa using this
   rw[e];rw[w]at t;conv=>whnf
   repeat' ((first|(refine gX ?_;intros)|refine dA ?_|((first|apply bD|apply bE|apply bN|apply bB)<;>intro _<;>try omega)|(refine QS t (.cons (.hd rfl (by simp)) (.cons (.p (Sub.refl _)) .nil)) (by rintro _ rfl;rfl) ?_;rintro _ rfl))<;>conv=>whnf)
   all_goals exact⟨_,x2u _,rfl,rfl⟩
 | true=>
   obtain⟨k,J,w,b,q⟩:=q1b ha;rw[w]at t;conv=>whnf
   repeat' ((first|(refine gX ?_;intros)|refine dA ?_|((first|apply bD|apply bE|apply bN|apply bB)<;>intro _<;>try omega)|(refine QS t (.cons (.hd rfl (by simp)) (.cons (.p (Sub.refl _)) .nil)) (by rintro _ rfl;rfl) ?_;rintro _ rfl))<;>conv=>whnf)
   refine lI (fun x:Nat×Nat×List Str=>⟨[(0,.hd 1000 0 l.length),(1,.p (.fn g [])),(5,.j x.2.1),(6,.j x.1)],[(1000,.own 9 1 (x.2.2.map .str))]⟩) (fun x=>x.2.1<x.1/\x.1<=l.length/\x.2.2.length=l.length/\x.2.2.drop x.1=l.drop x.1/\x.2.2.take x.2.1++(l.drop x.1).filter (fun s=> !p s)=l.filter fun s=> !p s) (fun x=>l.length-x.1) (k+1,k,l) ⟨by simp only;omega,by simp only;omega,rfl,rfl,by
     simp only;rw[<-q,<-x3t];have C:l=l.take k++l[k]::l.drop (k+1):=by rw[<-x2l J,x7a]
     conv=>rhs;rw[C]
     rw[x3t,x3t,x6t,b];simp⟩ ?_
   rintro⟨j,i,es⟩ ⟨G,H,r,y,h⟩;simp only at G H r y h⊢;have I:(es.map AV.str).length=l.length:=by simp[r]
   rcases x1a j l.length with u|u;rotate_left 1
   ·rw[x2x u,List.filter_nil,x2i]at h;conv=>whnf
    repeat' ((first|(refine gX ?_;intros)|refine dA ?_|refine x7x i l.length rfl rfl (by omega) (by omega) ?_|refine x7x 0 i rfl rfl (by omega) (by omega) ?_|((first|apply bD|apply bE|apply bN|apply bB)<;>intro _<;>try omega))<;>conv=>whnf)
    refine OpK.clear XG rfl rfl rfl rfl rfl rfl rfl (by kernel_rfl) (by decide) ?_;conv=>whnf
    repeat' ((first|(refine gX ?_;intros)|refine dA ?_|refine x7x 0 i rfl rfl (by omega) (by omega) ?_|((first|apply bD|apply bE|apply bN|apply bB)<;>intro _<;>try omega))<;>conv=>whnf)
    have z:i=(l.filter fun s=> !p s).length:=by rw[<-h];simp;omega
    exact⟨_,x6z (by rw[<-z];rfl),rfl,by rw[x4u,<-h];simp[List.map_take]⟩
   have E:es[j]?=some l[j]:=by
    have:=x4w (fun x=>x[0]?) y;simp only[x3y,x5l]at this;rw[this,x1k u]
   have c:(es.map AV.str)[j]?=some (.str l[j]):=by simp[E]
   have z:i<es.length:=by omega
   have F:(es.map AV.str)[i]?=some (.str es[i]):=by simp[z]
   have d:es.drop (j+1)=l.drop (j+1):=by
    have:=x4w (List.drop 1) y;simpa only[x7s]using this
   rw[x2l u,x6t]at h;have v:=B l[j];cases m:p l[j]with
   | true=>
     rw[m]at v h;conv=>whnf
     repeat' ((first|(refine gX ?_;intros)|refine dA ?_|refine iO j ?_|refine lO c ?_|refine cP v ?_|refine Br.tt ?_|refine Br.ff ?_|((first|apply bD|apply bE|apply bN|apply bB)<;>intro _<;>try omega))<;>conv=>whnf)
     all_goals exact nX (j+1,i,es) ⟨by simp only;omega,by simp only;omega,r,d,by simpa using h⟩
   | false=>
     rw[m]at v h;conv=>whnf
     repeat' ((first|(refine gX ?_;intros)|refine dA ?_|refine iO j ?_|refine lO c ?_|refine cP v ?_|refine Br.tt ?_|refine Br.ff ?_|refine iO i ?_|refine sO (.str l[j]) F ?_|((first|apply bD|apply bE|apply bN|apply bB)<;>intro _<;>try omega))<;>conv=>whnf)
     all_goals exact⟨(j+1,i+1,es.set i l[j]),⟨by simp only;omega,by simp only;omega,by simp only[x3f];exact r,by rw[List.drop_set_of_lt (by omega)];exact d,by
      simp only;rw[<-h,x1t (by simp;omega),List.take_set_of_le (by omega),List.getElem_set_self,x2w];simp⟩,by simp only;omega,Le.of_eq (by simp only[x2s];rfl)⟩
def slI(I:List Str)(f:Pr):List Str:=UA (I++f.B.map Param.name)
def slO(O:List Str):List Str:=UA (O++[retS])
theorem Yk(b:Book)(p:Pg)(N:b.s=sheetOf p)(i:Nat)(f:Pr)(M:p.A[i]?=some f)(Q:f.B.length<=1000000)(I O:List Str)(J:b.ins[i]?=some I)(K:b.Z[i]?=some O)(w:I.length<=1000000)(y:O.length<=1000000):aH 113 [.p (.ip b.cells),.j i] [] (.tup [.hd 0 0 (slI I f).length,.hd 1 0 (slO O).length]) [(1,.own 9 1 ((slO O).map .str)),(0,.own 9 1 ((slI I f).map .str))]:=by
 refine sK Gk func113 ?_;conv=>whnf
 have c:b.s.p=p:=by rw[N];exact(QU p).1
 have u:SpecH prog 165 ([eStrs I].map .p) [] (OneRow (Yn I) (I=[])):=QO I w;have v:SpecH prog 165 ([eStrs O].map .p) [] (OneRow (Yn O) (O=[])):=QO O y;have E:(b.ins.map eStrs)[i]?=some (eStrs I):=by rw[x1b,J];rfl
 have F:(b.Z.map eStrs)[i]?=some (eStrs O):=by rw[x1b,K];rfl
 have G:(p.A.map fun f=>AV.agg f.cells)[i]?=some (.agg f.cells):=by rw[x1b,M];rfl
 repeat' ((first|(refine gX ?_;intros)|refine dA ?_|refine iT E ?_|((first|apply bD|apply bE|apply bN|apply bB)<;>intro _<;>try omega))<;>conv=>whnf)
 refine VU 0 rfl u (.cons (.p (Sub.refl _)) .nil) (fun h=>?_) (fun q e sz es z=>?_);rotate_left;obtain⟨rfl,rfl,rfl⟩:=z
 rotate_right
 all_goals
  conv=>whnf
  repeat' ((first|(refine gX ?_;intros)|refine dA ?_|(refine IdxK.at (k:=i) rfl (by rw[c];exact G) rfl ?_)|((first|apply bD|apply bE|apply bN|apply bB)<;>intro _<;>try omega))<;>conv=>whnf)
 all_goals
  refine lJ (fun x:Nat×List Str=>⟨[(0,.p (.ip b.cells)),(1,.j i),(4,.hd 0 0 x.2.length),(27,.p (.sl (f.B.map fun a=>.agg a.cells))),(28,.p (.int .i64 (f.B.map fun a=>AV.agg a.cells).length)),(29,.j x.1)],[(0,.own 9 1 (x.2.map .str))]⟩) (fun x=>x.1<=f.B.length/\x.2=I++(f.B.take x.1).map Param.name) (fun x=>f.B.length-x.1) (0,I) (by first
    |exact Le.of_eq (by rw[x1j];rfl)
    |(subst h;exact lM [(0,.own 9 1 [])])) ⟨x1l _,by simp⟩ ?_
  rintro⟨j,r⟩ ⟨H,t⟩;simp only at H t⊢;have P:(f.B.map fun a=>AV.agg a.cells).length=f.B.length:=x1j _;have L:r.length<=I.length+j:=by rw[t];simp;omega
  rcases x1a j f.B.length with m|m
  ·have d:=x1t m;conv=>whnf
   repeat' ((first|(refine gX ?_;intros)|refine dA ?_|refine pS ?_|((first|apply bD|apply bE|apply bN|apply bB)<;>intro _<;>try omega))<;>conv=>whnf)
   all_goals exact⟨(j+1,r++[f.B[j].name]),⟨m,by simp only;rw[d,x1e,<-x2w,<-t];rfl⟩,by simp only;omega,Le.of_eq (by simp only[x1h,x1e];rfl)⟩
  rw[x1i m]at t;subst t;conv=>whnf
  repeat' ((first|(refine gX ?_;intros)|refine dA ?_|refine iT F ?_|((first|apply bD|apply bE|apply bN|apply bB)<;>intro _<;>try omega))<;>conv=>whnf)
  refine VU 1 rfl v (.cons (.p (Sub.refl _)) .nil) (fun h=>?_) (fun q e sz es z=>?_);rotate_left;obtain⟨rfl,rfl,rfl⟩:=z
  rotate_right
  all_goals
   conv=>whnf
   repeat' ((first|(refine gX ?_;intros)|refine dA ?_|refine ZE (es:=[]) rfl (by simp) ?_|refine pS ?_|((first|apply bD|apply bE|apply bN|apply bB)<;>intro _<;>try omega))<;>conv=>whnf)
   refine cJ rH1 0 (VV (I++f.B.map Param.name) (by simp;omega)) ?_;rintro l' H' ⟨rfl,rfl⟩;conv=>whnf
   repeat' ((first|(refine gX ?_;intros)|refine dA ?_|((first|apply bD|apply bE|apply bN|apply bB)<;>intro _<;>try omega))<;>conv=>whnf)
   refine cJ rH6 0 (VV (O++[retS]) (by simp;omega)) ?_ (ha:=(x2b (x6z (by first|(subst h;rfl)|exact x4w (LV.hd 1000 0) (show(O.map AV.str).length+1=(O++[retS]).length by simp))) x4v)) (hH:=by refine x2h (j:=1) rfl rfl ?_ ?_;exact CSub.of_eq (by first|(subst h;rfl)|(rw[x1e];rfl));exact x3n);rintro l' H' ⟨rfl,rfl⟩;conv=>whnf
   repeat' ((first|(refine gX ?_;intros)|refine dA ?_|((first|apply bD|apply bE|apply bN|apply bB)<;>intro _<;>try omega))<;>conv=>whnf)
 all_goals
  have g:(slI I f).length=(I++f.B.map Param.name).length:=ZW _;have C:(slO O).length=(O++[retS]).length:=ZW _;refine x3e _ (x2u _) ⟨?_,rfl⟩;rw[g,C];first
   |(subst h;rfl)
   |exact x4w (fun n=>LV.tup [LV.hd 0 0 (I++f.B.map Param.name).length,LV.hd 1 0 n]) (show(O.map AV.str).length+1=(O++[retS]).length by simp)
def clO(t:S)(O:List Str):List Str:=if t.name=[]then(slO O).filter (fun n=> !(n==retS))else slO O
def PF(O:List Str):(slO O).length=O.length+1:=by
 unfold slO;rw[ZW,x1h];rfl
def Ed:Info:={keep:=I_whole_piece_slots.keep,sched:=fun i=>bif beq i 1 then(.cons 0 false (.cons 1 false (.cons 2 false (.cons 4 false (.cons 5 false (.cons 6 false (.cons 8 false (.cons 7 true (.fork 3 (.cons 9 true (.cons 10 true (.cons 11 true (.cons 12 true (.cons 13 true (.cons 14 true (.cons 15 true .nil))))))) 9 (.cons 3 true (.cons 10 true (.cons 11 true (.cons 12 true (.cons 13 true (.cons 14 true (.cons 15 true .nil))))))))))))))))else I_whole_piece_slots.sched i,frz:=fun i=>bif beq i 4 then [[4],[5]]else I_whole_piece_slots.frz i}
theorem Mq(b:Book)(p:Pg)(d:b.s=sheetOf p)(t:S)(h:Nat)(j:Pr)(c:p.A[h]?=some j)(z:j.B.length<=1000000)(I O:List Str)(u:b.ins[h]?=some I)(v:b.Z[h]?=some O)(q:I.length<=1000000)(w:O.length<=1000)(r:aP 136 [.ip b.cells,.agg t.cells] (.int .i64 h))(i:Int)(f:Pr)(vs:List Vx):
  aH 115 [.ptr 1000 0,.p (.agg t.cells)] (vHp (.agg b.cells) i f vs) (.p (.tup [eStrs (slI I j),eStrs (clO t O)])) (vHp (.agg b.cells) i f vs):=by
 refine sK Ed func115 ?_;have y:=Yk b p d h j c z I O u v q (by omega);conv=>whnf
 repeat' ((first|(refine gX ?_;intros)|refine dA ?_|refine cP r ?_|((first|apply bD|apply bE|apply bN|apply bB)<;>intro _<;>try omega)|(refine cH [] 0 y ?_ (hH:=x3n))|refine x2j ?_ ?_|(refine cH rH6 0 (q1x (slO O) (by rw[PF];omega) 169 (fun n=>n==retS) (fun s=>PN s)) ?_)|refine LenK.mk (by simp) ?_)<;>conv=>whnf)
 all_goals first
  | (have k:(t.name==(⟨#[]⟩:ByteArray).data.toList)=true:=by assumption
     have m:t.name=[]:=by simpa using k
     exact x3e _ (x2u _) ⟨by unfold clO;rw[if_pos m];rfl,rfl⟩)
  | (have k:(t.name==(⟨#[]⟩:ByteArray).data.toList)=false:=by assumption
     have m:¬t.name=[]:=by simpa using k
     exact x3e _ (x2u _) ⟨by unfold clO;rw[if_neg m];rfl,rfl⟩)
end Go.Ab
