/- give: does the entry's worth of a name come to somebody who needs it? -/
import Derived.Maps.RangeRun
import Derived.Test.YtonbdgcjnecapaaGreatRchR9
import Derived.Test.YtonbdgcjnecapaaGreatRchR11
import Derived.Test.YtonbdgcjnecapaaGreatRchR14
import Derived.Test.YtonbdgcjnecapaaGreatRchR20
set_option linter.all false
set_option maxRecDepth 100000
set_option maxHeartbeats 16000000
namespace Go.Ab
open Go.Proofs.Tryz
open Go.Proofs
variable {α:Type}{I' O:List (List Str)}{K:St->Prop}{j:Nat}{t:TypeId}
section
variable (p:Pg)(i:Nat)(f:Pr)(D U:List (List Str))(o:List Str)(x:Str)
def idN(a:Int):Int:=QT p i (cntL f.body+2:Nat) a
def hitN(a:Int):Bool:=bif decide (a=(cntL f.body+2:Nat)-1)then inS o x else bif decide (0<a)then inS (FJ U (idN p i f a)) x else false
def GG(a:Int):Bool:=bif decide (a=(cntL f.body+2:Nat)-1)then false else bif decide (0<a)then !inS (FJ D (idN p i f a)) x else true
def netR(p:Pg)(i:Nat)(f:Pr):List (List Int):=Q2 (cntL f.body+2) (YT (newWay p i f) f)
def x2m:List (Int×Int):=(YT (newWay p i f) f).filter fun t=>GG p i f D x t.1
def CZ:Bool:=(HI 0 (ZN (QL (cntL f.body+2) (x2m p i f D x)).1 [0])).any (hitN p i f U o x)
end
section
variable {p:Pg}{i:Nat}{f:Pr}{D U:List (List Str)}{o:List Str}{x:Str}
def nR(p:Pg)(i:Nat)(f:Pr)(D:List (List Str))(x:Str)(a b:Int):Prop:=GG p i f D x a=true/\(a,b)∈YT (newWay p i f) f
theorem BB(h:chkB p=true)(m:p.A[i]?=some f):CZ p i f D U o x=true ↔ ∃a,Rch (nR p i f D x) 0 a/\hitN p i f U o x a=true:=by
 unfold CZ;rw[x8e];refine exists_congr fun a=>and_congr_left fun _=>?_;rw[Y7 (by omega)];have e:∀a b,((a,b)∈x2m p i f D x/\ZB (cntL f.body+2) b=true)↔nR p i f D x a b:=fun a b=>by
  unfold x2m nR;rw[x8d];constructor
  ·exact fun k=>⟨k.1.2,k.1.1⟩
  ·intro k;have l:=(HD h m _ k.2).2;exact⟨⟨k.2,k.1⟩,by unfold ZB;simp;omega⟩
 exact⟨fun k=>k.mono fun a b l=>(e a b).1 l,fun k=>k.mono fun a b l=>(e a b).2 l⟩
def Rg(h:chkB p=true)(s:p.A[i]?=some f){S:Int->Prop}(l:S 0)(m:∀a,S a->hitN p i f U o x a=false)(q:∀a b,S a->nR p i f D x a b->S b):CZ p i f D U o x=false:=by
 cases u:CZ p i f D U o x with
 |false=>rfl
 | true=>
   obtain⟨a,r,k⟩:=(BB h s).1 u;rw[m a (Rch.closed q l r)]at k;cases k
structure NedI(p:Pg)(i:Nat)(f:Pr)(D U:List (List Str))(o:List Str)(x:Str)(n:Nat)(seen:List Bool)(todo:List Int):Prop where
 len:seen.length=n
 rng:∀a∈todo,0<=a/\a<(n:Int)
 way:∀a:Int,(a=0\/seen.getD a.toNat false=true/\0<=a)->Rch (nR p i f D x) 0 a
 td:∀a∈todo,a=0\/seen.getD a.toNat false=true/\0<=a
 done:∀a:Int,(a=0\/seen.getD a.toNat false=true/\0<=a)->a∉todo->hitN p i f U o x a=false/\∀b,nR p i f D x a b->seen.getD b.toNat false=true
structure NedJ(p:Pg)(i:Nat)(f:Pr)(D U:List (List Str))(o:List Str)(x:Str)(n:Nat)(a:Int)(k:Nat)(seen:List Bool)(todo:List Int):Prop where
 len:seen.length=n
 rng:∀a∈todo,0<=a/\a<(n:Int)
 way:∀a:Int,(a=0\/seen.getD a.toNat false=true/\0<=a)->Rch (nR p i f D x) 0 a
 td:∀a∈todo,a=0\/seen.getD a.toNat false=true/\0<=a
 me:Rch (nR p i f D x) 0 a
 done:∀b:Int,(b=0\/seen.getD b.toNat false=true/\0<=b)->b∉todo->b≠a->hitN p i f U o x b=false/\∀c,nR p i f D x b c->seen.getD c.toNat false=true
 row:∀c∈((netR p i f).getD a.toNat []).take k,seen.getD c.toNat false=true
def q7x{l:List Bool}{k:Nat}(h:(l.set k true).getD j false=true):j=k\/l.getD j false=true:=by
 rcases Nat.decEq j k with m|rfl
 .right
  rwa[x7w,x9p (z1d m),<-x7w]at h
 .exact .inl rfl
def R7{l:List Bool}{k:Nat}(h:l.getD j false=true):(l.set k true).getD j false=true:=by
 rcases Nat.decEq j k with q|rfl
 .rwa [x7w,x9p (z1d q),<-x7w]
 .have r:j<l.length:=by
   rcases x7m j l.length with m|m
   .exact m
   .rw [x7w,x9z m]at h;cases h
  rw[x7w,x9j r];rfl
def q3c{l:List Bool}{k:Nat}(h:k<l.length):(l.set k true).getD k false=true:=by
 rw[x7w,x9j h];rfl
variable {n:Nat}{seen:List Bool}{todo:List Int}{a:Int}
theorem NedI.start(n:Nat)(m:0<n):NedI p i f D U o x n (List.replicate n false) [0]:=by
 have l:∀k:Nat,(List.replicate n false).getD k false=true->False:=fun k h=>by
  rw[x7w,x8g]at h;split at h<;>cases h
 refine⟨x9w,fun a ha=>by rw[x7y.1 ha];omega,fun a ha=>?_,fun a ha=>.inl (x7y.1 ha),fun a ha m=>?_⟩
 ·rcases ha with rfl|⟨h,_⟩
  ·exact .refl
  ·exact(l _ h).elim
 ·rcases ha with rfl|⟨h,_⟩
  ·exact absurd (x7y.2 rfl) m
  ·exact(l _ h).elim
theorem NedI.stop(h:chkB p=true)(q:p.A[i]?=some f)(l:NedI p i f D U o x n seen []):CZ p i f D U o x=false:=by
 refine Rg h q (S:=fun a=>a=0\/seen.getD a.toNat false=true/\0<=a) (.inl rfl) (fun a ha=>(l.done a ha (by simp)).1) fun a b ha m=>?_;have r:=(l.done a ha (by simp)).2 b m;have u:=(HD h q _ m.2).2;exact .inr ⟨r,u.1⟩
theorem NedI.skip(l:NedI p i f D U o x n seen (todo++[a]))(v:hitN p i f U o x a=false)(r:GG p i f D x a=false):NedI p i f D U o x n seen todo:=by
 refine⟨l.len,fun b m=>l.rng b (x8t _ m),l.way,fun b m=>l.td b (x8t _ m),fun b m y=>?_⟩;by_cases u:b=a
 .subst u;exact⟨v,fun c w=>by rw[w.1]at r;cases r⟩
 .exact l.done b m fun q=>(x7b.1 q).elim y fun q=>u (x7y.1 q)
theorem NedI.open(l:NedI p i f D U o x n seen (todo++[a])):NedJ p i f D U o x n a 0 seen todo:=
 ⟨l.len,fun b m=>l.rng b (x8t _ m),l.way,fun b m=>l.td b (x8t _ m),l.way a (l.td a (x8s _ (x7y.2 rfl))),
   fun b m v u=>l.done b m fun q=>(x7b.1 q).elim v fun q=>u (x7y.1 q),fun c r=>by rw[List.take_zero]at r;cases r⟩
theorem NedJ.shut(h:chkB p=true)(r:p.A[i]?=some f){k:Nat}(l:NedJ p i f D U o x n a k seen todo)(w:((netR p i f).getD a.toNat []).length<=k)(u:hitN p i f U o x a=false):NedI p i f D U o x n seen todo:=by
 refine⟨l.len,l.rng,l.way,l.td,fun b v y=>?_⟩;by_cases q:b=a
 ·subst q;refine⟨u,fun c m=>l.row c ?_⟩;rw[x7a w];exact(Yc fun t z=>(HD h r t z).1).2 ⟨(b,c),m.2,by have:=(HD h r _ m.2).1;simp only at this⊢;omega,rfl⟩
 ·exact l.done b v y q
theorem NedJ.old{k:Nat}(l:NedJ p i f D U o x n a k seen todo)(r:k<((netR p i f).getD a.toNat []).length)(u:seen.getD (((netR p i f).getD a.toNat [])[k]).toNat false=true):NedJ p i f D U o x n a (k+1) seen todo:=by
 refine⟨l.len,l.rng,l.way,l.td,l.me,l.done,fun c q=>?_⟩;rcases(HF r).1 q with m|rfl
 .exact l.row c m
 .exact u
theorem NedJ.new{k:Nat}(q:NedJ p i f D U o x n a k seen todo)(C:k<((netR p i f).getD a.toNat []).length){c:Int}(g:c=((netR p i f).getD a.toNat [])[k])(z:0<=c/\c<(n:Int))(e:nR p i f D x a c):NedJ p i f D U o x n a (k+1) (seen.set c.toNat true) (todo++[c]):=by
 have w:c.toNat<seen.length:=by rw[q.len];omega
 have u:∀b:Int,(b=0\/(seen.set c.toNat true).getD b.toNat false=true/\0<=b)->b=c\/(b=0\/seen.getD b.toNat false=true/\0<=b):=fun b m=>by
  rcases m with l|⟨l,r⟩
  ·exact .inr (.inl l)
  ·rcases q7x l with v|v
   ·exact .inl (by omega)
   ·exact .inr (.inr ⟨v,r⟩)
 refine⟨by rw[x9d];exact q.len,fun b m=>?_,fun b m=>?_,fun b m=>?_,q.me,fun b m y B=>?_,fun b m=>?_⟩
 ·rcases x7b.1 m with l|l
  ·exact q.rng b l
  ·rw[x7y.1 l];exact z
 ·rcases u b m with rfl|l
  ·exact .tail q.me e
  ·exact q.way b l
 ·rcases x7b.1 m with l|l
  ·rcases q.td b l with r|r
   ·exact .inl r
   ·exact .inr ⟨R7 r.1,r.2⟩
  ·rw[x7y.1 l];exact .inr ⟨q3c w,z.1⟩
 ·rcases u b m with rfl|l
  ·exact absurd (x8s _ (x7y.2 rfl)) y
  ·obtain⟨r,v⟩:=q.done b l (fun h=>y (x8t _ h)) B;exact⟨r,fun d A=>R7 (v d A)⟩
 ·rcases(HF C).1 m with l|l
  ·exact R7 (q.row b l)
  ·rw[l,<-g];exact q3c w
end
def Tw(p:Pg)(i:Nat)(f:Pr)(D U:List (List Str))(o:List Str):List Str:=(p.B++[GM]).filter (CZ p i f D U o)
def fzL{N:Nat}{a b c d e:AV}{L:List Str}{n:Nat}(l:n=(L.map AV.str).length):
  Le N ⟨[(0,.p a),(1,.p b),(5,.p .nils),(6,.p c),(27,.hd 0 0 n),(28,.p d),(29,.p e)],[(0,.own 9 1 (L.map .str))]⟩ ⟨[(0,.p a),(1,.p b),(5,.hd 0 0 0),(6,.p c),(27,.p (eStrs L)),(28,.p d),(29,.p e)],[(0,.own 9 1 [])]⟩:=by
 subst l;obtain⟨s',rfl,h⟩:=Le.row (N:=N) (s:=⟨[(0,.p a),(1,.p b),(5,.p .nils),(6,.p c),(27,.hd 0 0 (L.map AV.str).length),(28,.p d),(29,.p e)],[(0,.own 9 1 (L.map .str))]⟩) (k:=0) (e:=9) (sz:=1) (es:=L.map .str) (zs:=[27]) rfl
  (K:=fun s=>s=⟨[(0,.p a),(1,.p b),(5,.p .nils),(6,.p c),(27,.p (eStrs L)),(28,.p d),(29,.p e)],[]⟩) ⟨rfl,rfl⟩
 exact h.trans (Le.mk [(0,.own 9 1 [])] (by simp[Chunk.new0];rfl) (by simp) (by simp) (.r (.r (.cons (.nil x7v) (.r (.r (.r (.r .nil))))))) (.new x7v .nil))
theorem Fr(b:Book)(p:Pg)(hp:b.s=sheetOf p)(h:chkB p=true)(i:Nat)(f:Pr)(l:p.A[i]?=some f)(Y:b.ways[i]?=some (newWay p i f))(o:List Str)(R:∀x,SpecP prog 171 [.ip b.cells,.int .i64 i,eMat (netR p i f),.str x] (fun r=>r=.bool (CZ p i f b.N b.O o x))):SpecH prog 99 [.p (.ip b.cells),.j i] [] (fun r H=>OneRow (Kx (Tw p i f b.N b.O o)) False r H):=by
 refine sH Vl func99 rfl call99 ?_;conv=>whnf
 have G:b.s.p=p:=by rw[hp];exact(QU p).1
 have hg:=(XQ h).1;have Z:=Fv h l;have F:=RK (newWay p i f) f (cntL f.body+2) (q8q h l) (HD h l) (by omega);have z:SpecP prog 169 [.ip (newWay p i f).cells] (fun r=>r=eMat (netR p i f)):=F;have E:SpecH prog 170 ([eStrs p.B].map .p) [] (OneRow (Kx p.B) (p.B=[])):=XR p.B (by omega);have I:(b.ways.map fun w=>AV.ip w.cells)[i]?=some (.ip (newWay p i f).cells):=by rw[x7k,Y];rfl
 generalize newWay p i f=w at*
 generalize netR p i f=net at*
 repeat' ((first|(refine IdxK.at (k:=i) rfl I rfl ?_)|refine cP z ?_);conv=>whnf)
 obtain⟨L,C⟩ : ∃L,L=p.B++[GM]:=⟨_,rfl⟩;have Q:L.length<=17:=by rw[C,x7u];simp;omega
 have c:Tw p i f b.N b.O o=L.filter (CZ p i f b.N b.O o):=by unfold Tw;rw[C]
 rw[c];generalize CZ p i f b.N b.O o=ned at*
 refine UJ 0 rfl E (.cons (.p (Sub.of_eq (by rw[G]))) .nil) (fun d=>?_) (fun q e sz es V=>?_);rotate_left;obtain⟨rfl,rfl,rfl⟩:=V
 rotate_right
 all_goals
  conv=>whnf
  repeat' ((first|(refine iM fun _=>?_)|refine x7g rfl ?_|refine aD ?_|refine bP ?_|refine QO (es:=[]) rfl (by simp) ?_|refine QO (by simp) (by simp;omega) ?_);conv=>whnf)
 all_goals
  refine LoopK.inv QV (fun x:Nat×List Str=>⟨[(0,.p (.ip b.cells)),(1,.j i),(5,.hd 0 0 x.2.length),(6,.p (eMat net)),(27,.p (eStrs L)),(28,.p (.int .i64 (L.map AV.str).length)),(29,.j x.1)],[(0,.own 9 1 (x.2.map .str))]⟩) (fun x=>x.1<=L.length/\x.2=(L.take x.1).filter ned/\x.2.length<=x.1) (fun x=>L.length-x.1) (0,[])
   (by first
     |exact Le.trans (Le.of_eq (by rw[C,d];rfl)) (fzL (L:=L) rfl)
     |exact Le.trans (Le.of_eq (by rw[C];simp only[x7n,x7u];rfl)) (fzL (L:=L) rfl)
     |trace_state) ⟨x7p _,by simp,by simp⟩ ?_
  rintro⟨j,u⟩ ⟨J,v,M⟩;simp only at J v M⊢;have hlm:(L.map AV.str).length=L.length:=x7z _;rcases x7m j L.length with l|l
  ·have g:=x7r l;have y:=R L[j];have e5:(L.map AV.str)[j]?=some (.str L[j]):=by simp[l]
   cases m:ned L[j];all_goals
    rw[m]at y;conv=>whnf
    repeat' (first|((first|refine x7g rfl ?_|refine aD ?_|refine bP ?_|(refine iA fun _=>?_)|refine wI ?_|refine cP y ?_|refine QO (by simp) (by rw[x7z];omega) ?_|refine Br.tt ?_|refine Br.ff ?_);conv=>whnf)|(apply bD<;>intro _<;>first|omega|conv=>whnf))
   all_goals first
    |exact⟨(j+1,u++[L[j]]),⟨l,by simp only;rw[g,z0u,z0x m,v];rfl,by simp;omega⟩,by simp only;omega,Le.of_eq (by simp only[x7u,x7n];rfl)⟩
    |exact⟨(j+1,u),⟨l,by simp only;rw[g,z0u,z0j (by rw[m];decide),v];simp,by simp only;omega⟩,by simp only;omega,Le.of_eq rfl⟩
  ·rw[x7a l]at v;subst v;conv=>whnf
   repeat' (apply bD<;>intro _<;>first|omega|conv=>whnf)
   all_goals exact x9h _ (x8z _) (OneRow.str rfl)
def bkI(p:Pg)(I:List (List Str)):Book:=⟨sheetOf p,[],[],[],I,[]⟩
def usB(p:Pg)(I:List (List Str)):List (List Str):=(sheetOf p).l.map fun it=>WA (MZ (bkI p I) it.s)
def niA(p:Pg)(D U O:List (List Str))(i:Nat):List Str:=WA (Tw p i (prA p i) D U (O.getD i []))
def niB(p:Pg)(D U O:List (List Str)):List (List Str):=(List.range p.A.length).map (niA p D U O)
def rdI(p:Pg)(D O I:List (List Str)):List (List Str):=niB p D (usB p I) O
def itI(p:Pg)(D O:List (List Str)):Nat->List (List Str)
 |0=>List.replicate p.A.length []
 |k+1=>rdI p D O (itI p D O k)
structure OkI(p:Pg)(I:List (List Str)):Prop where
 len:I.length=p.A.length
 rise:∀o∈I,o.Pairwise ltT
 sub:∀i,∀n∈I.getD i [],comB p n=true
theorem OkI.len25{p:Pg}{I:List (List Str)}(r:chkB p=true)(h:OkI p I)(i:Nat):(I.getD i []).length<=25:=by
 have l:=DR (m:=GM::p.B) (UL (LP h.rise i)) fun n u=>by
  rcases LY.1 (h.sub i n u)with rfl|q
  ·exact x7v
  ·exact x7j _ q
 have v:=(XQ r).1;rw[x8j]at l;omega
theorem OkI.use{p:Pg}{I:List (List Str)}(l:chkB p=true)(h:OkI p I){b:Book}(v:b.s=sheetOf p)(q:b.ins=I){t:S}(r:t∈VD p)(m:t.kind=4):UseOk b t:=by
 obtain⟨k,z,w,_⟩:=LZ l r m;have y:=(LX l r m).2;have e:b.s.p=p:=by rw[v];exact(QU p).1
 have u:inAt b t=I.getD (caI p t).toNat []:=by unfold inAt;rw[e,q]
 refine⟨by rw[e];omega,by rw[e,q,h.len];omega,by omega,?_⟩;rw[u];have:=h.len25 l (caI p t).toNat;omega
def IJ{p:Pg}{I:List (List Str)}{b:Book}(k:b.s=sheetOf p)(h:b.ins=I)(t:S):MZ b t=MZ (bkI p I) t:=by
 unfold MZ inAt bkI;rw[k,h]
theorem IK{p:Pg}{I:List (List Str)}(h:leO I I'){t:S}{n:Str}(k:n∈MZ (bkI p I) t):n∈MZ (bkI p I') t:=by
 unfold MZ at k⊢;split at k
 ·rw[if_pos (by assumption)];rcases x7b.1 k with k|k
  ·exact x8t _ k
  ·exact x8s _ (h _ _ k)
 ·rw[if_neg (by assumption)];exact k
def q2y{p:Pg}{I:List (List Str)}(h:leO I I'):leO (usB p I) (usB p I'):=fun i n m=>by
 obtain⟨it,k,l⟩:=KV.1 m;exact KV.2 ⟨it,k,ZQ.2 (IK h (ZQ.1 l))⟩
def AS{p:Pg}{i:Nat}{f:Pr}{U k:List (List Str)}{o:List Str}{x:Str}(h:leO U k){a:Int}(ha:hitN p i f U o x a=true):hitN p i f k o x a=true:=by
 unfold hitN at ha⊢;cases l:decide (a=(cntL f.body+2:Nat)-1)with
 |true=>rw[l]at ha;exact ha
 | false=>
   rw[l]at ha;cases m:decide (0<a)with
   | true=>
     rw[m]at ha;exact UN.2 (h _ _ (UN.1 ha))
   |false=>rw[m]at ha;cases ha
def D9{p:Pg}{D U:List (List Str)}{i:Nat}(l:i<p.A.length){n:Str}:n∈(niB p D U O).getD i []↔comB p n=true/\CZ p i (prA p i) D U (O.getD i []) n=true:=by
 unfold niB;rw[KV];have e:n∈niA p D U O i↔comB p n=true/\CZ p i (prA p i) D U (O.getD i []) n=true:=by
  unfold niA Tw;rw[ZQ,x8d,LY,x7b,x7y,or_comm]
 rw[<-e];constructor
 .rintro ⟨x,k,m⟩;rw[z1p l]at k;cases k;exact m
 .exact fun h=>⟨i,z1p l,h⟩
def Ef{p:Pg}{D U:List (List Str)}{i:Nat}(l:¬i<p.A.length){n:Str}(h:n∈(niB p D U O).getD i []):False:=by
 obtain⟨x,k,_⟩:=KV.1 h;rw[x9z (by simpa using l)]at k;cases k
def q1z{p:Pg}(l:chkB p=true){D I:List (List Str)}(h:leO I I'):leO (rdI p D O I) (rdI p D O I'):=fun i n m=>by
 by_cases k:i<p.A.length
 .obtain ⟨q,r⟩:=(D9 k).1 m;obtain⟨a,s,u⟩:=(BB l (W2 k)).1 r;exact(D9 k).2 ⟨q,(BB l (W2 k)).2 ⟨a,s,AS (q2y h) u⟩⟩
 .exact (Ef k m).elim
theorem q3w{p:Pg}(l:chkB p=true)(D O:List (List Str)):∀k,leO (itI p D O k) (itI p D O (k+1))
 | 0=>fun i n h=>by
   unfold itI at h;rw[x7w,x8g]at h;split at h<;>cases h
 |k+1=>q1z l (q3w l D O k)
def q3d(p:Pg)(D U O:List (List Str)):OkI p (niB p D U O):=by
 refine⟨by unfold niB;rw[x7z,x9t],fun o l=>?_,fun i n k=>?_⟩
 .obtain ⟨i,_,rfl⟩:=x7d.1 l;exact ZF _
 .by_cases h:i<p.A.length
  .exact ((D9 h).1 k).1
  .exact (Ef h k).elim
def Yw(p:Pg)(D O:List (List Str)):∀k,OkI p (itI p D O k)
 | 0=>by
   refine⟨by unfold itI;rw[x9w],fun o l=>?_,fun i n h=>?_⟩
   .rw [z0r l];exact .nil
   .unfold itI at h;rw[x7w,x8g]at h;split at h<;>cases h
 |k+1=>q3d p _ _ _
theorem OkI.tot{p:Pg}{I:List (List Str)}(l:chkB p=true)(h:OkI p I):Go.Ab.tot I<=400:=by
 have m:=Da (O:=I) fun o r=>by
  obtain⟨i,q,rfl⟩:=x9s.1 r;have:=h.len25 l i
  rwa[x7w,x7x q]at this
 have u:=(XQ l).2.1;rw[h.len]at m;omega
def Tj{p:Pg}(q:chkB p=true){D:List (List Str)}{k:Nat}(h:itI p D O (k+1)≠itI p D O k):Go.Ab.tot (itI p D O k)<Go.Ab.tot (itI p D O (k+1)):=by
 obtain⟨r,m⟩:=Ic (O:=itI p D O k) (O':=itI p D O (k+1)) (by rw[(Yw p D O k).len,(Yw p D O (k+1)).len]) (Yw p D O k).rise (Yw p D O (k+1)).rise (q3w q D O k);rcases x7m (Go.Ab.tot (itI p D O k)) (Go.Ab.tot (itI p D O (k+1)))with l|l
 .exact l
 .exact absurd (m l).symm h
def wysB(p:Pg):List Way:=(List.range p.A.length).map fun i=>newWay p i (prA p i)
def B8{p:Pg}{i:Nat}(h:i<p.A.length):(wysB p)[i]?=some (newWay p i (prA p i)):=by
 unfold wysB;rw[x7k,z1p h];rfl
structure BookR(p:Pg)(b:Book):Prop where
 s:b.s=sheetOf p
 ways:b.ways=wysB p
 Q:∃k,b.Q=itO p k
 fixO:rdO p b.Q=b.Q
 N:b.N=dfB p b.Q
 ins:∃k,b.ins=itI p b.N b.Q k
 fixI:rdI p b.N b.Q b.ins=b.ins
 O:b.O=usB p b.ins
theorem D0{p:Pg}{k:Nat}(h:rdO p (itO p k)=itO p k):∀m,itO p (k+m)=itO p k
 |0=>rfl
 | m+1=>by
   show rdO p (itO p (k+m))=_;rw[D0 h m,h]
theorem Fi{p:Pg}{D O:List (List Str)}{k:Nat}(h:rdI p D O (itI p D O k)=itI p D O k):∀m,itI p D O (k+m)=itI p D O k
 |0=>rfl
 | m+1=>by
   show rdI p D O (itI p D O (k+m))=_;rw[Fi h m,h]
theorem BookR.uniq{p:Pg}{b c:Book}(l:BookR p b)(q:BookR p c):b=c:=by
 obtain⟨k,v⟩:=l.Q;obtain⟨m,r⟩:=q.Q;have w:b.Q=c.Q:=by
  have y:=D0 (p:=p) (k:=k) (by rw[<-v];exact l.fixO) m;have z:=D0 (p:=p) (k:=m) (by rw[<-r];exact q.fixO) k;rw[v,r,<-y,<-z,z3a]
 have e:b.N=c.N:=by rw[l.N,q.N,w]
 obtain⟨k,v⟩:=l.ins;obtain⟨m,r⟩:=q.ins;have A:b.ins=c.ins:=by
  have g:=l.fixI;have u:=q.fixI;rw[<-w,<-e]at r u;have y:=Fi (p:=p) (D:=b.N) (O:=b.Q) (k:=k) (by rw[<-v];exact g) m;have z:=Fi (p:=p) (D:=b.N) (O:=b.Q) (k:=m) (by rw[<-r];exact u) k;rw[v,r,<-y,<-z,z3a]
 have C:b.O=c.O:=by rw[l.O,q.O,A]
 have B:b.s=c.s:=by rw[l.s,q.s]
 have E:b.ways=c.ways:=by rw[l.ways,q.ways]
 cases b;cases c;simp only at w e A C B E;subst w e A C B E;rfl
noncomputable def QK(p:Pg):Book:=@Classical.epsilon _ ⟨bkO p []⟩ (BookR p)
theorem BookR.eq{p:Pg}{b:Book}(h:BookR p b):b=QK p:=h.uniq (@Classical.epsilon_spec _ (BookR p) ⟨b,h⟩)
theorem q5a{p:Pg}(m:chkB p=true):∃k,itO p (k+1)=itO p k:=by
 refine z0c fun h=>?_;have l:∀k,k<=Go.Ab.tot (itO p k):=fun k=>by
  induction k with
  |zero=>exact x7p _
  | succ k u=>
    have:=Tk (p:=p) (k:=k) fun q=>h ⟨k,q⟩;omega
 have r:=(Yv p 401).tot m;have s:=l 401;omega
theorem q5c{p:Pg}(l:chkB p=true)(D O:List (List Str)):∃k,itI p D O (k+1)=itI p D O k:=by
 refine z0c fun h=>?_;have m:∀k,k<=Go.Ab.tot (itI p D O k):=fun k=>by
  induction k with
  |zero=>exact x7p _
  | succ k u=>
    have:=Tj l (p:=p) (D:=D) (O:=O) (k:=k) fun q=>h ⟨k,q⟩;omega
 have r:=(Yw p D O 401).tot l;have s:=m 401;omega
def UF{p:Pg}(l:chkB p=true):BookR p (QK p):=by
 obtain⟨k,q⟩:=q5a l;obtain⟨m,r⟩:=q5c l (dfB p (itO p k)) (itO p k);have h:BookR p ⟨sheetOf p,wysB p,dfB p (itO p k),usB p (itI p (dfB p (itO p k)) (itO p k) m),itI p (dfB p (itO p k)) (itO p k) m,itO p k⟩:=⟨rfl,rfl,⟨k,rfl⟩,q,rfl,⟨m,rfl⟩,r,rfl⟩;rw[<-h.eq];exact h
def Lr{p:Pg}(l:chkB p=true):OkO p (QK p).Q/\OkI p (QK p).ins:=by
 have h:=UF l;obtain⟨k,q⟩:=h.Q;obtain⟨m,r⟩:=h.ins;exact⟨q▸Yv p k,r▸Yw p _ _ m⟩
def SJ(p:Pg)(i:Nat)(f:Pr)(D:List (List Str))(I:List Str)(a:Nat):List Str:=
 if a=0 then WA (I++f.C.map Param.name)else if a=cntL f.body+1 then []else bif (newWay p i f).live.getD a false then D.getD (QP p.A i+a-1) []else []
def q3i(p:Pg)(i:Nat)(f:Pr)(U:List (List Str))(O:List Str)(a:Nat):List Str:=
 if a=cntL f.body+1 then WA (O++[q1u])else if a=0 then []else bif (newWay p i f).live.getD a false then U.getD (QP p.A i+a-1) []else []
def RC(l:List Str)(h:l.length<=1000000):SpecH prog 170 ([eStrs l].map .p) [] (OneRow (Kx l) (l=[])):=XR l h
theorem Mb(l:List Str)(h:l.length<=1000000):SpecH prog 94 [.hd 1000 0 l.length] [(1000,.own 9 1 (l.map .str))] (fun r H=>r=.hd 1000 0 (WA l).length/\H=[(1000,.own 9 1 ((WA l).map .str))]):=Y3 l (by omega)
theorem Ui(b:Book)(p:Pg)(hp:b.s=sheetOf p)(h:chkB p=true)(i:Nat)(f:Pr)(c:p.A[i]?=some f)(hW:b.ways[i]?=some (newWay p i f))(I:List Str)(Y:b.ins[i]?=some I)(Z:I.length<=1000)(hD:b.N.length=(sheetOf p).l.length)(a:Nat)(ha:a<cntL f.body+2):SpecP prog 172 [.ip b.cells,.int .i64 i,.int .i64 a] (fun r=>r=eStrs (SJ p i f b.N I a)):=by
 refine sB Qs func172 rfl call172 ?_;conv=>whnf
 have E:b.s.p=p:=by rw[hp];exact(QU p).1
 obtain⟨hsp,_,_,V,hs⟩:=QU p;obtain⟨_,_,hle,_⟩:=hs i f c;have hcn:=(XQ h).2.2;have hT:=q8q h c;have F:(b.s.p.A.map fun f=>AV.agg f.cells)[i]?=some (.agg f.cells):=by rw[E,x7k,c];rfl
 have u:(b.ways.map fun w=>AV.ip w.cells)[i]?=some (.ip (newWay p i f).cells):=by rw[x7k,hW];rfl
 have G:(b.ins.map eStrs)[i]?=some (eStrs I):=by rw[x7k,Y];rfl
 have v:=UX (newWay p i f) f hT.hj hT.hc (by have:=hT.hn2;have:=hT.hn;have:=hT.hw;omega) a (by omega);have d:=RC I (by omega);have hll:(newWay p i f).live.length=cntL f.body+2:=by show(KH _ (List.replicate (cntL f.body+2) false)).length=_;rw[Z5];simp
 have hwn:(newWay p i f).n=(cntL f.body+2:Nat):=rfl;have J:((newWay p i f).live.map bv)[a]?=some (bv ((newWay p i f).live.getD a false)):=by
  rw[x7k,x7w,x7x (by omega)];rfl
 have z:f.C.length<=8:=((JB (QY h).1).pr f (x7t c)).1;unfold SJ;by_cases Q:a=0
 ·subst Q;rw[if_pos rfl];repeat' (first|((first|(refine IdxK.at (k:=i) rfl u rfl ?_)|(refine IdxK.at (k:=i) rfl G rfl ?_));conv=>whnf)|(apply bD<;>intro _<;>first|omega|conv=>whnf))
  have hpm:(f.C.map fun x=>AV.agg x.cells).length=f.C.length:=x7z _;refine UJ 0 rfl d (.cons (.p (Sub.refl _)) .nil) (fun y=>?_) (fun q e sz es hR=>?_);rotate_left;obtain⟨rfl,rfl,rfl⟩:=hR
  rotate_right
  all_goals
   conv=>whnf
   repeat' ((first|(refine iM fun _=>?_)|(refine IdxK.at (k:=i) rfl F rfl ?_));conv=>whnf)
  all_goals
   refine LoopK.inv QV (fun k:Nat=>⟨[(8,.hd 0 0 (I++(f.C.take k).map Param.name).length),(40,.p (.sl (f.C.map fun a=>AV.agg a.cells))),(41,.p (.int .i64 (f.C.map fun a=>AV.agg a.cells).length)),(42,.j k)],[(0,.own 9 1 ((I++(f.C.take k).map Param.name).map .str))]⟩) (fun k=>k<=f.C.length) (fun k=>f.C.length-k) 0
    (by first
      |exact Le.of_eq (by simp;rfl)
      | (rw[y]
         exact Le.mk [(0,.own 9 1 [])] (by simp[Chunk.new0];rfl) (by simp) (by simp) (.cons (.nil x7v) (.r (.r (.r .nil)))) (.new x7v .nil))
      |trace_state) (x7p _) ?_
   intro k hk;have hpl:f.C.length<=8:=z;have B:(I++(f.C.take k).map Param.name).length<=1100:=by rw[x7u,x7z,x8q];omega
   rcases x7m k f.C.length with m|m
   ·have M:I++(f.C.take (k+1)).map Param.name=(I++(f.C.take k).map Param.name)++[f.C[k].name]:=by rw[x7r m,x7n,x8w];rfl
    generalize I++(f.C.take k).map Param.name=acc at*
    conv=>whnf
    repeat' (first|((first|refine x7g rfl ?_|refine aD ?_|refine bP ?_|(refine iA fun _=>?_)|refine wI ?_|refine QO (by simp) (by rw[x7z];omega) ?_);conv=>whnf)|(apply bD<;>intro _<;>first|omega|conv=>whnf))
    all_goals first
     |exact⟨k+1,m,by omega,Le.of_eq (by rw[M];simp only[x7u,x7n];rfl)⟩
   ·rw[x7a m]at B⊢;have g:=Mb (I++f.C.map Param.name) (by omega);generalize I++f.C.map Param.name=acc at*
    conv=>whnf
    repeat' (first|(apply bD<;>intro _<;>first|omega|conv=>whnf)|(refine cH rH2 0 g ?_;conv=>whnf))
    all_goals first
     |exact⟨_,.hd rfl (by simp),rfl⟩
 ·rw [if_neg Q];by_cases R:a=cntL f.body+1
  ·rw[if_pos R];repeat' (first|((first|refine wI ?_|(refine IdxK.at (k:=i) rfl u rfl ?_));conv=>whnf)|(apply bD<;>intro _<;>first|omega|conv=>whnf))
   all_goals first
    |(exfalso;omega)
    |exact⟨_,.p Sub.nils,rfl⟩
  ·rw[if_neg R];have L:QT (newWay p i f).p (newWay p i f).j (newWay p i f).n a=((QP p.A i+a:Nat):Int):=by
    show QT p i (cntL f.body+2:Nat) a=_;unfold QT loI;rw[if_neg (by omega),if_neg (by omega)];omega
   rw[L]at v;have H:(b.N.map eStrs)[QP p.A i+a-1]?=some (eStrs (b.N.getD (QP p.A i+a-1) [])):=by
    rw[x7k,x7w,x7x (by omega)];rfl
   generalize(newWay p i f).live.getD a false=lv at*
   cases lv;all_goals
    repeat' (first|((first|refine dA ?_|refine wI ?_|(refine IdxK.at (k:=i) rfl u rfl ?_)|(refine IdxK.at (k:=a) rfl J rfl ?_)|refine cP v ?_|(refine IdxK.at (k:=QP p.A i+a-1) (by omega) H rfl ?_));conv=>whnf)|(apply bD<;>intro _<;>first|omega|conv=>whnf))
    all_goals first
     |(exfalso;omega)
     |contradiction
     |exact⟨_,.p Sub.nils,rfl⟩
     |exact⟨_,.p (Sub.refl _),rfl⟩
theorem Uo(b:Book)(p:Pg)(hp:b.s=sheetOf p)(h:chkB p=true)(i:Nat)(f:Pr)(F:p.A[i]?=some f)(M:b.ways[i]?=some (newWay p i f))(O:List Str)(H:b.Q[i]?=some O)(I:O.length<=900000)(hD:b.O.length=(sheetOf p).l.length)(a:Nat)(ha:a<cntL f.body+2):SpecP prog 112 [.ip b.cells,.int .i64 i,.int .i64 a] (fun r=>r=eStrs (q3i p i f b.O O a)):=by
 refine sB Qc func112 rfl call112 ?_;conv=>whnf
 obtain⟨hsp,_,_,G,Z⟩:=QU p;obtain⟨_,_,V,_⟩:=Z i f F;have R:=(XQ h).2.2;have hT:=q8q h F;have m:(b.ways.map fun w=>AV.ip w.cells)[i]?=some (.ip (newWay p i f).cells):=by rw[x7k,M];rfl
 have c:(b.Q.map eStrs)[i]?=some (eStrs O):=by rw[x7k,H];rfl
 have u:=UX (newWay p i f) f hT.hj hT.hc (by have:=hT.hn2;have:=hT.hn;have:=hT.hw;omega) a (by omega);have z:=RC O (by omega);have Y:(newWay p i f).live.length=cntL f.body+2:=by show(KH _ (List.replicate (cntL f.body+2) false)).length=_;rw[Z5];simp
 have hwn:(newWay p i f).n=(cntL f.body+2:Nat):=rfl;have g:((newWay p i f).live.map bv)[a]?=some (bv ((newWay p i f).live.getD a false)):=by
  rw[x7k,x7w,x7x (by omega)];rfl
 unfold q3i;by_cases C:a=cntL f.body+1
 ·rw[if_pos C];have v:=Mb (O++[q1u]) (by simp;omega);have J:(O.map AV.str).length=O.length:=x7z _;repeat' (first|((first|refine wI ?_|(refine IdxK.at (k:=i) rfl m rfl ?_)|(refine IdxK.at (k:=i) rfl c rfl ?_));conv=>whnf)|(apply bD<;>intro _<;>first|omega|conv=>whnf))
  all_goals try (exfalso;omega)
  refine UJ 0 rfl z (.cons (.p (Sub.refl _)) .nil) (fun y=>?_) (fun q e sz es L=>?_);rotate_left;obtain⟨rfl,rfl,rfl⟩:=L
  rotate_right
  subst y;all_goals
   conv=>whnf
   repeat' (first|((first|refine x7g rfl ?_|refine aD ?_|refine bP ?_|refine QO (es:=[]) rfl (by simp) ?_|refine QO (by simp) (by simp;omega) ?_);conv=>whnf)|(refine cH rH2 0 v ?_;conv=>whnf)|(refine cH rH2 0 v ?_ (ha:=(x8y (z2r (by simp;rfl)) z0v)) (hH:=x8u (j:=0) rfl rfl (CSub.of_eq (by simp;rfl)) z0z);conv=>whnf))
   all_goals first
    |exact⟨_,.hd rfl (by simp),rfl⟩
 ·rw [if_neg C];by_cases E:a=0
  ·rw[if_pos E];repeat' (first|((first|refine wI ?_|(refine IdxK.at (k:=i) rfl m rfl ?_));conv=>whnf)|(apply bD<;>intro _<;>first|omega|conv=>whnf))
   all_goals first
    |(exfalso;omega)
    |exact⟨_,.p Sub.nils,rfl⟩
  ·rw[if_neg E];have B:QT (newWay p i f).p (newWay p i f).j (newWay p i f).n a=((QP p.A i+a:Nat):Int):=by
    show QT p i (cntL f.body+2:Nat) a=_;unfold QT loI;rw[if_neg (by omega),if_neg (by omega)];omega
   rw[B]at u;have d:(b.O.map eStrs)[QP p.A i+a-1]?=some (eStrs (b.O.getD (QP p.A i+a-1) [])):=by
    rw[x7k,x7w,x7x (by omega)];rfl
   generalize(newWay p i f).live.getD a false=lv at*
   cases lv;all_goals
    repeat' (first|((first|refine dA ?_|refine wI ?_|(refine IdxK.at (k:=i) rfl m rfl ?_)|(refine IdxK.at (k:=a) rfl g rfl ?_)|refine cP u ?_|(refine IdxK.at (k:=QP p.A i+a-1) (by omega) d rfl ?_));conv=>whnf)|(apply bD<;>intro _<;>first|omega|conv=>whnf))
    all_goals first
     |(exfalso;omega)
     |contradiction
     |exact⟨_,.p Sub.nils,rfl⟩
     |exact⟨_,.p (Sub.refl _),rfl⟩
section
variable {P:Program}{T:Tab}{N:Nat}
def Bv(l:List (List UInt8×List AV))(k:List UInt8):List AV:=(L5 l k).getD []
theorem Cm{s s':St}{σ:Mem}{β:Lab}{ac:Act}{w:World}(hr:Rel N σ β s ac w){k y:Nat}(hu:WV y s=true){i i':BInfo}{o2:Option BInfo}(hi:β k=some i){c0:Chunk}(hg:getH s.H k=some c0)(M:i'.blk=i.blk/\i'.cap=i.cap/\i'.sz=i.sz)(hhas:∀b,i'.has b->i.has b)(F:∀V,o2=some V->∀b,V.has b->i.has b/\¬i'.has b)(hpin:ZH k=false){c c2:Chunk}(h:KN s k y c c2 fun s2=>s2=s')(hc:∀β':Lab,β' k=some i'->β' y=o2->c.holds σ β' w k/\c2.holds σ β' w y):
  ∃β',Rel N σ β' s' ac w/\Later σ β s.H w σ β' s'.H w/\β' y=o2/\β' k=some i'/\∀l v,l.xfree k=true->l.free y=true->RepL σ β l v->RepL σ β' l v:=by
 obtain⟨sl,h,hsl⟩:=ZT (by rfl) h;obtain⟨H2,rfl,hsub,hmem⟩:=WG h;obtain⟨hu1,hu2⟩:=XS hu;have hu3:=YK hu;have hk1:=QD hg;have hne:k≠y:=fun he=>(hu1 k _ (QJ hg)).1 he;have hnm:y∉s.H.map (·.1):=fun hk=>by
  obtain⟨⟨j,c⟩,R,rfl⟩:=x7d.1 hk;exact(hu1 j c R).1 rfl
 have hlab:∀j∈H2.map (·.1),j∈s.H.map (·.1)/\j≠y:=fun j A=>by
  refine⟨hsub.subset A,fun he=>?_⟩;obtain⟨⟨j',c⟩,R,rfl⟩:=x7d.1 A;exact(hmem j' c R).1 he
 let β':Lab:=(β.set k (some i')).set y o2;have B:∀j,j≠k->j≠y->β' j=β j:=fun j r e=>by simp[β',Lab.set,r,e]
 have z:β' k=some i':=by simp[β',Lab.set,hne]
 have q:β' y=o2:=by simp[β',Lab.set]
 have hlv:∀l v,l.xfree k=true->l.free y=true->RepL σ β l v->RepL σ β' l v:=fun l v r e hl=>(hl.subs (i':=i') hi M r).set o2 e;have hkf:∀l:LV,l.free y=true->(l.xkill k).free y=true:=fun l h=>by
  unfold LV.xkill;cases l.xfree k
  ·rfl
  ·exact h
 have I:∀j Y,β' j=some Y->(j=k\/j=y\/j∈s.H.map (·.1))->∀b,Y.has b->∃L i0,L∈s.H.map (·.1)/\β L=some i0/\i0.has b/\(j≠k->j≠y->L=j)/\(j=k\/j=y->L=k):=fun j Y g A b M=>by
  by_cases r:j=k
  ·subst r;rw[z]at g;cases g;exact⟨_,i,hk1,hi,hhas b M,fun h=>absurd rfl h,fun _=>rfl⟩
  ·by_cases e:j=y
   ·subst e;rw[q]at g;exact⟨k,i,hk1,hi,(F Y g b M).1,fun _ h=>absurd rfl h,fun _=>rfl⟩
   ·rw[B j r e]at g;exact⟨j,Y,(A.resolve_left r).resolve_left e,g,M,fun _ _=>rfl,fun h=>absurd h (by simp[r,e])⟩
 have C:∀j∈((y,c2)::H2).map (·.1),j=k\/j=y\/j∈s.H.map (·.1):=fun j A=>by
  simp only[x8v,x7f]at A;rcases A with A|A
  ·exact .inr (.inl A)
  ·exact .inr (.inr (hlab j A).1)
 obtain⟨hck,hck2⟩:=hc β' z q;refine⟨β',⟨hr.size,hr.defers,fun j=>?_,⟨hr.heap.mem,fun j c A=>?_,?_,fun j A Y g b M=>?_,fun j A j' hj' i1 V r e b hb1 hb2=>?_⟩⟩,⟨Mem.le_refl σ,Frm.refl _ _,fun _ h0 r=>absurd h0 r,fun b ⟨j,A,Y,g,M⟩=>?_,fun j h0 r=>B j (Me hpin j h0 r) (by omega)⟩,q,z,hlv⟩
 ·show RepL σ β' (getS sl j) _;rw[hsl];exact hlv _ _ (ZR k _) (hkf _ (hu2 j)) ((hr.E j).xkill k)
 ·rcases x7f.1 A with he|A
  ·cases he;exact hck2
  ·obtain⟨Q,⟨rfl,rfl⟩|⟨r,c0,e,rfl⟩⟩:=hmem j c A
   ·exact hck
   ·have hfr:=(hu1 j c0 e);have G:=hr.heap.chunks j c0 e;cases c0 with
    | obj e' cs=>
      obtain⟨V,vs2,hi2,hh2,hn2,hc2⟩:=G;refine⟨V,vs2,(B j r Q).trans hi2,hh2,by simpa using hn2,fun m l R=>?_⟩;rw[x7k]at R;cases hq:cs[m]?with
      |none=>rw[hq]at R;cases R
      | some l'=>
        rw[hq]at R;cases R;obtain⟨u,h5,h6⟩:=hc2 m l' hq;exact⟨u,h5,hlv _ _ (ZR k _) (hkf _ (QA hfr.2 m l' hq)) (h6.xkill k)⟩
    | own e' sz' es'=>
      rcases G with⟨h5,h6⟩|⟨V,vs2,hi2,rest⟩
      ·exact .inl ⟨(B j r Q).trans h5,h6⟩
      ·exact .inr ⟨V,vs2,(B j r Q).trans hi2,rest⟩
    | ext d=>
      show d.holds σ (β' j) w;rw[B j r Q];exact G
 ·simp only[x8v,x8i];exact⟨fun hk=>(hlab y hk).2 rfl,hsub.nodup hr.heap.nodup⟩
 ·obtain⟨L,i0,r,e,h3,_⟩:=I j Y g (C j A) b M;exact hr.heap.apart L r i0 e b h3
 ·obtain⟨L,i0,h3,h4,h5,h6,h7⟩:=I j i1 r (C j A) b hb1;obtain⟨j1,i3,h8,h9,h10,h11,h12⟩:=I j' V e (C j' hj') b hb2;have hj01:=hr.heap.inj L h3 j1 h8 i0 i3 h4 h9 b h5 h10;by_cases Z:j=k<;>by_cases e2:j'=k
  ·rw[Z,e2]
  ·by_cases J:j'=y
   ·subst Z J;rw[z]at r;cases r;rw[q]at e;exact absurd hb1 (F V e b hb2).2
   ·have:=h7 (.inl Z);have:=h11 e2 J;exact absurd (by omega) e2
  ·by_cases J:j=y
   ·subst e2 J;rw[z]at e;cases e;rw[q]at r;exact absurd hb2 (F i1 r b hb1).2
   ·have:=h12 (.inl e2);have:=h6 Z J;exact absurd (by omega) Z
  ·by_cases J:j=y<;>by_cases e4:j'=y
   ·rw[J,e4]
   ·have:=h7 (.inr J);have:=h11 e2 e4;exact absurd (by omega) e2
   ·have:=h12 (.inr e4);have:=h6 Z J;exact absurd (by omega) Z
   ·have:=h6 Z J;have:=h11 e2 e4;omega
 ·obtain⟨L,i0,r,e,h3,_⟩:=I j Y g (C j A) b M;exact .inl ⟨L,r,i0,e,h3⟩
def P2{s:St}{o:Oper}(e sz:Nat)(q:o.op=.makeMap t none)(h:HC 60 0 s fun k=>setD N s.sl o.dst (.ext k .map) fun sl=>K ⟨sl,(k,.ext (.mapr e sz [] none))::s.H⟩):OpK P N s o K:=by
 refine⟨fun σ β a w g Q=>?_⟩;obtain⟨k,z,h⟩:=UB h;have l:(Chunk.ext (.mapr e sz [] none)).holds σ (β.set k (some ⟨w.heap.size,0,0,[],x7p _⟩)) (w.alloc (.map #[] 0)) k:=
  ⟨⟨w.heap.size,0,0,[],x7p _⟩,#[],0,by simp[Lab.set],heap_alloc_new w _,⟨.nil,fun x A=>by cases A⟩,rfl,rfl,.nil,fun a b c h=>by simp at h,fun a x h=>by simp at h⟩
 obtain⟨r,d⟩:=g.new z rfl rfl l;obtain⟨sl,y,m⟩:=r.setD (v:=.ext k .map) (u:=.map (some w.heap.size)) (.ext k .map ⟨w.heap.size,0,0,[],x7p _⟩ _ (by simp[Lab.set]) rfl) h;exact XE (w':=w.alloc (.map #[] 0)) (by simp[execOp,q,Instr.makeMap]) ⟨σ,_,_,y,m,d⟩
theorem E6{l:List (List UInt8×α)}{es:Array MapEntry}(u:es.size=l.length)(q:∀(m:Nat)(x:List UInt8×α),l[m]?=some x->∃e:MapEntry,es[m]?=some e/\e.key=YS x.1):es.toList.map (·.key)=l.map (fun x=>YS x.1):=by
 apply z2g;intro m;rw[x7k,x7k];cases k:l[m]?with
 | none=>
   have:es.toList[m]?=none:=by
    rw[List.getElem?_eq_none_iff]at k⊢;simp;omega
   rw[this];rfl
 | some x=>
   obtain⟨e,r,s⟩:=q m x k;have h:es.toList[m]?=some e:=by simpa using r
   rw[h];simp[s]
def AF{l:List (List UInt8×α)}{k:List UInt8}(h:(l.findIdx? fun x=>decide (k=x.1))=none):L5 l k=none:=by
 unfold L5;rw[List.findIdx?_eq_none_iff]at h;rw[z0t.2 fun x m=>by simpa using h x m];rfl
def N5{l:List (List UInt8×α)}{k:List UInt8}(h:(l.findIdx? fun x=>decide (k=x.1))=some j):∃x,l[j]?=some x/\x.1=k/\L5 l k=some x.2:=by
 obtain⟨m,q,r⟩:=List.findIdx?_eq_some_iff_getElem.1 h;refine⟨l[j],x7x m,(by simpa using q:k=l[j].1).symm,?_⟩;unfold L5;have:l.find? (fun x=>decide (k=x.1))=some l[j]:=List.find?_eq_some_iff_getElem.2 ⟨q,j,m,rfl,fun i s=>by simpa using r i s⟩;rw[this];rfl
def Th{l:List (List UInt8×α)}(h:(l.map (·.1)).Nodup){i:Nat}{x y:List UInt8×α}(r:l[i]?=some x)(s:l[j]?=some y)(q:x.1=y.1):i=j:=by
 have k:=(x7h.1 r);have m:=(x7h.1 s);obtain⟨k,rfl⟩:=k;obtain⟨m,rfl⟩:=m;refine(List.getElem_inj (h₀:=by simpa using k) (h₁:=by simpa using m) h).1 ?_;simpa using q
theorem CB(hT:TabOK P T){s:St}{o:Oper}{x ix:Operand}(R:Nat)(hop:o.op=.lookup t x ix false){k:Nat}(hx:QN s.sl x=.ext k .map){e sz:Nat}{l:List (List UInt8×List AV)}(hg:getH s.H k=some (.ext (.mapr e sz l none))){d:List UInt8}(hk:QN s.sl ix=.p (.str d)){i ik ie:TyI}{kt et:TypeId}(ht:T.get t=some i)(hd:i.desc=.map kt et)(htk:T.get kt=some ik)(hdk:ik.desc=.string)(hte:T.get et=some ie)(hze:ie.zero=.slice none 0 0)(hu:WV R s=true)(hpin:ZH k=false)(h:KN s k R (.ext (.mapr e sz l (some d))) (.own e sz (Bv l d)) fun s2=>setD N s2.sl o.dst (.hd R 0 (Bv l d).length) fun sl=>K ⟨sl,s2.H⟩):OpK P N s o K:=by
 obtain⟨s2,h,he⟩:=G5 h;refine⟨fun σ β a w hr Q=>?_⟩;have hx':=QQ hr.E x;have hk':=QQ hr.E ix;rw[hx]at hx';rw[hk]at hk';have hkv:=TO hk';generalize hxe:a.eval x=xv at hx';cases hx' with
 | ext _ _ A _ hbi hd'=>
   obtain rfl:xv=.map (some A.blk):=hd';obtain⟨bi',es,clock,Y,hh,hbo,h1,h2,h3,h4,h5⟩:=hr.heap.chunks k _ (QJ hg);rw[hbi]at Y;cases Y;have hkeys:=E6 h1 fun m x hm=>let ⟨e',g1,g2,_⟩:=h5 m x hm;⟨e',g1,g2⟩;have hu':=hT.of ht;have L:=hT.of htk;rw[hd]at hu';rw[hdk]at L;have u:=FS d es.toList l 0 hkeys;let i':BInfo:=⟨A.blk,A.cap,A.sz,List.zipWith (fun(x:List UInt8×List AV) o=>if x.1=d then none else o) l A.subs,A.ok⟩;have g:∀(p:Nat)(x:List UInt8×List AV),l[p]?=some x->i'.subs[p]?=if x.1=d then some none else A.subs[p]?:=fun p x B=>by
    show(List.zipWith _ l A.subs)[p]?=_;have J:p<A.subs.length:=by rw[h2];exact(x7h.1 B).1
    rw[List.getElem?_zipWith,B,x7x J];simp only;split<;>rfl
   have v:∀(p b c:Nat),i'.subs[p]?=some (some (b,c))->A.subs[p]?=some (some (b,c))/\∃x,l[p]?=some x/\x.1≠d:=fun p b c B=>by
    have J:p<l.length:=by
     have:=(x7h.1 B).1;simp only[i',z4x]at this;omega
    have I:=g p _ (x7x J);rw[B]at I;split at I
    ·cases I
    ·rename_i h7;exact⟨I.symm,_,x7x J,h7⟩
   have hhas:∀b,i'.has b->A.has b:=fun b C=>by
    rcases C with C|⟨c,C⟩
    ·exact .inl C
    ·obtain⟨p,B⟩:=x9c.1 C;exact .inr ⟨c,x7t (v p b c B).1⟩
   have hmapr:∀β':Lab,β' k=some i'->(Chunk.ext (.mapr e sz l (some d))).holds σ β' w k:=fun β' M=>by
    refine⟨i',es,clock,M,hh,hbo,h1,by show(List.zipWith _ l A.subs).length=_;rw[z4x,h2];omega,h3,fun p b c B=>?_,fun p x B=>?_⟩
    ·obtain⟨I,_⟩:=v p b c B;exact⟨(h4 p b c I).1,fun p' c' hp'=>(h4 p b c I).2 p' c' (v p' b c' hp').1⟩
    ·obtain⟨e',g1,g2,_,g4⟩:=h5 p x B;refine⟨e',g1,g2,fun hq=>?_,fun hq=>?_⟩
     ·rw[g p x B,if_pos (z0m hq).symm]
     ·obtain⟨b,c,ws,q1,q2⟩:=g4 (by simp);refine⟨b,c,ws,?_,q2⟩;rw[g p x B,if_neg (fun hh=>hq (by rw[hh]))];exact q1
   obtain⟨o2,V,ho2,hrun,hown,hrep⟩ : ∃(o2:Option BInfo) (V:Value),(∀Z,o2=some Z->Z.subs=[]/\∃(p c:Nat) (x:List UInt8×List AV),l[p]?=some x/\x.1=d/\A.subs[p]?=some (some (Z.blk,c)))/\(execOp a.eval o).run P w=.ok (.value V) w/\
     (∀β':Lab,β' R=o2->(Chunk.own e sz (Bv l d)).holds σ β' w R)/\∀β':Lab,β' R=o2->RepL σ β' (.hd R 0 (Bv l d).length) V:=by
    have G:∀(V:Value)(r:Option (Nat×Value)),(Instr.findKey kt (YS d) es.toList).run P w=.ok r w->(r=none->V=.slice none 0 0)->(∀q,r=some q->V=q.2)->(execOp a.eval o).run P w=.ok (.value V) w:=fun V r hfk hn hs=>by
     have hlk:(Instr.lookup t (.map (some A.blk)) (YS d) false).run P w=.ok V w:=by
      unfold Instr.lookup;rw[Sem.run_bind,run_underlying hu',Result.andThen_ok];simp only[Sem.run_bind,UP hh,Result.andThen_ok,Sem.run_pure,JJ L,hfk];cases r with
      | none=>
        rw[hn rfl];simp only[Sem.run_bind,TyOK.zeroValue (hT _ _ hte),hze,Result.andThen_ok,Sem.run_pure];rfl
      | some q=>
        rw[hs q rfl];rfl
     simp only[execOp,hop,hxe,hkv,Sem.run_bind,hlk,Result.andThen_ok];rfl
    cases hj:l.findIdx? fun x=>decide (d=x.1)with
    | none=>
      rw[hj]at u;have z:Bv l d=[]:=by unfold Bv;rw[AF hj];rfl
      refine⟨none,.slice none 0 0,fun Z h=>(by cases h),G _ none ?_ (fun _=>rfl) (fun q h=>by cases h),fun β' M=>.inl ⟨M,z⟩,fun β' M=>?_⟩
      ·unfold Instr.findKey;rw[Sem.run_bind,run_underlying L,Result.andThen_ok,u];rfl
      ·rw[z];exact .hdn R M
    | some j=>
      rw[hj]at u;obtain⟨y,hy1,hy2,hy3⟩:=N5 hj;have z:Bv l d=y.2:=by unfold Bv;rw[hy3];rfl
      obtain⟨e',g1,g2,_,g4⟩:=h5 j y hy1;obtain⟨b,c,ws,q1,q2,q3,q4,q5,q6,q7⟩:=g4 (by simp);have g1':es.toList[j]?=some e':=by simpa using g1
      simp only[g1',z0o,x9u]at u;refine⟨some ⟨b,c,sz,[],q6⟩,e'.val,fun Z h=>?_,G _ (some (0+j,e'.val)) ?_ (fun h=>by cases h) (fun q h=>by cases h;rfl),fun β' M=>?_,fun β' M=>?_⟩
      ·cases h;exact⟨rfl,j,c,y,hy1,hy2,q1⟩
      ·unfold Instr.findKey;rw[Sem.run_bind,run_underlying L,Result.andThen_ok,u];rfl
      ·rw[z];exact .inr ⟨⟨b,c,sz,[],q6⟩,ws,M,rfl,q3,q4,q5,q6,q7⟩
      ·rw[z,q2];have:=z4w (σ:=σ) (β:=β') R 0 y.2.length ⟨b,c,sz,[],q6⟩ 0 M (by simpa using q5) (.inl (by simp));simpa using this
   obtain⟨β',hr',hl,hb2,_,_⟩:=Cm (i':=i') (o2:=o2) hr hu hbi hg ⟨rfl,rfl,rfl⟩ hhas (fun Z h b C=>by
    obtain⟨I,p,c,x,h7,h8,h9⟩:=ho2 Z h;have he:Z.blk=b:=by
     rcases C with C|⟨c,C⟩
     ·exact C
     ·rw[I]at C;cases C
    subst he;refine⟨.inr ⟨c,x7t h9⟩,fun F=>?_⟩;rcases F with F|⟨c',F⟩
    ·exact(h4 p _ c h9).1 F
    ·obtain⟨p',hp'⟩:=x9c.1 F;obtain⟨h10,x',h11,h12⟩:=v p' _ c' hp';obtain rfl:=(h4 p _ c h9).2 p' c' h10;rw[h7]at h11;cases h11;exact h12 h8) hpin he fun β' g1 g2=>⟨hmapr β' g1,hown β' g2⟩
   obtain⟨sl,hK,hr''⟩:=hr'.setD (hrep β' hb2) h;exact XE hrun ⟨σ,β',_,hK,hr'',hl⟩
theorem IE(hT:TabOK P T){s:St}{o:Oper}{x ix vx:Operand}(hop:o.op=.mapUpdate t x ix vx)(hdst:o.dst=none){k:Nat}(hx:QN s.sl x=.ext k .map){e sz:Nat}{l:List (List UInt8×List AV)}{q:List UInt8}(hg:getH s.H k=some (.ext (.mapr e sz l (some q))))(hk:QN s.sl ix=.p (.str q)){k2 n:Nat}(hvx:QN s.sl vx=.hd k2 0 n){A:List AV}(hg2:getH s.H k2=some (.own e sz A))(hn:n=A.length)(hpos:0<n){i ik:TyI}{kt et:TypeId}(ht:T.get t=some i)(hd:i.desc=.map kt et)(htk:T.get kt=some ik)(hdk:ik.desc=.string)(hpin:(ZH k||ZH k2)=false)(hne:k≠k2)(h:Ej s k k2 (.ext (.mapr e sz (PB l q A) none)) K):OpK P N s o K:=by
 refine⟨fun σ β a w V Q=>?_⟩;obtain⟨sl,h,hsl⟩:=ZT (by rfl) h;obtain⟨H2,hK,hsub,hmem⟩:=WG h;simp only[z1l]at hpin;have hx':=QQ V.E x;have hk':=QQ V.E ix;have hv':=QQ V.E vx;rw[hx]at hx';rw[hk]at hk';rw[hvx]at hv';have hkv:=TO hk';have hk1:=QD hg;have hk2:=QD hg2;generalize hxe:a.eval x=xv at hx';generalize hve:a.eval vx=vv at hv';cases hx' with
 |ext _ _ g _ hbi hd'=>
 obtain rfl:xv=.map (some g.blk):=hd';obtain⟨bi',es,Y,hbi',hh,hbo,J,h2,h3,h4,h5⟩:=V.heap.chunks k _ (QJ hg);rw[hbi]at hbi';cases hbi';obtain⟨C,ws,Z,hvv,r1,r2,r3,r4,r5⟩ : ∃C ws,β k2=some C/\vv=.slice (some ⟨C.blk,0,none⟩) A.length C.cap/\w.heap[C.blk]?=some (.cells ws e (0,0))/\ws.size=C.cap*sz/\A.length<=C.cap/\C.cap<=maxLen/\
   ∀(m:Nat)(x:AV),A[m]?=some x->x.cells.length=sz/\∀(j:Nat)(c':AV),x.cells[j]?=some c'->∃u:Value,ws[m*sz+j]?=some u/\Rep σ c' u:=by
  rcases V.heap.chunks k2 _ (QJ hg2)with⟨_,hes⟩|⟨C,ws,Z,g1,g2,g3,g4,g5,g6⟩
  ·rw[hes]at hn;simp at hn;omega
  ·rcases hv'.hdI with⟨hk,_⟩|⟨i3,oo,hk,hl,ho,d⟩
   ·rw[Z]at hk;cases hk
   ·rw[Z]at hk;cases hk;have hoo:oo=0:=by
     rcases ho with ho|ho
     ·simpa using ho
     ·omega
    subst hoo;exact⟨C,ws,Z,by rw[d,hn];simp,g2,by rw[g3],g4,g5,g6⟩
 have hkeys:=E6 J fun m x hm=>let ⟨e',g1,g2,_⟩:=h5 m x hm;⟨e',g1,g2⟩;have hu':=hT.of ht;have huk:=hT.of htk;rw[hd]at hu';rw[hdk]at huk;have I:=FS q es.toList l 0 hkeys;have hlt:=(V.heap.apart k hk1 g hbi g.blk g.has_blk).2;obtain⟨es',r,F,hrun,hbo',hsz,hsl',hnd',hent⟩ : ∃(es':Array MapEntry) (r:Nat) (F:List (Option (Nat×Nat))),(Instr.mapUpdate t (.map (some g.blk)) (YS q) vv).run P w=.ok () {w with heap:=w.heap.setIfInBounds g.blk (.map es' r)}/\Zn es' r/\es'.size=(PB l q A).length/\F.length=(PB l q A).length/\((PB l q A).map (·.1)).Nodup/\
   ∀(m:Nat)(x:List UInt8×List AV),(PB l q A)[m]?=some x->∃e':MapEntry,es'[m]?=some e'/\e'.key=YS x.1/\(x.1=q->e'.val=vv/\F[m]?=some (some (C.blk,C.cap))/\x.2=A)/\(x.1≠q->l[m]?=some x/\es[m]?=some e'/\F[m]?=g.subs[m]?):=by
  cases R:l.findIdx? fun x=>decide (q=x.1)with
  | none=>
    rw[R]at I;rw[Jd R];refine⟨es.push {key:=YS q,val:=vv,born:=Y},Y+1,g.subs++[some (C.blk,C.cap)],?_,Uq hbo rfl,by simpa using J,by simp[h2],?_,fun m y hy=>?_⟩
    ·have hfk:(Instr.findKey kt (YS q) es.toList).run P w=.ok none w:=by
      unfold Instr.findKey;rw[Sem.run_bind,run_underlying huk,Result.andThen_ok,I];rfl
     unfold Instr.mapUpdate;rw[Sem.run_bind,run_underlying hu',Result.andThen_ok];simp only[Sem.run_bind,UP hh,Result.andThen_ok,Sem.run_pure,JJ huk,hfk,BL _ hh]
    ·rw[x7n,x9k];refine⟨h3,by simp,fun u hu v hv=>?_⟩;simp only[x8v,z2q,x7y]at hv;obtain⟨z,hz,rfl⟩:=x7d.1 hu;have:=List.findIdx?_eq_none_iff.1 R z hz;intro d;rw[d,hv]at this;simp at this
    ·rw[z1k]at hy;split at hy
     ·rename_i hm;obtain⟨e',g1,g2,_⟩:=h5 m y hy;have hyk:y.1≠q:=fun d=>by
       have:=List.findIdx?_eq_none_iff.1 R y (x7t hy);rw[d]at this;simp at this
      have hms:m<es.size:=by omega
      exact⟨e',by rw[z3x,if_neg (by omega)];exact g1,g2,fun d=>absurd d hyk,fun _=>⟨hy,g1,by rw[x8c (by omega)]⟩⟩
     ·rename_i hm;have hm0:m-l.length=0:=by
       have:=(x7h.1 hy).1;simp at this;omega
      rw[hm0]at hy;simp at hy;subst hy;exact⟨{key:=YS q,val:=vv,born:=Y},by rw[z3x,if_pos (by omega)],rfl,fun _=>⟨rfl,by rw[x8f (by omega),h2,hm0];rfl,rfl⟩,fun d=>absurd rfl d⟩
  | some j=>
    rw[R]at I;obtain⟨y,hy1,hy2⟩:=Mi (v:=A) R;obtain⟨y',hy3,hy4,_⟩:=N5 R;rw[hy1]at hy3;cases hy3;rw[hy2];obtain⟨e',g1,g2,g3,_⟩:=h5 j y hy1;have g1':es.toList[j]?=some e':=by simpa using g1
    have hjlt:j<es.size:=(x8x.1 g1).1;simp only[g1',z0o,x9u,z0q]at I;have hek:e'.key=YS q:=by rw[g2,hy4];rfl
    refine⟨es.modify j fun e=>{e with key:=YS q,val:=vv},Y,g.subs.set j (some (C.blk,C.cap)),?_,LQ hbo j fun _=>rfl,by simpa using J,by simp[h2],?_,fun m z hz=>?_⟩
    ·have hfk:(Instr.findKey kt (YS q) es.toList).run P w=.ok (some (j,e'.val)) w:=by
      unfold Instr.findKey;rw[Sem.run_bind,run_underlying huk,Result.andThen_ok,I];rfl
     have hkt:(Instr.keyThatStays (((es[j]?).map (·.key)).getD (YS q)) (YS q)).run P w=.ok (YS q) w:=by
      rw[g1];simp only[z0o,x9u,hek];unfold Instr.keyThatStays;have:Instr.sameBits 10000 (YS q) (YS q)=true:=by
       unfold YS;show((⟨q.toArray⟩:ByteArray)==⟨q.toArray⟩)=true;rw[Ux];simp
      rw[if_pos this];rfl
     unfold Instr.mapUpdate;rw[Sem.run_bind,run_underlying hu',Result.andThen_ok];simp only[Sem.run_bind,UP hh,Result.andThen_ok,Sem.run_pure,JJ huk,hfk,hkt,BL _ hh]
    ·rw[x8o];have:(l.map (·.1)).set j y.1=l.map (·.1):=by
      apply z2g;intro m;by_cases hm:m=j
      ·subst hm;have hml:m<l.length:=(x7h.1 hy1).1;rw[x9j (by simpa using hml),x7k,hy1];rfl
      ·rw[x9p (z1d hm)]
     rw[this];exact h3
    ·by_cases hm:m=j
     ·subst hm;rw[x9j (by omega)]at hz;cases hz;exact⟨{e' with key:=YS q,val:=vv},by simp[z1m,g1],by rw[hy4],fun _=>⟨rfl,by rw[x9j (by omega)],rfl⟩,fun d=>absurd hy4 d⟩
     ·rw[x9p (z1d hm)]at hz;obtain⟨e'',g4,g5,_⟩:=h5 m z hz;have hzk:z.1≠q:=fun d=>hm (Th h3 hz hy1 (by rw[d,hy4]));exact⟨e'',by rw[z1m,if_neg (z1d hm)];exact g4,g5,fun d=>absurd d hzk,fun _=>⟨hz,g4,by rw[x9p (z1d hm)]⟩⟩
 have hrun':(execOp a.eval o).run P w=.ok .skip {w with heap:=w.heap.setIfInBounds g.blk (.map es' r)}:=by
  simp only[execOp,hop,hxe,hkv,hve,Sem.run_bind,hrun,Result.andThen_ok];rfl
 let w':World:={w with heap:=w.heap.setIfInBounds g.blk (.map es' r)};let i':BInfo:=⟨g.blk,g.cap,g.sz,F,g.ok⟩;let β':Lab:=(β.set k2 none).set k (some i');have hset:∀j,j≠k->j≠k2->β' j=β j:=fun j J h2=>by simp[β',Lab.set,J,h2]
 have hsetk:β' k=some i':=by simp[β',Lab.set]
 have B:∀b,b≠g.blk->w'.heap[b]?=w.heap[b]?:=fun b M=>z1v (z1d M);have hsubx:∀(p b c:Nat),F[p]?=some (some (b,c))->(b=C.blk/\∃x,(PB l q A)[p]?=some x/\x.1=q)\/(g.subs[p]?=some (some (b,c))/\∃x,(PB l q A)[p]?=some x/\x.1≠q):=fun p b c hp=>by
  have hlt:p<(PB l q A).length:=by
   have:=(x7h.1 hp).1;omega
  have hq:=x7x hlt;obtain⟨e',_,_,g3,g4⟩:=hent p _ hq;by_cases d:((PB l q A)[p]).1=q
  ·obtain⟨_,g5,_⟩:=g3 d;rw[hp]at g5;cases g5;exact .inl ⟨rfl,_,hq,d⟩
  ·obtain⟨_,_,g5⟩:=g4 d;rw[hp]at g5;exact .inr ⟨g5.symm,_,hq,d⟩
 have hhas:∀b,i'.has b->g.has b\/C.has b:=fun b M=>by
  rcases M with M|⟨c,M⟩
  ·exact .inl (.inl M)
  ·obtain⟨p,hp⟩:=x9c.1 M;rcases hsubx p b c hp with⟨h6,_⟩|⟨h6,_⟩
   ·exact .inr (.inl h6.symm)
   ·exact .inl (.inr ⟨c,x7t h6⟩)
 have G:∀b,g.has b->¬C.has b:=fun b h6 h7=>hne (V.heap.inj k hk1 k2 hk2 g C hbi Z b h6 h7);have hlab:∀j∈H2.map (·.1),j∈s.H.map (·.1)/\j≠k2:=fun j R=>by
  refine⟨hsub.subset R,fun d=>?_⟩;obtain⟨⟨j',c⟩,hm,rfl⟩:=x7d.1 R;exact(hmem j' c hm).1 d
 have hwas:∀j,j≠k2->∀ij,β' j=some ij->∀b,ij.has b->(∃i0,β j=some i0/\i0.has b)\/(j=k/\C.has b):=fun j R ij L b M=>by
  by_cases hjk:j=k
  ·subst hjk;rw[hsetk]at L;cases L;rcases hhas b M with J|J
   ·exact .inl ⟨g,hbi,J⟩
   ·exact .inr ⟨rfl,J⟩
  ·rw[hset j hjk R]at L;exact .inl ⟨ij,L,M⟩
 have hlv:∀l v,RepL σ β l v->RepL σ β' ((l.kill k2).xkill k) v:=fun l v hl=>by
  have J:=((hl.kill k2).set none (LV.kill_free k2 l)).xkill k;exact J.subs (i:=g) (by simp[Lab.set,hne,hbi]) ⟨rfl,rfl,rfl⟩ (ZR k _)
 have hheap:HRel σ β' H2 w':=by
  refine⟨fun b c M=>?_,fun j c R=>?_,hsub.nodup V.heap.nodup,fun j R ij L b M=>?_,fun j R j' hj' i1 i2' J h2 b hb1 hb2=>?_⟩
  ·obtain⟨e',fr,h6⟩:=V.heap.mem b c M;exact⟨e',fr,(B b fun d=>by rw[d,(V.heap.apart k hk1 g hbi g.blk g.has_blk).1]at M;cases M).trans h6⟩
  ·obtain⟨hj2,⟨rfl,rfl⟩|⟨hjk,c0,hm0,rfl⟩⟩:=hmem j c R
   ·refine⟨i',es',r,hsetk,by show(w.heap.setIfInBounds g.blk _)[g.blk]?=_;simp[hlt],hbo',hsz,hsl',hnd',fun p b c hp=>?_,fun p x hp=>?_⟩
    ·rcases hsubx p b c hp with⟨h6,x,h7,h8⟩|⟨h6,x,h7,h8⟩
     ·refine⟨fun d=>G g.blk g.has_blk (.inl (by rw[<-h6];exact d.symm)),fun p' c' hp'=>?_⟩;rcases hsubx p' b c' hp' with⟨_,x',h9,h10⟩|⟨h9,_⟩
      ·exact Th hnd' h9 h7 (by rw[h10,h8])
      ·exact absurd (.inl h6.symm) (G b (.inr ⟨c',x7t h9⟩))
     ·refine⟨(h4 p b c h6).1,fun p' c' hp'=>?_⟩;rcases hsubx p' b c' hp' with⟨h9,_⟩|⟨h9,_⟩
      ·exact absurd (.inl h9.symm) (G b (.inr ⟨c,x7t h6⟩))
      ·exact(h4 p b c h6).2 p' c' h9
    ·obtain⟨e',g1,g2,g3,g4⟩:=hent p x hp;refine⟨e',g1,g2,fun hh=>(by cases hh),fun _=>?_⟩;by_cases d:x.1=q
     ·obtain⟨g5,g6,g7⟩:=g3 d;refine⟨C.blk,C.cap,ws,g6,by rw[g5,hvv,g7],(B _ fun hh=>G g.blk g.has_blk (.inl hh)).trans r1,r2,by rw[g7];exact r3,r4,by rw[g7];exact r5⟩
     ·obtain⟨g5,g6,g7⟩:=g4 d;obtain⟨e'',q1,_,_,q4⟩:=h5 p x g5;rw[g6]at q1;cases q1;obtain⟨b,c,ws',q5,q6,q7,q8⟩:=q4 fun hh=>d (z0m hh).symm;exact⟨b,c,ws',by rw[g7];exact q5,q6,(B b fun hh=>(h4 p b c q5).1 hh.symm).trans q7,q8⟩
   ·have hjl:j∈s.H.map (·.1):=x7d.2 ⟨_,hm0,rfl⟩;refine(V.heap.chunks j c0 hm0).mapL (Mem.le_refl σ) hlv (hset j hjk hj2) fun ij L b M=>B b fun d=>hjk ?_;exact V.heap.inj j hjl k hk1 ij g L hbi b M (.inl d.symm)
  ·obtain⟨J,h2⟩:=hlab j R;have hsz':w'.heap.size=w.heap.size:=by simp[w']
   rw[hsz'];rcases hwas j h2 ij L b M with⟨i0,h3,h4⟩|⟨_,h4⟩
   ·exact V.heap.apart j J i0 h3 b h4
   ·exact V.heap.apart k2 hk2 C Z b h4
  ·obtain⟨h3,h4⟩:=hlab j R;obtain⟨h5,h6⟩:=hlab j' hj';rcases hwas j h4 i1 J b hb1 with⟨i3,h7,h8⟩|⟨e1,h8⟩<;>rcases hwas j' h6 i2' h2 b hb2 with⟨i4,h9,h10⟩|⟨e2,h10⟩
   ·exact V.heap.inj j h3 j' h5 i3 i4 h7 h9 b h8 h10
   ·exact absurd (V.heap.inj j h3 k2 hk2 i3 C h7 Z b h8 h10) h4
   ·exact absurd (V.heap.inj j' h5 k2 hk2 i4 C h9 Z b h10 h8) h6
   ·rw[e1,e2]
 refine Qd hrun' ⟨σ,β',⟨sl,H2⟩,hK,⟨?_,?_,?_,hheap⟩,Mem.le_refl σ,⟨rfl,rfl,rfl,x7s _,by simp,fun b _ hn=>B b fun d=>hn ⟨k,hk1,g,hbi,.inl d.symm⟩⟩,fun b h0 J=>absurd h0 J,fun b ⟨j,R,ij,L,M⟩=>?_,fun j h0 J=>hset j (Me hpin.1 j h0 J) (Me hpin.2 j h0 J)⟩
 ·rw[hdst];exact V.size
 ·rw[hdst];exact V.defers
 ·rw[hdst];exact fun j=>by show RepL σ β' (getS sl j) _;rw[hsl];exact hlv _ _ (V.E j)
 ·obtain⟨J,h2⟩:=hlab j R;rcases hwas j h2 ij L b M with⟨i0,h3,h4⟩|⟨_,h4⟩
  ·exact .inl ⟨j,J,i0,h3,h4⟩
  ·exact .inl ⟨k2,hk2,C,Z,h4⟩
end
def Dy(l:List (Str×List AV))(x:Str×Nat):List (Str×List AV):=PB l x.1 (Bv l x.1++[.int .i64 x.2])
def prsG(G:Nat->List Str)(n:Nat):List (Str×Nat):=(List.range n).flatMap fun a=>(G a).map fun s=>(s,a)
def mapG(l:List (Str×Nat)):List (Str×List AV):=l.foldl Dy []
def GY(l:List (Str×Nat))(x:Str×Nat):mapG (l++[x])=Dy (mapG l) x:=by unfold mapG;rw[z2h];rfl
def DD(G:Nat->List Str)(n:Nat):prsG G (n+1)=prsG G n++(G n).map fun s=>(s,n):=by
 unfold prsG;rw[z1c,z1b];simp
def AD{l:List (Str×List AV)}{k j:Str}{v:List AV}:L5 (PB l k v) j=if j=k then some v else L5 l j:=by
 induction l with
 |nil=>rw[PB];unfold L5;by_cases h:j=k<;>simp[h]
 | cons x r q=>
   rw[PB];by_cases h:k=x.1
   .rw [if_pos h];unfold L5;by_cases m:j=k
    .simp [m,<-h]
    .have:¬j=x.1:=fun e=>m (e.trans h.symm);simp[m,this]
   .rw [if_neg h];unfold L5 at q⊢;rw[z2y,z2y];by_cases m:j=x.1
    .have:¬j=k:=fun e=>h (e.symm.trans m);simp[m,this];intro e;exact absurd e.symm h
    .rw [x9m m];exact q
def q0y(l:List (Str×List AV))(x:Str×Nat)(j:Str):Bv (Dy l x) j=if j=x.1 then Bv l x.1++[.int .i64 x.2]else Bv l j:=by
 unfold Dy Bv;rw[AD];split<;>rfl
def Tl(l:List (Str×Nat))(j:Str):Bv (mapG l) j=(l.filter fun x=>decide (x.1=j)).map fun x=>.int .i64 x.2:=by
 have key:∀l:List (Str×Nat),Bv (mapG l.reverse) j=(l.reverse.filter fun x=>decide (x.1=j)).map fun x=>AV.int .i64 x.2:=fun l=>by
  induction l with
  |nil=>rfl
  | cons x r k=>
    rw[z3m,GY,q0y,z0u,x7n,<-k];by_cases h:j=x.1
    .subst h;simp
    .have:¬x.1=j:=fun e=>h e.symm;simp[h,this]
 have:=key l.reverse
 rwa[z2o]at this
def q0v(l:List (Str×Nat))(j:Str):(Bv (mapG l) j).length<=l.length:=by
 rw[Tl,x7z];exact x9n _ _
theorem TJ{G:Nat->List Str}(h:∀a,(G a).length<=1000):∀n,(prsG G n).length<=1000*n
 |0=>x7p _
 | n+1=>by
   have:=TJ h n;have:=h n;rw[DD,x7u,x7z];omega
theorem Y1(b:Book)(p:Pg)(i:Nat)(f:Pr)(n:Nat)(J:n<=5000)(g:b.ways[i]?=some (newWay p i f))(d:(newWay p i f).n=n)(G:Nat->List Str)(e:∀a,a<n->SpecP prog 172 [.ip b.cells,.int .i64 i,.int .i64 a] (fun r=>r=eStrs (G a)))(l:∀a,(G a).length<=1000):SpecH prog 102 [.p (.ip b.cells),.j i] [] (fun r H=>r=.tup [.ext 0 .map,.p (.int .i64 (prsG G n).length)]/\H=[(0,.ext (.mapr 3 1 (mapG (prsG G n)) none))]):=by
 refine sH Qe func102 rfl call102 ?_;conv=>whnf
 have y:(b.ways.map fun w=>AV.ip w.cells)[i]?=some (.ip (newWay p i f).cells):=by rw[x7k,g];rfl
 repeat' ((first|refine P2 3 1 rfl ?_|(refine IdxK.at (k:=i) rfl y rfl ?_));conv=>whnf)
 refine LoopK.inv QV (fun a:Nat=>⟨[(0,.p (.ip b.cells)),(1,.j i),(4,.ext 0 .map),(5,.p (.int .i64 (prsG G a).length)),(19,.j n),(20,.j a)],[(0,.ext (.mapr 3 1 (mapG (prsG G a)) none))]⟩) (fun a=>a<=n) (fun a=>n-a) 0 (Le.of_eq (by rw[d];rfl)) (x7p _) ?_;intro a ha;have A:(prsG G a).length<=1000*a:=TJ l a;rcases x7m a n with u|u
 ·have v:=e a u;have B:=l a;have c:=DD G a;generalize prsG G a=acc at*
  generalize G a=L at*
  have E:(L.map AV.str).length=L.length:=x7z _;conv=>whnf
  repeat' (first|((first|(refine iM fun _=>?_)|refine cP v ?_);conv=>whnf)|(apply bD<;>intro _<;>first|omega|conv=>whnf))
  refine LoopK.inv QV (fun j:Nat=>⟨[(0,.p (.ip b.cells)),(1,.j i),(4,.ext 0 .map),(5,.p (.int .i64 (acc++(L.take j).map fun s=>(s,a)).length)),(6,.j a),(19,.j n),(20,.j a),(26,.p (eStrs L)),(27,.p (.int .i64 (L.map AV.str).length)),(28,.j j)],[(0,.ext (.mapr 3 1 (mapG (acc++(L.take j).map fun s=>(s,a))) none))]⟩) (fun j=>j<=L.length) (fun j=>L.length-j) 0 (Le.of_eq (by simp;rfl)) (x7p _) ?_;intro j I;rcases x7m j L.length with q|q
  ·have z:acc++(L.take (j+1)).map (fun s=>(s,a))=(acc++(L.take j).map fun s=>(s,a))++[(L[j],a)]:=by rw[x7r q,x7n,x8w];rfl
   have C:(acc++(L.take j).map fun s=>(s,a)).length<=5002000:=by rw[x7u,x7z,x8q];omega
   generalize(acc++(L.take j).map fun s=>(s,a))=o at*
   have h:=GY o (L[j],a);unfold Dy at h;have F:=q0v o L[j];simp only at h;generalize mapG o=m at*
   conv=>whnf
   repeat' (first|((first|refine x7g rfl ?_|refine aD ?_|refine bP ?_|(refine iA fun _=>?_)|refine wI ?_|refine CB QV 1 rfl rfl rfl rfl rfl rfl rfl rfl rfl rfl rfl rfl ?_|refine XX rfl (by omega) ?_|refine IE QV rfl rfl rfl rfl rfl rfl rfl (by simp) (z3e _) rfl rfl rfl rfl rfl (by decide) ?_);conv=>whnf)|(apply bD<;>intro _<;>first|omega|conv=>whnf))
   all_goals first
    |exact⟨j+1,q,by omega,Le.of_eq (by rw[z,h,x7u];rfl)⟩
  ·rw[x7a q,<-c];conv=>whnf
   repeat' (first|(refine wI ?_;conv=>whnf)|(apply bD<;>intro _<;>first|omega|conv=>whnf))
   all_goals first
    |exact⟨a+1,u,by omega,Le.of_eq rfl⟩
 ·obtain rfl:a=n:=by omega
  conv=>whnf
  repeat' (apply bD<;>intro _<;>first|omega|conv=>whnf)
  all_goals first
   |exact x9h _ (x8z _) ⟨rfl,rfl⟩
end Go.Ab
