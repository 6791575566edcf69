/- The reference's real steps, what stands behind, rows of places that rise, the live places. -/
import Derived.Test.YtgpjfppgphaobaaGreatEndA17
set_option linter.all false
set_option maxRecDepth 100000
set_option maxHeartbeats 16000000
open List (length)
open Nat (beq)
namespace Go.Ab
open Go.Proofs.Tryz
open Go.Proofs
variable {O':List (List Str)}{l:List Bool}
section
variable {p:Pg}{j:Nat}{f:Pr}
end
def bkO(p:Pg)(O:List (List Str)):Book:=⟨sheetOf p,[],[],[],[],O⟩
def prA(p:Pg)(i:Nat):Pr:=p.A.getD i Pr0
def ZG{p:Pg}{i:Nat}(h:i<p.A.length):p.A[i]?=some (prA p i):=by
 unfold prA;rw[x3i,x3e h];rfl
def VJ{p:Pg}{i:Nat}{f:Pr}(h:p.A[i]?=some f):prA p i=f:=by
 unfold prA;rw[x3i,h];rfl
def dfB(p:Pg)(O:List (List Str)):List (List Str):=(sheetOf p).l.map fun h=>VK (FR (bkO p O) h.s)
def otA(p:Pg)(D:List (List Str))(i:Nat):List Str:=VK (M5 p i (prA p i) D (itsOf p i (prA p i)))
def otB(p:Pg)(D:List (List Str)):List (List Str):=(List.range p.A.length).map (otA p D)
def rdO(p:Pg)(O:List (List Str)):List (List Str):=otB p (dfB p O)
def itO(p:Pg):Nat->List (List Str)
 |0=>List.replicate p.A.length []
 |k+1=>rdO p (itO p k)
def YV{l:List Str}(h:l.Pairwise ltT):l.Nodup:=List.Pairwise.imp (S:=fun a b=>a≠b) (fun {a b} (k:ltT a b)=>fun(m:a=b)=>ltT.irr b (by rw[m]at k;exact k)) h
def YM(l:List Str):(VK l).length<=l.length:=YG (YV (ZM l)) fun s h=>XA.1 h
structure OkO(p:Pg)(O:List (List Str)):Prop where
 len:O.length=p.A.length
 rise:∀o∈O,o.Pairwise ltT
 sub:∀i,i<p.A.length->∀n∈O.getD i [],outB p (prA p i) n=true
def DX{O:List (List Str)}(h:∀o∈O,o.Pairwise ltT)(i:Nat):(O.getD i []).Pairwise ltT:=by
 rw[x3i];rcases x4f i O.length with k|k
 .rw [x3e k];exact h _ (x4h k)
 .rw [x6j k];exact .nil
def MO{p:Pg}{n:Str}:comB p n=true↔n=JE\/n∈p.F:=by
 unfold comB;simp only[x7r,x8u,x6s,exists_eq_right']
def OB{p:Pg}{f:Pr}{n:Str}:outB p f n=true↔(n=JE\/n∈p.F)\/(⟨n,true⟩:Param)∈f.B:=by
 unfold outB;rw[x7r,MO,x5k]
def Gq{p:Pg}(h:QL p=true)(i:Nat):(prA p i).B.length<=8:=by
 rcases x4f i p.A.length with k|k
 .exact (GH.1 (Lw (QB h).1 (x4p (ZG k)))).1
 .unfold prA;rw[x3i,x6j k];decide
theorem OkO.len25{p:Pg}{O:List (List Str)}(t:QL p=true)(h:OkO p O)(i:Nat):(O.getD i []).length<=25:=by
 rcases x4f i p.A.length with r|r
 ·have u:=YG (m:=JE::p.F++(prA p i).B.map Param.name) (YV (DX h.rise i)) fun n v=>by
   rcases OB.1 (h.sub i r n v)with(rfl|q)|q
   ·exact x5c _ x4z
   ·exact x5c _ (x4x _ q)
   ·exact x6f _ (x4y.2 ⟨_,q,rfl⟩)
  have q:=Gq t i;have w:=(XF t).1;rw[x3o,x5g,x3a]at u;omega
 ·rw[x3i,x6j (by rw[h.len];exact r)];exact x4j _
def ME{p:Pg}(h:QL p=true){t:S}(g:t∈VH p)(b:t.kind=4):∃k,k<p.A.length/\caI p t=(k:Nat)/\caP p t=prA p k/\(prA p k).name=t.C/\(prA p k).B.map Param.ref=t.args.map Arg.ref:=by
 obtain⟨_,e,ha,_⟩:=QB h;have u:=(Ci e).1 ha t g b;unfold FC at u;rw[x4n]at u;have m:=u.2;cases s:p.A.find? (fun f=>f.name==t.C)with
 |none=>rw[s]at m;cases m
 | some f=>
   rw[s]at m;have d:t.C∈QK p:=x4y.2 ⟨f,x8h s,by simpa using x9j s⟩;obtain⟨k,w,z,_,v,c⟩:=q4x d;rw[s]at v;have r:p.A[k]=f:=(x8z v).symm;have y:prA p k=f:=by rw[<-r];exact VJ (x3e w)
   have q:caI p t=(k:Nat):=z;refine⟨k,w,q,?_,?_,?_⟩
   .unfold caP;rw[q];rfl
   .rw [y,<-r];exact c
   .rw [y];unfold SJ at m;exact x7a m
theorem FM{p:Pg}(h:QL p=true){t:S}(u:t∈VH p)(r:t.kind=4):t.args.length=(caP p t).B.length/\t.args.length<=8:=by
 obtain⟨k,_,_,m,_,q⟩:=ME h u r;have s:=x6h length q;rw[x3a,x3a]at s;have:=Gq h k;rw[m];omega
theorem OkO.call{p:Pg}{O:List (List Str)}(m:QL p=true)(h:OkO p O){b:Book}(w:b.s=sheetOf p)(u:b.za=O){t:S}(v:t∈VH p)(q:t.kind=4):CallOk b t:=by
 obtain⟨k,A,y,z,_⟩:=ME m v q;obtain⟨c,g⟩:=FM m v q;have e:b.s.p=p:=by rw[w];exact(QU p).1
 have r:caO b t=O.getD (caI p t).toNat []:=by unfold caO;rw[e,u]
 refine⟨by rw[e];omega,by rw[e];omega,by rw[e,u,h.len];exact x4m _,?_,?_,by rw[e];omega,by omega⟩
 ·rw[r];exact DX h.rise _
 ·rw[r];have:=h.len25 m (caI p t).toNat;omega
def CG{p:Pg}{O:List (List Str)}{b:Book}(k:b.s=sheetOf p)(h:b.za=O)(t:S):FR b t=FR (bkO p O) t:=by
 unfold FR caO bkO;rw[k,h]
theorem LZ{p:Pg}{O:List (List Str)}(k:QL p=true)(h:OkO p O){t:S}(q:t∈VH p):(FR (bkO p O) t).length<=34:=by
 unfold FR
 (repeat' split)<;>try (simp;done)
 rename_i m;have w:=Td t (caP p t) (caO (bkO p O) t) t.args.length;have r:=(FM k q m).2;have s:=h.len25 k (caI p t).toNat;have u:((caO (bkO p O) t).filter (comB p)).length<=(O.getD (caI p t).toNat []).length:=x6p _ _;show((if t.name=[]then []else [t.name])++E2 t (caP p t) (caO (bkO p O) t) t.args.length++(caO (bkO p O) t).filter (comB p)).length<=34;rw[x3o,x3o];have v:(if t.name=[]then []else [t.name]).length<=1:=by split<;>simp
 omega
def Hc(p:Pg)(O:List (List Str)):(dfB p O).length=(sheetOf p).l.length:=x3a _
def leO(O O':List (List Str)):Prop:=∀i n,n∈O.getD i []->n∈O'.getD i []
def Q6{t:S}{f:Pr}{O:List Str}{n:Str}:n∈E2 t f O t.args.length ↔ ∃x∈(t.args.zip f.B).take t.args.length,(x.1.ref=true/\x.2.name∈O)/\x.1.name=n:=by
 unfold E2 q8i;simp only[x4y,x5h,x4n,HU,and_assoc]
theorem CH{p:Pg}{O:List (List Str)}(h:leO O O'){t:S}{n:Str}(k:n∈FR (bkO p O) t):n∈FR (bkO p O') t:=by
 unfold FR at k⊢
 (repeat' split at k)
 ·rw[if_pos (by assumption)];exact k
 ·rw[if_neg (by assumption),if_pos (by assumption)];exact k
 ·rw[if_neg (by assumption),if_neg (by assumption),if_pos (by assumption)];exact k
 ·rw[if_neg (by assumption),if_neg (by assumption),if_neg (by assumption),if_pos (by assumption)];unfold Iw at k⊢;rcases x4g.1 k with k|k
  ·rcases x4g.1 k with k|k
   ·exact x5c _ (x5c _ k)
   ·refine x5c _ (x6f _ ?_);obtain⟨x,m,⟨q,r⟩,s⟩:=Q6.1 k;exact Q6.2 ⟨x,m,⟨q,h _ _ r⟩,s⟩
  ·obtain⟨m,q⟩:=x5h.1 k;exact x6f _ (x5h.2 ⟨h _ _ m,q⟩)
 ·cases k
def KZ{α β:Type}{f:α->List β}{l:List α}{i:Nat}{n:β}:n∈(l.map f).getD i [] ↔ ∃x,l[i]?=some x/\n∈f x:=by
 rw[x3i,x4q];cases l[i]?with
 |none=>simp
 |some x=>simp
def IN{p:Pg}{O:List (List Str)}(h:leO O O'):leO (dfB p O) (dfB p O'):=fun i n q=>by
 obtain⟨r,k,m⟩:=KZ.1 q;exact KZ.2 ⟨r,k,XA.2 (CH h (XA.1 m))⟩
def lvB(p:Pg)(i:Nat)(id:Int):Bool:=(QQ p i (prA p i)).live.getD (ixI p i (prA p i) id).toNat false
def OP{p:Pg}{i:Nat}{D:List (List Str)}{n:Str}:n∈M5 p i (prA p i) D (itsOf p i (prA p i)) ↔ ∃h∈itsOf p i (prA p i),lvB p i h.s.id=true/\n∈LW D h.s.id/\outB p (prA p i) n=true:=by
 unfold M5;rw[x4a];refine x9t fun h=>and_congr_right fun _=>?_;unfold q7s lvB;cases(QQ p i (prA p i)).live.getD (ixI p i (prA p i) h.s.id).toNat false with
 |false=>simp
 |true=>simp[x5h]
def Fb{p:Pg}{D:List (List Str)}{i:Nat}(m:i<p.A.length){n:Str}:n∈(otB p D).getD i [] ↔ ∃it∈itsOf p i (prA p i),lvB p i it.s.id=true/\n∈LW D it.s.id/\outB p (prA p i) n=true:=by
 unfold otB;rw[KZ,<-OP];constructor
 .rintro ⟨x,k,q⟩;rw[x7z m]at k;cases k;exact XA.1 q
 .exact fun h=>⟨i,x7z m,XA.2 h⟩
def OD{p:Pg}{D q:List (List Str)}(h:leO D q):leO (otB p D) (otB p q):=fun i n r=>by
 rcases x4f i p.A.length with m|m
 .obtain ⟨v,k,s,t,u⟩:=(Fb m).1 r;exact(Fb m).2 ⟨v,k,s,h _ _ t,u⟩
 .obtain ⟨x,k,_⟩:=KZ.1 r;rw[x6j (by simpa using m)]at k;cases k
def q0q{p:Pg}{O:List (List Str)}(h:leO O O'):leO (rdO p O) (rdO p O'):=OD (IN h)
theorem q2w(p:Pg):∀k,leO (itO p k) (itO p (k+1))
 | 0=>fun i n h=>by
   unfold itO at h;rw[x3i,x5v]at h;split at h<;>cases h
 |k+1=>q0q (q2w p k)
def q2d(p:Pg)(D:List (List Str)):OkO p (otB p D):=by
 refine⟨by unfold otB;rw[x3a,x6l],fun o q=>?_,fun i k n m=>?_⟩
 .obtain ⟨i,_,rfl⟩:=x4y.1 q;exact ZM _
 .obtain ⟨r,_,_,_,h⟩:=(Fb k).1 m;exact h
def Uo(p:Pg):∀k,OkO p (itO p k)
 | 0=>by
   refine⟨by unfold itO;rw[x5e],fun o m=>?_,fun i q n h=>?_⟩
   .rw [x6v m];exact .nil
   .unfold itO at h;rw[x3i,x5v]at h;split at h<;>cases h
 |k+1=>q2d p _
def tot(O:List (List Str)):Nat:=(O.map length).sum
def Ol{a b:List Str}{O:List (List Str)}(h:leO (a::O) (b::O')):(∀n∈a,n∈b)/\leO O O':=⟨fun n k=>h 0 n k,fun i n k=>h (i+1) n k⟩
theorem q0o{a b:List Str}(ha:a.Pairwise ltT)(r:b.Pairwise ltT)(q:∀n∈a,n∈b)(u:b.length<=a.length):a=b:=by
 refine Wi ltT.irr ltT.trans ha r fun s=>⟨q s,fun h=>?_⟩;refine x7p fun t=>?_;have:=YG (l:=s::a) (m:=b) (x6q.2 ⟨t,YV ha⟩) fun n k=>by
  rcases x4v.1 k with rfl|k
  ·exact h
  ·exact q n k
 rw[x5g]at this;omega
theorem EB:∀{O O':List (List Str)},O.length=O'.length->(∀o∈O,o.Pairwise ltT)->(∀o∈O',o.Pairwise ltT)->leO O O'->tot O<=tot O'/\(tot O'<=tot O->O=O')
 |[],[],_,_,_,_=>⟨x4m _,fun _=>rfl⟩
 |[],_::_,h,_,_,_=>by cases h
 |_::_,[],h,_,_,_=>by cases h
 | a::O,b::O',hl,h1,h2,h=>by
   obtain⟨m,q⟩:=Ol h;obtain⟨t,r⟩:=EB (O:=O) (O':=O') (by simpa using hl) (fun o k=>h1 o (x4x _ k)) (fun o k=>h2 o (x4x _ k)) q;have ha:=h1 a x4z;have s:=h2 b x4z;have u:=YG (YV ha) m;have e:∀(x:List Str)(l:List (List Str)),tot (x::l)=x.length+tot l:=fun x l=>by unfold tot;rw[x4o,x9l]
   rw[e,e];exact⟨by omega,fun v=>by rw[q0o ha s m (by omega),r (by omega)]⟩
theorem D7:∀{O:List (List Str)},(∀o∈O,o.length<=25)->tot O<=25*O.length
 |[],_=>x4m _
 | a::O,h=>by
   have m:=D7 (O:=O) fun o k=>h o (x4x _ k);have q:=h a x4z;have e:tot (a::O)=a.length+tot O:=by unfold tot;rw[x4o,x9l]
   rw[e,x5g];omega
theorem OkO.tot{p:Pg}{O:List (List Str)}(m:QL p=true)(h:OkO p O):Go.Ab.tot O<=400:=by
 have q:=D7 (O:=O) fun o t=>by
  obtain⟨i,r,rfl⟩:=x6u.1 t;have:=h.len25 m i
  rwa[x3i,x3e r]at this
 have u:=(XF m).2.1;rw[h.len]at q;omega
def RL{p:Pg}{k:Nat}(h:itO p (k+1)≠itO p k):Go.Ab.tot (itO p k)<Go.Ab.tot (itO p (k+1)):=by
 obtain⟨r,q⟩:=EB (O:=itO p k) (O':=itO p (k+1)) (by rw[(Uo p k).len,(Uo p (k+1)).len]) (Uo p k).rise (Uo p (k+1)).rise (q2w p k);rcases x4f (Go.Ab.tot (itO p k)) (Go.Ab.tot (itO p (k+1)))with m|m
 .exact m
 .exact absurd (q m).symm h
section
variable (p:Pg)(i:Nat)(f:Pr)(D U:List (List Str))(o:List Str)(x:Str)
def idN(a:Int):Int:=QF p i (QJ f.body+2:Nat) a
def hitN(a:Int):Bool:=bif decide (a=(QJ f.body+2:Nat)-1)then inS o x else bif decide (0<a)then inS (LW U (idN p i f a)) x else false
def Q0(a:Int):Bool:=bif decide (a=(QJ f.body+2:Nat)-1)then false else bif decide (0<a)then !inS (LW D (idN p i f a)) x else true
def netR(p:Pg)(i:Nat)(f:Pr):List (List Int):=VQ (QJ f.body+2) (KC (QQ p i f) f)
def q9r:List (Int×Int):=(KC (QQ p i f) f).filter fun t=>Q0 p i f D x t.1
def Cq:Bool:=(DG 0 (WB (QA (QJ f.body+2) (q9r p i f D x)).1 [0])).any (hitN p i f U o x)
end
section
variable {p:Pg}{i:Nat}{f:Pr}{D U:List (List Str)}{o:List Str}{x:Str}
def nR(p:Pg)(i:Nat)(f:Pr)(D:List (List Str))(x:Str)(a b:Int):Prop:=Q0 p i f D x a=true/\(a,b)∈KC (QQ p i f) f
theorem LS(h:QL p=true)(q:p.A[i]?=some f):Cq p i f D U o x=true ↔ ∃a,Rch (nR p i f D x) 0 a/\hitN p i f U o x a=true:=by
 unfold Cq;rw[x6s];refine x9t fun a=>and_congr_left fun _=>?_;rw[L4 (by omega)];have e:∀a b,((a,b)∈q9r p i f D x/\ZT (QJ f.body+2) b=true)↔nR p i f D x a b:=fun a b=>by
  unfold q9r nR;rw[x5h];constructor
  ·exact fun k=>⟨k.1.2,k.1.1⟩
  ·intro k;have m:=(HF h q _ k.2).2;exact⟨⟨k.2,k.1⟩,by unfold ZT;simp;omega⟩
 exact⟨fun k=>k.mono fun a b m=>(e a b).1 m,fun k=>k.mono fun a b m=>(e a b).2 m⟩
def Lj(h:QL p=true)(t:p.A[i]?=some f){S:Int->Prop}(m:S 0)(q:∀a,S a->hitN p i f U o x a=false)(r:∀a b,S a->nR p i f D x a b->S b):Cq p i f D U o x=false:=by
 cases u:Cq p i f D U o x with
 |false=>rfl
 | true=>
   obtain⟨a,s,k⟩:=(LS h t).1 u;rw[q a (Rch.closed r m s)]at k;cases k
structure NedI(p:Pg)(i:Nat)(f:Pr)(D U:List (List Str))(o:List Str)(x:Str)(n:Nat)(seen:List Bool)(todo:List Int):Prop where
 len:seen.length=n
 rng:∀a∈todo,0<=a/\a<(n:Int)
 way:∀a:Int,(a=0\/seen.getD a.toNat false=true/\0<=a)->Rch (nR p i f D x) 0 a
 td:∀a∈todo,a=0\/seen.getD a.toNat false=true/\0<=a
 done:∀a:Int,(a=0\/seen.getD a.toNat false=true/\0<=a)->a∉todo->hitN p i f U o x a=false/\∀b,nR p i f D x a b->seen.getD b.toNat false=true
structure NedJ(p:Pg)(i:Nat)(f:Pr)(D U:List (List Str))(o:List Str)(x:Str)(n:Nat)(a:Int)(k:Nat)(seen:List Bool)(todo:List Int):Prop where
 len:seen.length=n
 rng:∀a∈todo,0<=a/\a<(n:Int)
 way:∀a:Int,(a=0\/seen.getD a.toNat false=true/\0<=a)->Rch (nR p i f D x) 0 a
 td:∀a∈todo,a=0\/seen.getD a.toNat false=true/\0<=a
 me:Rch (nR p i f D x) 0 a
 done:∀b:Int,(b=0\/seen.getD b.toNat false=true/\0<=b)->b∉todo->b≠a->hitN p i f U o x b=false/\∀c,nR p i f D x b c->seen.getD c.toNat false=true
 row:∀c∈((netR p i f).getD a.toNat []).take k,seen.getD c.toNat false=true
def q5v{k j:Nat}(h:(l.set k true).getD j false=true):j=k\/l.getD j false=true:=by
 rcases Nat.decEq j k with m|rfl
 .right
  rwa[x3i,x5p (x7d m),<-x3i]at h
 .exact .inl rfl
def L3{k j:Nat}(h:l.getD j false=true):(l.set k true).getD j false=true:=by
 rcases Nat.decEq j k with q|rfl
 .rwa [x3i,x5p (x7d q),<-x3i]
 .have r:j<l.length:=by
   rcases x4f j l.length with m|m
   .exact m
   .rw [x3i,x6j m]at h;cases h
  rw[x3i,x5f r];rfl
def q2m{k:Nat}(h:k<l.length):(l.set k true).getD k false=true:=by
 rw[x3i,x5f h];rfl
variable {n:Nat}{seen:List Bool}{todo:List Int}{a:Int}
theorem NedI.start(n:Nat)(q:0<n):NedI p i f D U o x n (List.replicate n false) [0]:=by
 have m:∀k:Nat,(List.replicate n false).getD k false=true->False:=fun k h=>by
  rw[x3i,x5v]at h;split at h<;>cases h
 refine⟨x5e,fun a ha=>by rw[x4w.1 ha];omega,fun a ha=>?_,fun a ha=>.inl (x4w.1 ha),fun a ha q=>?_⟩
 ·rcases ha with rfl|⟨h,_⟩
  ·exact .refl
  ·exact(m _ h).elim
 ·rcases ha with rfl|⟨h,_⟩
  ·exact absurd (x4w.2 rfl) q
  ·exact(m _ h).elim
theorem NedI.stop(h:QL p=true)(r:p.A[i]?=some f)(m:NedI p i f D U o x n seen []):Cq p i f D U o x=false:=by
 refine Lj h r (S:=fun a=>a=0\/seen.getD a.toNat false=true/\0<=a) (.inl rfl) (fun a ha=>(m.done a ha (by simp)).1) fun a b ha q=>?_;have t:=(m.done a ha (by simp)).2 b q;have u:=(HF h r _ q.2).2;exact .inr ⟨t,u.1⟩
theorem NedI.skip(m:NedI p i f D U o x n seen (todo++[a]))(v:hitN p i f U o x a=false)(t:Q0 p i f D x a=false):NedI p i f D U o x n seen todo:=by
 refine⟨m.len,fun b q=>m.rng b (x5c _ q),m.way,fun b q=>m.td b (x5c _ q),fun b q y=>?_⟩;by_cases u:b=a
 .subst u;exact⟨v,fun c w=>by rw[w.1]at t;cases t⟩
 .exact m.done b q fun r=>(x4g.1 r).elim y fun r=>u (x4w.1 r)
theorem NedI.open(m:NedI p i f D U o x n seen (todo++[a])):NedJ p i f D U o x n a 0 seen todo:=
 ⟨m.len,fun b q=>m.rng b (x5c _ q),m.way,fun b q=>m.td b (x5c _ q),m.way a (m.td a (x6f _ (x4w.2 rfl))),
   fun b q v u=>m.done b q fun r=>(x4g.1 r).elim v fun r=>u (x4w.1 r),fun c t=>by rw[List.take_zero]at t;cases t⟩
theorem NedJ.shut(h:QL p=true)(u:p.A[i]?=some f){k:Nat}(m:NedJ p i f D U o x n a k seen todo)(y:((netR p i f).getD a.toNat []).length<=k)(v:hitN p i f U o x a=false):NedI p i f D U o x n seen todo:=by
 refine⟨m.len,m.rng,m.way,m.td,fun b w z=>?_⟩;by_cases r:b=a
 ·subst r;refine⟨v,fun c q=>m.row c ?_⟩;rw[x4b y];exact(GD fun t e=>(HF h u t e).1).2 ⟨(b,c),q.2,by have:=(HF h u _ q.2).1;simp only at this⊢;omega,rfl⟩
 ·exact m.done b w z r
theorem NedJ.old{k:Nat}(m:NedJ p i f D U o x n a k seen todo)(t:k<((netR p i f).getD a.toNat []).length)(u:seen.getD (((netR p i f).getD a.toNat [])[k]).toNat false=true):NedJ p i f D U o x n a (k+1) seen todo:=by
 refine⟨m.len,m.rng,m.way,m.td,m.me,m.done,fun c r=>?_⟩;rcases(HG t).1 r with q|rfl
 .exact m.row c q
 .exact u
theorem NedJ.new{k:Nat}(r:NedJ p i f D U o x n a k seen todo)(C:k<((netR p i f).getD a.toNat []).length){c:Int}(g:c=((netR p i f).getD a.toNat [])[k])(z:0<=c/\c<(n:Int))(e:nR p i f D x a c):NedJ p i f D U o x n a (k+1) (seen.set c.toNat true) (todo++[c]):=by
 have w:c.toNat<seen.length:=by rw[r.len];omega
 have u:∀b:Int,(b=0\/(seen.set c.toNat true).getD b.toNat false=true/\0<=b)->b=c\/(b=0\/seen.getD b.toNat false=true/\0<=b):=fun b q=>by
  rcases q with m|⟨m,t⟩
  ·exact .inr (.inl m)
  ·rcases q5v m with v|v
   ·exact .inl (by omega)
   ·exact .inr (.inr ⟨v,t⟩)
 refine⟨by rw[x6x];exact r.len,fun b q=>?_,fun b q=>?_,fun b q=>?_,r.me,fun b q y B=>?_,fun b q=>?_⟩
 ·rcases x4g.1 q with m|m
  ·exact r.rng b m
  ·rw[x4w.1 m];exact z
 ·rcases u b q with rfl|m
  ·exact .tail r.me e
  ·exact r.way b m
 ·rcases x4g.1 q with m|m
  ·rcases r.td b m with t|t
   ·exact .inl t
   ·exact .inr ⟨L3 t.1,t.2⟩
  ·rw[x4w.1 m];exact .inr ⟨q2m w,z.1⟩
 ·rcases u b q with rfl|m
  ·exact absurd (x6f _ (x4w.2 rfl)) y
  ·obtain⟨t,v⟩:=r.done b m (fun h=>y (x5c _ h)) B;exact⟨t,fun d A=>L3 (v d A)⟩
 ·rcases(HG C).1 q with m|m
  ·exact L3 (r.row b m)
  ·rw[m,<-g];exact q2m w
end
def RD(p:Pg)(i:Nat)(f:Pr)(D U:List (List Str))(o:List Str):List Str:=(p.F++[JE]).filter (Cq p i f D U o)
def fzL{N:Nat}{a b c d e:AV}{L:List Str}{n:Nat}(m:n=(L.map AV.str).length):
  Le N ⟨[(0,.p a),(1,.p b),(5,.p .nils),(6,.p c),(27,.hd 0 0 n),(28,.p d),(29,.p e)],[(0,.own 9 1 (L.map .str))]⟩ ⟨[(0,.p a),(1,.p b),(5,.hd 0 0 0),(6,.p c),(27,.p (eStrs L)),(28,.p d),(29,.p e)],[(0,.own 9 1 [])]⟩:=by
 subst m;obtain⟨s',rfl,h⟩:=Le.row (N:=N) (s:=⟨[(0,.p a),(1,.p b),(5,.p .nils),(6,.p c),(27,.hd 0 0 (L.map AV.str).length),(28,.p d),(29,.p e)],[(0,.own 9 1 (L.map .str))]⟩) (k:=0) (e:=9) (sz:=1) (es:=L.map .str) (zs:=[27]) rfl
  (K:=fun s=>s=⟨[(0,.p a),(1,.p b),(5,.p .nils),(6,.p c),(27,.p (eStrs L)),(28,.p d),(29,.p e)],[]⟩) ⟨rfl,rfl⟩
 exact h.trans (lM [(0,.own 9 1 [])])
theorem F7(b:Book)(p:Pg)(R:b.s=sheetOf p)(h:QL p=true)(i:Nat)(f:Pr)(k:p.A[i]?=some f)(O:b.ways[i]?=some (QQ p i f))(o:List Str)(K:∀x,aP 166 [.ip b.cells,.int .i64 i,eMat (netR p i f),.str x] (.bool (Cq p i f b.M b.zb o x))):SpecH prog 109 [.p (.ip b.cells),.j i] [] (fun r H=>OneRow (Jg (RD p i f b.M b.zb o)) False r H):=by
 refine sK V9 func109 ?_;conv=>whnf
 have C:b.s.p=p:=by rw[R];exact(QU p).1
 have V:=(XF h).1;have P:=Ht h k;have B:=R6 (QQ p i f) f (QJ f.body+2) (q2e h k) (HF h k) (by omega);have v:aP 164 [.ip (QQ p i f).cells] (eMat (netR p i f)):=B;have g:SpecH prog 165 ([eStrs p.F].map .p) [] (OneRow (Jg p.F) (p.F=[])):=XX p.F (by omega);have E:(b.ways.map fun w=>AV.ip w.cells)[i]?=some (.ip (QQ p i f).cells):=by rw[x4q,O];rfl
 generalize QQ p i f=w at*
 generalize netR p i f=net at*
 repeat' ((first|refine iT E ?_|refine cP v ?_)<;>conv=>whnf)
 obtain⟨L,d⟩ : ∃L,L=p.F++[JE]:=⟨_,rfl⟩;have J:L.length<=17:=by rw[d,x3o];simp;omega
 have y:RD p i f b.M b.zb o=L.filter (Cq p i f b.M b.zb o):=by unfold RD;rw[d]
 rw[y];generalize Cq p i f b.M b.zb o=ned at*
 refine VL 0 rfl g (.cons (.p (Sub.of_eq (by rw[C]))) .nil) (fun z=>?_) (fun q e sz es N=>?_);rotate_left;obtain⟨rfl,rfl,rfl⟩:=N
 rotate_right
 all_goals
  conv=>whnf
  repeat' ((first|(refine gX ?_;intros)|refine WK (es:=[]) rfl (by simp) ?_|refine pS ?_)<;>conv=>whnf)
 all_goals
  refine lJ (fun x:Nat×List Str=>⟨[(0,.p (.ip b.cells)),(1,.j i),(5,.hd 0 0 x.2.length),(6,.p (eMat net)),(27,.p (eStrs L)),(28,.p (.int .i64 (L.map AV.str).length)),(29,.j x.1)],[(0,.own 9 1 (x.2.map .str))]⟩) (fun x=>x.1<=L.length/\x.2=(L.take x.1).filter ned/\x.2.length<=x.1) (fun x=>L.length-x.1) (0,[]) (by first
    |exact Le.trans (Le.of_eq (by rw[d,z];rfl)) (fzL (L:=L) rfl)
    |exact Le.trans (Le.of_eq (by rw[d];simp only[x4d,x3o];rfl)) (fzL (L:=L) rfl)
    |trace_state) ⟨x4j _,by simp,by simp⟩ ?_
  rintro⟨j,m⟩ ⟨G,t,I⟩;simp only at G t I⊢;have Q:(L.map AV.str).length=L.length:=x3a _;rcases x4f j L.length with k|k
  ·have c:=x4k k;have u:=K L[j];have T:(L.map AV.str)[j]?=some (.str L[j]):=by simp[k]
   cases hnd:ned L[j];all_goals
    rw[hnd]at u;conv=>whnf
    repeat' ((first|(refine gX ?_;intros)|refine cP u ?_|refine WK (by simp) (by rw[x3a];omega) ?_|refine Br.tt ?_|refine Br.ff ?_|(apply bD<;>intro _<;>try omega))<;>conv=>whnf)
   all_goals first
    |exact⟨(j+1,m++[L[j]]),⟨k,by simp only;rw[c,x6y,x7y hnd,t];rfl,by simp;omega⟩,by simp only;omega,Le.of_eq (by simp only[x3o,x4d];rfl)⟩
    |exact nX (j+1,m) ⟨k,by simp only;rw[c,x6y,x7b (by rw[hnd];decide),t];simp,by simp only;omega⟩
  ·rw[x4b k]at t;subst t;conv=>whnf
   repeat' (apply bD<;>intro _<;>first|omega|conv=>whnf)
   all_goals exact x6n _ (x4c _) (OneRow.str rfl)
def HN(h:Str)(k id:Int)(n:Str):Vx:=⟨h,k,id,n⟩
theorem Q1(b:AV)(i:Int)(f:Pr)(vs:List Vx)(k id:Int)(sl:List Str)(t:vs.length+sl.length<=100000000):aH 114 [.ptr 1000 0,.j k,.j id,.p (eStrs sl)] (vH b i f vs) (.p (.tup [])) (vH b i f (vs++sl.map (HN f.name k id))):=by
 refine sK X5 func114 ?_;conv=>whnf
 repeat' ((first|(refine gX ?_;intros)|refine dA ?_|((first|apply bD|apply bE|apply bN|apply bB)<;>intro _<;>try omega))<;>conv=>whnf)
 have s:(sl.map AV.str).length=sl.length:=x3a _;refine lJ (fun j:Nat=>⟨[(0,.ptr 1000 0),(1,.j k),(2,.j id),(10,.p (eStrs sl)),(11,.p (.int .i64 (sl.map AV.str).length)),(12,.j j)],vH b i f (vs++(sl.take j).map (HN f.name k id))⟩) (fun j=>j<=sl.length) (fun j=>sl.length-j) 0 (Le.of_eq (by rw[List.take_zero,z0d,x5m];rfl)) (x4j _) ?_;intro j r;rcases x4f j sl.length with h|h;rotate_left 1
 ·rw[x4b h];conv=>whnf
  repeat' ((first|(refine gX ?_;intros)|refine dA ?_|((first|apply bD|apply bE|apply bN|apply bB)<;>intro _<;>try omega))<;>conv=>whnf)
  exact⟨_,x4c _,rfl,rfl⟩
 have e:vs++(sl.take (j+1)).map (HN f.name k id)=(vs++(sl.take j).map (HN f.name k id))++[HN f.name k id sl[j]]:=by
  rw[x4k h,x4d,x4r];rfl
 have q:(vs++(sl.take j).map (HN f.name k id)).length<=vs.length+j:=by simp;omega
 generalize vs++(sl.take j).map (HN f.name k id)=acc at*
 have m:(avV acc).length=acc.length:=x3a _;conv=>whnf
 repeat' ((first|(refine gX ?_;intros)|refine dA ?_|refine pA 1 48 m.symm ?_|((first|apply bD|apply bE|apply bN|apply bB)<;>intro _<;>try omega)|(refine cH [(1000,1000),(1001,2000)] 0 (Q3 b i f acc k id (sl[j]'h)) ?_)|refine x4e ?_ ?_)<;>conv=>whnf)
 all_goals exact⟨j+1,by omega,by omega,Le.of_eq (by rw[e];simp only[vH,pcO,avV,x4d,x3o];rfl)⟩
theorem GP(b:AV)(i:Int)(f:Pr)(es:List Eg)(x y:Vx)(k:Int)(m:es.length<=100000000):aH 73 [.ptr 1000 0,.p (.agg x.cells),.p (.agg y.cells),.j k] (eH b i f es) (.p (.tup [])) (eH b i f (es++[⟨x,y,k⟩])):=by
 refine sK ML func73 ?_;have h:(avE es).length=es.length:=x3a _;conv=>whnf
 repeat' ((first|(refine gX ?_;intros)|refine dA ?_|refine pA 1 104 h.symm ?_|((first|apply bD|apply bE|apply bN|apply bB)<;>intro _<;>try omega)|refine x4e ?_ ?_)<;>conv=>whnf)
 all_goals exact⟨_,x4c _,rfl,by simp only[eH,pcO,avE,x4d,x3o];rfl⟩
theorem NE(n:Str):aP 169 [.str n] (.bool (n==retS)):=by
 refine sC FP func169 ?_;conv=>whnf
 repeat' ((first|(refine gX ?_;intros)|refine dA ?_|((first|apply bD|apply bE|apply bN|apply bB)<;>intro _<;>try omega))<;>conv=>whnf)
 all_goals exact RetK.p rfl
theorem q7h(l:List Str)(g:Nat)(p:Str->Bool)(m:∀s,aP g [.str s] (.bool (p s))):aP 156 [eStrs l,.fn g []] (.int .i64 (idxF p l)):=by
 refine sC ZX func156 ?_;conv=>whnf
 refine iM fun _=>?_;have r:(l.map AV.str).length=l.length:=x3a _;conv=>whnf
 refine lI (fun j:Nat=>⟨[(0,.p (eStrs l)),(1,.p (.fn g [])),(7,.p (.int .i64 (l.map AV.str).length)),(8,.j j)],[]⟩) (fun j=>j<=l.length/\(l.drop j).any p=l.any p/\l.findIdx p=j+(l.drop j).findIdx p) (fun j=>l.length-j) 0 ⟨x4j _,rfl,by simp⟩ ?_;rintro j ⟨q,h,k⟩;conv=>whnf
 repeat' ((first|(refine gX ?_;intros)|refine dA ?_|refine cP (m _) ?_|((first|apply bD|apply bE|apply bN|apply bB)<;>intro _<;>try omega))<;>conv=>whnf)
 ·exact RetK.int (Wl (p:=p) (by omega) (by assumption) h k).symm
 ·exact nX (j+1) ⟨by omega,by rw[<-h,Bz (p:=p) (by omega) (by assumption)],by rw[k,IC (p:=p) (by omega) (by assumption)];omega⟩
 ·exact RetK.int (by rw[Fx];rw[<-h,Vr (by omega)])
theorem q4z{l:List Str}{p:Str->Bool}(h:l.any p=true):∃(k:Nat) (m:k<l.length),idxF p l=k/\p l[k]=true/\(l.take k).filter (fun s=> !p s)=l.take k:=by
 have m:l.findIdx p<l.length:=List.findIdx_lt_length_of_exists (x6s.1 h);refine⟨l.findIdx p,m,by unfold idxF;rw[h];rfl,List.findIdx_getElem,List.filter_eq_self.2 fun s q=>?_⟩;obtain⟨j,r,rfl⟩:=List.mem_take_iff_getElem.1 q;have:=List.not_of_lt_findIdx (p:=p) (xs:=l) (i:=j) (by omega);simp[this]
theorem q3m(l:List Str)(A:l.length<=1000000)(g:Nat)(p:Str->Bool)(B:∀s,aP g [.str s] (.bool (p s))):aH 168 [.hd 1000 0 l.length,.p (.fn g [])] [(1000,.own 9 1 (l.map .str))] (.hd 1000 0 (l.filter fun s=> !p s).length) [(1000,.own 9 1 ((l.filter fun s=> !p s).map .str))]:=by
 refine sK UX func168 ?_;have t:=q7h l g p B;have L:(l.map AV.str).length=l.length:=x3a _;cases ha:l.any p with
 | false=>
   have w:idxF p l = -1:=by unfold idxF;rw[ha];rfl
   have e:l.filter (fun s=> !p s)=l:=List.filter_eq_self.2 fun s K=>by
    have:=List.any_eq_false.1 ha s K;simpa using this
   rw[e];rw[w]at t;conv=>whnf
   repeat' ((first|(refine gX ?_;intros)|refine dA ?_|((first|apply bD|apply bE|apply bN|apply bB)<;>intro _<;>try omega)|(refine QC t (.cons (.hd rfl (by simp)) (.cons (.p (Sub.refl _)) .nil)) (by rintro _ rfl;rfl) ?_;rintro _ rfl))<;>conv=>whnf)
   all_goals exact⟨_,x4c _,rfl,rfl⟩
 | true=>
   obtain⟨k,J,w,b,q⟩:=q4z ha;rw[w]at t;conv=>whnf
   repeat' ((first|(refine gX ?_;intros)|refine dA ?_|((first|apply bD|apply bE|apply bN|apply bB)<;>intro _<;>try omega)|(refine QC t (.cons (.hd rfl (by simp)) (.cons (.p (Sub.refl _)) .nil)) (by rintro _ rfl;rfl) ?_;rintro _ rfl))<;>conv=>whnf)
   refine lI (fun x:Nat×Nat×List Str=>⟨[(0,.hd 1000 0 l.length),(1,.p (.fn g [])),(5,.j x.2.1),(6,.j x.1)],[(1000,.own 9 1 (x.2.2.map .str))]⟩) (fun x=>x.2.1<x.1/\x.1<=l.length/\x.2.2.length=l.length/\x.2.2.drop x.1=l.drop x.1/\x.2.2.take x.2.1++(l.drop x.1).filter (fun s=> !p s)=l.filter fun s=> !p s) (fun x=>l.length-x.1) (k+1,k,l) ⟨by simp only;omega,by simp only;omega,rfl,rfl,by
     simp only;rw[<-q,<-x6y];have C:l=l.take k++l[k]::l.drop (k+1):=by rw[<-x5j J,z0b]
     conv=>rhs;rw[C]
     rw[x6y,x6y,x9v,b];simp⟩ ?_
   rintro⟨j,i,es⟩ ⟨G,H,r,y,h⟩;simp only at G H r y h⊢;have I:(es.map AV.str).length=l.length:=by simp[r]
   rcases x4f j l.length with u|u;rotate_left 1
   ·rw[x4l u,List.filter_nil,x5m]at h;conv=>whnf
    repeat' ((first|(refine gX ?_;intros)|refine dA ?_|refine x9r i l.length rfl rfl (by omega) (by omega) ?_|refine x9r 0 i rfl rfl (by omega) (by omega) ?_|((first|apply bD|apply bE|apply bN|apply bB)<;>intro _<;>try omega))<;>conv=>whnf)
    refine OpK.clear XM rfl rfl rfl rfl rfl rfl rfl (by kernel_rfl) (by decide) ?_;conv=>whnf
    repeat' ((first|(refine gX ?_;intros)|refine dA ?_|refine x9r 0 i rfl rfl (by omega) (by omega) ?_|((first|apply bD|apply bE|apply bN|apply bB)<;>intro _<;>try omega))<;>conv=>whnf)
    have z:i=(l.filter fun s=> !p s).length:=by rw[<-h];simp;omega
    exact⟨_,x8o (by rw[<-z];rfl),rfl,by rw[x6i,<-h];simp[List.map_take]⟩
   have E:es[j]?=some l[j]:=by
    have:=x6h (fun x=>x[0]?) y;simp only[x5o,x8d]at this;rw[this,x3e u]
   have c:(es.map AV.str)[j]?=some (.str l[j]):=by simp[E]
   have z:i<es.length:=by omega
   have F:(es.map AV.str)[i]?=some (.str es[i]):=by simp[z]
   have d:es.drop (j+1)=l.drop (j+1):=by
    have:=x6h (List.drop 1) y;simpa only[z0f]using this
   rw[x5j u,x9v]at h;have v:=B l[j];cases m:p l[j]with
   | true=>
     rw[m]at v h;conv=>whnf
     repeat' ((first|(refine gX ?_;intros)|refine dA ?_|refine iO j ?_|refine lO c ?_|refine cP v ?_|refine Br.tt ?_|refine Br.ff ?_|((first|apply bD|apply bE|apply bN|apply bB)<;>intro _<;>try omega))<;>conv=>whnf)
     all_goals exact nX (j+1,i,es) ⟨by simp only;omega,by simp only;omega,r,d,by simpa using h⟩
   | false=>
     rw[m]at v h;conv=>whnf
     repeat' ((first|(refine gX ?_;intros)|refine dA ?_|refine iO j ?_|refine lO c ?_|refine cP v ?_|refine Br.tt ?_|refine Br.ff ?_|refine iO i ?_|refine sO (.str l[j]) F ?_|((first|apply bD|apply bE|apply bN|apply bB)<;>intro _<;>try omega))<;>conv=>whnf)
     all_goals exact⟨(j+1,i+1,es.set i l[j]),⟨by simp only;omega,by simp only;omega,by simp only[x6x];exact r,by rw[List.drop_set_of_lt (by omega)];exact d,by
      simp only;rw[<-h,x4k (by simp;omega),List.take_set_of_le (by omega),List.getElem_set_self,x4r];simp⟩,by simp only;omega,Le.of_eq (by simp only[x5d];rfl)⟩
def slI(I:List Str)(f:Pr):List Str:=YK (I++f.B.map Param.name)
def slO(O:List Str):List Str:=YK (O++[retS])
theorem Jv(b:Book)(p:Pg)(N:b.s=sheetOf p)(i:Nat)(f:Pr)(M:p.A[i]?=some f)(Q:f.B.length<=1000000)(I O:List Str)(J:b.ins[i]?=some I)(K:b.za[i]?=some O)(w:I.length<=1000000)(y:O.length<=1000000):aH 113 [.p (.ip b.cells),.j i] [] (.tup [.hd 0 0 (slI I f).length,.hd 1 0 (slO O).length]) [(1,.own 9 1 ((slO O).map .str)),(0,.own 9 1 ((slI I f).map .str))]:=by
 refine sK Hj func113 ?_;conv=>whnf
 have c:b.s.p=p:=by rw[N];exact(QU p).1
 have u:SpecH prog 165 ([eStrs I].map .p) [] (OneRow (Jg I) (I=[])):=XX I w;have v:SpecH prog 165 ([eStrs O].map .p) [] (OneRow (Jg O) (O=[])):=XX O y;have E:(b.ins.map eStrs)[i]?=some (eStrs I):=by rw[x4q,J];rfl
 have F:(b.za.map eStrs)[i]?=some (eStrs O):=by rw[x4q,K];rfl
 have G:(p.A.map fun f=>AV.agg f.cells)[i]?=some (.agg f.cells):=by rw[x4q,M];rfl
 repeat' ((first|(refine gX ?_;intros)|refine dA ?_|refine iT E ?_|((first|apply bD|apply bE|apply bN|apply bB)<;>intro _<;>try omega))<;>conv=>whnf)
 refine VL 0 rfl u (.cons (.p (Sub.refl _)) .nil) (fun h=>?_) (fun q e sz es z=>?_);rotate_left;obtain⟨rfl,rfl,rfl⟩:=z
 rotate_right
 all_goals
  conv=>whnf
  repeat' ((first|(refine gX ?_;intros)|refine dA ?_|(refine IdxK.at (k:=i) rfl (by rw[c];exact G) rfl ?_)|((first|apply bD|apply bE|apply bN|apply bB)<;>intro _<;>try omega))<;>conv=>whnf)
 all_goals
  refine lJ (fun x:Nat×List Str=>⟨[(0,.p (.ip b.cells)),(1,.j i),(4,.hd 0 0 x.2.length),(27,.p (.sl (f.B.map fun a=>.agg a.cells))),(28,.p (.int .i64 (f.B.map fun a=>AV.agg a.cells).length)),(29,.j x.1)],[(0,.own 9 1 (x.2.map .str))]⟩) (fun x=>x.1<=f.B.length/\x.2=I++(f.B.take x.1).map Param.name) (fun x=>f.B.length-x.1) (0,I) (by first
    |exact Le.of_eq (by rw[x3a];rfl)
    |(subst h;exact lM [(0,.own 9 1 [])])) ⟨x4j _,by simp⟩ ?_
  rintro⟨j,r⟩ ⟨H,t⟩;simp only at H t⊢;have P:(f.B.map fun a=>AV.agg a.cells).length=f.B.length:=x3a _;have L:r.length<=I.length+j:=by rw[t];simp;omega
  rcases x4f j f.B.length with m|m
  ·have d:=x4k m;conv=>whnf
   repeat' ((first|(refine gX ?_;intros)|refine dA ?_|refine pS ?_|((first|apply bD|apply bE|apply bN|apply bB)<;>intro _<;>try omega))<;>conv=>whnf)
   all_goals exact⟨(j+1,r++[f.B[j].name]),⟨m,by simp only;rw[d,x4d,<-x4r,<-t];rfl⟩,by simp only;omega,Le.of_eq (by simp only[x3o,x4d];rfl)⟩
  rw[x4b m]at t;subst t;conv=>whnf
  repeat' ((first|(refine gX ?_;intros)|refine dA ?_|refine iT F ?_|((first|apply bD|apply bE|apply bN|apply bB)<;>intro _<;>try omega))<;>conv=>whnf)
  refine VL 1 rfl v (.cons (.p (Sub.refl _)) .nil) (fun h=>?_) (fun q e sz es z=>?_);rotate_left;obtain⟨rfl,rfl,rfl⟩:=z
  rotate_right
  all_goals
   conv=>whnf
   repeat' ((first|(refine gX ?_;intros)|refine dA ?_|refine WK (es:=[]) rfl (by simp) ?_|refine pS ?_|((first|apply bD|apply bE|apply bN|apply bB)<;>intro _<;>try omega))<;>conv=>whnf)
   refine cJ rH1 0 (VM (I++f.B.map Param.name) (by simp;omega)) ?_;rintro l' H' ⟨rfl,rfl⟩;conv=>whnf
   repeat' ((first|(refine gX ?_;intros)|refine dA ?_|((first|apply bD|apply bE|apply bN|apply bB)<;>intro _<;>try omega))<;>conv=>whnf)
   refine cJ rH6 0 (VM (O++[retS]) (by simp;omega)) ?_ (ha:=(x5w (x8o (by first|(subst h;rfl)|exact x6h (LV.hd 1000 0) (show(O.map AV.str).length+1=(O++[retS]).length by simp))) x6e)) (hH:=by refine x5x (j:=1) rfl rfl ?_ ?_;exact CSub.of_eq (by first|(subst h;rfl)|(rw[x4d];rfl));exact x6z);rintro l' H' ⟨rfl,rfl⟩;conv=>whnf
   repeat' ((first|(refine gX ?_;intros)|refine dA ?_|((first|apply bD|apply bE|apply bN|apply bB)<;>intro _<;>try omega))<;>conv=>whnf)
 all_goals
  have g:(slI I f).length=(I++f.B.map Param.name).length:=ZY _;have C:(slO O).length=(O++[retS]).length:=ZY _;refine x6n _ (x4c _) ⟨?_,rfl⟩;rw[g,C];first
   |(subst h;rfl)
   |exact x6h (fun n=>LV.tup [LV.hd 0 0 (I++f.B.map Param.name).length,LV.hd 1 0 n]) (show(O.map AV.str).length+1=(O++[retS]).length by simp)
def clO(t:S)(O:List Str):List Str:=if t.name=[]then(slO O).filter (fun n=> !(n==retS))else slO O
def NL(O:List Str):(slO O).length=O.length+1:=by
 unfold slO;rw[ZY,x3o];rfl
def Ib:Info:={keep:=I_whole_piece_slots.keep,sched:=fun i=>bif beq i 1 then(.cons 0 false (.cons 1 false (.cons 2 false (.cons 4 false (.cons 5 false (.cons 6 false (.cons 8 false (.cons 7 true (.fork 3 (.cons 9 true (.cons 10 true (.cons 11 true (.cons 12 true (.cons 13 true (.cons 14 true (.cons 15 true .nil))))))) 9 (.cons 3 true (.cons 10 true (.cons 11 true (.cons 12 true (.cons 13 true (.cons 14 true (.cons 15 true .nil))))))))))))))))else I_whole_piece_slots.sched i,frz:=fun i=>bif beq i 4 then [[4],[5]]else I_whole_piece_slots.frz i}
theorem Lf(b:Book)(p:Pg)(e:b.s=sheetOf p)(t:S)(h:Nat)(k:Pr)(d:p.A[h]?=some k)(c:k.B.length<=1000000)(I O:List Str)(v:b.ins[h]?=some I)(w:b.za[h]?=some O)(r:I.length<=1000000)(y:O.length<=1000)(u:aP 136 [.ip b.cells,.agg t.cells] (.int .i64 h))(i:Int)(f:Pr)(vs:List Vx):
  aH 115 [.ptr 1000 0,.p (.agg t.cells)] (vHp (.agg b.cells) i f vs) (.p (.tup [eStrs (slI I k),eStrs (clO t O)])) (vHp (.agg b.cells) i f vs):=by
 refine sK Ib func115 ?_;have z:=Jv b p e h k d c I O v w r (by omega);conv=>whnf
 repeat' ((first|(refine gX ?_;intros)|refine dA ?_|refine cP u ?_|((first|apply bD|apply bE|apply bN|apply bB)<;>intro _<;>try omega)|(refine cH [] 0 z ?_ (hH:=x6z))|refine x4e ?_ ?_|(refine cH rH6 0 (q3m (slO O) (by rw[NL];omega) 169 (fun n=>n==retS) (fun s=>NE s)) ?_)|refine LenK.mk (by simp) ?_)<;>conv=>whnf)
 all_goals first
  | (have m:(t.name==(⟨#[]⟩:ByteArray).data.toList)=true:=by assumption
     have q:t.name=[]:=by simpa using m
     exact x6n _ (x4c _) ⟨by unfold clO;rw[if_pos q];rfl,rfl⟩)
  | (have m:(t.name==(⟨#[]⟩:ByteArray).data.toList)=false:=by assumption
     have q:¬t.name=[]:=by simpa using m
     exact x6n _ (x4c _) ⟨by unfold clO;rw[if_neg q];rfl,rfl⟩)
end Go.Ab
