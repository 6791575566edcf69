/- The law of a program that may be: every step leads from a place to a place. -/
import Derived.Laws.StructEq
import Derived.ChangeKeysEq
import Derived.Test.YtgljdhjopolmcaaGreatRcA10
import Derived.Test.YtgljdhjopolmcaaGreatRcA13
set_option linter.all false
set_option maxRecDepth 100000
set_option maxHeartbeats 16000000
open List (Nodup prefix_refl)
namespace Go.Ab
open Go.Proofs.Tryz
open Go.Proofs
variable {K:St->Prop}{L:List Str}{N j:Nat}{P:Program}{avs:List AV}{f:Pr}{it:Item}{p:Pg}{s:St}{y:Int}
def QV(h:QM p=true):UG p=true/\(XZ p).1=0/\(YZ p).1=0/\(X3 p).1=0/\(DO p).1=0:=by
 unfold QM q9d at h;simp only[z2z]at h;by_cases i:UG p=false
 .rw [if_pos i]at h;cases h
 rw[if_neg i]at h;by_cases k:(XZ p).1=0
 .rw [if_neg (by omega)]at h;by_cases l:(YZ p).1=0
  .rw [if_neg (by omega)]at h;by_cases m:(X3 p).1=0
   .rw [if_neg (by omega)]at h;exact⟨by simpa using i,k,l,m,h⟩
   .rw [if_pos m]at h;exact absurd h m
  .rw [if_pos l]at h;exact absurd h l
 .rw [if_pos k]at h;exact absurd h k
theorem Fc{f:Pr}:∀(l:List Item)(seen:List Str){s:List Str},GQ f l seen=.ok s->∀it∈l,YG f it=true
 |[],_,_,_,it,h=>by cases h
 | a::r,seen,s,h,it,i=>by
   rw[GQ]at h;cases m:YI seen a.s.E with
   |none=>rw[m]at h;cases h
   | some n=>
     rw[m]at h;simp only at h;cases k:YG f a with
     |false=>rw[k]at h;cases h
     | true=>
       rw[k,z1n]at h;rcases z1g.1 i with rfl|i
       .exact k
       .exact Fc r n h it i
def Bk(o:(XZ p).1=0)(h:(X3 p).1=0)(k:p.A[j]?=some f):∀it∈itsOf p j f,YG f it=true:=by
 unfold X3 at h;rw[if_neg (by omega)]at h;have l:(List.range p.A.length).findSome? (KH p)=none:=by
  cases n:(List.range p.A.length).findSome? (KH p)with
  |none=>rfl
  |some a=>rw[n]at h;cases h
 rw[z5g]at l;have i:j<p.A.length:=(z1k.1 k).1;have:=l j (z2h.2 i);unfold KH at this;rw[k]at this;simp only at this;cases m:GQ f (itL (j:Nat) 0 (-1) 0 (QL p.A j) f.body) []with
 |error id=>rw[m]at this;cases this
 |ok seen=>exact Fc _ _ m
mutual
theorem q4x:∀(t u v:S),u∈flS t->v∈u.L\/v∈u.M->v∈flS t
 | .mk id kind E name D x has args L M,u,v,h,hv=>by
   rw[flS]at h⊢;rcases z1g.1 h with rfl|h
   ·refine z1x _ (z0o.2 ?_);rcases hv with hv|hv
    ·exact .inl (Ml L v hv)
    ·exact .inr (Ml M v hv)
   ·rcases z0o.1 h with h|h
    ·exact z1x _ (z0o.2 (.inl (Ke L u v h hv)))
    ·exact z1x _ (z0o.2 (.inr (Ke M u v h hv)))
theorem Ke:∀(l:List S)(u v:S),u∈flL l->v∈u.L\/v∈u.M->v∈flL l
 |[],u,v,h,hv=>by rw[flL]at h;cases h
 | t::r,u,v,h,hv=>by
   rw[flL]at h⊢;rcases z0o.1 h with h|h
   ·exact z0o.2 (.inl (q4x t u v h hv))
   ·exact z0o.2 (.inr (Ke r u v h hv))
end
def X2(h:it∈itsOf p j f):it.s∈flL f.body:=by
 unfold itsOf at h;rw[<-X1 (j:Nat) 0 (-1) 0 (QL p.A j) f.body];exact z1z.2 ⟨it,h,rfl⟩
def ZX(m:UG p=true)(l:p.A[j]?=some f){t:S}(h:t∈flL f.body):(QL p.A j:Int)+1<=t.id/\t.id<=(QL p.A j+QY f.body:Nat):=by
 have i:=L9 m l;have k:t.id∈GM (QL p.A j) (QY f.body):=by
  rw[<-i];exact z1z.2 ⟨t,h,rfl⟩
 have:=V5 k;omega
def Yu(h:it∈itsOf p j f):okI (QL p.A j) (QL p.A j+QY f.body) it.next/\(it.loop=0\/((QL p.A j:Int)+1<=it.loop/\it.loop<=(QL p.A j+QY f.body:Nat))):=
 L4 (j:Nat) _ _ f.body 0 (-1) 0 _ it h (.inl rfl) (.inl rfl) (z1l _) (z1l _)
def BD(o:p.A[j]?=some f){k:Nat}(r:QL p.A j<=k)(t:k<QL p.A j+QY f.body):∃it,(sheetOf p).l[k]?=some it/\it∈itsOf p j f:=by
 obtain⟨_,_,_,m,h⟩:=QK p;obtain⟨_,_,q,n⟩:=h j f o;have i:k<(sheetOf p).l.length:=by omega
 refine⟨(sheetOf p).l[k],z0c i,?_⟩;unfold itsOf;rw[<-n];refine z3s.2 ⟨k-QL p.A j,?_⟩;rw[z3h,z2p,if_pos (by omega),show QL p.A j+(k-QL p.A j)=k by omega,z0c i]
def x0g(B:UG p=true)(c:p.A[j]?=some f)(h:it∈itsOf p j f)(n:YG f it=true):∀x∈VG (sheetOf p) f it,okI (QL p.A j) (QL p.A j+QY f.body) x:=by
 obtain⟨w,g⟩:=Yu h;have E:=X2 h;have e:=ZX B c E;have m:∀(l:List S)(o:Int),(∀v∈l,v∈it.s.L\/v∈it.s.M)->okI (QL p.A j) (QL p.A j+QY f.body) o->okI (QL p.A j) (QL p.A j+QY f.body) (Bj l o):=fun l o a H=>by
  cases l with
  |nil=>exact H
  |cons v r=>exact .inr (ZX B c (Ke f.body it.s v E (a v z1j)))
 have q:it.s.kind=7\/it.s.kind=8->(QL p.A j:Int)+1<=it.loop/\it.loop<=(QL p.A j+QY f.body:Nat):=fun z=>by
  unfold YG at n;rw[if_pos z]at n;rcases g with d|d
  .rw [d]at n;cases n
  .exact d
 intro x i;unfold VG at i;split at i
 .simp only[z1g,z7u,or_false]at i;rcases i with rfl|rfl
  .exact m _ _ (fun v a=>.inl a) w
  .exact m _ _ (fun v a=>.inr a) w
 split at i
 .simp only[z1g,z7u,or_false]at i;rcases i with rfl|rfl
  .exact m _ _ (fun v a=>.inl a) (.inr e)
  .exact w
 split at i
 .rename_i z;have F:=q (.inl z);obtain⟨u,C,D⟩:=BD c (k:=(it.loop-1).toNat) (by omega) (by omega);rw[C]at i;rw[z0i.1 i];exact(Yu D).1
 split at i
 .rename_i z;rw[z0i.1 i];exact .inr (q (.inr z))
 split at i
 .rw [z0i.1 i];exact .inl rfl
 split at i
 .rename_i J O _ z;rw[z0i.1 i];unfold YG at n;rw[if_neg (by omega),if_pos z]at n;unfold atB at n⊢;split
  .rename_i t I;exact .inr (ZX B c (z3b I))
  .rename_i G;rw[G]at n;simp only at n;cases b:f.fin.any fun s=>it.s.name==s with
   |true=>exact .inl rfl
   |false=>rw[b]at n;cases n
 .rw [z0i.1 i];exact w
def MD(h:QM p=true)(n:p.A[j]?=some f):(∀it∈itsOf p j f,it.s.kind=7->1<=it.loop/\it.loop<=(sheetOf p).l.length)/\
  (∀s∈QN p j f,(s.src=0\/((QL p.A j:Int)+1<=s.src/\s.src<=(QL p.A j+QY f.body:Nat)))/\okI (QL p.A j) (QL p.A j+QY f.body) s.dst)/\∀s∈QN p j f,okSt s:=by
 obtain⟨r,a,_,q,_⟩:=QV h;have m:=Bk a q n;obtain⟨_,_,_,v,t⟩:=QK p;obtain⟨_,_,z,_⟩:=t j f n;obtain⟨_,_,w⟩:=ZR r;have key:∀s∈QN p j f,(s.src=0\/((QL p.A j:Int)+1<=s.src/\s.src<=(QL p.A j+QY f.body:Nat)))/\okI (QL p.A j) (QL p.A j+QY f.body) s.dst:=fun s k=>by
  unfold QN at k;rcases z1g.1 k with rfl|k
  .refine ⟨.inl rfl,?_⟩;show okI _ _ (if QL p.A j<QL p.A j+QY f.body then((QL p.A j:Nat)+1:Int)else -1);split
   .exact .inr ⟨by omega,by omega⟩
   .exact .inl rfl
  .obtain ⟨it,i,c⟩:=z1c.1 k;obtain⟨y,b,rfl⟩:=z1z.1 c;exact⟨.inr (ZX r n (X2 i)),x0g r n i (m it i) y b⟩
 refine⟨fun it i x=>?_,key,fun s k=>?_⟩
 .have o:=m it i;unfold YG at o;rw[if_pos (.inl x)]at o;rcases(Yu i).2 with u|u
  .rw [u]at o;cases o
  .omega
 .obtain ⟨d,e⟩:=key s k;unfold okSt okI at*
  omega
def Zc(p:Pg)(n:Str):Option Way:=bif QM p then(match p.A.find? (fun f=>f.name==n)with
 |some f=>some (QQ p (p.A.findIdx fun f=>f.name==n) f)
 |none=>none)else none
def XF(h:QM p=true):p.C.length<=16/\p.A.length<=16/\cntP p.A<=200:=ZR (QV h).1
def CO{n:Str}(h:¬n∈procsN p):Zs (fun f=>f.name==n) p.A = -1/\p.A.find? (fun f=>f.name==n)=none:=by
 have k:p.A.any (fun f=>f.name==n)=false:=by
  rw[z5e];intro f i l;exact h (z1z.2 ⟨f,i,by simpa using l⟩)
 refine⟨by unfold Zs;rw[k];rfl,?_⟩;rw[z3l];intro f i;have:=z5e.1 k f i;simpa using this
def L1{n:Str}(h:n∈procsN p):∃(k:Nat) (l:k<p.A.length),Zs (fun f=>f.name==n) p.A=k/\p.A.findIdx (fun f=>f.name==n)=k/\p.A.find? (fun f=>f.name==n)=some p.A[k]/\p.A[k].name=n:=by
 obtain⟨k,l,i,m,o⟩:=Vd h;refine⟨k,l,i,?_,m,o⟩;unfold Zs at i;cases ha:p.A.any (fun f=>f.name==n)with
 |true=>rw[ha,z1n]at i;omega
 |false=>rw[ha,z1o]at i;omega
def BN{n:Str}{w:Way}(h:Zc p n=some w):∃(k:Nat) (f:Pr),p.A[k]?=some f/\w=QQ p k f/\QM p=true/\f.name=n/\p.A.find? (fun f=>f.name==n)=some f:=by
 unfold Zc at h;cases l:QM p with
 |false=>rw[l]at h;cases h
 | true=>
   rw[l,z1n]at h;by_cases m:n∈procsN p
   .obtain ⟨k,t,r,o,i,q⟩:=L1 m;rw[i,o]at h;cases h;exact⟨k,p.A[k],by simp,rfl,rfl,q,i⟩
   .rw [(CO m).2]at h;cases h
def x5s(p:Pg)(k:Nat)(f:Pr):Int:=if QL p.A k<QL p.A k+QY f.body then((QL p.A k:Nat)+1:Int)else -1
def ofR(p:Pg)(n:Str):List Step:=match Zc p n with
 |some w=>w.real
 |none=>[]
def x9x(p:Pg)(id:Int):Int×Bool:=bif QM p&&(decide (1<=id)&&decide (id<=(sheetOf p).l.length))then(((sheetOf p).l[(id-1).toNat]?.map Item.next).getD 0,true)else(0,false)
def QH(p:Pg)(j:Nat)(n i:Int):Int:=if i=0 then 0 else if i=n-1 then -1 else loI p j+i-1
def JU(w:Way)(f:Pr)(o:w.p.A[w.j]?=some f)(r:cntP w.p.A<=1000)(u:0<=w.n/\w.n<=5000)(i:Int)(t:0<=i/\i<=5000):aP 91 [.ip w.cells,.int .i64 i] (.int .i64 (QH w.p w.j w.n i)):=by
 refine sC Ge func91 ?_;conv=>whnf
 obtain⟨_,_,_,l,k⟩:=QK w.p;obtain⟨h,m,q,_⟩:=k w.j f o;repeat' ((first|refine dA ?_|refine wI ?_|refine IdxK.at rfl (YS h) rfl ?_|(apply bD<;>intro _<;>try omega))<;>conv=>whnf)
 all_goals exact RetK.int (by unfold QH loI;(repeat' split)<;>omega)
def Yc(l:List Int):∀b:List Bool,(FN l b).length=b.length:=by
 induction l with
 |nil=>intro b;rfl
 | cons a r h=>
   intro b;show(FN r (b.set a.toNat true)).length=b.length;rw[h,z3e]
def EZ(w:Way):List Int:=((List.range' 1 (w.n-2).toNat).filter fun i=>w.live.getD i false).map fun(i:Nat)=>QH w.p w.j w.n i
def ZN(p:Pg)(n:Str):List Int:=match Zc p n with
 |some w=>EZ w
 |none=>[]
def OneRow(R:Nat->TypeId->Nat->List AV->Prop)(nil:Prop)(l:LV)(H:Heap):Prop:=
 (l=.p .nils/\H=[]/\nil)\/∃q e sz es,l=.hd q 0 es.length/\H=[(q,.own e sz es)]/\(∀x∈es,∀c∈x.cells,c.flat=true)/\R q e sz es
def ZV{g:FuncId}{args:List LV}{dst:Option Nat}{R:Nat->TypeId->Nat->List AV->Prop}{nil:Prop}(k:Nat)(hu:WD k s=true)(hs:SpecH P g (avs.map .p) [] (OneRow R nil))(ha:FrzL s.H args avs)(hn:nil->setD N s.sl dst (.p .nils) fun sl=>K ⟨sl,s.H⟩)(h:∀q e sz es,R q e sz es->setD N s.sl dst (.hd k 0 es.length) fun sl=>K ⟨sl,(k,.own e sz es)::s.H⟩):CallK P N g args dst s K:=by
 refine⟨fun σ β a w U vals hnv hv=>⟨hs.go vals,?_⟩⟩;obtain⟨hlen,hget⟩:=ha.get;obtain⟨τ,h5,h6,h7,h8⟩:=V1 U.heap;have hrel0:HRel τ (fun _=>none) [] w:=⟨h6,fun k c V=>(by cases V),z7v,fun k hk=>(by cases hk),fun k hk=>(by cases hk)⟩;have hno:∀b,¬owns (fun _=>none) [] b:=fun b ⟨j,r,_⟩=>by cases r
 refine(hs.ok τ (fun _=>none) w vals (by rw[z0s];exact hnv.trans hlen) (fun j l r=>?_) hrel0).mono fun e w' ⟨l,u,σ',β',H',he,hR,Z,E,z⟩=>?_
 .rw [z1u]at r;cases V:avs[j]?with
  |none=>rw[V]at r;cases r
  | some c=>
    rw[V]at r;cases r;obtain⟨l,B,D⟩:=hget j c V;exact .p (h8 l _ c (hv j l B) D)
 .have Q:σ.lies w':=fun b c d=>E.mem b c (z.le b c (h5 b c d));have hf:Frm (fun _=>False) w w':=⟨z.P.os,z.P.tape,z.P.output,z.P.drawn,z.P.size,fun b d _=>z.P.block b d (hno b)⟩;have hf':Frm (owns β s.H) w w':=⟨hf.os,hf.tape,hf.output,hf.drawn,hf.size,fun b d _=>hf.block b d id⟩;have O:=U.heap.kept (Mem.le_refl σ) Q hf fun b h0 B=>absurd h0 B;rcases hR with⟨rfl,rfl,hnil⟩|⟨q,e0,sz,es,rfl,rfl,hfl,hR⟩
  .have hr':Rel N σ β s a w':=⟨U.size,U.defers,U.G,O⟩;have hrp:RepL σ β (.p .nils) u:=by
    cases Z with
    |p h=>exact .p (h.flat rfl)
   obtain⟨sl,hK,T⟩:=hr'.setD hrp (hn hnil);exact⟨u,σ,β,_,he,hK,T,Mem.le_refl σ,hf',fun b h0 B=>absurd h0 B,fun b d=>.inl d,fun _ _ _=>rfl⟩
  .obtain ⟨hu1,hu2⟩:=ZZ hu;have hkl:=KR hu;have C:∀j,j≠k->(β.set k (β' q)) j=β j:=fun j r=>by simp[Lab.set,r]
   have n:(β.set k (β' q)) k=β' q:=by simp[Lab.set]
   have I:∀i,β' q=some i->∀b,i.has b->w.heap.size<=b/\σ b=none/\b<w'.heap.size:=fun i A b d=>by
    have B:=E.apart q (z0i.2 rfl) i A b d;refine⟨?_,?_,B.2⟩
    .rcases z.own b ⟨q,z0i.2 rfl,i,A,d⟩with D|D
     .exact absurd D (hno b)
     .exact D
    .cases D:σ b with
     |none=>rfl
     |some c=>rw[z.le b c (h5 b c D)]at B;cases B.1
   have hch:(Chunk.own e0 sz es).holds σ (β.set k (β' q)) w' k:=by
    rcases E.chunks q (.own e0 sz es) (z0i.2 rfl)with⟨B,D⟩|⟨i,vs,B,D,h3,h4,h5',h6',h7'⟩
    .exact .inl ⟨n.trans B,D⟩
    .refine .inr ⟨i,vs,n.trans B,D,h3,h4,h5',h6',fun m x hx=>⟨(h7' m x hx).1,fun jj c V=>?_⟩⟩;obtain⟨v,h8',h9⟩:=(h7' m x hx).2 jj c V;exact⟨v,h8',h9.flat (hfl x (z1d hx) c (z1d V))⟩
   have J:∀j∈s.H.map (·.1),j≠k:=fun j r=>by
    obtain⟨⟨j',c⟩,hm,rfl⟩:=z1z.1 r;exact(hu1 j' c hm).1
   have hr':Rel N σ (β.set k (β' q)) ⟨s.sl,(k,.own e0 sz es)::s.H⟩ a w':=by
    refine⟨U.size,U.defers,fun i=>(U.G i).set _ (hu2 i),Q,fun j c r=>?_,?_,fun j r i A b d=>?_,fun j r j' hj' i i' A M b d hb'=>?_⟩
    .rcases z1g.1 r with t|r
     .cases t;exact hch
     .exact (O.chunks j c r).set _ (hu1 j c r).1 (hu1 j c r).2
    .rw [z1t,z2i];exact⟨fun hm=>J k hm rfl,O.nodup⟩
    .rcases z1g.1 r with t|r
     .have t:j=k:=t;subst t;rw[n]at A;exact(I i A b d).2
     .rw [C j (J j r)]at A;exact O.apart j r i A b d
    .have Y:∀j∈s.H.map (·.1),∀i,(β.set k (β' q)) j=some i->∀b,i.has b->b<w.heap.size:=fun j r i A b d=>by
      rw[C j (J j r)]at A;exact(U.heap.apart j r i A b d).2
     rcases z1g.1 r with t|hm<;>rcases z1g.1 hj' with F|hm'
     .exact t.trans F.symm
     .have t:j=k:=t;subst t;rw[n]at A;have:=(I i A b d).1;have:=Y j' hm' i' M b hb';omega
     .have F:j'=k:=F;subst F;rw[n]at M;have:=(I i' M b hb').1;have:=Y j hm i A b d;omega
     .rw [C j (J j hm)]at A;rw[C j' (J j' hm')]at M;exact O.inj j hm j' hm' i i' A M b d hb'
   have hrp:RepL σ (β.set k (β' q)) (.hd k 0 es.length) u:=by
    rcases Z.hdI with⟨B,_,D,rfl⟩|⟨i,o,B,D,h3,rfl⟩
    .rw [D];exact .hdn k (n.trans B)
    .exact .hd k 0 es.length i o (n.trans B) D h3
   obtain⟨sl,hK,T⟩:=hr'.setD hrp (h q e0 sz es hR);refine⟨u,σ,_,_,he,hK,T,Mem.le_refl σ,hf',fun b h0 B=>absurd h0 B,fun b d=>?_,fun j B _=>C j (by omega)⟩;obtain⟨j,r,i,A,d⟩:=d;rcases z1g.1 r with t|r
   .have t:j=k:=t;subst t;rw[n]at A;exact .inr (I i A b d).1
   .rw [C j (J j r)]at A;exact .inl ⟨j,r,i,A,d⟩
def Kh(L:List Str)(_:Nat)(e:TypeId)(sz:Nat)(es:List AV):Prop:=e=9/\sz=1/\es=L.map .str
def AD(L:List Str):∀x∈L.map AV.str,∀c∈x.cells,c.flat=true:=fun x i c h=>by
 obtain⟨s,_,rfl⟩:=z1z.1 i;rw[z0i.1 (show c∈[AV.str s]from h)];rfl
def UI{q n:Nat}{nil:Prop}(h:n=L.length):OneRow (Kh L) nil (.hd q 0 n) [(q,.own 9 1 (L.map .str))]:=
 .inr ⟨q,_,_,_,by rw[h,z0s],rfl,AD L,rfl,rfl,rfl⟩
theorem OneRow.str{n:Nat}(h:n=L.length):OneRow (Kh L) False (.hd 0 0 n) [(0,.own 9 1 (L.map .str))]:=UI h
def JS{n:Nat}{nil:Prop}(h:n=L.length):OneRow (Kh L) nil (.hd 0 0 n) [(0,.own 9 1 (L.map .str))]:=UI h
def Im{sl:List (Nat×LV)}{H:Heap}{k d:Nat}{e:TypeId}{sz:Nat}{es:List AV}(D:WD k ⟨sl,H⟩=true):Le N ⟨Uf sl d (.hd k 0 es.length),(k,.own e sz es)::H⟩ ⟨Uf sl d (.p (.sl es)),H⟩:=fun σ β a w o=>by
 obtain⟨M,_⟩:=ZZ D;have hnd:(H.map (·.1)).Nodup:=(z2i.1 o.heap.nodup).2;have n:∀j∈H.map (·.1),j∈((k,Chunk.own e sz es)::H).map (·.1):=fun j h=>z1x _ h;rcases VH.1 (o.heap.chunks k _ z1j)with⟨E,rfl⟩|⟨i,vs,F,Q,hh,hn,R,T,O⟩
 .refine ⟨σ,β,⟨o.size,o.defers,fun j=>?_,⟨o.heap.mem,fun j c' h=>o.heap.chunks j c' (z1x _ h),hnd,fun j h=>o.heap.apart j (n j h),fun j h V I=>o.heap.inj j (n j h) V (n V I)⟩⟩,Mem.le_refl σ,Frm.refl _ _,fun _ Y z=>absurd Y z,fun b ⟨j,h,r⟩=>.inl ⟨j,n j h,r⟩,fun _ _ _=>rfl⟩;have l:=o.G j;show RepL σ β (getS (Uf sl d _) j) _;have l:RepL σ β (getS (Uf sl d (.hd k 0 [].length)) j) (a.tmps.getD j undef):=l;rw[LA]at l⊢;by_cases h:d=j
  .rw [if_pos h]at l⊢;rcases l.hdI with⟨_,_,_,he⟩|⟨i,_,t,_⟩
   .rw [he];exact .p .nilsl
   .rw [E]at t;cases t
  .rw [if_neg h]at l⊢;exact l
 .refine o.lay F z1j hh (fun τ q U j v l=>?_) (fun τ q U j c' h=>⟨(M j c' h).1,c',z1x _ h,fun A=>A.mono q fun _ _ _ _=>rfl⟩) hnd;have l:RepL σ β (getS (Uf sl d (.hd k 0 es.length)) j) v:=l;show RepL τ β (getS (Uf sl d _) j) v;rw[LA]at l⊢;by_cases h:d=j
  .rw [if_pos h]at l⊢;rcases l.hdI with⟨t,_⟩|⟨i',oo,t,hl,C,rfl⟩
   .rw [F]at t;cases t
   .rw [F]at t;cases t;have J:oo=0:=by
     rcases C with C|C
     .simpa using C
     .omega
    subst J;obtain⟨u,D⟩ : ∃u:Nat->Nat->Value,∀(m:Nat)(x:AV)(j:Nat)(c:AV),es[m]?=some x->x.cells[j]?=some c->vs[m*sz+j]?=some (u m j)/\Rep σ c (u m j):=by
     refine⟨fun m j=>(vs[m*sz+j]?).getD undef,fun m x j c B h=>?_⟩;obtain⟨v,z,Z⟩:=O.rep m x j c B h;rw[z2p]at z;split at z
     .have g:vs[m*sz+j]?=some v:=by simpa using z
      exact⟨by simp[g],by simpa[g]using Z⟩
     .cases z
    exact .p (.sl es i.blk 0 _ sz vs u U (by omega) (by omega) O.size (fun m x j c B h=>by simpa using(D m x j c B h).1) fun m x j c B h=>(D m x j c B h).2.mono q)
  .rw [if_neg h]at l⊢;exact l.mono q
def q9h{sl:List (Nat×LV)}{H:Heap}{d:Nat}{l l':LV}(h:∀σ β v,RepL σ β l v->RepL σ β l' v):Le N ⟨Uf sl d l,H⟩ ⟨Uf sl d l',H⟩:=fun σ β a w k=>by
 refine⟨σ,β,⟨k.size,k.defers,fun j=>?_,k.heap⟩,Later.refl _ _ _ _⟩;have i:RepL σ β (getS (Uf sl d l) j) (a.tmps.getD j undef):=k.G j;show RepL σ β (getS (Uf sl d l') j) _;rw[LA]at i⊢;by_cases m:d=j
 .rw [if_pos m]at i⊢;exact h _ _ _ i
 .rw [if_neg m]at i⊢;exact i
theorem CallK.le{g:FuncId}{args:List LV}{m:Option Nat}(h:CallK P N g args m s fun s'=>∃i,K i/\Le N s' i):CallK P N g args m s K:=
 ⟨fun σ β a w x l v z=>⟨(h.ok σ β a w x l v z).1,(h.ok σ β a w x l v z).2.mono fun e w' ⟨u,σ',β',s',c,⟨i,b,q⟩,r,A⟩=>by
   obtain⟨σ2,β2,t,o⟩:=A.le' q r;exact⟨u,σ2,β2,i,c,b,t,o⟩⟩⟩
def S3{sl:List (Nat×LV)}{i:Option Nat}{v m:LV}{K k:List (Nat×LV)->Prop}(h:setD N sl i v K)(n:K sl->k sl)(o:∀d,K (Uf sl d v)->k (Uf sl d m)):setD N sl i m k:=by
 unfold setD at h⊢;cases i with
 |none=>exact n h
 | some d=>
   simp only at h⊢;cases l:Nat.blt d N with
   |false=>rw[l]at h;exact h
   | true=>
     rw[l,z1n,Zy]at h;rw[z1n,Zy];exact o d h
def BE{g:FuncId}{args:List LV}{m:Option Nat}{R:Nat->TypeId->Nat->List AV->Prop}{nil:Prop}{E:List AV}(k:Nat)(t:WD k s=true)(z:SpecH P g (avs.map .p) [] (OneRow R nil))(ha:FrzL s.H args avs)(x:nil->E=[])(u:∀q e sz es,R q e sz es->es=E)(h:setD N s.sl m (.p (.sl E)) fun sl=>K ⟨sl,s.H⟩):CallK P N g args m s K:=by
 refine CallK.le (ZV k t z ha (fun n=>?_) fun q e sz es o=>?_)
 .obtain rfl:=x n;exact S3 h (fun l=>⟨_,l,fun σ β a w o=>⟨σ,β,o,Later.refl _ _ _ _⟩⟩) fun d l=>⟨_,l,q9h fun σ β v r=>by
   cases r with
   |p r=>exact .p (Sub.nils _ _ r)⟩
 .obtain rfl:=u q e sz es o;refine S3 h (fun l=>⟨_,l,Wu (fun i=>.inl rfl) (List.sublist_cons_self _ _)⟩) fun d l=>⟨_,l,Im (by obtain⟨sl,H⟩:=s;exact t)⟩
theorem SpecH.toP{g:FuncId}{R:Nat->TypeId->Nat->List AV->Prop}{nil:Prop}{E:List AV}(F:SpecH P g (avs.map .p) [] (OneRow R nil))(Z:nil->E=[])(U:∀q e sz es,R q e sz es->es=E):SpecP P g avs (fun r=>r=.sl E):=by
 refine⟨F.go,fun σ w z H I M=>?_⟩;have t:Rel 1 σ (fun _=>none) ⟨[],[]⟩ {tmps:=#[undef],defers:=[]} w:=⟨rfl,rfl,fun i=>.p (.any _),M,fun k c B=>(by cases B),z7v,fun k C=>(by cases C),fun k C=>(by cases C)⟩;have B:CallK P 1 g (avs.map .p) (some 0) ⟨[],[]⟩ (fun s=>s=⟨[(0,.p (.sl E))],[]⟩):=BE 0 rfl F (by
  clear F H I;induction avs with
  |nil=>exact .nil
  |cons a r ih=>exact .cons (.p (Sub.refl _)) ih) Z U (by rfl)
 refine(B.ok σ _ _ w t z (by rw[z0s];exact H) fun j l o=>?_).2.mono fun e w' ⟨u,σ',β',s',Y,T,J,m⟩=>?_
 .rw [z1u]at o;cases D:avs[j]?with
  |none=>rw[D]at o;cases o
  |some c=>rw[D]at o;cases o;exact .p (I j c D)
 .subst T;have x:∀b,¬owns (fun _=>none) [] b:=fun b ⟨j,o,_⟩=>by cases o
  have O:=J.G 0;refine⟨.sl E,u,σ',Y,rfl,?_,m.le,J.heap.mem,⟨m.P.os,m.P.tape,m.P.output,m.P.drawn,m.P.size,fun b V _=>m.P.block b V (x b)⟩,fun b v Q=>?_⟩
  .have v:RepL σ' β' (.p (.sl E)) u:=by simpa[getS,Act.put]using O
   cases v with
   |p v=>exact v
  .rcases m.mem b v Q with A|A
   .exact absurd A (x b)
   .exact A
def Bc{T:Tab}{E:Bool}{o:Oper}{K:LV->Prop}(hT:TabOK P T){t u:TypeId}{x:Operand}(r:o.op=.binOp .eql t x (.const (.slice none 0 0)) u){i:TyI}(I:T.get t=some i){e:TypeId}(C:i.desc=.slice e){es:List AV}(J:QR s.sl x=.p (.sl es))(B:∀b:Bool,(b=true->es=[])->K (.p (.bool b))):ValO P E s o K:=by
 refine⟨fun σ β m w G _=>?_⟩;have l:=QU G x;rw[J]at l;have g:=hT.of I;rw[C]at g;have z:∃k n c,m.eval x=.slice k n c/\(k.isNone=true->es=[]):=by
  generalize m.eval x=v at l;cases l with
  | p l=>
    cases l with
    |nilsl=>exact⟨none,0,0,rfl,fun _=>rfl⟩
    |slz b=>exact⟨some b,0,0,rfl,fun _=>rfl⟩
    |sl _ b off cap sz cells u M a d H O F=>exact⟨_,_,_,rfl,fun h=>(by cases h)⟩
 obtain⟨k,n,c,z,q⟩:=z;refine⟨_,.bool k.isNone,B k.isNone q,.p (.bool _),fun w' _ _=>?_⟩;have A:m.eval (.const (.slice none 0 0))=.slice none 0 0:=rfl;have D:(eqGuard .eql t x (.const (.slice none 0 0)) (.slice k n c) (.slice none 0 0)).run P w'=.ok () w':=by unfold eqGuard;rfl
 have q:(Op.equal t (.slice k n c) (.slice none 0 0)).run P w'=.ok k.isNone w':=by
  have e:Op.equal t (.slice k n c) (.slice none 0 0)=Op.equalIn (9999+1) t (.slice k n c) (.slice none 0 0):=rfl;rw[e,Op.equalIn,Sem.run_bind,run_underlying g,Result.andThen_ok];cases k<;>rfl
 simp only[execOp,r,z,A,Sem.run_bind,D,Result.andThen_ok,binOp];simp[q]
def E5{es:List AV}{n:Nat}{nil:Prop}(q:Nat)(i:es=L.map .str)(h:n=L.length):OneRow (Kh L) nil (.hd q 0 n) [(q,.own 9 1 es)]:=by
 subst i;exact .inr ⟨q,_,_,_,by rw[h,z0s],rfl,AD L,rfl,rfl,rfl⟩
def VB(l:List Str)(k:l.length<=1000000):SpecH prog 144 [.p (eStrs l)] [] (fun r H=>OneRow (Kh l) (l=[]) r H):=by
 refine sK KE func144 ?_;conv=>whnf
 repeat' ((first|refine gX ?_|refine Bc ZI rfl rfl rfl rfl (fun q h=>?_)|refine z5l (fun x i=>by cases i) rfl ?_|refine XM _ (by simp) (by simp;omega) ?_|(apply bB<;>intro _))<;>conv=>whnf)
 all_goals first
  |exact z4g _ (z2x _) (.inl ⟨rfl,rfl,z7g.1 (h (by assumption))⟩)
  |exact z4g _ (z2x _) (E5 0 rfl (by simp))
inductive CutH:Heap->Heap->Prop
 |nil:CutH [] []
 |same {c:Nat×Chunk} {H H':Heap} (h:CutH H H'):CutH (c::H) (c::H')
 |cut {k:Nat} {e:TypeId} {sz:Nat} {es es':List AV} {H H':Heap} (hp:es' <+: es) (h:CutH H H'):CutH ((k,.own e sz es)::H) ((k,.own e sz es')::H')
theorem CutH.get{H H':Heap}(h:CutH H H'):H'.map (·.1)=H.map (·.1)/\∀j c',(j,c')∈H'->(j,c')∈H\/∃e sz es es',(j,Chunk.own e sz es)∈H/\c'=.own e sz es'/\es' <+: es:=by
 induction h with
 |nil=>exact⟨rfl,by simp⟩
 | same h m=>
   refine⟨by simp[m.1],fun j c' i=>?_⟩;rcases z1g.1 i with rfl|i
   .exact .inl z1j
   .rcases m.2 j c' i with l|⟨e,sz,es,es',l,o⟩
    .exact .inl (z1x _ l)
    .exact .inr ⟨e,sz,es,es',z1x _ l,o⟩
 | @cut k e sz es es' H H' q h m=>
   refine⟨by simp[m.1],fun j c' i=>?_⟩;rcases z1g.1 i with i|i
   .cases i;exact .inr ⟨e,sz,es,es',z1j,rfl,q⟩
   .rcases m.2 j c' i with l|⟨e,sz,es,es',l,o⟩
    .exact .inl (z1x _ l)
    .exact .inr ⟨e,sz,es,es',z1x _ l,o⟩
theorem Le.cut{N:Nat}{sl:List (Nat×LV)}{H H':Heap}(h:CutH H H'):Le N ⟨sl,H⟩ ⟨sl,H'⟩:=fun σ β a w l=>by
 obtain⟨u,J⟩:=h.get;refine⟨σ,β,⟨l.size,l.defers,l.G,⟨l.heap.mem,fun j c' o=>?_,by show(H'.map (·.1)).Nodup;rw[u];exact l.heap.nodup,fun j o=>l.heap.apart j (by rw[<-u];exact o),fun j o M g=>l.heap.inj j (by rw[<-u];exact o) M (by rw[<-u];exact g)⟩⟩,Mem.le_refl σ,Frm.refl _ w,fun b B q=>absurd B q,fun b ⟨j,o,r⟩=>.inl ⟨j,by rw[<-u];exact o,r⟩,fun _ _ _=>rfl⟩;rcases J j c' o with q|⟨e,sz,es,es',q,rfl,v⟩
 .exact l.heap.chunks j c' q
 .rcases l.heap.chunks j _ q with⟨z,c⟩|⟨i,vs,z,c,C,D,E,F,I⟩
  .refine .inl ⟨z,?_⟩;rw[c]at v;exact List.prefix_nil.1 v
  .exact .inr ⟨i,vs,z,c,C,D,z2g v.length_le E,F,fun m x A=>I m x (by
    obtain⟨t,rfl⟩:=v;rw[z2a (z1k.1 A).1];exact A)⟩
theorem DrawK.le{T:Tab}{ops:Array Oper}{i:Info}{id:Nat}{s':St}(o:Le N s s')(h:DrawK P T N i id ops K s'):DrawK P T N i id ops K s:=by
 refine⟨⟨fun σ β a w u=>?_⟩⟩;obtain⟨σ1,β1,r,m⟩:=o σ β a w u;refine Code.wp_mono (fun e x w' l=>?_) (h.ok.ok σ1 β1 a w r);obtain⟨σ',β',v,l,q,t⟩:=l;exact⟨σ',β',v,l,q,m.trans t⟩
def q8c(p:Pg)(id:Int):Option S:=((sheetOf p).l[(id-1).toNat]?).map Item.s
def Vz(a b:Step):Prop:=QS a.src<QS b.src\/(QS a.src=QS b.src/\QS a.dst<QS b.dst)
def q2l(s:Step):Prop:=okSt s/\s.kind=1
def JC{a b:Step}(h:a.src=b.src)(i:a.dst=b.dst)(k:a.kind=b.kind):a=b:=by
 cases a;cases b;simp_all
def BB{a b:Step}:NY a b=true↔QS a.src<QS b.src\/(QS a.src=QS b.src/\(QS a.dst<QS b.dst\/(QS a.dst=QS b.dst/\a.kind<b.kind))):=by
 have h:NY a b=decide (Cd a b<0):=rfl;rw[h,z2z];unfold Cd;simp only[orI];split
 .rename_i i;rw[YR]at i;split
  .rename_i k;rw[YR]at k;split
   .rename_i l;rw[YR]at l;omega
   .rw [FJ];omega
  .rename_i k;rw[YR]at k;rw[FJ];omega
 .rename_i i;rw[YR]at i;rw[FJ];omega
def Ve(l:List Step):(GH l).Pairwise fun a b=>NY b a=false:=by
 have:=List.pairwise_mergeSort (le:=fun x y=> !NY y x) (fun a b c i k=>by
  simp only[z4w]at i k⊢;rw[z6o,ne_eq,BB]at i k⊢;omega) (fun a b=>by
  cases i:NY b a with
  |false=>rfl
  | true=>
    have k:NY a b=false:=by
     rw[z6o,ne_eq,BB];rw[BB]at i;omega
    rw[k];rfl) l
 refine List.Pairwise.imp ?_ this;intro a b h;simpa using h
def Ji{a b:Step}(ha:q2l a)(i:q2l b):WX a b=true↔a=b:=by
 unfold WX;simp only[z1p,z2z];refine⟨fun h=>JC h.1 h.2 (by rw[ha.2,i.2]),fun h=>by rw[h];exact⟨rfl,rfl⟩⟩
def x1z{a b:Step}(ha:q2l a)(i:q2l b)(h:NY b a=false)(k:a≠b):Vz a b:=by
 rw[z6o,ne_eq,BB]at h;unfold Vz;by_cases l:QS a.src=QS b.src
 .by_cases m:QS a.dst=QS b.dst
  .exact absurd (JC (KN ha.1.1 i.1.1 l) (KN ha.1.2 i.1.2 m) (by rw[ha.2,i.2])) k
  .omega
 .omega
def Yy{a b c:Step}(h:Vz a b)(i:Vz b c):Vz a c:=by unfold Vz at*;omega
def PG{a:Step}(h:Vz a a):False:=by unfold Vz at h;omega
theorem Wt:∀(l:List Step)(a:Step),q2l a->(∀s∈l,q2l s)->(a::l).Pairwise (fun a b=>NY b a=false)->(a::XN a l).Pairwise Vz/\∀s,s∈a::XN a l↔s∈a::l
 |[],a,_,_,_=>⟨by simp[XN],by simp[XN]⟩
 | b::r,a,ha,hl,h=>by
   have n:=hl b z1j;have w:∀s∈r,q2l s:=fun s m=>hl s (z1x _ m);rw[z4s]at h;obtain⟨u,v⟩:=h;obtain⟨q,t⟩:=Wt r b n w v;rw[XN];cases m:WX b a with
   | true=>
     obtain rfl:=(Ji n ha).1 m;rw[z1n];exact⟨q,fun s=>by rw[t];simp⟩
   | false=>
     rw[z1o];have o:a≠b:=fun e=>by
      rw[(Ji n ha).2 e.symm]at m;cases m
     have k:=x1z ha n (u b z1j) o;refine⟨?_,fun s=>by rw[z1g,t,<-z1g (a:=s) (b:=a)]⟩;rw[z4s];refine⟨fun s i=>?_,q⟩;rcases z1g.1 i with rfl|i
     .exact k
     .exact Yy k ((z4s.1 q).1 s i)
def EP{l:List Step}(m:∀s∈l,q2l s):(WB l).Pairwise Vz/\∀s,s∈WB l↔s∈l:=by
 have k:∀s,s∈GH l↔s∈l:=fun s=>(Ds l).mem_iff;have o:=Ve l;unfold WB;cases n:GH l with
 | nil=>
   rw[n]at k;exact⟨by simp[Z3],fun s=>by rw[<-k];simp[Z3]⟩
 | cons a r=>
   rw[n]at k o;have i:∀s∈a::r,q2l s:=fun s h=>m s ((k s).1 h);obtain⟨q,t⟩:=Wt r a (i a z1j) (fun s h=>i s (z1x _ h)) o;exact⟨q,fun s=>by rw[Z3,t,k]⟩
theorem Nd:∀{l m:List Step},l.Pairwise Vz->m.Pairwise Vz->(∀s,s∈l↔s∈m)->l=m
 |[],[],_,_,_=>rfl
 |[],b::m,_,_,h=>by have:=(h b).2 z1j;cases this
 |a::l,[],_,_,h=>by have:=(h a).1 z1j;cases this
 | a::l,b::m,hl,hm,h=>by
   rw[z4s]at hl hm;have n:a=b:=by
    rcases z1g.1 ((h a).1 z1j)with e|ha
    .exact e
    .rcases z1g.1 ((h b).2 z1j)with e|o
     .exact e.symm
     .exact (PG (Yy (hl.1 b o) (hm.1 a ha))).elim
   subst n;congr 1;refine Nd hl.2 hm.2 fun s=>⟨fun i=>?_,fun i=>?_⟩
   .rcases z1g.1 ((h s).1 (z1x _ i))with rfl|k
    .exact (PG (hl.1 _ i)).elim
    .exact k
   .rcases z1g.1 ((h s).2 (z1x _ i))with rfl|k
    .exact (PG (hm.1 _ i)).elim
    .exact k
def Sq(h:QM p=true)(l:p.A[j]?=some f):∀s∈QN p j f,q2l s:=by
 obtain⟨_,_,k⟩:=MD h l;intro s i;refine⟨k s i,?_⟩;unfold QN at i;rcases z1g.1 i with rfl|i
 .rfl
 .obtain ⟨it,_,m⟩:=z1c.1 i;obtain⟨y,_,rfl⟩:=z1z.1 m;rfl
def HP(h:QM p=true)(i:p.A[j]?=some f):(QQ p j f).real.Pairwise Vz/\∀s,s∈(QQ p j f).real↔s∈QN p j f:=EP (Sq h i)
def q6k(h:QM p=true)(m:p.A[j]?=some f){s:Step}(i:s∈QN p j f):s=⟨0,x5s p j f,1⟩\/(1<=s.src/\s.src<=9223372036854775806):=by
 obtain⟨_,_,o⟩:=XF h;obtain⟨_,_,_,n,l⟩:=QK p;obtain⟨_,_,q,_⟩:=l j f m;unfold QN at i;rcases z1g.1 i with rfl|i
 .exact .inl rfl
 .obtain ⟨it,k,r⟩:=z1c.1 i;obtain⟨y,_,rfl⟩:=z1z.1 r;have:=ZX (QV h).1 m (X2 k);refine .inr ?_;simp only;omega
def q4v(h:QM p=true)(n:p.A[j]?=some f):x5s p j f=Bj f.body (-1):=by
 have k:=L9 (QV h).1 n;unfold x5s;cases m:f.body with
 |nil=>rw[QY,if_neg (by omega)];rfl
 | cons t r=>
   rw[m,flL,q7t]at k;have o:1<=QY (t::r):=by rw[QY,VU];omega
   rw[if_pos (by omega)];have i:=z2b (fun l=>l[0]?) k;simp only[z5t,z1t]at i;unfold GM at i;rw[z1u,z5c (by omega)]at i;simp at i;show _=t.id;omega
def q7r(p:Pg):Bool:=decide (gPg p<=20000)
def x4q(h:q7r p=true):Fit p:=by
 have:=x8t p;have i:gPg p<=20000:=by simpa[q7r]using h
 unfold Fit;omega
def BL(p:Pg):aP 6 [.agg p.cells] (.bool (q7r p)):=by
 refine sC Xn func6 ?_;conv=>whnf
 have G:(p.A.map fun f=>AV.agg f.cells).length=p.A.length:=z0s _;have D:=ZD (a:=0+Xz p.C) (by omega);repeat' ((refine cP (ZW p.C 0 (by omega)) ?_ (ha:=.cons (Sub.refl _) (.cons (Sub.refl _) .nil)))<;>conv=>whnf)
 refine lI (fun y:Nat×Int=>⟨[(1,.p (.ip p.cells)),(3,.j y.2),(4,.j y.1)],[]⟩) (fun y=>y.1<=p.A.length/\(0<=y.2/\y.2<=20001)/\XR (y.2+SB (p.A.drop y.1))=XR (gPg p:Nat)) (fun y=>p.A.length-y.1) (0,XR (0+Xz p.C)) ⟨z1q _,D,by
  show XR (XR (0+Xz p.C)+SB p.A)=_;rw[ZS (by omega)];congr 1;unfold gPg;omega⟩ ?_
 rintro⟨j,m⟩ ⟨c,l,n⟩;simp only at c l n⊢;have k:∀{x:Int},0<=x/\x<=20001->XR x=XR (gPg p:Nat)->(decide (x<=20000))=q7r p:=fun {x} H h=>by
  unfold q7r;unfold XR at h;by_cases w:gPg p<=20000
  .rw [z2t w,z2z];split at h<;>split at h<;>omega
  .rw [z2r w,z4h];split at h<;>split at h<;>omega
 rcases z1w j p.A.length with u|u;rotate_left 1
 .rw [z1b u,SB]at n;conv=>whnf
  repeat' ((first|(refine iM fun _=>?_)|(apply bD<;>intro _<;>try omega))<;>conv=>whnf)
  all_goals exact RetK.bool (k l (by rw[<-n];simp))
 rw[z2v u,SB]at n;have v:gPr p.A[j]=1+p.A[j].name.length+Xz p.A[j].R+Xz p.A[j].fin+q2n p.A[j].B+gL p.A[j].body:=rfl;have E:=ZD (a:=m+(1+p.A[j].name.length:Nat)) (by omega);have F:=ZD (a:=XR (m+(1+p.A[j].name.length:Nat))+Xz p.A[j].R) (by omega);have b:=ZD (a:=XR (XR (m+(1+p.A[j].name.length:Nat))+Xz p.A[j].R)+Xz p.A[j].fin) (by omega);conv=>whnf
 repeat' ((first|(refine gX ?_;intros)|refine dA ?_|refine cP (XX p.A[j].name _ l) ?_|refine cP (ZW p.A[j].R _ E) ?_|refine cP (ZW p.A[j].fin _ F) ?_|(apply bD<;>intro _<;>try omega))<;>conv=>whnf)
 rotate_left 1
 .exact RetK.bool (k l (by rw[<-n,<-KM (by omega) l.2 (by omega),Lp l.2]))
 have z:XR (XR (XR (XR (m+(1+p.A[j].name.length:Nat))+Xz p.A[j].R)+Xz p.A[j].fin)+(q2n p.A[j].B+(gL p.A[j].body+SB (p.A.drop (j+1))):Nat))=XR (gPg p:Nat):=by
  rw[ZS (by omega),z7d,ZS (by omega),z7d,ZS (by omega),<-n,v];congr 1;omega
 generalize XR (XR (XR (m+(1+p.A[j].name.length:Nat))+Xz p.A[j].R)+Xz p.A[j].fin)=m0 at b z⊢;have g:(p.A[j].B.map fun a=>AV.agg a.cells).length=p.A[j].B.length:=z0s _;refine lI (fun y:Nat×Int=>⟨[(1,.p (.ip p.cells)),(3,.j y.2),(4,.j j),(5,.p (.ip p.A[j].cells)),(6,.j y.1)],[]⟩) (fun y=>y.1<=p.A[j].B.length/\(0<=y.2/\y.2<=20001)/\XR (y.2+(q2n (p.A[j].B.drop y.1)+(gL p.A[j].body+SB (p.A.drop (j+1))):Nat))=XR (gPg p:Nat)) (fun y=>p.A[j].B.length-y.1) (0,m0) ⟨z1q _,b,z⟩ ?_;rintro⟨a,i⟩ ⟨d,o,q⟩;simp only at d o q⊢;have fin:XR (i+(gL p.A[j].body+SB (p.A.drop (j+1)):Nat))=XR (gPg p:Nat)->(0<=XR (i+gL p.A[j].body)/\XR (i+gL p.A[j].body)<=20001)/\XR (XR (i+gL p.A[j].body)+SB (p.A.drop (j+1)))=XR (gPg p:Nat):=fun h=>by
  refine⟨ZD (by omega),?_⟩;rw[ZS (by omega),<-h];congr 1;omega
 have r:i>20000->XR (i+(gL p.A[j].body+SB (p.A.drop (j+1)):Nat))=XR (gPg p:Nat):=fun h=>by
  rw[<-q,<-KM h o.2 (by omega),<-KM h o.2 (by omega)]
 rcases z1w a p.A[j].B.length with ha|ha;rotate_left 1
 .have e:XR (i+(gL p.A[j].body+SB (p.A.drop (j+1)):Nat))=XR (gPg p:Nat):=by
   rw[z1b ha,q2n,z3m]at q;exact q
  obtain⟨f1,f2⟩:=fin e;conv=>whnf
  repeat' ((first|(refine gX ?_;intros)|refine cP (JG (gL p.A[j].body+1) p.A[j].body (by omega) i o) ?_ (ha:=.cons (Sub.refl _) (.cons (Sub.refl _) .nil))|(apply bD<;>intro _<;>try omega))<;>conv=>whnf)
  all_goals exact nX (j+1,XR (i+gL p.A[j].body)) ⟨by simp only;omega,f1,f2⟩
 rw[z2v ha,q2n]at q;conv=>whnf
 repeat' ((first|(refine gX ?_;intros)|refine cP (XX p.A[j].B[a].name _ o) ?_|refine cP (JG (gL p.A[j].body+1) p.A[j].body (by omega) i o) ?_ (ha:=.cons (Sub.refl _) (.cons (Sub.refl _) .nil))|(apply bD<;>intro _<;>try omega))<;>conv=>whnf)
 .have t:XR (XR (i+(1+p.A[j].B[a].name.length:Nat))+(q2n (p.A[j].B.drop (a+1))+(gL p.A[j].body+SB (p.A.drop (j+1))):Nat))=XR (gPg p:Nat):=by
   rw[ZS (by omega),<-q];congr 1;omega
  exact nX (a+1,XR (i+(1+p.A[j].B[a].name.length:Nat))) ⟨by simp only;omega,ZD (by omega),t⟩
 .obtain ⟨f1,f2⟩:=fin (r (by omega));exact nX (j+1,XR (i+gL p.A[j].body)) ⟨by simp only;omega,f1,f2⟩
inductive SubE:List AV->List AV->Prop
 |nil:SubE [] []
 |cons {a b:AV} {xs ys:List AV} (h:SubL a.cells b.cells) (hs:SubE xs ys):SubE (a::xs) (b::ys)
theorem SubE.get{xs m:List AV}(h:SubE xs m):xs.length=m.length/\∀(i:Nat)(b:AV),m[i]?=some b->∃a,xs[i]?=some a/\SubL a.cells b.cells:=by
 induction h with
 |nil=>exact⟨rfl,by simp⟩
 | cons h q o=>
   refine⟨by simp[o.1],fun i b l=>?_⟩;cases i with
   |zero=>simp at l;subst l;exact⟨_,rfl,h⟩
   |succ i=>exact o.2 i b (by simpa using l)
theorem Sub.sl{xs r:List AV}(h:SubE xs r):Sub (.sl xs) (.sl r):=fun σ v F=>by
 obtain⟨z,w⟩:=h.get;cases F with
 | nilsl=>
   obtain rfl:r=[]:=by simpa using z.symm
   exact .nilsl
 | slz b=>
   obtain rfl:r=[]:=by simpa using z.symm
   exact .slz b
 | sl _ b off cap sz cells u D B q A E g=>
   rw[z];refine .sl r b off cap sz cells u D (by omega) q (fun i e o=>?_) (fun i e j c o x=>?_) (fun i e j c o x=>?_)
   .obtain ⟨a,l,m⟩:=w i e o;rw[<-A i a l,m.1]
   .obtain ⟨a,l,m⟩:=w i e o;obtain⟨d,t,_⟩:=m.get x;exact E i a j d l t
   .obtain ⟨a,l,m⟩:=w i e o;obtain⟨d,t,C⟩:=m.get x;exact C _ _ (g i a j d l t)
def Kn(n:Int):aP 58 [.int .i64 n] (.agg (X.mk 1 n [] []).cells):=by
 refine sC Wx func58 ?_;conv=>whnf
 repeat' (refine z1s rfl ?_;conv=>whnf)
 exact⟨_,.p (Sub.agg x9h),rfl⟩
def J8(s:Str):aP 59 [.str s] (.agg (X.mk 2 0 s []).cells):=by
 refine sC Xt func59 ?_;conv=>whnf
 repeat' (refine z1s rfl ?_;conv=>whnf)
 exact⟨_,.p (Sub.agg x9h),rfl⟩
def NJ(op:Int)(a b:X):aP 60 [.int .i64 op,.agg a.cells,.agg b.cells] (.agg (X.mk op 0 [] [a,b]).cells):=by
 refine sC Ww func60 ?_;conv=>whnf
 repeat' ((first|refine z1s rfl ?_|refine aD ?_|refine BsK.pureL rfl rfl ?_)<;>conv=>whnf)
 have e:X.avs [a,b]=[.agg a.cells,.agg b.cells]:=by simp only[X.avs,X.av_eq]
 exact⟨_,.p (Sub.agg (SubL.cons (Sub.refl _) (SubL.cons (Sub.refl _) (SubL.cons (Sub.refl _) (SubL.cons (Sub.of_eq (by show _=AV.sl (X.avs [a,b]);rw[e];rfl)) SubL.nil))))),rfl⟩
def bs(l:List Nat):Str:=l.map fun n=>UInt8.ofNat n
def someP:Pg:=⟨[[103]],[
 ⟨[109,97,105,110],[],[[118]],[
   .mk 1 1 [] [118] [] (.mk 1 2 [] []) false [] [] [],
   .mk 2 4 [] [103] [112] (.mk 0 0 [] []) false [⟨false,[],.mk 1 3 [] []⟩,⟨true,[118],.mk 0 0 [] []⟩] [] [],
   .mk 3 3 [] [] [] (.mk 2 0 [118] []) false [] [] [],
   .mk 4 3 [] [] [] (.mk 2 0 [103] []) false [] [] []],[]⟩,
 ⟨[112],[⟨[120],false⟩,⟨[121],true⟩],[],[
   .mk 5 1 [] [121] [] (.mk 8 0 [] [.mk 2 0 [121] [],.mk 2 0 [120] []]) false [] [] [],
   .mk 6 5 [] [] [] (.mk 12 0 [] [.mk 2 0 [121] [],.mk 1 9 [] []]) false [] [.mk 7 10 [] [101] [] (.mk 0 0 [] []) false [] [] []] [],
   .mk 8 9 [] [] [] (.mk 2 0 [121] []) true [] [] []],[[101]]⟩]⟩
def J6:aP 24 [] (.agg someP.cells):=by
 refine sC Xl func24 ?_;conv=>whnf
 repeat' ((first|refine cP (Kn _) ?_|refine cP (J8 _) ?_|refine gX ?_|refine BsK.pureL rfl rfl ?_|refine cP (NJ 8 (.mk 2 0 [121] []) (.mk 2 0 [120] [])) ?_|refine cP (NJ 12 (.mk 2 0 [121] []) (.mk 1 9 [] [])) ?_)<;>conv=>whnf)
 exact⟨_,.p (Sub.agg (by repeat' (first|exact SubL.nil|exact SubE.nil|exact Sub.nils|exact Sub.ff rfl|exact Sub.tt rfl|refine SubL.cons ?_ ?_|refine SubE.cons ?_ ?_|exact Sub.refl _|refine Sub.agg ?_|refine Sub.sl ?_))),rfl⟩
def La:Fit someP:=by unfold Fit;decide
def Lc:QM someP=true:=by kernel_rfl
def f0:Pr:=someP.A[0]'(by decide)
def f1:Pr:=someP.A[1]'(by decide)
def x4l:WB (QN someP 0 f0)=[⟨0,1,1⟩,⟨1,2,1⟩,⟨2,3,1⟩,⟨3,4,1⟩,⟨4,-1,1⟩]:=by
 have h:QN someP 0 f0=[⟨0,1,1⟩,⟨1,2,1⟩,⟨2,3,1⟩,⟨3,4,1⟩,⟨4,-1,1⟩]:=by kernel_rfl
 unfold WB GH;rw[h,List.mergeSort_of_pairwise (by decide)];rfl
def x4r:WB (QN someP 1 f1)=[⟨0,5,1⟩,⟨5,6,1⟩,⟨6,7,1⟩,⟨6,8,1⟩,⟨7,-1,1⟩,⟨8,-1,1⟩]:=by
 have h:QN someP 1 f1=[⟨0,5,1⟩,⟨5,6,1⟩,⟨6,7,1⟩,⟨6,8,1⟩,⟨7,-1,1⟩,⟨8,-1,1⟩]:=by kernel_rfl
 unfold WB GH;rw[h,List.mergeSort_of_pairwise (by decide)];rfl
def ES{n:Str}(h:Zc p n=none)(i:QM p=true):JF p n=(Pr0,false):=by
 unfold Zc at h;rw[i,z1n]at h;unfold JF;cases k:p.A.find? (fun f=>f.name==n)with
 |none=>rfl
 |some f=>rw[k]at h;cases h
def EK(n k:Int):Int:=if k<1 then 0 else if n.tmod k<0 then n.tmod k+k else n.tmod k
def Av{n k:Int}(i:0<k):0<=EK n k/\EK n k<k:=by
 unfold EK;have m:=Int.tmod_lt_of_pos n i;have o : -k<n.tmod k:=by
  rcases Int.le_total 0 n with h|h
  .have:=Int.tmod_nonneg k h;omega
  .have l:=Int.tmod_lt_of_pos (-n) i;rw[Int.neg_tmod]at l;omega
 rw[if_neg (by omega)];split<;>omega
def Kd(n k:Int)(l:k<=1000000):aP 18 [.int .i64 n,.int .i64 k] (.int .i64 (EK n k)):=by
 refine sC W9 func18 ?_;conv=>whnf
 have i:=fun h:0<k=>Av (n:=n) h;repeat' ((first|refine z1s (by omega) ?_|(apply bD<;>intro _<;>try omega))<;>conv=>whnf)
 all_goals first
  | (refine Wr.i64 (by have:=i (by omega);unfold EK at this;rw[if_neg (by omega),if_pos (by assumption)]at this;omega) (by have:=i (by omega);unfold EK at this;rw[if_neg (by omega),if_pos (by assumption)]at this;omega) ?_
     conv=>whnf
     exact RetK.int (by unfold EK;rw[if_neg (by assumption),if_pos (by assumption)]))
  |exact RetK.int (by unfold EK;rw[if_pos (by assumption)])
  |exact RetK.int (by unfold EK;rw[if_neg (by assumption),if_neg (by assumption)])
def VR(l:List Int)(x:Int):Bool:=l.any fun y=>decide (x=y)
def XH(l:List Int)(x:Int):aP 199 [QG l,.int .i64 x] (.bool (VR l x)):=by
 refine sC Xd func199 ?_;conv=>whnf
 repeat' ((refine iM fun _=>?_)<;>conv=>whnf)
 have m:(l.map (AV.int .i64)).length=l.length:=z0s _;refine lI (fun j:Nat=>⟨[(1,.j x),(7,.p (QG l)),(8,.p (.int .i64 (l.map (AV.int .i64)).length)),(9,.j j)],[]⟩) (fun j=>j<=l.length/\(l.drop j).any (fun y=>decide (x=y))=VR l x) (fun j=>l.length-j) 0 ⟨z1q _,rfl⟩ ?_;rintro j ⟨k,i⟩;rcases z1w j l.length with h|h
 .conv=>whnf
  repeat' ((first|(refine gX ?_;intros)|(apply bD<;>intro _<;>try omega))<;>conv=>whnf)
  all_goals first
   |exact RetK.tt (by rw[<-i,Z0 h (by simp_all)])
   |exact nX (j+1) ⟨h,by rw[X9 h (by simp;omega)];exact i⟩
 .conv=>whnf
  repeat' (apply bD<;>intro _<;>first|omega|conv=>whnf)
  exact RetK.ff (by rw[<-i,DZ h])
def inS(l:List Str)(x:Str):Bool:=l.any fun y=>y==x
def QF(l:List Str)(x:Str):aP 19 [eStrs l,.str x] (.bool (inS l x)):=by
 refine sC Y1 func19 ?_;conv=>whnf
 repeat' ((refine iM fun _=>?_)<;>conv=>whnf)
 have m:(l.map AV.str).length=l.length:=z0s _;refine lI (fun j:Nat=>⟨[(0,.p (eStrs l)),(1,.p (.str x)),(7,.p (.int .i64 (l.map AV.str).length)),(8,.j j)],[]⟩) (fun j=>j<=l.length/\(l.drop j).any (fun y=>y==x)=inS l x) (fun j=>l.length-j) 0 ⟨z1q _,rfl⟩ ?_;rintro j ⟨k,i⟩;rcases z1w j l.length with h|h
 .conv=>whnf
  repeat' ((first|(refine gX ?_;intros)|((first|apply bD|apply bB)<;>intro _<;>try omega))<;>conv=>whnf)
  .exact RetK.tt (by rw[<-i,Z0 h (by assumption)])
  .exact nX (j+1) ⟨h,by rw[X9 h (by assumption)];exact i⟩
 .conv=>whnf
  repeat' (apply bD<;>intro _<;>first|omega|conv=>whnf)
  exact RetK.ff (by rw[<-i,DZ h])
def GZ(p:Pg)(n:Int):Str:=match p.A[(EK n p.A.length).toNat]?with
 |some f=>f.name
 |none=>[]
def Zn(p:Pg)(n:Int)(t:p.A.length<=21000):aP 9 [.agg p.cells,.int .i64 n] (.str (GZ p n)):=by
 refine sC MV func9 ?_;conv=>whnf
 have r:(p.A.map fun f=>AV.agg f.cells).length=p.A.length:=z0s _;have m:=fun h:0<(p.A.length:Int)=>Av (n:=n) h;repeat' ((first|(refine iM fun _=>?_)|refine dA ?_|refine cP (Kd n (p.A.length:Int) (by omega)) ?_ (ha:=.cons (Sub.refl _) (.cons (Sub.int (by omega)) .nil))|(apply bD<;>intro _<;>try omega))<;>conv=>whnf)
 .refine RetK.p ?_;have l:p.A=[]:=List.length_eq_zero_iff.1 (by omega);unfold GZ;rw[l];rfl
 .obtain ⟨o,q⟩:=m (by omega);have i:(EK n p.A.length).toNat<p.A.length:=by omega
  refine IdxK.at (k:=(EK n p.A.length).toNat) (e:=.agg p.A[(EK n p.A.length).toNat].cells) (by omega) (by rw[z1u,z0c i];rfl) rfl ?_;conv=>whnf
  skip
  exact RetK.p (by unfold GZ;rw[z0c i])
def q5e(a b:Int):Bool:=bif decide (a = -1)||decide (b = -1)then decide (b = -1) && !decide (a = -1)else decide (a<b)
def HL(a b:Int):aP 201 [.int .i64 a,.int .i64 b] (.bool (q5e a b)):=by
 refine sC NI func201 ?_;conv=>whnf
 repeat' (apply bD<;>intro _<;>first|omega|conv=>whnf)
 all_goals first
  |exact RetK.bool (by unfold q5e;simp_all)
  |exact RetK.ff (by unfold q5e;simp_all)
  |exact RetK.bool (by unfold q5e;simp_all;omega)
theorem LZ{α β:Type}{f:α->β}:∀{l:List α},(l.map f).Nodup->∀a∈l,∀b∈l,f a=f b->a=b
 |[],_,a,ha,_,_,_=>by cases ha
 | c::r,h,a,ha,b,hb,e=>by
   rw[z1t,z2i]at h;rcases z1g.1 ha with k|k
   .rcases z1g.1 hb with i|i
    .rw [k,i]
    .exact (h.1 (z1z.2 ⟨b,i,by rw[<-e,k]⟩)).elim
   .rcases z1g.1 hb with i|i
    .exact (h.1 (z1z.2 ⟨a,k,by rw[e,i]⟩)).elim
    .exact LZ h.2 a k b i e
theorem UN{α:Type}[DecidableEq α]:∀{l m:List α},l.Nodup->(∀s∈l,s∈m)->l.length<=m.length
 |[],m,_,_=>z1q _
 | a::r,m,h,hs=>by
   rw[z2i]at h;have ha:=hs a z1j;have k:=UN (m:=m.erase a) h.2 fun s i=>(List.mem_erase_of_ne (fun e=>h.1 (by rw[<-e];exact i))).2 (hs s (z1x _ i));rw[List.length_erase_of_mem ha]at k;have:=z7l ha;simp only[z2k];omega
def Yw(n c:Nat):(GM n c).Nodup:=by
 unfold GM Nodup;rw[z5o];exact List.Pairwise.imp (fun h e=>h (by omega)) (List.nodup_range' (s:=n+1) (n:=c) (step:=1))
def Oc(i:UG p=true)(h:p.A[j]?=some f):(itsOf p j f).map (fun it=>it.s.id)=GM (QL p.A j) (QY f.body):=by
 rw[<-L9 i h,<-X1 (j:Nat) 0 (-1) 0 (QL p.A j) f.body,z4e];rfl
def Om(l:UG p=true)(k:p.A[j]?=some f){a b:Item}(ha:a∈itsOf p j f)(i:b∈itsOf p j f)(h:a.s.id=b.s.id):a=b:=
 LZ (f:=fun it:Item=>it.s.id) (by rw[Oc l k];exact Yw _ _) a ha b i h
def x0e{t:S}(h:t∈flL f.body):∃it∈itsOf p j f,it.s=t:=by
 rw[<-X1 (j:Nat) 0 (-1) 0 (QL p.A j) f.body]at h;obtain⟨it,i,k⟩:=z1z.1 h;exact⟨it,i,k⟩
def Tp(i:Sheet)(f:Pr)(it:Item):1<=(VG i f it).length/\(VG i f it).length<=2/\((VG i f it).length=2->it.s.kind=5\/it.s.kind=6):=by
 unfold VG;split
 .rename_i h;exact⟨by simp,by simp,fun _=>.inl h⟩
 split
 .rename_i h;exact⟨by simp,by simp,fun _=>.inr h⟩
 split
 .simp
 split
 .simp
 split
 .simp
 split<;>simp
def Aw{l:List Step}(h:l.Pairwise Vz):l.Nodup:=h.imp fun h e=>by subst e;exact PG h
def ZF{l:List Int}{x:Int}:VR l x=true↔x∈l:=by
 unfold VR;rw[z3z];refine⟨fun⟨y,k,i⟩=>by simp at i;exact i▸k,fun h=>⟨x,h,by simp⟩⟩
def CI{n c:Nat}{a:Int}(h:(n:Int)+1<=a)(i:a<=(n+c:Nat)):a∈GM n c:=by
 unfold GM;refine z1z.2 ⟨a.toNat,List.mem_range'.2 ⟨a.toNat-(n+1),by omega,by omega⟩,by omega⟩
def Ce(h:QM p=true)(i:p.A[j]?=some f):(QQ p j f).real.length<=100000:=by
 obtain⟨k,l⟩:=HP h i;have n:=UN (Aw k) fun s m=>(l s).1 m;have o:=LF p j f;have q:=UC _ _ (z1d i);have:=(XF h).2.2;omega
inductive Rch{α:Type}(R:α->α->Prop)(a:α):α->Prop
 |refl:Rch R a a
 |tail {b c:α} (h:Rch R a b) (hr:R b c):Rch R a c
theorem Rch.trans{α:Type}{R:α->α->Prop}{a b c:α}(h:Rch R a b)(i:Rch R b c):Rch R a c:=by
 induction i with
 |refl=>exact h
 |tail _ l m=>exact .tail m l
theorem Rch.head{α:Type}{R:α->α->Prop}{a b c:α}(i:R a b)(h:Rch R b c):Rch R a c:=Rch.trans (.tail .refl i) h
theorem Rch.mono{α:Type}{R R':α->α->Prop}(h:∀x y,R x y->R' x y){a b:α}(i:Rch R a b):Rch R' a b:=by
 induction i with
 |refl=>exact .refl
 |tail _ i l=>exact .tail l (h _ _ i)
theorem Rch.closed{α:Type}{R:α->α->Prop}{S:α->Prop}(i:∀x y,S x->R x y->S y){a b:α}(ha:S a)(h:Rch R a b):S b:=by
 induction h with
 |refl=>exact ha
 |tail _ l m=>exact i _ _ m l
structure WkM(n:Nat)(st:List Bool×List Int):Prop where
 inv:wkInv n st
 mem:∀x,x∈st.2↔(0<=x/\x<n)/\st.1.getD x.toNat false=true
theorem WkM.start(n:Nat):WkM n (List.replicate n false,[]):=⟨Zt n,fun x=>by
 simp only[z7u,false_iff,not_and];intro _;rw[z0a,z2q];split<;>simp⟩
theorem WkM.see{n:Nat}{st:List Bool×List Int}(h:WkM n st){b:Int}(o:0<=b/\b<n):WkM n (FP st b)/\(∀x,x∈(FP st b).2↔x∈st.2\/x=b)/\st.2 <+: (FP st b).2:=by
 have r:=Vr h.inv o;cases q:st.1.getD b.toNat false with
 | true=>
   have e:FP st b=st:=by unfold FP;rw[q];rfl
   rw[e];refine⟨h,fun x=>⟨.inl,fun l=>?_⟩,prefix_refl _⟩;rcases l with l|rfl
   .exact l
   .exact (h.mem _).2 ⟨o,q⟩
 | false=>
   have e:FP st b=(st.1.set b.toNat true,st.2++[b]):=by unfold FP;rw[q];rfl
   rw[e]at r⊢;have t:=h.inv.1;refine⟨⟨r,fun x=>?_⟩,fun x=>by simp,List.prefix_append _ _⟩;rw[z0o,z0i,h.mem];simp only[z0a,z5i];by_cases l:x=b
   .subst l;rw[if_pos rfl,if_pos (by omega)];simp[o]
   .constructor
    .rintro (⟨m,i⟩|i)
     .refine ⟨m,?_⟩;rw[if_neg (by omega)];exact i
     .exact absurd i l
    .rintro ⟨m,i⟩;rw[if_neg (by omega)]at i;exact .inl ⟨m,i⟩
theorem WkM.fold{n:Nat}:∀(l:List Int){st:List Bool×List Int},WkM n st->(∀b∈l,0<=b/\b<n)->WkM n (l.foldl FP st)/\(∀x,x∈(l.foldl FP st).2↔x∈st.2\/x∈l)/\st.2 <+: (l.foldl FP st).2
 |[],st,h,_=>⟨h,fun x=>by simp,prefix_refl _⟩
 | b::r,st,h,hl=>by
   obtain⟨i,m,o⟩:=h.see (hl b z1j);obtain⟨q,t,u⟩:=WkM.fold r i fun c v=>hl c (z1x _ v);refine⟨q,fun x=>?_,o.trans u⟩;rw[z4d,t,m,z1g,or_assoc]
def Lb(rows:List (List Int))(x y:Int):Prop:=y∈rows.getD x.toNat []
def LJ{n:Nat}{rows:List (List Int)}(k:XT n rows){x:Int}(h:Lb rows x y):0<=y/\y<n:=by
 unfold Lb at h;rw[z0a]at h;cases i:rows[x.toNat]?with
 |none=>rw[i]at h;simp at h
 |some r=>rw[i]at h;exact k.2 r (z1d i) y h
def Yp{α:Type}{l m:List α}(h:l <+: m){i:Nat}{a:α}(ha:l[i]?=some a):m[i]?=some a:=by
 obtain⟨t,rfl⟩:=h;rw[z2a (z1k.1 ha).1];exact ha
theorem B0{n:Nat}{rows:List (List Int)}(C:XT n rows):∀(k i:Nat){st:List Bool×List Int},WkM n st->i<=st.2.length->n+1<=k+i->(∀(m:Nat)(a:Int),m<i->st.2[m]?=some a->∀b,Lb rows a b->b∈st.2)->
  WkM n (ZC rows k i st)/\(∀x∈st.2,x∈(ZC rows k i st).2)/\(∀x∈(ZC rows k i st).2,∀b,Lb rows x b->b∈(ZC rows k i st).2)/\(∀S:Int->Prop,(∀x∈st.2,S x)->(∀x b,S x->Lb rows x b->S b)->∀x∈(ZC rows k i st).2,S x)
 | 0,i,st,h,hi,hk,_=>by
   have:=LM h.inv;omega
 | k+1,i,st,h,hi,hk,hc=>by
   rw[ZC];split
   .rename_i a ha;have g:=(z1k.1 ha).1;have w:∀b∈rows.getD a.toNat [],0<=b/\b<n:=fun b q=>LJ C q;obtain⟨D,d,e⟩:=h.fold (rows.getD a.toNat []) w;obtain⟨E,F,G,H⟩:=B0 C k (i+1) D (z2g g e.length_le) (by omega) fun m c A o b q=>by
     rw[d];rcases z1w m i with u|u
     .have v:m<st.2.length:=by omega
      have t:st.2[m]?=some c:=by
       have:=Yp e (z0c v);rw[z0c v,<-this,o]
      exact .inl (hc m c u t b q)
     .obtain rfl:m=i:=by omega
      have:=Yp e ha;rw[this]at o;cases o;exact .inr q
    refine⟨E,fun x l=>F x ((d x).2 (.inl l)),G,fun S z r=>H S (fun x l=>?_) r⟩;rcases(d x).1 l with l|l
    .exact z x l
    .exact r a x (z a (z1d ha)) l
   .rename_i ha;have B:st.2.length<=i:=List.getElem?_eq_none_iff.1 ha;refine⟨h,fun x l=>l,fun x l b q=>?_,fun S z _=>z⟩;obtain⟨m,A⟩:=z3s.1 l;exact hc m x (by have:=(z1k.1 A).1;omega) A b q
theorem Yo{n:Nat}:∀(l:List Int){st:List Bool×List Int},WkM n st->WkM n (l.foldl (fun st a=>bif WH n a then FP st a else st) st)/\∀x,x∈(l.foldl (fun st a=>bif WH n a then FP st a else st) st).2↔x∈st.2\/(x∈l/\WH n x=true)
 |[],st,h=>⟨h,fun x=>by simp⟩
 | a::r,st,h=>by
   rw[z4d];cases q:WH n a with
   | true=>
     obtain⟨t,u,_⟩:=h.see (ZL q);obtain⟨m,o⟩:=Yo r t;rw[z1n];refine⟨m,fun x=>?_⟩;rw[o,u,z1g];constructor
     .rintro ((i|rfl)|⟨i,k⟩)
      .exact .inl i
      .exact .inr ⟨.inl rfl,q⟩
      .exact .inr ⟨.inr i,k⟩
     .rintro (i|⟨rfl|i,k⟩)
      .exact .inl (.inl i)
      .exact .inl (.inr rfl)
      .exact .inr ⟨i,k⟩
   | false=>
     obtain⟨m,o⟩:=Yo r h;rw[z1o];refine⟨m,fun x=>?_⟩;rw[o,z1g];constructor
     .rintro (i|⟨i,k⟩)
      .exact .inl i
      .exact .inr ⟨.inr i,k⟩
     .rintro (i|⟨rfl|i,k⟩)
      .exact .inl i
      .rw [q]at k;cases k
      .exact .inr ⟨i,k⟩
theorem Az:∀(l:List Bool)(i:Nat)(y:Int),y∈NM i l ↔ ∃k:Nat,l[k]?=some true/\y=((i+k:Nat):Int)
 |[],i,y=>by simp[NM]
 | b::r,i,y=>by
   have n:=Az r (i+1) y;have key:(∃k:Nat,(b::r)[k]?=some true/\y=((i+k:Nat):Int))↔(b=true/\y=(i:Int))\/∃k:Nat,r[k]?=some true/\y=((i+1+k:Nat):Int):=by
    constructor
    .rintro ⟨k,h,m⟩;cases k with
     |zero=>simp at h;exact .inl ⟨h,by simpa using m⟩
     |succ k=>exact .inr ⟨k,by simpa using h,by rw[m];omega⟩
    .rintro (⟨h,m⟩|⟨k,h,m⟩)
     .exact ⟨0,by simp[h],by simpa using m⟩
     .exact ⟨k+1,by simpa using h,by rw[m];omega⟩
   rw[key,<-n,NM];cases b<;>simp
def TS{n:Nat}{rows:List (List Int)}(t:XT n rows)(l:List Int)(y:Int):y∈NM 0 (WT rows l) ↔ ∃a∈l,WH n a=true/\Rch (Lb rows) a y:=by
 obtain⟨c,d⟩:=Yo (n:=n) l (WkM.start n);obtain⟨u,e,g,A⟩:=B0 t (rows.length+1) 0 (st:=LH rows.length l) (by rw[t.1];exact c) (z1q _) (by rw[t.1];omega) (fun m a C=>by omega);have r:∀x,x∈(LH rows.length l).2↔x∈l/\WH n x=true:=fun x=>by
  rw[t.1];unfold LH;rw[d];simp
 have q:∀y,y∈NM 0 (WT rows l)↔y∈(ZC rows (rows.length+1) 0 (LH rows.length l)).2:=fun y=>by
  rw[Az,u.mem];show(∃k:Nat,(ZC rows (rows.length+1) 0 (LH rows.length l)).1[k]?=some true/\_)↔_;constructor
  .rintro ⟨k,i,h⟩;have o:=(z1k.1 i).1;rw[u.inv.1]at o;refine⟨by omega,?_⟩;rw[h,z0a];simp[i]
  .rintro ⟨i,h⟩;have o:y.toNat<(ZC rows (rows.length+1) 0 (LH rows.length l)).1.length:=by rw[u.inv.1];omega
   refine⟨y.toNat,?_,by omega⟩;rw[z0a,z0c o]at h;rw[z0c o];simpa using h
 rw[q];constructor
 .intro B;refine A (fun y=>∃a∈l,WH n a=true/\Rch (Lb rows) a y) (fun x z=>?_) (fun x b ⟨a,i,h,v⟩ w=>⟨a,i,h,.tail v w⟩) y B;obtain⟨i,h⟩:=(r x).1 z;exact⟨x,i,h,.refl⟩
 .rintro ⟨a,i,h,v⟩;exact v.closed (S:=fun y=>y∈(ZC rows (rows.length+1) 0 (LH rows.length l)).2) (fun x b z w=>g x z b w) (e a ((r a).2 ⟨i,h⟩))
def A1{l:List Int}{k:Nat}{b x:Int}:x∈Jt l k b↔x∈l\/x=b:=by
 unfold Jt;rw[z0o,z1g];have:x∈l↔x∈l.take k\/x∈l.drop k:=by rw[<-z0o,z6i]
 rw[this];constructor
 .rintro (h|h|h)
  .exact .inl (.inl h)
  .exact .inr h
  .exact .inl (.inr h)
 .rintro ((h|h)|h)
  .exact .inl h
  .exact .inr (.inr h)
  .exact .inr (.inl h)
def q3x{n:Nat}{g:List (List Int)×List (List Int)}(r:g.1.length=n)(e:Int×Int){x:Int}(o:0<=x/\x<n):y∈(Rj n g e).1.getD x.toNat []↔y∈g.1.getD x.toNat []\/((x,y)=e/\WH n y=true):=by
 rw[H6];cases i:(WH n e.1&&WH n e.2 && !(g.1.getD e.1.toNat []).contains e.2)with
 | true=>
   simp only[z1p,z4w]at i;obtain⟨⟨l,m⟩,_⟩:=i;have q:=ZL l;rw[z1n];unfold N9;rw[z0a,z5i];by_cases k:e.1.toNat=x.toNat
   .rw [if_pos k,if_pos (by omega)];simp only[z2l];rw[A1,<-k];have:x=e.1:=by omega
    constructor
    .rintro (h|h)
     .exact .inl h
     .exact .inr ⟨by rw[this,h],by rw[h];exact m⟩
    .rintro (h|⟨h,_⟩)
     .exact .inl h
     .exact .inr (by rw[<-h])
   .rw [if_neg k,<-z0a];constructor
    .exact .inl
    .rintro (h|⟨h,_⟩)
     .exact h
     .exact absurd (by rw[<-h]) k
 | false=>
   rw[z1o];constructor
   .exact .inl
   .rintro (h|⟨rfl,h⟩)
    .exact h
    .have l:WH n x=true:=by unfold WH;simp[o]
     simp only[l,h,z6z,Bool.not_eq_false']at i;simpa using i
def CQ{n:Nat}{g:List (List Int)×List (List Int)}(h:g.1.length=n)(e:Int×Int):(Rj n g e).1.length=n:=by
 rw[H6];cases(WH n e.1&&WH n e.2 && !(g.1.getD e.1.toNat []).contains e.2)with
 |true=>rw[z1n];unfold N9;rw[z3e];exact h
 |false=>exact h
theorem Tt{n:Nat}{x y:Int}(m:0<=x/\x<n):∀(l:List (Int×Int)){g:List (List Int)×List (List Int)},g.1.length=n->(y∈(l.foldl (Rj n) g).1.getD x.toNat []↔y∈g.1.getD x.toNat []\/((x,y)∈l/\WH n y=true))
 |[],g,_=>by simp
 | e::r,g,h=>by
   rw[z4d,Tt m r (CQ h e),q3x h e m,z1g];constructor
   .rintro ((i|⟨i,k⟩)|⟨i,k⟩)
    .exact .inl i
    .exact .inr ⟨.inl i,k⟩
    .exact .inr ⟨.inr i,k⟩
   .rintro (i|⟨i|i,k⟩)
    .exact .inl (.inl i)
    .exact .inl (.inr ⟨i,k⟩)
    .exact .inr ⟨i,k⟩
def LI{n:Nat}{l:List (Int×Int)}{x:Int}(h:0<=x/\x<n):Lb (QE n l).1 x y↔(x,y)∈l/\WH n y=true:=by
 unfold Lb QE;rw[Tt h l (by simp)];have:(List.replicate n ([]:List Int)).getD x.toNat []=[]:=by
  rw[z0a,z2q];split<;>rfl
 rw[this];simp
def Fh{n:Nat}{l:List (Int×Int)}(r:0<n)(y:Int):y∈NM 0 (WT (QE n l).1 [0])↔Rch (fun a b=>(a,b)∈l/\WH n b=true) 0 y:=by
 rw[TS (HH n l).1];have q:WH n 0=true:=by unfold WH;simp;omega
 constructor
 .rintro ⟨a,ha,_,h⟩;obtain rfl:a=0:=by simpa using ha
  exact(h.closed (S:=fun x:Int=>(0<=x/\x<n)/\Rch (fun a b=>(a,b)∈l/\WH n b=true) 0 x) (fun x y ⟨k,m⟩ i=>by
   have o:=(LI k).1 i;exact⟨ZL o.2,.tail m o⟩) ⟨⟨by omega,by omega⟩,.refl⟩).2
 .intro h;refine⟨0,by simp,q,?_⟩;exact(h.closed (S:=fun x:Int=>(0<=x/\x<n)/\Rch (Lb (QE n l).1) 0 x) (fun x y ⟨k,m⟩ i=>⟨ZL i.2,.tail m ((LI k).2 i)⟩) ⟨⟨by omega,by omega⟩,.refl⟩).2
def stR(F:List Step)(a b:Int):Prop:=∃s∈F,s.src=a/\s.dst=b
def plP(p:Pg)(j:Nat)(f:Pr)(x:Int):Prop:=x=0\/x = -1\/((QL p.A j:Int)+1<=x/\x<=(QL p.A j+QY f.body:Nat))
def ixI(p:Pg)(j:Nat)(f:Pr)(x:Int):Int:=VO (loI p j) (hiI p j f) (QY f.body+2:Nat) x
def ZO{x:Int}(h:plP p j f x):0<=ixI p j f x/\ixI p j f x<(QY f.body+2:Nat):=by
 unfold ixI VO loI hiI;unfold plP at h
 (repeat' split)<;>omega
def UP{x:Int}(i:plP p j f x)(k:plP p j f y)(h:ixI p j f x=ixI p j f y):x=y:=by
 unfold ixI VO loI hiI at h;unfold plP at i k
 (repeat' split at h)<;>omega
def I9{F:List Step}(t:∀s∈F,plP p j f s.src/\plP p j f s.dst)(d:plP p j f y):
  ixI p j f y∈NM 0 (WT (QE (QY f.body+2) (F.map (ixP p j f (QY f.body+2:Nat)))).1 [0])↔Rch (stR F) 0 y:=by
 rw[Fh (by omega)];have q:ixI p j f 0=0:=by unfold ixI VO;rw[if_pos rfl]
 have v:plP p j f 0:=.inl rfl;constructor
 .intro h;obtain⟨z,m,k,o⟩:=h.closed (S:=fun i=>∃z,plP p j f z/\ixI p j f z=i/\Rch (stR F) 0 z) (by
   rintro a b ⟨z,m,k,o⟩ ⟨c,_⟩;obtain⟨s,l,u⟩:=z1z.1 c;obtain⟨r,n⟩:=t s l;have w:ixI p j f s.src=a:=z2b Prod.fst u;have e2:ixI p j f s.dst=b:=z2b Prod.snd u;have x:s.src=z:=UP r m (by rw[w,k]);exact⟨s.dst,n,e2,.tail o ⟨s,l,x,rfl⟩⟩) ⟨0,v,q,.refl⟩
  rw[<-UP m d k];exact o
 .intro h;have:=h.closed (S:=fun z=>plP p j f z/\Rch (fun a b=>(a,b)∈F.map (ixP p j f (QY f.body+2:Nat))/\WH (QY f.body+2) b=true) 0 (ixI p j f z)) (by
   rintro a b ⟨m,k⟩ ⟨s,l,rfl,rfl⟩;obtain⟨r,n⟩:=t s l;refine⟨n,.tail k ⟨z1z.2 ⟨s,l,rfl⟩,?_⟩⟩;have:=ZO n;unfold WH;simp only[z1p,z2z];exact this) ⟨v,by rw[q];exact .refl⟩
  exact this.2
def YX(h:QM p=true)(i:p.A[j]?=some f):∀s∈(QQ p j f).real,plP p j f s.src/\plP p j f s.dst:=fun s n=>by
 obtain⟨_,k⟩:=HP h i;obtain⟨_,l,_⟩:=MD h i;obtain⟨o,m⟩:=l s ((k s).1 n);unfold okI at m;unfold plP;omega
def AS{l:List Str}(h:XS l=false):l.Nodup:=by
 unfold XS at h;rw[z5e]at h;unfold Nodup;rw[z5n];intro i j q k o n;have m:=h j (z2h.2 k);apply m;rw[z3z];refine⟨l[i],?_,?_⟩
 .exact z2e.2 ⟨i,by simp;omega,by simp⟩
 .rw [z0c k];simp[n]
def D6(h:QM p=true):(procsN p).Nodup:=by
 obtain⟨l,k,_⟩:=QV h;unfold XZ at k;rw[l,z1n]at k;cases i:WZ p with
 |true=>rw[i]at k;cases k
 | false=>
   unfold WZ at i;simp only[z6j]at i;exact AS i.2.1
def Vb(h:QM p=true){k:Nat}{g:Pr}(n:p.A[j]?=some f)(m:p.A[k]?=some g)(q:f.name=g.name):j=k/\f=g:=by
 have r:=D6 h;have i:(procsN p)[j]?=some f.name:=by simp[procsN,n]
 have o:(procsN p)[k]?=some g.name:=by simp[procsN,m]
 rw[q]at i;have l:=(z1k.1 i).1;obtain rfl:j=k:=(List.getElem?_inj l r).1 (i.trans o.symm);rw[n]at m;exact⟨rfl,z3q m⟩
def Iy:∀(k:Nat)(l:List S)(_:QY l<k)(_:QY l<=1000000),aP 31 [eSs l] (.int .i64 (QY l)):=by
 intro k;induction k with
 |zero=>intro l h;omega
 | succ k u=>
   intro l x z;have o:=S.avs_len l;have a:l.length<=QY l:=by
    clear x z o;induction l with
    |nil=>simp
    |cons t r i=>rw[QY,VU,z2k];omega
   refine sC RX func31 ?_;conv=>whnf
   repeat' ((refine iM fun _=>?_)<;>conv=>whnf)
   refine lJ (fun y:Nat×Nat=>⟨[(0,.p (eSs l)),(3,.j y.2),(8,.p (.int .i64 (S.avs l).length)),(9,.j y.1)],[]⟩) (fun y=>y.1<=l.length/\y.2+QY (l.drop y.1)=QY l+(l.length-y.1)) (fun y=>l.length-y.1) (0,l.length) (Le.of_eq (by simp only[S.avs_len];rfl)) ⟨z1q _,by simp;omega⟩ ?_;rintro⟨j,n⟩ ⟨v,q⟩;simp only at v q⊢;rcases z1w j l.length with m|m
   .have b:=Wm m;have w:=VU l[j];have c:QY (l.drop j)<=QY l:=by
     have:∀(l:List S)(j:Nat),QY (l.drop j)<=QY l:=fun l=>by
      induction l with
      |nil=>intro j;simp
      | cons t r i=>
        intro j;cases j with
        |zero=>simp
        |succ j=>rw[List.drop_succ_cons,QY];have:=i j;omega
     exact this l j
    conv=>whnf
    repeat' ((first|refine dA ?_|(refine gX ?_;intros)|refine cP (u l[j].L (by omega) (by omega)) ?_ (ha:=.cons (Sub.refl _) .nil)|refine cP (u l[j].M (by omega) (by omega)) ?_ (ha:=.cons (Sub.refl _) .nil)|(apply bD<;>intro _<;>try omega))<;>conv=>whnf)
    all_goals exact nX (j+1,n+(QY l[j].L+QY l[j].M)) ⟨by simp only;omega,by simp only;omega⟩
   .conv=>whnf
    rw[z1b m,QY]at q;repeat' (apply bD<;>intro _<;>first|omega|conv=>whnf)
    exact RetK.int (by omega)
def Iu(p:Pg)(q:cntP p.A<=1000):aP 8 [.agg p.cells] (.int .i64 (cntP p.A)):=by
 refine sC RQ func8 ?_;conv=>whnf
 have m:(p.A.map fun f=>AV.agg f.cells).length=p.A.length:=z0s _;repeat' ((refine iM fun _=>?_)<;>conv=>whnf)
 refine lI (fun y:Nat×Nat=>⟨[(3,.j y.2),(7,.p (.sl (p.A.map fun f=>.agg f.cells))),(8,.p (.int .i64 (p.A.map fun f=>AV.agg f.cells).length)),(9,.j y.1)],[]⟩) (fun y=>y.1<=p.A.length/\y.2+cntP (p.A.drop y.1)=cntP p.A) (fun y=>p.A.length-y.1) (0,0) ⟨z1q _,by simp⟩ ?_;rintro⟨j,n⟩ ⟨k,i⟩;simp only at k i⊢;rcases z1w j p.A.length with h|h
 .have o:=Hh h;have l:=UC _ _ (z1h h);conv=>whnf
  repeat' ((first|(refine gX ?_;intros)|refine cP (Iy (QY p.A[j].body+1) p.A[j].body (by omega) (by omega)) ?_ (ha:=.cons (Sub.refl _) .nil)|(apply bD<;>intro _<;>try omega))<;>conv=>whnf)
  exact nX (j+1,n+QY p.A[j].body) ⟨by simp only;omega,by simp only;omega⟩
 .conv=>whnf
  rw[z1b h,cntP]at i;repeat' (apply bD<;>intro _<;>first|omega|conv=>whnf)
  exact RetK.int (by omega)
def frR(steps:List Step)(at_:Int)(but:List Int)(a b:Int):Prop:=(a=at_\/VR but a=false)/\∃s∈steps,s.src=a/\s.dst=b
structure FrI(steps:List Step)(at_:Int)(but:List Int)(n:Nat)(l:List Int):Prop where
 le:n<=l.length
 hd:l[0]?=some at_
 nd:l.Nodup
 sub:∀x∈l,x∈at_::steps.map Step.dst
 snd:∀x∈l,Rch (frR steps at_ but) at_ x
 cl:∀(m:Nat)(a:Int),m<n->l[m]?=some a->∀b,frR steps at_ but a b->b∈l
theorem FrI.len{steps:List Step}{at_:Int}{but:List Int}{n:Nat}{l:List Int}(h:FrI steps at_ but n l):l.length<=steps.length+1:=by
 have:=UN h.nd h.sub;simpa using this
theorem FrI.start(steps:List Step)(at_:Int)(but:List Int):FrI steps at_ but 0 [at_]:=⟨z1q _,rfl,by simp,by simp,fun x i=>by rw[z0i.1 i];exact .refl,fun m a l=>by omega⟩
theorem FrI.add{steps:List Step}{at_:Int}{but:List Int}{n:Nat}{l:List Int}(h:FrI steps at_ but n l){a b:Int}(ha:a∈l)(t:frR steps at_ but a b)(v:VR l b=false):FrI steps at_ but n (l++[b]):=by
 have r:b∉l:=fun q=>by rw[ZF.2 q]at v;cases v
 have w:0<l.length:=(z1k.1 h.hd).1;refine⟨by rw[z0e];have:=h.le;omega,by rw[z2a w];exact h.hd,?_,fun x i=>?_,fun x i=>?_,fun m c q u d g=>?_⟩
 .rw [z3v];refine⟨h.nd,by simp,fun x i y B=>?_⟩;rw[z0i.1 B];exact fun e=>r (e▸i)
 .rcases z0o.1 i with i|i
  .exact h.sub x i
  .rw [z0i.1 i];obtain⟨_,s,A,_,z⟩:=t;exact z1x _ (z1z.2 ⟨s,A,z⟩)
 .rcases z0o.1 i with i|i
  .exact h.snd x i
  .rw [z0i.1 i];exact .tail (h.snd a ha) t
 .rcases z1w m l.length with o|o
  .rw [z2a o]at u;exact z0o.2 (.inl (h.cl m c q u d g))
  .have:=h.le;omega
theorem FrI.fin{steps:List Step}{at_:Int}{but:List Int}{l:List Int}(h:FrI steps at_ but l.length l)(x:Int):x∈l↔Rch (frR steps at_ but) at_ x:=by
 refine⟨h.snd x,fun q=>q.closed (S:=fun x=>x∈l) (fun a b ha o=>?_) (z1d h.hd)⟩;obtain⟨m,i⟩:=z3s.1 ha;exact h.cl m a (z1k.1 i).1 i b o
theorem FrI.next{steps:List Step}{at_:Int}{but:List Int}{n:Nat}{l:List Int}(h:FrI steps at_ but n l)(q:n<l.length)(r:∀b,frR steps at_ but l[n] b->b∈l):FrI steps at_ but (n+1) l:=by
 refine⟨q,h.hd,h.nd,h.sub,h.snd,fun m a t ha b o=>?_⟩;rcases z1w m n with i|i
 .exact h.cl m a i ha b o
 .obtain rfl:m=n:=by omega
  rw[z0c q]at ha;cases ha;exact r b o
def x6j(steps:List Step)(at_:Int)(but:List Int)(r:AV):Prop:=∃es,r=QG es/\(∀x,x∈es↔Rch (frR steps at_ but) at_ x)/\es.Nodup
def WO(steps:List Step)(at_:Int)(but:List Int)(B:steps.length<=1000000):SpecP prog 148 [eSteps steps,.int .i64 at_,QG but] (fun r=>x6j steps at_ but r):=by
 refine sC Qz func148 ?_;conv=>whnf
 have hsl:(steps.map fun s=>AV.agg s.cells).length=steps.length:=z0s _;repeat' ((first|refine z1s rfl ?_|refine aD ?_|refine z5l (fun x J=>by rcases z0i.1 J with rfl;rfl) rfl ?_)<;>conv=>whnf)
 refine lI (fun x:Nat×List Int=>⟨[(0,.p (eSteps steps)),(2,.p (QG but)),(7,.hd 0 0 x.2.length),(8,.j x.1)],[(0,.own 3 1 (x.2.map (.int .i64)))]⟩) (fun x=>x.1<=x.2.length/\FrI steps at_ but x.1 x.2) (fun x=>steps.length+2-x.1) (0,[at_]) ⟨z1q _,FrI.start _ _ _⟩ ?_;rintro⟨n,l⟩ ⟨C,k⟩;simp only at C k⊢;have G:=k.len;rcases z1w n l.length with t|t;rotate_left 1
 .conv=>whnf
  repeat' ((first|(refine iM fun _=>?_)|(apply bD<;>intro _<;>try omega))<;>conv=>whnf)
  have g:n=l.length:=by have:=k.le;omega
  subst g;exact⟨_,.hd rfl (by simp),l,rfl,k.fin,k.nd⟩
 conv=>whnf
 repeat' ((first|(refine gX ?_;intros)|refine iO n ?_|refine z5r n 0 (.int .i64 l[n]) (by omega) (by simp[t]) ?_|refine cP (XH but l[n]) ?_|((first|apply bD|apply bB)<;>intro _<;>try omega))<;>conv=>whnf)
 .have F:VR but l[n]=true:=by assumption
  have H:0<n:=by omega
  refine nX (n+1,l) ⟨t,k.next t fun b ⟨m,_⟩=>?_⟩;rcases m with m|m
  .have u:l[0]?=l[n]?:=by rw[k.hd,z0c t,m]
   have:=(List.getElem?_inj (by omega) k.nd).1 u;omega
  .rw [F]at m;cases m
 all_goals
  have a:l[n]=at_\/VR but l[n]=false:=by
   first
    |exact .inr (by assumption)
    | (left
       have v:n=0:=by omega
       have q:=k.hd;subst v;rw[z0c t]at q;exact z3q q)
  refine lI (fun x:Nat×List Int=>⟨[(0,.p (eSteps steps)),(2,.p (QG but)),(7,.hd 0 0 x.2.length),(8,.j n),(29,.p (eSteps steps)),(30,.p (.int .i64 (steps.map fun s=>AV.agg s.cells).length)),(31,.j x.1)],[(0,.own 3 1 (x.2.map (.int .i64)))]⟩) (fun x=>x.1<=steps.length/\l <+: x.2/\FrI steps at_ but n x.2/\∀s∈steps.take x.1,s.src=l[n]->s.dst∈x.2) (fun x=>steps.length-x.1) (0,l) ⟨z1q _,prefix_refl _,k,by simp⟩ ?_;rintro⟨y,o⟩ ⟨m,u,v,q⟩;simp only at m u v q⊢;have i:n<o.length:=z4c t u.length_le;have w:o[n]=l[n]:=by
   have:=Yp u (z0c t);rw[z0c i]at this;exact z3q this
  have I:=v.len;have A:(o.map (AV.int .i64)).length=o.length:=z0s _;rcases z1w y steps.length with z|z
  .have d:=z1y z;conv=>whnf
   repeat' ((first|refine dA ?_|(refine gX ?_;intros)|refine iO n ?_|refine z5r n 0 (.int .i64 o[n]) (by omega) (by simp[i]) ?_|(refine QB (XH o steps[y].dst) (.cons (.hd rfl A.symm) (.cons (.p (Sub.refl _)) .nil)) (by rintro _ rfl;rfl) ?_;rintro _ rfl)|refine pI ?_|((first|apply bD|apply bN)<;>intro _<;>try omega))<;>conv=>whnf)
   all_goals first
    |exact⟨(y+1,o++[steps[y].dst]),⟨z,u.trans (List.prefix_append _ _),v.add (z1h i) ⟨by rw[w];exact a,steps[y],z1h z,by assumption,rfl⟩ (by assumption),fun s h c=>by
       rw[d]at h;rcases z0o.1 h with h|h
       .exact z0o.2 (.inl (q s h c))
       .rw [z0i.1 h];exact z0o.2 (.inr (z0i.2 rfl))⟩,by simp only;omega,Le.of_eq (by simp only[z0e,z1v];rfl)⟩
    | exact nX (y+1,o) ⟨z,u,v,fun s h c=>by
       rw[d]at h;rcases z0o.1 h with h|h
       .exact q s h c
       .rw [z0i.1 h]at c⊢;first
         |exact ZF.1 (by assumption)
         | (exfalso
            have e:¬steps[y].src=o[n]:=by assumption
            exact e (c.trans w.symm))⟩
  .rw [z1f z]at q;conv=>whnf
   repeat' ((first|refine wI ?_|(apply bD<;>intro _<;>try omega))<;>conv=>whnf)
   exact nX (n+1,o) ⟨i,v.next i fun b ⟨_,s,h,D,E⟩=>E▸q s h (by rw[D,w])⟩
end Go.Ab
