/- The law of a program that may be: every step leads from a place to a place. -/
import Derived.Laws.StructEq
import Derived.ChangeKeysEq
import Derived.Test.YtgljdhjopolmcaaGreatInN10
import Derived.Test.YtgljdhjopolmcaaGreatInN13
set_option linter.all false
set_option maxRecDepth 100000
set_option maxHeartbeats 16000000
open List (Nodup)
namespace Go.Ab
open Go.Proofs.Tryz
open Go.Proofs
variable {E L l:List Str}{K:St->Prop}{N j:Nat}{P:Program}{avs:List AV}{dst:Option Nat}{f:Pr}{it:Item}{p:Pg}{s:St}{sl:List (Nat×LV)}{y:Int}
theorem QU(h:QP p=true):YV p=true/\(QC p).1=0/\(VO p).1=0/\(LW p).1=0/\(HB p).1=0:=by
 unfold QP q5e at h;simp only[x9o]at h;by_cases i:YV p=false
 ·rw[if_pos i]at h;cases h
 rw[if_neg i]at h;by_cases m:(QC p).1=0
 ·rw[if_neg (by omega)]at h;by_cases n:(VO p).1=0
  ·rw[if_neg (by omega)]at h;by_cases o:(LW p).1=0
   ·rw[if_neg (by omega)]at h;exact⟨by simpa using i,m,n,o,h⟩
   ·rw[if_pos o]at h;exact absurd h o
  ·rw[if_pos n]at h;exact absurd h n
 ·rw[if_pos m]at h;exact absurd h m
theorem Kf{f:Pr}:∀(l:List Item)(seen:List Str){s:List Str},JP f l seen=.ok s->∀it∈l,UW f it=true
 |[],_,_,_,it,h=>by cases h
 | a::r,seen,s,h,it,i=>by
   rw[JP]at h;cases n:UP seen a.s.F with
   |none=>rw[n]at h;cases h
   | some o=>
     rw[n]at h;simp only at h;cases m:UW f a with
     |false=>rw[m]at h;cases h
     | true=>
       rw[m,x9z]at h;rcases x8s.1 i with rfl|i
       .exact m
       .exact Kf r o h it i
theorem LR(r:(QC p).1=0)(h:(LW p).1=0)(m:p.A[j]?=some f):∀it∈itsOf p j f,UW f it=true:=by
 unfold LW at h;rw[if_neg (by omega)]at h;have n:(List.range p.A.length).findSome? (JQ p)=none:=by
  cases q:(List.range p.A.length).findSome? (JQ p)with
  |none=>rfl
  |some a=>rw[q]at h;cases h
 rw[z3i]at n;have i:j<p.A.length:=(x8t.1 m).1;have:=n j (z1i.2 i);unfold JQ at this;rw[m]at this;simp only at this;cases o:JP f (itL (j:Nat) 0 (-1) 0 (offN p.A j) f.body) []with
 |error id=>rw[o]at this;cases this
 |ok seen=>exact Kf _ _ o
mutual
theorem q1x:∀(t u v:S),u∈flS t->v∈u.I\/v∈u.L->v∈flS t
 | .mk id kind F name D x has args I L,u,v,h,hv=>by
   rw[flS]at h⊢;rcases x8s.1 h with rfl|h
   ·refine x8r _ (x8e.2 ?_);rcases hv with hv|hv
    ·exact .inl (Zk I v hv)
    ·exact .inr (Zk L v hv)
   ·rcases x8e.1 h with h|h
    ·exact x8r _ (x8e.2 (.inl (Zj I u v h hv)))
    ·exact x8r _ (x8e.2 (.inr (Zj L u v h hv)))
theorem Zj:∀(l:List S)(u v:S),u∈flL l->v∈u.I\/v∈u.L->v∈flL l
 |[],u,v,h,hv=>by rw[flL]at h;cases h
 | t::r,u,v,h,hv=>by
   rw[flL]at h⊢;rcases x8e.1 h with h|h
   ·exact x8e.2 (.inl (q1x t u v h hv))
   ·exact x8e.2 (.inr (Zj r u v h hv))
end
def YP(h:it∈itsOf p j f):it.s∈flL f.body:=by
 unfold itsOf at h;rw[<-BL (j:Nat) 0 (-1) 0 (offN p.A j) f.body];exact x8c.2 ⟨it,h,rfl⟩
theorem ZS(o:YV p=true)(n:p.A[j]?=some f){t:S}(h:t∈flL f.body):(offN p.A j:Int)+1<=t.id/\t.id<=(offN p.A j+cntL f.body:Nat):=by
 have i:=Tt o n;have m:t.id∈JB (offN p.A j) (cntL f.body):=by
  rw[<-i];exact x8c.2 ⟨t,h,rfl⟩
 have:=Sr m;omega
def Qr(h:it∈itsOf p j f):okI (offN p.A j) (offN p.A j+cntL f.body) it.next/\(it.loop=0\/((offN p.A j:Int)+1<=it.loop/\it.loop<=(offN p.A j+cntL f.body:Nat))):=
 P5 (j:Nat) _ _ f.body 0 (-1) 0 _ it h (.inl rfl) (.inl rfl) (x9h _) (x9h _)
theorem W1(o:p.A[j]?=some f){k:Nat}(r:offN p.A j<=k)(t:k<offN p.A j+cntL f.body):∃it,(sheetOf p).l[k]?=some it/\it∈itsOf p j f:=by
 obtain⟨_,_,_,m,h⟩:=QY p;obtain⟨_,_,q,n⟩:=h j f o;have i:k<(sheetOf p).l.length:=by omega
 refine⟨(sheetOf p).l[k],x8p i,?_⟩;unfold itsOf;rw[<-n];refine z2z.2 ⟨k-offN p.A j,?_⟩;rw[z1v,z0z,if_pos (by omega),show offN p.A j+(k-offN p.A j)=k by omega,x8p i]
theorem q6t(B:YV p=true)(c:p.A[j]?=some f)(h:it∈itsOf p j f)(n:UW f it=true):∀x∈UU (sheetOf p) f it,okI (offN p.A j) (offN p.A j+cntL f.body) x:=by
 obtain⟨w,g⟩:=Qr h;have F:=YP h;have e:=ZS B c F;have m:∀(l:List S)(o:Int),(∀v∈l,v∈it.s.I\/v∈it.s.L)->okI (offN p.A j) (offN p.A j+cntL f.body) o->okI (offN p.A j) (offN p.A j+cntL f.body) (GU l o):=fun l o a J=>by
  cases l with
  |nil=>exact J
  |cons v r=>exact .inr (ZS B c (Zj f.body it.s v F (a v x8l)))
 have q:it.s.kind=7\/it.s.kind=8->(offN p.A j:Int)+1<=it.loop/\it.loop<=(offN p.A j+cntL f.body:Nat):=fun z=>by
  unfold UW at n;rw[if_pos z]at n;rcases g with d|d
  ·rw[d]at n;cases n
  ·exact d
 intro x i;unfold UU at i;split at i
 ·simp only[x8s,z4y,or_false]at i;rcases i with rfl|rfl
  ·exact m _ _ (fun v a=>.inl a) w
  ·exact m _ _ (fun v a=>.inr a) w
 split at i
 ·simp only[x8s,z4y,or_false]at i;rcases i with rfl|rfl
  ·exact m _ _ (fun v a=>.inl a) (.inr e)
  ·exact w
 split at i
 ·rename_i z;have G:=q (.inl z);obtain⟨u,C,D⟩:=W1 c (k:=(it.loop-1).toNat) (by omega) (by omega);rw[C]at i;rw[x9q.1 i];exact(Qr D).1
 split at i
 ·rename_i z;rw[x9q.1 i];exact .inr (q (.inr z))
 split at i
 ·rw[x9q.1 i];exact .inl rfl
 split at i
 ·rename_i O Q _ z;rw[x9q.1 i];unfold UW at n;rw[if_neg (by omega),if_pos z]at n;unfold atB at n⊢;split
  ·rename_i t M;exact .inr (ZS B c (z1a M))
  ·rename_i H;rw[H]at n;simp only at n;cases b:f.fin.any fun s=>it.s.name==s with
   |true=>exact .inl rfl
   |false=>rw[b]at n;cases n
 ·rw[x9q.1 i];exact w
theorem PN(h:QP p=true)(o:p.A[j]?=some f):(∀it∈itsOf p j f,it.s.kind=7->1<=it.loop/\it.loop<=(sheetOf p).l.length)/\
  (∀s∈QK p j f,(s.src=0\/((offN p.A j:Int)+1<=s.src/\s.src<=(offN p.A j+cntL f.body:Nat)))/\okI (offN p.A j) (offN p.A j+cntL f.body) s.dst)/\∀s∈QK p j f,okSt s:=by
 obtain⟨t,b,_,r,_⟩:=QU h;have n:=LR b r o;obtain⟨_,_,_,w,u⟩:=QY p;obtain⟨_,_,a,_⟩:=u j f o;obtain⟨_,_,x⟩:=ZM t;have key:∀s∈QK p j f,(s.src=0\/((offN p.A j:Int)+1<=s.src/\s.src<=(offN p.A j+cntL f.body:Nat)))/\okI (offN p.A j) (offN p.A j+cntL f.body) s.dst:=fun s m=>by
  unfold QK at m;rcases x8s.1 m with rfl|m
  ·refine⟨.inl rfl,?_⟩;show okI _ _ (if offN p.A j<offN p.A j+cntL f.body then((offN p.A j:Nat)+1:Int)else -1);split
   ·exact .inr ⟨by omega,by omega⟩
   ·exact .inl rfl
  ·obtain⟨it,i,d⟩:=z0j.1 m;obtain⟨y,c,rfl⟩:=x8c.1 d;exact⟨.inr (ZS t o (YP i)),q6t t o i (n it i) y c⟩
 refine⟨fun it i z=>?_,key,fun s m=>?_⟩
 ·have q:=n it i;unfold UW at q;rw[if_pos (.inl z)]at q;rcases(Qr i).2 with v|v
  ·rw[v]at q;cases q
  ·omega
 ·obtain⟨e,g⟩:=key s m;unfold okSt okI at*
  omega
def OI(p:Pg)(n:Str):Option Way:=bif QP p then(match p.A.find? (fun f=>f.name==n)with
 |some f=>some (QQ p (p.A.findIdx fun f=>f.name==n) f)
 |none=>none)else none
def XQ(h:QP p=true):p.B.length<=16/\p.A.length<=16/\cntP p.A<=200:=ZM (QU h).1
def q1d{n:Str}(h:¬n∈procsN p):idxF (fun f=>f.name==n) p.A = -1/\p.A.find? (fun f=>f.name==n)=none:=by
 have m:p.A.any (fun f=>f.name==n)=false:=by
  rw[z3y];intro f i o;exact h (x8c.2 ⟨f,i,by simpa using o⟩)
 refine⟨by unfold idxF;rw[m];rfl,?_⟩;rw[z2m];intro f i;have:=z3y.1 m f i;simpa using this
theorem Vd{n:Str}(h:n∈procsN p):∃(k:Nat) (m:k<p.A.length),idxF (fun f=>f.name==n) p.A=k/\p.A.findIdx (fun f=>f.name==n)=k/\p.A.find? (fun f=>f.name==n)=some p.A[k]/\p.A[k].name=n:=by
 obtain⟨k,m,i,o,q⟩:=Zc h;refine⟨k,m,i,?_,o,q⟩;unfold idxF at i;cases ha:p.A.any (fun f=>f.name==n)with
 |true=>rw[ha,x9z]at i;omega
 |false=>rw[ha,x9k]at i;omega
def Wx{n:Str}{w:Way}(h:OI p n=some w):∃(k:Nat) (f:Pr),p.A[k]?=some f/\w=QQ p k f/\QP p=true/\f.name=n/\p.A.find? (fun f=>f.name==n)=some f:=by
 unfold OI at h;cases m:QP p with
 |false=>rw[m]at h;cases h
 | true=>
   rw[m,x9z]at h;by_cases o:n∈procsN p
   .obtain ⟨k,u,t,q,i,r⟩:=Vd o;rw[i,q]at h;cases h;exact⟨k,p.A[k],by simp,rfl,rfl,r,i⟩
   .rw [(q1d o).2]at h;cases h
def x3i(p:Pg)(k:Nat)(f:Pr):Int:=if offN p.A k<offN p.A k+cntL f.body then((offN p.A k:Nat)+1:Int)else -1
def ZN(p:Pg)(j:Nat)(n i:Int):Int:=if i=0 then 0 else if i=n-1 then -1 else loI p j+i-1
theorem Ww(w:Way)(f:Pr)(r:w.p.A[w.j]?=some f)(u:cntP w.p.A<=1000)(x:0<=w.n/\w.n<=5000)(i:Int)(v:0<=i/\i<=5000):aP 91 [.ip w.cells,.int .i64 i] (.int .i64 (ZN w.p w.j w.n i)):=by
 refine sC Jd func91 ?_;conv=>whnf
 obtain⟨_,_,_,o,m⟩:=QY w.p;obtain⟨h,q,t,_⟩:=m w.j f r;repeat' ((first|refine dA ?_|refine wI ?_|refine IdxK.at rfl (UF h) rfl ?_|(apply bD<;>intro _<;>try omega))<;>conv=>whnf)
 all_goals exact RetK.int (by unfold ZN loI;(repeat' split)<;>omega)
def Ai(l:List Int):∀b:List Bool,(BJ l b).length=b.length:=by
 induction l with
 |nil=>intro b;rfl
 | cons a r h=>
   intro b;show(BJ r (b.set a.toNat true)).length=b.length;rw[h,z0h]
def OneRow(R:Nat->TypeId->Nat->List AV->Prop)(nil:Prop)(l:LV)(H:Heap):Prop:=
 (l=.p .nils/\H=[]/\nil)\/∃q e sz es,l=.hd q 0 es.length/\H=[(q,.own e sz es)]/\(∀x∈es,∀c∈x.cells,c.flat=true)/\R q e sz es
theorem KU{g:FuncId}{args:List LV}{R:Nat->TypeId->Nat->List AV->Prop}{nil:Prop}(k:Nat)(hu:WZ k s=true)(hs:SpecH P g (avs.map .p) [] (OneRow R nil))(ha:FrzL s.H args avs)(hn:nil->setD N s.sl dst (.p .nils) fun sl=>K ⟨sl,s.H⟩)(h:∀q e sz es,R q e sz es->setD N s.sl dst (.hd k 0 es.length) fun sl=>K ⟨sl,(k,.own e sz es)::s.H⟩):CallK P N g args dst s K:=by
 refine⟨fun σ β a w Y vals hnv hv=>⟨hs.go vals,?_⟩⟩;obtain⟨hlen,hget⟩:=ha.get;obtain⟨τ,h5,h6,h7,h8⟩:=PA Y.heap;have hrel0:HRel τ (fun _=>none) [] w:=⟨h6,fun k c Z=>(by cases Z),z4s,fun k hk=>(by cases hk),fun k hk=>(by cases hk)⟩;have hno:∀b,¬owns (fun _=>none) [] b:=fun b ⟨j,r,_⟩=>by cases r
 refine(hs.ok τ (fun _=>none) w vals (by rw[x8b];exact hnv.trans hlen) (fun j l r=>?_) hrel0).mono fun e w' ⟨l,u,σ',β',H',he,hR,hrep,F,z⟩=>?_
 ·rw[x9x]at r;cases Z:avs[j]?with
  |none=>rw[Z]at r;cases r
  | some c=>
    rw[Z]at r;cases r;obtain⟨l,B,D⟩:=hget j c Z;exact .p (h8 l _ c (hv j l B) D)
 ·have U:σ.lies w':=fun b c d=>F.mem b c (z.le b c (h5 b c d));have hf:Frm (fun _=>False) w w':=⟨z.O.os,z.O.tape,z.O.output,z.O.drawn,z.O.size,fun b d _=>z.O.block b d (hno b)⟩;have hf':Frm (owns β s.H) w w':=⟨hf.os,hf.tape,hf.output,hf.drawn,hf.size,fun b d _=>hf.block b d id⟩;have T:=Y.heap.kept (Mem.le_refl σ) U hf fun b h0 B=>absurd h0 B;rcases hR with⟨rfl,rfl,hnil⟩|⟨q,e0,sz,es,rfl,rfl,hfl,hR⟩
  ·have hr':Rel N σ β s a w':=⟨Y.size,Y.defers,Y.G,T⟩;have hrp:RepL σ β (.p .nils) u:=by
    cases hrep with
    |p h=>exact .p (h.flat rfl)
   obtain⟨sl,hK,V⟩:=hr'.setD hrp (hn hnil);exact⟨u,σ,β,_,he,hK,V,Mem.le_refl σ,hf',fun b h0 B=>absurd h0 B,fun b d=>.inl d,fun _ _ _=>rfl⟩
  ·obtain⟨hu1,hu2⟩:=ZZ hu;have hkl:=KI hu;have C:∀j,j≠k->(β.set k (β' q)) j=β j:=fun j r=>by simp[Lab.set,r]
   have n:(β.set k (β' q)) k=β' q:=by simp[Lab.set]
   have J:∀i,β' q=some i->∀b,i.has b->w.heap.size<=b/\σ b=none/\b<w'.heap.size:=fun i A b d=>by
    have B:=F.apart q (x9q.2 rfl) i A b d;refine⟨?_,?_,B.2⟩
    ·rcases z.own b ⟨q,x9q.2 rfl,i,A,d⟩with D|D
     ·exact absurd D (hno b)
     ·exact D
    ·cases D:σ b with
     |none=>rfl
     |some c=>rw[z.le b c (h5 b c D)]at B;cases B.1
   have hch:(Chunk.own e0 sz es).holds σ (β.set k (β' q)) w' k:=by
    rcases F.chunks q (.own e0 sz es) (x9q.2 rfl)with⟨B,D⟩|⟨i,vs,B,D,h3,h4,h5',h6',h7'⟩
    ·exact .inl ⟨n.trans B,D⟩
    ·refine .inr ⟨i,vs,n.trans B,D,h3,h4,h5',h6',fun m x hx=>⟨(h7' m x hx).1,fun jj c Z=>?_⟩⟩;obtain⟨v,h8',h9⟩:=(h7' m x hx).2 jj c Z;exact⟨v,h8',h9.flat (hfl x (x9y hx) c (x9y Z))⟩
   have M:∀j∈s.H.map (·.1),j≠k:=fun j r=>by
    obtain⟨⟨j',c⟩,hm,rfl⟩:=x8c.1 r;exact(hu1 j' c hm).1
   have hr':Rel N σ (β.set k (β' q)) ⟨s.sl,(k,.own e0 sz es)::s.H⟩ a w':=by
    refine⟨Y.size,Y.defers,fun i=>(Y.G i).set _ (hu2 i),U,fun j c r=>?_,?_,fun j r i A b d=>?_,fun j r j' hj' i i' A Q b d hb'=>?_⟩
    ·rcases x8s.1 r with t|r
     ·cases t;exact hch
     ·exact(T.chunks j c r).set _ (hu1 j c r).1 (hu1 j c r).2
    ·rw[x9c,z0n];exact⟨fun hm=>M k hm rfl,T.nodup⟩
    ·rcases x8s.1 r with t|r
     ·have t:j=k:=t;subst t;rw[n]at A;exact(J i A b d).2
     ·rw[C j (M j r)]at A;exact T.apart j r i A b d
    ·have hold:∀j∈s.H.map (·.1),∀i,(β.set k (β' q)) j=some i->∀b,i.has b->b<w.heap.size:=fun j r i A b d=>by
      rw[C j (M j r)]at A;exact(Y.heap.apart j r i A b d).2
     rcases x8s.1 r with t|hm<;>rcases x8s.1 hj' with I|hm'
     ·exact t.trans I.symm
     ·have t:j=k:=t;subst t;rw[n]at A;have:=(J i A b d).1;have:=hold j' hm' i' Q b hb';omega
     ·have I:j'=k:=I;subst I;rw[n]at Q;have:=(J i' Q b hb').1;have:=hold j hm i A b d;omega
     ·rw[C j (M j hm)]at A;rw[C j' (M j' hm')]at Q;exact T.inj j hm j' hm' i i' A Q b d hb'
   have hrp:RepL σ (β.set k (β' q)) (.hd k 0 es.length) u:=by
    rcases hrep.hdI with⟨B,_,D,rfl⟩|⟨i,o,B,D,h3,rfl⟩
    ·rw[D];exact .hdn k (n.trans B)
    ·exact .hd k 0 es.length i o (n.trans B) D h3
   obtain⟨sl,hK,V⟩:=hr'.setD hrp (h q e0 sz es hR);refine⟨u,σ,_,_,he,hK,V,Mem.le_refl σ,hf',fun b h0 B=>absurd h0 B,fun b d=>?_,fun j B _=>C j (by omega)⟩;obtain⟨j,r,i,A,d⟩:=d;rcases x8s.1 r with t|r
   ·have t:j=k:=t;subst t;rw[n]at A;exact .inr (J i A b d).1
   ·rw[C j (M j r)]at A;exact .inl ⟨j,r,i,A,d⟩
def H9(L:List Str)(_:Nat)(e:TypeId)(sz:Nat)(es:List AV):Prop:=e=9/\sz=1/\es=L.map .str
def Cb(L:List Str):∀x∈L.map AV.str,∀c∈x.cells,c.flat=true:=fun x i c h=>by
 obtain⟨s,_,rfl⟩:=x8c.1 i;rw[x9q.1 (show c∈[AV.str s]from h)];rfl
def FI{q n:Nat}{nil:Prop}(h:n=L.length):OneRow (H9 L) nil (.hd q 0 n) [(q,.own 9 1 (L.map .str))]:=
 .inr ⟨q,_,_,_,by rw[h,x8b],rfl,Cb L,rfl,rfl,rfl⟩
theorem OneRow.str{n:Nat}(h:n=L.length):OneRow (H9 L) False (.hd 0 0 n) [(0,.own 9 1 (L.map .str))]:=FI h
def YY{n:Nat}{nil:Prop}(h:n=L.length):OneRow (H9 L) nil (.hd 0 0 n) [(0,.own 9 1 (L.map .str))]:=FI h
theorem E1{H:Heap}{k d:Nat}{e:TypeId}{sz:Nat}{es:List AV}(F:WZ k ⟨sl,H⟩=true):Le N ⟨Wm sl d (.hd k 0 es.length),(k,.own e sz es)::H⟩ ⟨Wm sl d (.p (.sl es)),H⟩:=fun σ β a w q=>by
 obtain⟨Q,_⟩:=ZZ F;have hnd:(H.map (·.1)).Nodup:=(z0n.1 q.heap.nodup).2;have o:∀j∈H.map (·.1),j∈((k,Chunk.own e sz es)::H).map (·.1):=fun j h=>x8r _ h;rcases VD.1 (q.heap.chunks k _ x8l)with⟨I,rfl⟩|⟨i,vs,J,T,hh,hn,U,V,R⟩
 ·refine⟨σ,β,⟨q.size,q.defers,fun j=>?_,⟨q.heap.mem,fun j c' h=>q.heap.chunks j c' (x8r _ h),hnd,fun j h=>q.heap.apart j (o j h),fun j h Z M=>q.heap.inj j (o j h) Z (o Z M)⟩⟩,Mem.le_refl σ,Frm.refl _ _,fun _ h0 g=>absurd h0 g,fun b ⟨j,h,r⟩=>.inl ⟨j,o j h,r⟩,fun _ _ _=>rfl⟩;have n:=q.G j;show RepL σ β (getS (Wm sl d _) j) _;have n:RepL σ β (getS (Wm sl d (.hd k 0 [].length)) j) (a.tmps.getD j undef):=n;rw[NO]at n⊢;by_cases h:d=j
  ·rw[if_pos h]at n⊢;rcases n.hdI with⟨_,_,_,he⟩|⟨i,_,z,_⟩
   ·rw[he];exact .p .nilsl
   ·rw[I]at z;cases z
  ·rw[if_neg h]at n⊢;exact n
 ·refine q.lay J x8l hh (fun τ t Y j v n=>?_) (fun τ t Y j c' h=>⟨(Q j c' h).1,c',x8r _ h,fun B=>B.mono t fun _ _ _ _=>rfl⟩) hnd;have n:RepL σ β (getS (Wm sl d (.hd k 0 es.length)) j) v:=n;show RepL τ β (getS (Wm sl d _) j) v;rw[NO]at n⊢;by_cases h:d=j
  ·rw [if_pos h]at n⊢;rcases n.hdI with⟨z,_⟩|⟨i',oo,z,hl,D,rfl⟩
   ·rw[J]at z;cases z
   ·rw[J]at z;cases z;have O:oo=0:=by
     rcases D with D|D
     ·simpa using D
     ·omega
    subst O;obtain⟨u,F⟩ : ∃u:Nat->Nat->Value,∀(m:Nat)(x:AV)(j:Nat)(c:AV),es[m]?=some x->x.cells[j]?=some c->vs[m*sz+j]?=some (u m j)/\Rep σ c (u m j):=by
     refine⟨fun m j=>(vs[m*sz+j]?).getD undef,fun m x j c C h=>?_⟩;obtain⟨v,g,h2⟩:=R.rep m x j c C h;rw[z0z]at g;split at g
     ·have A:vs[m*sz+j]?=some v:=by simpa using g
      exact⟨by simp[A],by simpa[A]using h2⟩
     ·cases g
    exact .p (.sl es i.blk 0 _ sz vs u Y (by omega) (by omega) R.size (fun m x j c C h=>by simpa using(F m x j c C h).1) fun m x j c C h=>(F m x j c C h).2.mono t)
  ·rw[if_neg h]at n⊢;exact n.mono t
def q5s{H:Heap}{d:Nat}{l l':LV}(h:∀σ β v,RepL σ β l v->RepL σ β l' v):Le N ⟨Wm sl d l,H⟩ ⟨Wm sl d l',H⟩:=fun σ β a w m=>by
 refine⟨σ,β,⟨m.size,m.defers,fun j=>?_,m.heap⟩,Later.refl _ _ _ _⟩;have i:RepL σ β (getS (Wm sl d l) j) (a.tmps.getD j undef):=m.G j;show RepL σ β (getS (Wm sl d l') j) _;rw[NO]at i⊢;by_cases n:d=j
 .rw [if_pos n]at i⊢;exact h _ _ _ i
 .rw [if_neg n]at i⊢;exact i
theorem CallK.le{g:FuncId}{args:List LV}(h:CallK P N g args dst s fun s'=>∃i,K i/\Le N s' i):CallK P N g args dst s K:=
 ⟨fun σ β a w x m v z=>⟨(h.ok σ β a w x m v z).1,(h.ok σ β a w x m v z).2.mono fun e w' ⟨u,σ',β',s',c,⟨i,b,q⟩,r,A⟩=>by
   obtain⟨σ2,β2,t,o⟩:=A.le' q r;exact⟨u,σ2,β2,i,c,b,t,o⟩⟩⟩
def Rx{v n:LV}{K i:List (Nat×LV)->Prop}(h:setD N sl dst v K)(o:K sl->i sl)(q:∀d,K (Wm sl d v)->i (Wm sl d n)):setD N sl dst n i:=by
 unfold setD at h⊢;cases dst with
 |none=>exact o h
 | some d=>
   simp only at h⊢;cases m:Nat.blt d N with
   |false=>rw[m]at h;exact h
   | true=>
     rw[m,x9z,X1]at h;rw[x9z,X1];exact q d h
def RX{g:FuncId}{args:List LV}{R:Nat->TypeId->Nat->List AV->Prop}{nil:Prop}{E:List AV}(k:Nat)(t:WZ k s=true)(z:SpecH P g (avs.map .p) [] (OneRow R nil))(ha:FrzL s.H args avs)(x:nil->E=[])(u:∀q e sz es,R q e sz es->es=E)(h:setD N s.sl dst (.p (.sl E)) fun sl=>K ⟨sl,s.H⟩):CallK P N g args dst s K:=by
 refine CallK.le (KU k t z ha (fun n=>?_) fun q e sz es o=>?_)
 .obtain rfl:=x n;exact Rx h (fun m=>⟨_,m,fun σ β a w o=>⟨σ,β,o,Later.refl _ _ _ _⟩⟩) fun d m=>⟨_,m,q5s fun σ β v r=>by
   cases r with
   |p r=>exact .p (Sub.nils _ _ r)⟩
 .obtain rfl:=u q e sz es o;refine Rx h (fun m=>⟨_,m,Jp (fun i=>.inl rfl) (List.sublist_cons_self _ _)⟩) fun d m=>⟨_,m,E1 (by obtain⟨sl,H⟩:=s;exact t)⟩
theorem SpecH.toP{g:FuncId}{R:Nat->TypeId->Nat->List AV->Prop}{nil:Prop}{E:List AV}(F:SpecH P g (avs.map .p) [] (OneRow R nil))(hn:nil->E=[])(V:∀q e sz es,R q e sz es->es=E):SpecP P g avs (fun r=>r=.sl E):=by
 refine⟨F.go,fun σ w z H I M=>?_⟩;have t:Rel 1 σ (fun _=>none) ⟨[],[]⟩ {tmps:=#[undef],defers:=[]} w:=⟨rfl,rfl,fun i=>.p (.any _),M,fun k c B=>(by cases B),z4s,fun k C=>(by cases C),fun k C=>(by cases C)⟩;have B:CallK P 1 g (avs.map .p) (some 0) ⟨[],[]⟩ (fun s=>s=⟨[(0,.p (.sl E))],[]⟩):=RX 0 rfl F (by
  clear F H I;induction avs with
  |nil=>exact .nil
  |cons a r ih=>exact .cons (.p (Sub.refl _)) ih) hn V (by rfl)
 refine(B.ok σ _ _ w t z (by rw[x8b];exact H) fun j l o=>?_).2.mono fun e w' ⟨u,σ',β',s',Z,U,J,m⟩=>?_
 .rw [x9x]at o;cases D:avs[j]?with
  |none=>rw[D]at o;cases o
  |some c=>rw[D]at o;cases o;exact .p (I j c D)
 .subst U;have x:∀b,¬owns (fun _=>none) [] b:=fun b ⟨j,o,_⟩=>by cases o
  have Q:=J.G 0;refine⟨.sl E,u,σ',Z,rfl,?_,m.le,J.heap.mem,⟨m.O.os,m.O.tape,m.O.output,m.O.drawn,m.O.size,fun b Y _=>m.O.block b Y (x b)⟩,fun b v T=>?_⟩
  .have v:RepL σ' β' (.p (.sl E)) u:=by simpa[getS,Act.put]using Q
   cases v with
   |p v=>exact v
  .rcases m.mem b v T with A|A
   .exact absurd A (x b)
   .exact A
theorem NH(l:List Int)(v:Int):aP 242 [XZ l,.int .i64 v] (.int .i64 (idxF (fun s=>decide (v=s)) l)):=by
 refine sC FL func242 ?_;conv=>whnf
 refine iM fun _=>?_;have n:(l.map (AV.int .i64)).length=l.length:=x8b _;conv=>whnf
 refine lI (fun j:Nat=>⟨[(0,.p (XZ l)),(1,.j v),(7,.p (.int .i64 (l.map (AV.int .i64)).length)),(8,.j j)],[]⟩) (fun j=>j<=l.length/\(l.drop j).any (fun s=>decide (v=s))=l.any (fun s=>decide (v=s))/\l.findIdx (fun s=>decide (v=s))=j+(l.drop j).findIdx (fun s=>decide (v=s))) (fun j=>l.length-j) 0 ⟨x8i _,rfl,by simp⟩ ?_;rintro j ⟨m,h,i⟩;conv=>whnf
 repeat' ((first|(refine gX ?_;intros)|(apply bD<;>intro _<;>try omega))<;>conv=>whnf)
 ·exact RetK.int (Ya (p:=fun s=>decide (v=s)) (by omega) (z0r (by assumption)) h i).symm
 ·exact nX (j+1) ⟨by omega,by rw[<-h,Ud (p:=fun s=>decide (v=s)) (by omega) (z0s (by assumption))],by rw[i,q0e (p:=fun s=>decide (v=s)) (by omega) (z0s (by assumption))];omega⟩
 ·exact RetK.int (by rw[P3];rw[<-h,PG (by omega)])
def FY(l:List Int)(v:Int):aP 179 [XZ l,.int .i64 v] (.bool (l.any fun s=>decide (v=s))):=by
 refine sC GW func179 ?_;conv=>whnf
 repeat' (refine cP (NH _ _) ?_;conv=>whnf)
 exact RetK.bool Vh
def CH{T:Tab}{H:Bool}{o:Oper}{K:LV->Prop}(hT:TabOK P T){t u:TypeId}{x:Operand}(a:o.op=.binOp .eql t x (.const (.slice none 0 0)) u){i:TyI}(O:T.get t=some i){e:TypeId}(F:i.desc=.slice e){es:List AV}(Q:QR s.sl x=.p (.sl es))(D:∀b:Bool,(b=true->es=[])->K (.p (.bool b))):ValO P H s o K:=by
 refine⟨fun σ β r w J _=>?_⟩;have q:=QW J x;rw[Q]at q;have B:=hT.of O;rw[F]at B;have d:∃m n c,r.eval x=.slice m n c/\(m.isNone=true->es=[]):=by
  generalize r.eval x=v at q;cases q with
  | p q=>
    cases q with
    |nilsl=>exact⟨none,0,0,rfl,fun _=>rfl⟩
    |slz b=>exact⟨some b,0,0,rfl,fun _=>rfl⟩
    |sl _ b off cap sz cells u R g A M U I=>exact⟨_,_,_,rfl,fun h=>(by cases h)⟩
 obtain⟨m,n,c,d,z⟩:=d;refine⟨_,.bool m.isNone,D m.isNone z,.p (.bool _),fun w' _ _=>?_⟩;have C:r.eval (.const (.slice none 0 0))=.slice none 0 0:=rfl;have G:(eqGuard .eql t x (.const (.slice none 0 0)) (.slice m n c) (.slice none 0 0)).run P w'=.ok () w':=by unfold eqGuard;rfl
 have z:(Op.equal t (.slice m n c) (.slice none 0 0)).run P w'=.ok m.isNone w':=by
  have e:Op.equal t (.slice m n c) (.slice none 0 0)=Op.equalIn (9999+1) t (.slice m n c) (.slice none 0 0):=rfl;rw[e,Op.equalIn,Sem.run_bind,run_underlying B,Result.andThen_ok];cases m<;>rfl
 simp only[execOp,a,d,C,Sem.run_bind,G,Result.andThen_ok,binOp];simp[z]
def CJ{es:List AV}{n:Nat}{nil:Prop}(q:Nat)(i:es=L.map .str)(h:n=L.length):OneRow (H9 L) nil (.hd q 0 n) [(q,.own 9 1 es)]:=by
 subst i;exact .inr ⟨q,_,_,_,by rw[h,x8b],rfl,Cb L,rfl,rfl,rfl⟩
theorem WL(l:List Str)(m:l.length<=1000000):SpecH prog 144 [.p (eStrs l)] [] (fun r H=>OneRow (H9 l) (l=[]) r H):=by
 refine sK JK func144 ?_;conv=>whnf
 repeat' ((first|refine gX ?_|refine CH ZP rfl rfl rfl rfl (fun q h=>?_)|refine z4w (fun x i=>by cases i) rfl ?_|refine ZT _ (by simp) (by simp;omega) ?_|(apply bB<;>intro _))<;>conv=>whnf)
 all_goals first
  |exact z0f _ (x9b _) (.inl ⟨rfl,rfl,List.map_eq_nil_iff.1 (h (by assumption))⟩)
  |exact z0f _ (x9b _) (CJ 0 rfl (by simp))
inductive CutH:Heap->Heap->Prop
 |nil:CutH [] []
 |same {c:Nat×Chunk} {H H':Heap} (h:CutH H H'):CutH (c::H) (c::H')
 |cut {k:Nat} {e:TypeId} {sz:Nat} {es es':List AV} {H H':Heap} (hp:es' <+: es) (h:CutH H H'):CutH ((k,.own e sz es)::H) ((k,.own e sz es')::H')
theorem CutH.get{H H':Heap}(h:CutH H H'):H'.map (·.1)=H.map (·.1)/\∀j c',(j,c')∈H'->(j,c')∈H\/∃e sz es es',(j,Chunk.own e sz es)∈H/\c'=.own e sz es'/\es' <+: es:=by
 induction h with
 |nil=>exact⟨rfl,by simp⟩
 | same h o=>
   refine⟨by simp[o.1],fun j c' i=>?_⟩;rcases x8s.1 i with rfl|i
   .exact .inl x8l
   .rcases o.2 j c' i with m|⟨e,sz,es,es',m,q⟩
    .exact .inl (x8r _ m)
    .exact .inr ⟨e,sz,es,es',x8r _ m,q⟩
 | @cut k e sz es es' H H' r h o=>
   refine⟨by simp[o.1],fun j c' i=>?_⟩;rcases x8s.1 i with i|i
   .cases i;exact .inr ⟨e,sz,es,es',x8l,rfl,r⟩
   .rcases o.2 j c' i with m|⟨e,sz,es,es',m,q⟩
    .exact .inl (x8r _ m)
    .exact .inr ⟨e,sz,es,es',x8r _ m,q⟩
theorem Le.cut{N:Nat}{sl:List (Nat×LV)}{H H':Heap}(h:CutH H H'):Le N ⟨sl,H⟩ ⟨sl,H'⟩:=fun σ β a w o=>by
 obtain⟨v,O⟩:=h.get;refine⟨σ,β,⟨o.size,o.defers,o.G,⟨o.heap.mem,fun j c' q=>?_,by show(H'.map (·.1)).Nodup;rw[v];exact o.heap.nodup,fun j q=>o.heap.apart j (by rw[<-v];exact q),fun j q Q A=>o.heap.inj j (by rw[<-v];exact q) Q (by rw[<-v];exact A)⟩⟩,Mem.le_refl σ,Frm.refl _ w,fun b C u=>absurd C u,fun b ⟨j,q,r⟩=>.inl ⟨j,by rw[<-v];exact q,r⟩,fun _ _ _=>rfl⟩;rcases O j c' q with u|⟨e,sz,es,es',u,rfl,z⟩
 .exact o.heap.chunks j c' u
 .rcases o.heap.chunks j _ u with⟨c,g⟩|⟨i,vs,c,g,D,F,I,J,M⟩
  .refine .inl ⟨c,?_⟩;rw[g]at z;exact List.prefix_nil.1 z
  .exact .inr ⟨i,vs,c,g,D,F,z1q z.length_le I,J,fun m x B=>M m x (by
    obtain⟨t,rfl⟩:=z;rw[x9d (x8t.1 B).1];exact B)⟩
def OA(p:Pg)(id:Int):Option S:=((sheetOf p).l[(id-1).toNat]?).map Item.s
def Lf(p:Pg)(h:List Str)(t:Step):Bool:=decide (t.src=0)||match OA p t.src with
 |some s=> !(decide (s.kind=4) && !(h.any fun x=>s.D==x))
 |none=>true
def EG(w:Way)(f:Pr)(h:List Str):Bool:=
 (BV 0 (WX (QI (cntL f.body+2) ((w.real.filter (Lf w.p h)).map (ixP w.p w.j f w.n))).1 [0])).any fun s=>decide (w.n-1=s)
def Bn(p:Pg)(st:List Str×Bool)(k:Nat):List Str×Bool:=match p.A[k]?with
 |some f=>bif !(st.1.any fun s=>f.name==s)&&EG (QQ p k f) f st.1 then(st.1++[f.name],true)else st
 |none=>st
def Dz(p:Pg)(out:List Str):List Str×Bool:=(List.range p.A.length).foldl (Bn p) (out,false)
def Tw(p:Pg):Nat->List Str->List Str
 |0,out=>out
 |k+1,out=>bif (Dz p out).2 then Tw p k (Dz p out).1 else(Dz p out).1
def Km(p:Pg)(out:List Str):Nat:=p.A.countP fun f=> !(out.any fun s=>f.name==s)
theorem K1{α:Type}{p q:α->Bool}:∀{l:List α},(∀x∈l,q x=true->p x=true)->(∃x∈l,p x=true/\q x=false)->l.countP q<l.countP p
 |[],_,h=>by obtain⟨x,i,_⟩:=h;cases i
 | a::r,h1,h2=>by
   have o:r.countP q<=r.countP p:=List.countP_mono_left fun x i=>h1 x (x8r _ i);rw[List.countP_cons,List.countP_cons];have ha:=h1 a x8l;obtain⟨x,i,m,n⟩:=h2;rcases x8s.1 i with rfl|i
   ·rw[m,n];simp;omega
   ·have:=K1 (fun y u=>h1 y (x8r _ u)) ⟨x,i,m,n⟩;cases t:q a with
    |true=>rw[ha t];simp;omega
    |false=>cases p a<;>simp<;>omega
def Ih{out:List Str}(m:f∈p.A)(h:(out.any fun s=>f.name==s)=false):Km p (out++[f.name])<Km p out:=by
 unfold Km;refine K1 (fun g _ i=>?_) ⟨f,m,by rw[h];rfl,by rw[List.any_append];simp⟩;rw[List.any_append]at i;cases n:out.any fun s=>g.name==s with
 |false=>rfl
 |true=>rw[n]at i;cases i
def endsR(p:Pg):List Str:=bif QP p then YR (Tw p (p.A.length+1) [])else []
def Vb(a b:Step):Prop:=ZB a.src<ZB b.src\/(ZB a.src=ZB b.src/\ZB a.dst<ZB b.dst)
def OS(s:Step):Prop:=okSt s/\s.kind=1
theorem HG{a b:Step}(h:a.src=b.src)(i:a.dst=b.dst)(m:a.kind=b.kind):a=b:=by
 cases a;cases b;simp_all
theorem FJ{a b:Step}:BK a b=true↔ZB a.src<ZB b.src\/(ZB a.src=ZB b.src/\(ZB a.dst<ZB b.dst\/(ZB a.dst=ZB b.dst/\a.kind<b.kind))):=by
 have h:BK a b=decide (TF a b<0):=rfl;rw[h,x9o];unfold TF;simp only[orI];split
 ·rename_i i;rw[KR]at i;split
  ·rename_i m;rw[KR]at m;split
   ·rename_i n;rw[KR]at n;omega
   ·rw[NA];omega
  ·rename_i m;rw[KR]at m;rw[NA];omega
 ·rename_i i;rw[KR]at i;rw[NA];omega
theorem W5(l:List Step):(JS l).Pairwise fun a b=>BK b a=false:=by
 have:=List.pairwise_mergeSort (le:=fun x y=> !BK y x) (fun a b c i m=>by
  simp only[z1b]at i m⊢;rw[z4m,ne_eq,FJ]at i m⊢;omega) (fun a b=>by
  cases i:BK b a with
  |false=>rfl
  | true=>
    have m:BK a b=false:=by
     rw[z4m,ne_eq,FJ];rw[FJ]at i;omega
    rw[m];rfl) l
 refine List.Pairwise.imp ?_ this;intro a b h;simpa using h
def Y4{a b:Step}(ha:OS a)(i:OS b):ZL a b=true↔a=b:=by
 unfold ZL;simp only[x9g,x9o];refine⟨fun h=>HG h.1 h.2 (by rw[ha.2,i.2]),fun h=>by rw[h];exact⟨rfl,rfl⟩⟩
theorem q7k{a b:Step}(ha:OS a)(i:OS b)(h:BK b a=false)(m:a≠b):Vb a b:=by
 rw[z4m,ne_eq,FJ]at h;unfold Vb;by_cases n:ZB a.src=ZB b.src
 ·by_cases o:ZB a.dst=ZB b.dst
  ·exact absurd (HG (FQ ha.1.1 i.1.1 n) (FQ ha.1.2 i.1.2 o) (by rw[ha.2,i.2])) m
  ·omega
 ·omega
theorem Vp{a b c:Step}(h:Vb a b)(i:Vb b c):Vb a c:=by unfold Vb at*;omega
theorem DD{a:Step}(h:Vb a a):False:=by unfold Vb at h;omega
theorem Zw:∀(l:List Step)(a:Step),OS a->(∀s∈l,OS s)->(a::l).Pairwise (fun a b=>BK b a=false)->(a::XJ a l).Pairwise Vb/\∀s,s∈a::XJ a l↔s∈a::l
 |[],a,_,_,_=>⟨by simp[XJ],by simp[XJ]⟩
 | b::r,a,ha,hl,h=>by
   have o:=hl b x8l;have x:∀s∈r,OS s:=fun s n=>hl s (x8r _ n);rw[z2y]at h;obtain⟨v,w⟩:=h;obtain⟨t,u⟩:=Zw r b o x w;rw[XJ];cases n:ZL b a with
   | true=>
     obtain rfl:=(Y4 o ha).1 n;rw[x9z];exact⟨t,fun s=>by rw[u];simp⟩
   | false=>
     rw[x9k];have q:a≠b:=fun e=>by
      rw[(Y4 o ha).2 e.symm]at n;cases n
     have m:=q7k ha o (v b x8l) q;refine⟨?_,fun s=>by rw[x8s,u,<-x8s (a:=s) (b:=a)]⟩;rw[z2y];refine⟨fun s i=>?_,t⟩;rcases x8s.1 i with rfl|i
     .exact m
     .exact Vp m ((z2y.1 t).1 s i)
def Ad{l:List Step}(n:∀s∈l,OS s):(WC l).Pairwise Vb/\∀s,s∈WC l↔s∈l:=by
 have m:∀s,s∈JS l↔s∈l:=fun s=>(Gt l).mem_iff;have q:=W5 l;unfold WC;cases o:JS l with
 | nil=>
   rw[o]at m;exact⟨by simp[Qh],fun s=>by rw[<-m];simp[Qh]⟩
 | cons a r=>
   rw[o]at m q;have i:∀s∈a::r,OS s:=fun s h=>n s ((m s).1 h);obtain⟨t,u⟩:=Zw r a (i a x8l) (fun s h=>i s (x8r _ h)) q;exact⟨t,fun s=>by rw[Qh,u,m]⟩
theorem Dh:∀{l m:List Step},l.Pairwise Vb->m.Pairwise Vb->(∀s,s∈l↔s∈m)->l=m
 |[],[],_,_,_=>rfl
 |[],b::m,_,_,h=>by have:=(h b).2 x8l;cases this
 |a::l,[],_,_,h=>by have:=(h a).1 x8l;cases this
 | a::l,b::m,hl,hm,h=>by
   rw[z2y]at hl hm;have o:a=b:=by
    rcases x8s.1 ((h a).1 x8l)with e|ha
    .exact e
    .rcases x8s.1 ((h b).2 x8l)with e|q
     .exact e.symm
     .exact (DD (Vp (hl.1 b q) (hm.1 a ha))).elim
   subst o;congr 1;refine Dh hl.2 hm.2 fun s=>⟨fun i=>?_,fun i=>?_⟩
   .rcases x8s.1 ((h s).1 (x8r _ i))with rfl|n
    .exact (DD (hl.1 _ i)).elim
    .exact n
   .rcases x8s.1 ((h s).2 (x8r _ i))with rfl|n
    .exact (DD (hm.1 _ i)).elim
    .exact n
def Ru(h:QP p=true)(n:p.A[j]?=some f):∀s∈QK p j f,OS s:=by
 obtain⟨_,_,m⟩:=PN h n;intro s i;refine⟨m s i,?_⟩;unfold QK at i;rcases x8s.1 i with rfl|i
 .rfl
 .obtain ⟨it,_,o⟩:=z0j.1 i;obtain⟨y,_,rfl⟩:=x8c.1 o;rfl
def VN(h:QP p=true)(i:p.A[j]?=some f):(QQ p j f).real.Pairwise Vb/\∀s,s∈(QQ p j f).real↔s∈QK p j f:=Ad (Ru h i)
theorem q2s(h:QP p=true)(o:p.A[j]?=some f){s:Step}(i:s∈QK p j f):s=⟨0,x3i p j f,1⟩\/(1<=s.src/\s.src<=9223372036854775806):=by
 obtain⟨_,_,r⟩:=XQ h;obtain⟨_,_,_,q,n⟩:=QY p;obtain⟨_,_,t,_⟩:=n j f o;unfold QK at i;rcases x8s.1 i with rfl|i
 ·exact .inl rfl
 ·obtain⟨it,m,u⟩:=z0j.1 i;obtain⟨y,_,rfl⟩:=x8c.1 u;have:=ZS (QU h).1 o (YP m);refine .inr ?_;simp only;omega
def N1:Fit someP:=by unfold Fit;decide
def N0:QP someP=true:=by kernel_rfl
def f0:Pr:=someP.A[0]'(by decide)
def f1:Pr:=someP.A[1]'(by decide)
def x1k:WC (QK someP 0 f0)=[⟨0,1,1⟩,⟨1,2,1⟩,⟨2,3,1⟩,⟨3,4,1⟩,⟨4,-1,1⟩]:=by
 have h:QK someP 0 f0=[⟨0,1,1⟩,⟨1,2,1⟩,⟨2,3,1⟩,⟨3,4,1⟩,⟨4,-1,1⟩]:=by kernel_rfl
 unfold WC JS;rw[h,List.mergeSort_of_pairwise (by decide)];rfl
def x1g:WC (QK someP 1 f1)=[⟨0,5,1⟩,⟨5,6,1⟩,⟨6,7,1⟩,⟨6,8,1⟩,⟨7,-1,1⟩,⟨8,-1,1⟩]:=by
 have h:QK someP 1 f1=[⟨0,5,1⟩,⟨5,6,1⟩,⟨6,7,1⟩,⟨6,8,1⟩,⟨7,-1,1⟩,⟨8,-1,1⟩]:=by kernel_rfl
 unfold WC JS;rw[h,List.mergeSort_of_pairwise (by decide)];rfl
def Ri(n k:Int):Int:=if k<1 then 0 else if n.tmod k<0 then n.tmod k+k else n.tmod k
theorem J1{n k:Int}(i:0<k):0<=Ri n k/\Ri n k<k:=by
 unfold Ri;have o:=Int.tmod_lt_of_pos n i;have q : -k<n.tmod k:=by
  rcases Int.le_total 0 n with h|h
  ·have:=Int.tmod_nonneg k h;omega
  ·have m:=Int.tmod_lt_of_pos (-n) i;rw[Int.neg_tmod]at m;omega
 rw[if_neg (by omega)];split<;>omega
theorem BG(n k:Int)(m:k<=1000000):aP 18 [.int .i64 n,.int .i64 k] (.int .i64 (Ri n k)):=by
 refine sC Xa func18 ?_;conv=>whnf
 have i:=fun h:0<k=>J1 (n:=n) h;repeat' ((first|refine x9p (by omega) ?_|(apply bD<;>intro _<;>try omega))<;>conv=>whnf)
 all_goals first
  | (refine Wr.i64 (by have:=i (by omega);unfold Ri at this;rw[if_neg (by omega),if_pos (by assumption)]at this;omega) (by have:=i (by omega);unfold Ri at this;rw[if_neg (by omega),if_pos (by assumption)]at this;omega) ?_
     conv=>whnf
     exact RetK.int (by unfold Ri;rw[if_neg (by assumption),if_pos (by assumption)]))
  |exact RetK.int (by unfold Ri;rw[if_pos (by assumption)])
  |exact RetK.int (by unfold Ri;rw[if_neg (by assumption),if_neg (by assumption)])
def inS(l:List Str)(x:Str):Bool:=l.any fun y=>y==x
theorem QE(l:List Str)(x:Str):aP 19 [eStrs l,.str x] (.bool (inS l x)):=by
 refine sC V0 func19 ?_;conv=>whnf
 repeat' ((refine iM fun _=>?_)<;>conv=>whnf)
 have n:(l.map AV.str).length=l.length:=x8b _;refine lI (fun j:Nat=>⟨[(0,.p (eStrs l)),(1,.p (.str x)),(7,.p (.int .i64 (l.map AV.str).length)),(8,.j j)],[]⟩) (fun j=>j<=l.length/\(l.drop j).any (fun y=>y==x)=inS l x) (fun j=>l.length-j) 0 ⟨x8i _,rfl⟩ ?_;rintro j ⟨m,i⟩;rcases x8o j l.length with h|h
 ·conv=>whnf
  repeat' ((first|(refine gX ?_;intros)|((first|apply bD|apply bB)<;>intro _<;>try omega))<;>conv=>whnf)
  ·exact RetK.tt (by rw[<-i,Jt h (by assumption)])
  ·exact nX (j+1) ⟨h,by rw[Ud h (by assumption)];exact i⟩
 ·conv=>whnf
  repeat' (apply bD<;>intro _<;>first|omega|conv=>whnf)
  exact RetK.ff (by rw[<-i,PG h])
def HZ(p:Pg)(n:Int):Str:=match p.A[(Ri n p.A.length).toNat]?with
 |some f=>f.name
 |none=>[]
theorem Xz(p:Pg)(n:Int)(u:p.A.length<=21000):aP 9 [.agg p.cells,.int .i64 n] (.str (HZ p n)):=by
 refine sC PZ func9 ?_;conv=>whnf
 have t:(p.A.map fun f=>AV.agg f.cells).length=p.A.length:=x8b _;have o:=fun h:0<(p.A.length:Int)=>J1 (n:=n) h;repeat' ((first|(refine iM fun _=>?_)|refine dA ?_|refine cP (BG n (p.A.length:Int) (by omega)) ?_ (ha:=.cons (Sub.refl _) (.cons (Sub.int (by omega)) .nil))|(apply bD<;>intro _<;>try omega))<;>conv=>whnf)
 ·refine RetK.p ?_;have m:p.A=[]:=List.length_eq_zero_iff.1 (by omega);unfold HZ;rw[m];rfl
 ·obtain⟨q,r⟩:=o (by omega);have i:(Ri n p.A.length).toNat<p.A.length:=by omega
  refine IdxK.at (k:=(Ri n p.A.length).toNat) (e:=.agg p.A[(Ri n p.A.length).toNat].cells) (by omega) (by rw[x9x,x8p i];rfl) rfl ?_;conv=>whnf
  skip
  exact RetK.p (by unfold HZ;rw[x8p i])
theorem Gz{α β:Type}{f:α->β}:∀{l:List α},(l.map f).Nodup->∀a∈l,∀b∈l,f a=f b->a=b
 |[],_,a,ha,_,_,_=>by cases ha
 | c::r,h,a,ha,b,hb,e=>by
   rw[x9c,z0n]at h;rcases x8s.1 ha with m|m
   .rcases x8s.1 hb with i|i
    .rw [m,i]
    .exact (h.1 (x8c.2 ⟨b,i,by rw[<-e,m]⟩)).elim
   .rcases x8s.1 hb with i|i
    .exact (h.1 (x8c.2 ⟨a,m,by rw[e,i]⟩)).elim
    .exact Gz h.2 a m b i e
theorem NX{α:Type}[DecidableEq α]:∀{l m:List α},l.Nodup->(∀s∈l,s∈m)->l.length<=m.length
 |[],m,_,_=>x8i _
 | a::r,m,h,hs=>by
   rw[z0n]at h;have ha:=hs a x8l;have n:=NX (m:=m.erase a) h.2 fun s i=>(List.mem_erase_of_ne (fun e=>h.1 (by rw[<-e];exact i))).2 (hs s (x8r _ i));rw[List.length_erase_of_mem ha]at n;have:=z4p ha;simp only[x9f];omega
theorem A5(n c:Nat):(JB n c).Nodup:=by
 unfold JB Nodup;rw[List.pairwise_map];exact List.Pairwise.imp (fun h e=>h (by omega)) (List.nodup_range' (s:=n+1) (n:=c) (step:=1))
def P7(i:YV p=true)(h:p.A[j]?=some f):(itsOf p j f).map (fun it=>it.s.id)=JB (offN p.A j) (cntL f.body):=by
 rw[<-Tt i h,<-BL (j:Nat) 0 (-1) 0 (offN p.A j) f.body,z4u];rfl
def Iq(n:YV p=true)(m:p.A[j]?=some f){a b:Item}(ha:a∈itsOf p j f)(i:b∈itsOf p j f)(h:a.s.id=b.s.id):a=b:=
 Gz (f:=fun it:Item=>it.s.id) (by rw[P7 n m];exact A5 _ _) a ha b i h
def q7w{t:S}(h:t∈flL f.body):∃it∈itsOf p j f,it.s=t:=by
 rw[<-BL (j:Nat) 0 (-1) 0 (offN p.A j) f.body]at h;obtain⟨it,i,m⟩:=x8c.1 h;exact⟨it,i,m⟩
def q2w{l:List Step}(h:l.Pairwise Vb):l.Nodup:=h.imp fun h e=>by subst e;exact DD h
theorem q1f{n c:Nat}{a:Int}(h:(n:Int)+1<=a)(i:a<=(n+c:Nat)):a∈JB n c:=by
 unfold JB;refine x8c.2 ⟨a.toNat,List.mem_range'.2 ⟨a.toNat-(n+1),by omega,by omega⟩,by omega⟩
theorem ED(h:QP p=true):p.A.length<=21000:=by have:=(XQ h).2.1;omega
inductive Rch{α:Type}(R:α->α->Prop)(a:α):α->Prop
 |refl:Rch R a a
 |tail {b c:α} (h:Rch R a b) (hr:R b c):Rch R a c
theorem Rch.trans{α:Type}{R:α->α->Prop}{a b c:α}(h:Rch R a b)(i:Rch R b c):Rch R a c:=by
 induction i with
 |refl=>exact h
 |tail _ m o=>exact .tail o m
theorem Rch.head{α:Type}{R:α->α->Prop}{a b c:α}(i:R a b)(h:Rch R b c):Rch R a c:=Rch.trans (.tail .refl i) h
theorem Rch.mono{α:Type}{R R':α->α->Prop}(h:∀x y,R x y->R' x y){a b:α}(i:Rch R a b):Rch R' a b:=by
 induction i with
 |refl=>exact .refl
 |tail _ i m=>exact .tail m (h _ _ i)
theorem Rch.closed{α:Type}{R:α->α->Prop}{S:α->Prop}(i:∀x y,S x->R x y->S y){a b:α}(ha:S a)(h:Rch R a b):S b:=by
 induction h with
 |refl=>exact ha
 |tail _ m o=>exact i _ _ o m
structure WkM(n:Nat)(st:List Bool×List Int):Prop where
 inv:wkInv n st
 mem:∀x,x∈st.2↔(0<=x/\x<n)/\st.1.getD x.toNat false=true
theorem WkM.start(n:Nat):WkM n (List.replicate n false,[]):=⟨Xy n,fun x=>by
 simp only[z4y,false_iff,not_and];intro _;rw[x8n,z0q];split<;>simp⟩
theorem WkM.see{n:Nat}{st:List Bool×List Int}(h:WkM n st){b:Int}(q:0<=b/\b<n):WkM n (GN st b)/\(∀x,x∈(GN st b).2↔x∈st.2\/x=b)/\st.2 <+: (GN st b).2:=by
 have t:=W0 h.inv q;cases r:st.1.getD b.toNat false with
 | true=>
   have e:GN st b=st:=by unfold GN;rw[r];rfl
   rw[e];refine⟨h,fun x=>⟨.inl,fun m=>?_⟩,List.prefix_refl _⟩;rcases m with m|rfl
   ·exact m
   ·exact(h.mem _).2 ⟨q,r⟩
 | false=>
   have e:GN st b=(st.1.set b.toNat true,st.2++[b]):=by unfold GN;rw[r];rfl
   rw[e]at t⊢;have u:=h.inv.1;refine⟨⟨t,fun x=>?_⟩,fun x=>by simp,List.prefix_append _ _⟩;rw[x8e,x9q,h.mem];simp only[x8n,z1o];by_cases m:x=b
   ·subst m;rw[if_pos rfl,if_pos (by omega)];simp[q]
   ·constructor
    ·rintro(⟨o,i⟩|i)
     ·refine⟨o,?_⟩;rw[if_neg (by omega)];exact i
     ·exact absurd i m
    ·rintro⟨o,i⟩;rw[if_neg (by omega)]at i;exact .inl ⟨o,i⟩
theorem WkM.fold{n:Nat}:∀(l:List Int){st:List Bool×List Int},WkM n st->(∀b∈l,0<=b/\b<n)->WkM n (l.foldl GN st)/\(∀x,x∈(l.foldl GN st).2↔x∈st.2\/x∈l)/\st.2 <+: (l.foldl GN st).2
 |[],st,h,_=>⟨h,fun x=>by simp,List.prefix_refl _⟩
 | b::r,st,h,hl=>by
   obtain⟨i,m,o⟩:=h.see (hl b x8l);obtain⟨q,t,u⟩:=WkM.fold r i fun c v=>hl c (x8r _ v);refine⟨q,fun x=>?_,o.trans u⟩;rw[z1c,t,m,x8s,or_assoc]
def Pn(h:List (List Int))(x y:Int):Prop:=y∈h.getD x.toNat []
def NG{n:Nat}{i:List (List Int)}(o:XB n i){x:Int}(h:Pn i x y):0<=y/\y<n:=by
 unfold Pn at h;rw[x8n]at h;cases m:i[x.toNat]?with
 |none=>rw[m]at h;simp at h
 |some r=>rw[m]at h;exact o.2 r (x9y m) y h
def D8{α:Type}{l m:List α}(h:l <+: m){i:Nat}{a:α}(ha:l[i]?=some a):m[i]?=some a:=by
 obtain⟨t,rfl⟩:=h;rw[x9d (x8t.1 ha).1];exact ha
theorem H4{n:Nat}{o:List (List Int)}(F:XB n o):∀(k i:Nat){st:List Bool×List Int},WkM n st->i<=st.2.length->n+1<=k+i->(∀(m:Nat)(a:Int),m<i->st.2[m]?=some a->∀b,Pn o a b->b∈st.2)->
  WkM n (ZH o k i st)/\(∀x∈st.2,x∈(ZH o k i st).2)/\(∀x∈(ZH o k i st).2,∀b,Pn o x b->b∈(ZH o k i st).2)/\(∀S:Int->Prop,(∀x∈st.2,S x)->(∀x b,S x->Pn o x b->S b)->∀x∈(ZH o k i st).2,S x)
 | 0,i,st,h,hi,hk,_=>by
   have:=NR h.inv;omega
 | k+1,i,st,h,hi,hk,hc=>by
   rw[ZH];split
   ·rename_i a ha;have B:=(x8t.1 ha).1;have d:∀b∈o.getD a.toNat [],0<=b/\b<n:=fun b t=>NG F t;obtain⟨G,g,A⟩:=h.fold (o.getD a.toNat []) d;obtain⟨H,I,J,M⟩:=H4 F k (i+1) G (z1q B A.length_le) (by omega) fun m c C r b t=>by
     rw[g];rcases x8o m i with w|w
     ·have z:m<st.2.length:=by omega
      have v:st.2[m]?=some c:=by
       have:=D8 A (x8p z);rw[x8p z,<-this,r]
      exact .inl (hc m c w v b t)
     ·obtain rfl:m=i:=by omega
      have:=D8 A ha;rw[this]at r;cases r;exact .inr t
    refine⟨H,fun x q=>I x ((g x).2 (.inl q)),J,fun S e u=>M S (fun x q=>?_) u⟩;rcases(g x).1 q with q|q
    ·exact e x q
    ·exact u a x (e a (x9y ha)) q
   ·rename_i ha;have D:st.2.length<=i:=List.getElem?_eq_none_iff.1 ha;refine⟨h,fun x q=>q,fun x q b t=>?_,fun S e _=>e⟩;obtain⟨m,C⟩:=z2z.1 q;exact hc m x (by have:=(x8t.1 C).1;omega) C b t
theorem U3{n:Nat}:∀(l:List Int){st:List Bool×List Int},WkM n st->WkM n (l.foldl (fun st a=>bif WY n a then GN st a else st) st)/\∀x,x∈(l.foldl (fun st a=>bif WY n a then GN st a else st) st).2↔x∈st.2\/(x∈l/\WY n x=true)
 |[],st,h=>⟨h,fun x=>by simp⟩
 | a::r,st,h=>by
   rw[z1c];cases t:WY n a with
   | true=>
     obtain⟨u,v,_⟩:=h.see (ZY t);obtain⟨o,q⟩:=U3 r u;rw[x9z];refine⟨o,fun x=>?_⟩;rw[q,v,x8s];constructor
     .rintro ((i|rfl)|⟨i,m⟩)
      .exact .inl i
      .exact .inr ⟨.inl rfl,t⟩
      .exact .inr ⟨.inr i,m⟩
     .rintro (i|⟨rfl|i,m⟩)
      .exact .inl (.inl i)
      .exact .inl (.inr rfl)
      .exact .inr ⟨i,m⟩
   | false=>
     obtain⟨o,q⟩:=U3 r h;rw[x9k];refine⟨o,fun x=>?_⟩;rw[q,x8s];constructor
     .rintro (i|⟨i,m⟩)
      .exact .inl i
      .exact .inr ⟨.inr i,m⟩
     .rintro (i|⟨rfl|i,m⟩)
      .exact .inl i
      .rw [t]at m;cases m
      .exact .inr ⟨i,m⟩
theorem SD:∀(l:List Bool)(i:Nat)(y:Int),y∈BV i l ↔ ∃k:Nat,l[k]?=some true/\y=((i+k:Nat):Int)
 |[],i,y=>by simp[BV]
 | b::r,i,y=>by
   have n:=SD r (i+1) y;have key:(∃k:Nat,(b::r)[k]?=some true/\y=((i+k:Nat):Int))↔(b=true/\y=(i:Int))\/∃k:Nat,r[k]?=some true/\y=((i+1+k:Nat):Int):=by
    constructor
    ·rintro⟨k,h,m⟩;cases k with
     |zero=>simp at h;exact .inl ⟨h,by simpa using m⟩
     |succ k=>exact .inr ⟨k,by simpa using h,by rw[m];omega⟩
    ·rintro(⟨h,m⟩|⟨k,h,m⟩)
     ·exact⟨0,by simp[h],by simpa using m⟩
     ·exact⟨k+1,by simpa using h,by rw[m];omega⟩
   rw[key,<-n,BV];cases b<;>simp
theorem R6{n:Nat}{h:List (List Int)}(u:XB n h)(l:List Int)(y:Int):y∈BV 0 (WX h l) ↔ ∃a∈l,WY n a=true/\Rch (Pn h) a y:=by
 obtain⟨d,e⟩:=U3 (n:=n) l (WkM.start n);obtain⟨v,g,A,B⟩:=H4 u (h.length+1) 0 (st:=ND h.length l) (by rw[u.1];exact d) (x8i _) (by rw[u.1];omega) (fun m a D=>by omega);have t:∀x,x∈(ND h.length l).2↔x∈l/\WY n x=true:=fun x=>by
  rw[u.1];unfold ND;rw[e];simp
 have r:∀y,y∈BV 0 (WX h l)↔y∈(ZH h (h.length+1) 0 (ND h.length l)).2:=fun y=>by
  rw[SD,v.mem];show(∃k:Nat,(ZH h (h.length+1) 0 (ND h.length l)).1[k]?=some true/\_)↔_;constructor
  ·rintro⟨k,o,i⟩;have q:=(x8t.1 o).1;rw[v.inv.1]at q;refine⟨by omega,?_⟩;rw[i,x8n];simp[o]
  ·rintro⟨o,i⟩;have q:y.toNat<(ZH h (h.length+1) 0 (ND h.length l)).1.length:=by rw[v.inv.1];omega
   refine⟨y.toNat,?_,by omega⟩;rw[x8n,x8p q]at i;rw[x8p q];simpa using i
 rw[r];constructor
 ·intro C;refine B (fun y=>∃a∈l,WY n a=true/\Rch (Pn h) a y) (fun x c=>?_) (fun x b ⟨a,o,i,w⟩ z=>⟨a,o,i,.tail w z⟩) y C;obtain⟨o,i⟩:=(t x).1 c;exact⟨x,o,i,.refl⟩
 ·rintro⟨a,o,i,w⟩;exact w.closed (S:=fun y=>y∈(ZH h (h.length+1) 0 (ND h.length l)).2) (fun x b c z=>A x c b z) (g a ((t a).2 ⟨o,i⟩))
def Sa{l:List Int}{k:Nat}{b x:Int}:x∈Uo l k b↔x∈l\/x=b:=by
 unfold Uo;rw[x8e,x8s];have:x∈l↔x∈l.take k\/x∈l.drop k:=by rw[<-x8e,z3e]
 rw[this];constructor
 .rintro (h|h|h)
  .exact .inl (.inl h)
  .exact .inr h
  .exact .inl (.inr h)
 .rintro ((h|h)|h)
  .exact .inl h
  .exact .inr (.inr h)
  .exact .inr (.inl h)
theorem q0w{n:Nat}{g:List (List Int)×List (List Int)}(u:g.1.length=n)(e:Int×Int){x:Int}(r:0<=x/\x<n):y∈(Ny n g e).1.getD x.toNat []↔y∈g.1.getD x.toNat []\/((x,y)=e/\WY n y=true):=by
 rw[Jm];cases i:(WY n e.1&&WY n e.2 && !(g.1.getD e.1.toNat []).contains e.2)with
 | true=>
   simp only[x9g,z1b]at i;obtain⟨⟨o,q⟩,_⟩:=i;have t:=ZY o;rw[x9z];unfold D9;rw[x8n,z1o];by_cases m:e.1.toNat=x.toNat
   ·rw[if_pos m,if_pos (by omega)];simp only[z1k];rw[Sa,<-m];have:x=e.1:=by omega
    constructor
    ·rintro(h|h)
     ·exact .inl h
     ·exact .inr ⟨by rw[this,h],by rw[h];exact q⟩
    ·rintro(h|⟨h,_⟩)
     ·exact .inl h
     ·exact .inr (by rw[<-h])
   ·rw[if_neg m,<-x8n];constructor
    ·exact .inl
    ·rintro(h|⟨h,_⟩)
     ·exact h
     ·exact absurd (by rw[<-h]) m
 | false=>
   rw[x9k];constructor
   ·exact .inl
   ·rintro(h|⟨rfl,h⟩)
    ·exact h
    ·have o:WY n x=true:=by unfold WY;simp[r]
     simp only[o,h,z3l,Bool.not_eq_false']at i;simpa using i
def S5{n:Nat}{g:List (List Int)×List (List Int)}(h:g.1.length=n)(e:Int×Int):(Ny n g e).1.length=n:=by
 rw[Jm];cases(WY n e.1&&WY n e.2 && !(g.1.getD e.1.toNat []).contains e.2)with
 |true=>rw[x9z];unfold D9;rw[z0h];exact h
 |false=>exact h
theorem Lv{n:Nat}{x y:Int}(o:0<=x/\x<n):∀(l:List (Int×Int)){g:List (List Int)×List (List Int)},g.1.length=n->(y∈(l.foldl (Ny n) g).1.getD x.toNat []↔y∈g.1.getD x.toNat []\/((x,y)∈l/\WY n y=true))
 |[],g,_=>by simp
 | e::r,g,h=>by
   rw[z1c,Lv o r (S5 h e),q0w h e o,x8s];constructor
   .rintro ((i|⟨i,m⟩)|⟨i,m⟩)
    .exact .inl i
    .exact .inr ⟨.inl i,m⟩
    .exact .inr ⟨.inr i,m⟩
   .rintro (i|⟨i|i,m⟩)
    .exact .inl (.inl i)
    .exact .inl (.inr ⟨i,m⟩)
    .exact .inr ⟨i,m⟩
def MQ{n:Nat}{l:List (Int×Int)}{x:Int}(h:0<=x/\x<n):Pn (QI n l).1 x y↔(x,y)∈l/\WY n y=true:=by
 unfold Pn QI;rw[Lv h l (by simp)];have:(List.replicate n ([]:List Int)).getD x.toNat []=[]:=by
  rw[x8n,z0q];split<;>rfl
 rw[this];simp
theorem Ku{n:Nat}{l:List (Int×Int)}(t:0<n)(y:Int):y∈BV 0 (WX (QI n l).1 [0])↔Rch (fun a b=>(a,b)∈l/\WY n b=true) 0 y:=by
 rw[R6 (HS n l).1];have r:WY n 0=true:=by unfold WY;simp;omega
 constructor
 ·rintro⟨a,ha,_,h⟩;obtain rfl:a=0:=by simpa using ha
  exact(h.closed (S:=fun x:Int=>(0<=x/\x<n)/\Rch (fun a b=>(a,b)∈l/\WY n b=true) 0 x) (fun x y ⟨m,o⟩ i=>by
   have q:=(MQ m).1 i;exact⟨ZY q.2,.tail o q⟩) ⟨⟨by omega,by omega⟩,.refl⟩).2
 ·intro h;refine⟨0,by simp,r,?_⟩;exact(h.closed (S:=fun x:Int=>(0<=x/\x<n)/\Rch (Pn (QI n l).1) 0 x) (fun x y ⟨m,o⟩ i=>⟨ZY i.2,.tail o ((MQ m).2 i)⟩) ⟨⟨by omega,by omega⟩,.refl⟩).2
def stR(F:List Step)(a b:Int):Prop:=∃s∈F,s.src=a/\s.dst=b
def plP(p:Pg)(j:Nat)(f:Pr)(x:Int):Prop:=x=0\/x = -1\/((offN p.A j:Int)+1<=x/\x<=(offN p.A j+cntL f.body:Nat))
def ixI(p:Pg)(j:Nat)(f:Pr)(x:Int):Int:=YW (loI p j) (hiI p j f) (cntL f.body+2:Nat) x
theorem GP{x:Int}(h:plP p j f x):0<=ixI p j f x/\ixI p j f x<(cntL f.body+2:Nat):=by
 unfold ixI YW loI hiI;unfold plP at h
 (repeat' split)<;>omega
theorem LL{x:Int}(i:plP p j f x)(m:plP p j f y)(h:ixI p j f x=ixI p j f y):x=y:=by
 unfold ixI YW loI hiI at h;unfold plP at i m
 (repeat' split at h)<;>omega
theorem Dd{F:List Step}(v:∀s∈F,plP p j f s.src/\plP p j f s.dst)(A:plP p j f y):
  ixI p j f y∈BV 0 (WX (QI (cntL f.body+2) (F.map (ixP p j f (cntL f.body+2:Nat)))).1 [0])↔Rch (stR F) 0 y:=by
 rw[Ku (by omega)];have t:ixI p j f 0=0:=by unfold ixI YW;rw[if_pos rfl]
 have x:plP p j f 0:=.inl rfl;constructor
 ·intro h;obtain⟨z,o,m,r⟩:=h.closed (S:=fun i=>∃z,plP p j f z/\ixI p j f z=i/\Rch (stR F) 0 z) (by
   rintro a b ⟨z,o,m,r⟩ ⟨g,_⟩;obtain⟨s,n,w⟩:=x8c.1 g;obtain⟨u,q⟩:=v s n;have c:ixI p j f s.src=a:=z0l Prod.fst w;have d:ixI p j f s.dst=b:=z0l Prod.snd w;have e:s.src=z:=LL u o (by rw[c,m]);exact⟨s.dst,q,d,.tail r ⟨s,n,e,rfl⟩⟩) ⟨0,x,t,.refl⟩
  rw[<-LL o A m];exact r
 ·intro h;have:=h.closed (S:=fun z=>plP p j f z/\Rch (fun a b=>(a,b)∈F.map (ixP p j f (cntL f.body+2:Nat))/\WY (cntL f.body+2) b=true) 0 (ixI p j f z)) (by
   rintro a b ⟨o,m⟩ ⟨s,n,rfl,rfl⟩;obtain⟨u,q⟩:=v s n;refine⟨q,.tail m ⟨x8c.2 ⟨s,n,rfl⟩,?_⟩⟩;have:=GP q;unfold WY;simp only[x9g,x9o];exact this) ⟨x,by rw[t];exact .refl⟩
  exact this.2
theorem VE(h:QP p=true)(i:p.A[j]?=some f):∀s∈(QQ p j f).real,plP p j f s.src/\plP p j f s.dst:=fun s q=>by
 obtain⟨_,m⟩:=VN h i;obtain⟨_,n,_⟩:=PN h i;obtain⟨r,o⟩:=n s ((m s).1 q);unfold okI at o;unfold plP;omega
def q6f(p:Pg)(k:Nat)(f:Pr)(E:List Str):Prop:=Rch (stR ((QQ p k f).real.filter (Lf p E))) 0 (-1)
theorem Mr(h:QP p=true){k:Nat}(o:p.A[k]?=some f)(E:List Str):EG (QQ p k f) f E=true↔q6f p k f E:=by
 unfold q6f;rw[<-Dd (p:=p) (j:=k) (f:=f) (fun s q=>VE h o s (z0u.1 q).1) (y := -1) (.inr (.inl rfl))];unfold EG;rw[z0g];have n:ixI p k f (-1)=((cntL f.body+2:Nat):Int)-1:=by unfold ixI YW;rw[if_neg (by omega),if_pos rfl]
 rw[n];constructor
 ·rintro⟨x,i,m⟩;have m:((cntL f.body+2:Nat):Int)-1=x:=of_decide_eq_true m;rw[m];exact i
 ·intro i;exact⟨_,i,z0r rfl⟩
def x6o(E:List Str)(s:Str):Bool:=E.any fun x=>s==x
def Px{s:Str}:x6o E s=true↔s∈E:=by
 unfold x6o;rw[z0g];constructor
 .rintro ⟨x,i,m⟩;have:s=x:=by simpa using m
  rw[this];exact i
 .intro h;exact⟨s,h,by simp⟩
def Aw{m:List Str}(h:∀s∈E,s∈m){t:Step}(i:Lf p E t=true):Lf p m t=true:=by
 unfold Lf at i⊢;rw[z3x]at i⊢;rcases i with i|i
 .exact .inl i
 .refine .inr ?_;split at i
  .simp only[z1b,z2s,Bool.not_eq_false']at i⊢;rcases i with i|i
   .exact .inl i
   .exact .inr (Px.2 (h _ (Px.1 i)))
  .rfl
def Zu{k:Nat}{i:List Str}(h:∀s∈E,s∈i)(r:q6f p k f E):q6f p k f i:=by
 refine r.mono fun x y ⟨s,t,m,n⟩=>⟨s,?_,m,n⟩;obtain⟨o,q⟩:=z0u.1 t;exact z0u.2 ⟨o,Aw h q⟩
theorem Vz{p:Pg}:∀(l:List Nat)(o:List Str)(b:Bool),(l.foldl (Bn p) (o,b)).2=false->b=false/\(l.foldl (Bn p) (o,b)).1=o/\∀k∈l,Bn p (o,false) k=(o,false)
 |[],o,b,h=>⟨h,rfl,by simp⟩
 | k::r,o,b,h=>by
   rw[z1c]at h⊢;have i:Bn p (o,b) k=(o,b)\/(Bn p (o,b) k).2=true:=by
    unfold Bn;split
    .rename_i f _;cases(!((o,b).1.any fun s=>f.name==s)&&EG (QQ p k f) f (o,b).1)with
     |true=>exact .inr rfl
     |false=>exact .inl rfl
    .exact .inl rfl
   rcases i with i|i
   .rw [i]at h⊢;obtain⟨n,t,u⟩:=Vz r o b h;refine⟨n,t,fun m q=>?_⟩;rcases x8s.1 q with rfl|q
    .rw [<-n];rw[n]at i⊢;exact i
    .exact u m q
   .have:=(Vz r (Bn p (o,b) k).1 (Bn p (o,b) k).2 h).1;rw[i]at this;cases this
def Fj(p:Pg)(out:List Str):Prop:=∀s∈out,∃(k:Nat) (f:Pr),p.A[k]?=some f/\f.name=s/\q6f p k f out
theorem q0r(u:QP p=true){st:List Str×Bool}(h:Fj p st.1)(k:Nat):Fj p (Bn p st k).1/\Km p (Bn p st k).1+(Bn p st k).2.toNat<=Km p st.1+st.2.toNat:=by
 unfold Bn;split
 ·rename_i f m;cases n:(!(st.1.any fun s=>f.name==s)&&EG (QQ p k f) f st.1)with
  | true=>
    rw[x9z];simp only[x9g,z1b]at n;have x:=Ih (p:=p) (out:=st.1) (x9y m) n.1;have v:=(Mr u m st.1).1 n.2;refine⟨fun s i=>?_,?_⟩
    ·rcases x8e.1 i with i|i
     ·obtain⟨w,o,q,r,t⟩:=h s i;exact⟨w,o,q,r,Zu (fun s i=>x8e.2 (.inl i)) t⟩
     ·obtain rfl:=x9q.1 i;exact⟨k,f,m,rfl,Zu (fun s i=>x8e.2 (.inl i)) v⟩
    ·simp only[z4g];omega
  |false=>exact⟨h,x9h _⟩
 ·exact⟨h,x9h _⟩
theorem Me{p:Pg}(i:QP p=true):∀(l:List Nat){st:List Str×Bool},Fj p st.1->Fj p (l.foldl (Bn p) st).1/\Km p (l.foldl (Bn p) st).1+(l.foldl (Bn p) st).2.toNat<=Km p st.1+st.2.toNat
 |[],st,h=>⟨h,x9h _⟩
 | k::r,st,h=>by
   obtain⟨m,o⟩:=q0r i h k;obtain⟨n,q⟩:=Me i r m;rw[z1c];exact⟨n,by omega⟩
theorem Fk{p:Pg}(q:QP p=true):∀(k:Nat){out:List Str},Km p out<k->Fj p out->Fj p (Tw p k out)/\(∀s∈out,True)/\∀(m:Nat)(f:Pr),p.A[m]?=some f->q6f p m f (Tw p k out)->f.name∈Tw p k out
 |0,out,h,_=>by omega
 | k+1,out,h,hi=>by
   obtain⟨x,u⟩:=Me q (List.range p.A.length) (st:=(out,false)) hi;rw[Tw];cases w:(Dz p out).2 with
   | true=>
     rw[x9z];have t:((List.range p.A.length).foldl (Bn p) (out,false)).2=true:=w;rw[t]at u;simp only[z4g,Bool.toNat_false]at u;have n:Km p (Dz p out).1<k:=by show Km p ((List.range p.A.length).foldl (Bn p) (out,false)).1<k;omega
     obtain⟨o,_,i⟩:=Fk q k n x;exact⟨o,fun _ _=>trivial,i⟩
   | false=>
     rw[x9k];obtain⟨_,n,o⟩:=Vz (List.range p.A.length) out false w;have n:(Dz p out).1=out:=n;rw[n];refine⟨hi,fun _ _=>trivial,fun m f r z=>?_⟩;have i:=o m (z1i.2 (x8t.1 r).1);unfold Bn at i;rw[r]at i;simp only at i;cases v:(out.any fun s=>f.name==s)with
     |true=>exact Px.1 v
     | false=>
       rw[v,(Mr q r out).2 z]at i;have:=z0l Prod.snd i;cases this
def Ib(p:Pg):Km p []<=p.A.length:=z4r
theorem Jq(h:XF l=false):l.Nodup:=by
 unfold XF at h;rw[z3y]at h;unfold Nodup;rw[List.pairwise_iff_getElem];intro i j r m q o;have n:=h j (z1i.2 m);apply n;rw[z0g];refine⟨l[i],?_,?_⟩
 ·exact z0v.2 ⟨i,by simp;omega,by simp⟩
 ·rw[x8p m];simp[o]
def Ke(h:QP p=true):(procsN p).Nodup:=by
 obtain⟨n,m,_⟩:=QU h;unfold QC at m;rw[n,x9z]at m;cases i:XI p with
 |true=>rw[i]at m;cases m
 | false=>
   unfold XI at i;simp only[z3u]at i;exact Jq i.2.1
def DN(h:QP p=true){k:Nat}{g:Pr}(o:p.A[j]?=some f)(n:p.A[k]?=some g)(r:f.name=g.name):j=k/\f=g:=by
 have t:=Ke h;have i:(procsN p)[j]?=some f.name:=by simp[procsN,o]
 have q:(procsN p)[k]?=some g.name:=by simp[procsN,n]
 rw[r]at i;have m:=(x8t.1 i).1;obtain rfl:j=k:=(List.getElem?_inj m t).1 (i.trans q.symm);rw[o]at n;exact⟨rfl,z0y n⟩
theorem q0t(h:QP p=true){k:Nat}(m:p.A[k]?=some f):f.name∈endsR p↔q6f p k f (endsR p):=by
 obtain⟨n,_,o⟩:=Fk h (p.A.length+1) (out:=[]) (by have:=Ib p;omega) (fun s i=>by cases i);have e:∀s,s∈endsR p↔s∈Tw p (p.A.length+1) []:=fun s=>by unfold endsR;rw[h,x9z,NF]
 rw[e];constructor
 ·intro v;obtain⟨x,w,q,r,t⟩:=n _ v;obtain⟨rfl,rfl⟩:=DN h m q r.symm;exact Zu (fun s i=>(e s).2 i) t
 ·intro u;exact o k f m (Zu (fun s i=>(e s).1 i) u)
theorem AB:∀(k:Nat)(l:List S)(_:cntL l<k)(_:cntL l<=1000000),aP 31 [eSs l] (.int .i64 (cntL l)):=by
 intro k;induction k with
 |zero=>intro l h;omega
 | succ k u=>
   intro l x z;have o:=S.avs_len l;have a:l.length<=cntL l:=by
    clear x z o;induction l with
    |nil=>simp
    |cons t r i=>rw[cntL,WN,x9f];omega
   refine sC Na func31 ?_;conv=>whnf
   repeat' ((refine iM fun _=>?_)<;>conv=>whnf)
   refine lJ (fun y:Nat×Nat=>⟨[(0,.p (eSs l)),(3,.j y.2),(8,.p (.int .i64 (S.avs l).length)),(9,.j y.1)],[]⟩) (fun y=>y.1<=l.length/\y.2+cntL (l.drop y.1)=cntL l+(l.length-y.1)) (fun y=>l.length-y.1) (0,l.length) (Le.of_eq (by simp only[S.avs_len];rfl)) ⟨x8i _,by simp;omega⟩ ?_;rintro⟨j,n⟩ ⟨v,q⟩;simp only at v q⊢;rcases x8o j l.length with m|m
   ·have b:=Zq m;have w:=WN l[j];have c:cntL (l.drop j)<=cntL l:=by
     have:∀(l:List S)(j:Nat),cntL (l.drop j)<=cntL l:=fun l=>by
      induction l with
      |nil=>intro j;simp
      | cons t r i=>
        intro j;cases j with
        |zero=>simp
        |succ j=>rw[List.drop_succ_cons,cntL];have:=i j;omega
     exact this l j
    conv=>whnf
    repeat' ((first|refine dA ?_|(refine gX ?_;intros)|refine cP (u l[j].I (by omega) (by omega)) ?_ (ha:=.cons (Sub.refl _) .nil)|refine cP (u l[j].L (by omega) (by omega)) ?_ (ha:=.cons (Sub.refl _) .nil)|(apply bD<;>intro _<;>try omega))<;>conv=>whnf)
    all_goals exact nX (j+1,n+(cntL l[j].I+cntL l[j].L)) ⟨by simp only;omega,by simp only;omega⟩
   ·conv=>whnf
    rw[x9j m,cntL]at q;repeat' (apply bD<;>intro _<;>first|omega|conv=>whnf)
    exact RetK.int (by omega)
theorem AD(p:Pg)(t:cntP p.A<=1000):aP 8 [.agg p.cells] (.int .i64 (cntP p.A)):=by
 refine sC Nc func8 ?_;conv=>whnf
 have q:(p.A.map fun f=>AV.agg f.cells).length=p.A.length:=x8b _;repeat' ((refine iM fun _=>?_)<;>conv=>whnf)
 refine lI (fun y:Nat×Nat=>⟨[(3,.j y.2),(7,.p (.sl (p.A.map fun f=>.agg f.cells))),(8,.p (.int .i64 (p.A.map fun f=>AV.agg f.cells).length)),(9,.j y.1)],[]⟩) (fun y=>y.1<=p.A.length/\y.2+cntP (p.A.drop y.1)=cntP p.A) (fun y=>p.A.length-y.1) (0,0) ⟨x8i _,by simp⟩ ?_;rintro⟨j,n⟩ ⟨m,i⟩;simp only at m i⊢;rcases x8o j p.A.length with h|h
 ·have r:=K0 h;have o:=Zx _ _ (x9w h);conv=>whnf
  repeat' ((first|(refine gX ?_;intros)|refine cP (AB (cntL p.A[j].body+1) p.A[j].body (by omega) (by omega)) ?_ (ha:=.cons (Sub.refl _) .nil)|(apply bD<;>intro _<;>try omega))<;>conv=>whnf)
  exact nX (j+1,n+cntL p.A[j].body) ⟨by simp only;omega,by simp only;omega⟩
 ·conv=>whnf
  rw[x9j h,cntP]at i;repeat' (apply bD<;>intro _<;>first|omega|conv=>whnf)
  exact RetK.int (by omega)
def Dg(p:Pg)(h:Int):Bool:=QP p&&decide ((cntP p.A:Int)<=h)
def VV{x:Str}:inS l x=true↔x∈l:=by
 unfold inS;rw[z0g];constructor
 .rintro ⟨y,i,m⟩;have:y=x:=by simpa using m
  rw[<-this];exact i
 .intro h;exact⟨x,h,by simp⟩
theorem J9(h:QP p=true)(n:p.A[j]?=some f){a:Int}(z:(offN p.A j:Int)+1<=a)(b:a<=(offN p.A j+cntL f.body:Nat)):∃t∈flL f.body,OA p a=some t/\t.id=a:=by
 obtain⟨it,q,u⟩:=W1 n (k:=(a-1).toNat) (by omega) (by omega);refine⟨it.s,YP u,by unfold OA;rw[q];rfl,?_⟩;obtain⟨_,_,_,r,o⟩:=QY p;obtain⟨_,_,x,w⟩:=o j f n;have i:=P7 (QU h).1 n;have v:(itsOf p j f)[(a-1).toNat-offN p.A j]?=some it:=by
  unfold itsOf;rw[<-w,z1v,z0z,if_pos (by omega),show offN p.A j+((a-1).toNat-offN p.A j)=(a-1).toNat by omega];exact q
 have m:((itsOf p j f).map fun it=>it.s.id)[(a-1).toNat-offN p.A j]?=some it.s.id:=by rw[x9x,v];rfl
 rw[i]at m;unfold JB at m;rw[x9x,z2e (by omega)]at m;simp at m;omega
theorem Tc{s:Str}(h:s∈l):s∈Go.Lib.compact l:=by
 have key:∀(j:Nat)(i:j<l.length),l[j]∈Go.Lib.compact l:=fun j=>by
  induction j with
  | zero=>
    intro i;refine x8c.2 ⟨0,z0u.2 ⟨by simpa using i,by simp[Go.Lib.keeps]⟩,?_⟩;simp[i]
  | succ j o=>
    intro i;cases n:Go.Lib.keeps l.toArray (j+1)with
    | true=>
      refine x8c.2 ⟨j+1,z0u.2 ⟨by simpa using i,n⟩,?_⟩;simp[i]
    | false=>
      have m:j<l.length:=by omega
      have:l[j+1]=l[j]:=by
       unfold Go.Lib.keeps at n;simp[i,m]at n;exact n
      rw[this];exact o m
 obtain⟨j,i,rfl⟩:=z0v.1 h;exact key j i
def Kc{s:Str}:s∈Go.Lib.compact l↔s∈l:=⟨Qf,Tc⟩
def Vr(n:Nat):List Pr->List Pr
 |[]=>[]
 |f::r=>⟨f.name,f.C,f.E,nmL n f.body,f.fin⟩::Vr (n+cntL f.body) r
def q7n(p:Pg):Pg:=⟨p.B,Vr 0 p.A⟩
def SP(h:QP p=true):∃(k:Nat) (f:Pr),p.A[k]?=some f/\p.A.filter (fun f=>f.name==mainS)=[f]/\f.name=mainS/\f.C=[]:=by
 obtain⟨B,c,_⟩:=QU h;obtain⟨_,n,_⟩:=WV c;unfold XI at n;simp only[z3u,Bool.not_eq_false']at n;obtain⟨_,w,x,q⟩:=n;have hnd:=Jq w;obtain⟨k,u,e,t⟩:=SB x;have z:=z3k t;have v:p.A[k].name=mainS:=by
  have:mainS=p.A[k].name:=by simpa using z
  exact this.symm
 rw [t]at q;have b:p.A[k].C=[]:=z1z (by simpa using q);refine⟨k,p.A[k],x8p u,?_,v,b⟩;have key:∀(l:List Pr),(l.map Pr.name).Nodup->∀f∈l,f.name=mainS->l.filter (fun f=>f.name==mainS)=[f]:=fun l=>by
  induction l with
  |nil=>intro _ f m;cases m
  | cons g r d=>
    intro hnd f m i;rw[x9c,z0n]at hnd;rcases x8s.1 m with rfl|m
    .rw [z1n (by simp[i])];congr 1;rw[List.filter_eq_nil_iff];intro g a o;exact hnd.1 (by rw[i,<-show g.name=mainS by simpa using o];exact z2f a)
    .rw [z1t (by
      intro o;exact hnd.1 (by rw[show g.name=mainS by simpa using o,<-i];exact z2f m))]
     exact d hnd.2 f m i
 exact key p.A hnd _ (x9w u) v
mutual
theorem Er:∀(t:S)(n:Nat),XL (nmS n t)=XL t
 |.mk id kind F name D x has args I L,n=>by rw[nmS,XL,XL,Qg I,Qg L]
theorem Qg:∀(l:List S)(n:Nat),cntL (nmL n l)=cntL l
 |[],n=>by rw[nmL]
 |t::r,n=>by rw[nmL,cntL,cntL,Er t,Qg r]
end
section
variable {p:Pg}{k:Nat}{f:Pr}
end
end Go.Ab
