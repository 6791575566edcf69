/- The law of a program that may be: every step leads from a place to a place. -/
import Derived.Laws.StructEq
import Derived.ChangeKeysEq
import Derived.Test.YtonbdgcjnecapaaGreatInK5
import Derived.Test.YtonbdgcjnecapaaGreatInK6
import Derived.Test.YtonbdgcjnecapaaGreatInK7
import Derived.Test.YtonbdgcjnecapaaGreatInK9
import Derived.Test.YtonbdgcjnecapaaGreatInK10
import Derived.Test.YtonbdgcjnecapaaGreatInK13
set_option linter.all false
set_option maxRecDepth 100000
set_option maxHeartbeats 16000000
open List (Nodup not_mem_nil)
namespace Go.Ab
open Go.Proofs.Tryz
open Go.Proofs
variable {E L l:List Str}{K:St->Prop}{N j:Nat}{P:Program}{avs:List AV}{dst:Option Nat}{f:Pr}{it:Item}{p:Pg}{s:St}{sl:List (Nat×LV)}{y:Int}
def QJ(h:QS p=true):YH p=true/\(QA p).1=0/\(VO p).1=0/\(MH p).1=0/\(HW p).1=0:=by
 unfold QS q3s at h;simp only[x7s]at h;by_cases i:YH p=false
 .rw [if_pos i]at h;cases h
 rw[if_neg i]at h;by_cases m:(QA p).1=0
 .rw [if_neg (by omega)]at h;by_cases n:(VO p).1=0
  .rw [if_neg (by omega)]at h;by_cases o:(MH p).1=0
   .rw [if_neg (by omega)]at h;exact⟨by simpa using i,m,n,o,h⟩
   .rw [if_pos o]at h;exact absurd h o
  .rw [if_pos n]at h;exact absurd h n
 .rw [if_pos m]at h;exact absurd h m
theorem Jt{f:Pr}:∀(l:List Item)(seen:List Str){s:List Str},JH f l seen=.ok s->∀it∈l,UW f it=true
 |[],_,_,_,it,h=>by cases h
 | a::r,seen,s,h,it,i=>by
   rw[JH]at h;cases n:UF seen a.s.F with
   |none=>rw[n]at h;cases h
   | some o=>
     rw[n]at h;simp only at h;cases m:UW f a with
     |false=>rw[m]at h;cases h
     | true=>
       rw[m,x7z]at h;rcases x6m.1 i with rfl|i
       .exact m
       .exact Jt r o h it i
def MA(r:(QA p).1=0)(h:(MH p).1=0)(m:p.A[j]?=some f):∀it∈itsOf p j f,UW f it=true:=by
 unfold MH at h;rw[if_neg (by omega)]at h;have n:(List.range p.A.length).findSome? (YC p)=none:=by
  cases q:(List.range p.A.length).findSome? (YC p)with
  |none=>rfl
  |some a=>rw[q]at h;cases h
 rw[z1p]at n;have i:j<p.A.length:=(x6n.1 m).1;have:=n j (x9l.2 i);unfold YC at this;rw[m]at this;simp only at this;cases o:JH f (itL (j:Nat) 0 (-1) 0 (QH p.A j) f.body) []with
 |error id=>rw[o]at this;cases this
 |ok seen=>exact Jt _ _ o
mutual
theorem Ot:∀(t u v:S),u∈flS t->v∈u.I\/v∈u.L->v∈flS t
 | .mk id kind F name D x has args I L,u,v,h,hv=>by
   rw[flS]at h⊢;rcases x6m.1 h with rfl|h
   ·refine x6b _ (x6s.2 ?_);rcases hv with hv|hv
    ·exact .inl (Xl I v hv)
    ·exact .inr (Xl L v hv)
   ·rcases x6s.1 h with h|h
    ·exact x6b _ (x6s.2 (.inl (Xm I u v h hv)))
    ·exact x6b _ (x6s.2 (.inr (Xm L u v h hv)))
theorem Xm:∀(l:List S)(u v:S),u∈flL l->v∈u.I\/v∈u.L->v∈flL l
 |[],u,v,h,hv=>by rw[flL]at h;cases h
 | t::r,u,v,h,hv=>by
   rw[flL]at h⊢;rcases x6s.1 h with h|h
   ·exact x6s.2 (.inl (Ot t u v h hv))
   ·exact x6s.2 (.inr (Xm r u v h hv))
end
def JC(h:it∈itsOf p j f):it.s∈flL f.body:=by
 unfold itsOf at h;rw[<-BU (j:Nat) 0 (-1) 0 (QH p.A j) f.body];exact x6r.2 ⟨it,h,rfl⟩
def WD(o:YH p=true)(n:p.A[j]?=some f){t:S}(h:t∈flL f.body):(QH p.A j:Int)+1<=t.id/\t.id<=(QH p.A j+cntL f.body:Nat):=by
 have i:=RS o n;have m:t.id∈JK (QH p.A j) (cntL f.body):=by
  rw[<-i];exact x6r.2 ⟨t,h,rfl⟩
 have:=TR m;omega
def Q6(h:it∈itsOf p j f):okI (QH p.A j) (QH p.A j+cntL f.body) it.next/\(it.loop=0\/((QH p.A j:Int)+1<=it.loop/\it.loop<=(QH p.A j+cntL f.body:Nat))):=
 Bw (j:Nat) _ _ f.body 0 (-1) 0 _ it h (.inl rfl) (.inl rfl) (x7u _) (x7u _)
def Zv(o:p.A[j]?=some f){k:Nat}(r:QH p.A j<=k)(t:k<QH p.A j+cntL f.body):∃it,(sheetOf p).l[k]?=some it/\it∈itsOf p j f:=by
 obtain⟨_,_,_,m,h⟩:=QY p;obtain⟨_,_,q,n⟩:=h j f o;have i:k<(sheetOf p).l.length:=by omega
 refine⟨(sheetOf p).l[k],x6k i,?_⟩;unfold itsOf;rw[<-n];refine x9s.2 ⟨k-QH p.A j,?_⟩;rw[x8t,x7i,if_pos (by omega),show QH p.A j+(k-QH p.A j)=k by omega,x6k i]
def q4m(B:YH p=true)(c:p.A[j]?=some f)(h:it∈itsOf p j f)(n:UW f it=true):∀x∈UC (sheetOf p) f it,okI (QH p.A j) (QH p.A j+cntL f.body) x:=by
 obtain⟨w,g⟩:=Q6 h;have F:=JC h;have e:=WD B c F;have m:∀(l:List S)(o:Int),(∀v∈l,v∈it.s.I\/v∈it.s.L)->okI (QH p.A j) (QH p.A j+cntL f.body) o->okI (QH p.A j) (QH p.A j+cntL f.body) (KE l o):=fun l o a J=>by
  cases l with
  |nil=>exact J
  |cons v r=>exact .inr (WD B c (Xm f.body it.s v F (a v x6g)))
 have q:it.s.kind=7\/it.s.kind=8->(QH p.A j:Int)+1<=it.loop/\it.loop<=(QH p.A j+cntL f.body:Nat):=fun z=>by
  unfold UW at n;rw[if_pos z]at n;rcases g with d|d
  .rw [d]at n;cases n
  .exact d
 intro x i;unfold UC at i;split at i
 .simp only[x6m,not_mem_nil,or_false]at i;rcases i with rfl|rfl
  .exact m _ _ (fun v a=>.inl a) w
  .exact m _ _ (fun v a=>.inr a) w
 split at i
 .simp only[x6m,not_mem_nil,or_false]at i;rcases i with rfl|rfl
  .exact m _ _ (fun v a=>.inl a) (.inr e)
  .exact w
 split at i
 .rename_i z;have G:=q (.inl z);obtain⟨u,C,D⟩:=Zv c (k:=(it.loop-1).toNat) (by omega) (by omega);rw[C]at i;rw[x6p.1 i];exact(Q6 D).1
 split at i
 .rename_i z;rw[x6p.1 i];exact .inr (q (.inr z))
 split at i
 .rw [x6p.1 i];exact .inl rfl
 split at i
 .rename_i O Q _ z;rw[x6p.1 i];unfold UW at n;rw[if_neg (by omega),if_pos z]at n;unfold atB at n⊢;split
  .rename_i t M;exact .inr (WD B c (x9n M))
  .rename_i H;rw[H]at n;simp only at n;cases b:f.fin.any fun s=>it.s.name==s with
   |true=>exact .inl rfl
   |false=>rw[b]at n;cases n
 .rw [x6p.1 i];exact w
def BI(h:QS p=true)(o:p.A[j]?=some f):(∀it∈itsOf p j f,it.s.kind=7->1<=it.loop/\it.loop<=(sheetOf p).l.length)/\
  (∀s∈QG p j f,(s.src=0\/((QH p.A j:Int)+1<=s.src/\s.src<=(QH p.A j+cntL f.body:Nat)))/\okI (QH p.A j) (QH p.A j+cntL f.body) s.dst)/\∀s∈QG p j f,okSt s:=by
 obtain⟨t,b,_,r,_⟩:=QJ h;have n:=MA b r o;obtain⟨_,_,_,w,u⟩:=QY p;obtain⟨_,_,a,_⟩:=u j f o;obtain⟨_,_,x⟩:=ZL t;have key:∀s∈QG p j f,(s.src=0\/((QH p.A j:Int)+1<=s.src/\s.src<=(QH p.A j+cntL f.body:Nat)))/\okI (QH p.A j) (QH p.A j+cntL f.body) s.dst:=fun s m=>by
  unfold QG at m;rcases x6m.1 m with rfl|m
  .refine ⟨.inl rfl,?_⟩;show okI _ _ (if QH p.A j<QH p.A j+cntL f.body then((QH p.A j:Nat)+1:Int)else -1);split
   .exact .inr ⟨by omega,by omega⟩
   .exact .inl rfl
  .obtain ⟨it,i,d⟩:=x8w.1 m;obtain⟨y,c,rfl⟩:=x6r.1 d;exact⟨.inr (WD t o (JC i)),q4m t o i (n it i) y c⟩
 refine⟨fun it i z=>?_,key,fun s m=>?_⟩
 .have q:=n it i;unfold UW at q;rw[if_pos (.inl z)]at q;rcases(Q6 i).2 with v|v
  .rw [v]at q;cases q
  .omega
 .obtain ⟨e,g⟩:=key s m;unfold okSt okI at*
  omega
def O3(p:Pg)(n:Str):Option Way:=bif QS p then(match p.A.find? (fun f=>f.name==n)with
 |some f=>some (QQ p (p.A.findIdx fun f=>f.name==n) f)
 |none=>none)else none
def XZ(h:QS p=true):p.B.length<=16/\p.A.length<=16/\cntP p.A<=200:=ZL (QJ h).1
def OV{n:Str}(h:¬n∈procsN p):idxF (fun f=>f.name==n) p.A = -1/\p.A.find? (fun f=>f.name==n)=none:=by
 have m:p.A.any (fun f=>f.name==n)=false:=by
  rw[z0i];intro f i o;exact h (x6r.2 ⟨f,i,by simpa using o⟩)
 refine⟨by unfold idxF;rw[m];rfl,?_⟩;rw[z0v];intro f i;have:=z0i.1 m f i;simpa using this
def Wa{n:Str}(h:n∈procsN p):∃(k:Nat) (o:k<p.A.length),idxF (fun f=>f.name==n) p.A=k/\p.A.findIdx (fun f=>f.name==n)=k/\p.A.find? (fun f=>f.name==n)=some p.A[k]/\p.A[k].name=n:=by
 obtain⟨k,o,i,q,r⟩:=Z7 h;refine⟨k,o,i,?_,q,r⟩;unfold idxF at i;cases m:p.A.any (fun f=>f.name==n)with
 |true=>rw[m,x7z]at i;omega
 |false=>rw[m,x7k]at i;omega
def Zp{n:Str}{w:Way}(h:O3 p n=some w):∃(k:Nat) (f:Pr),p.A[k]?=some f/\w=QQ p k f/\QS p=true/\f.name=n/\p.A.find? (fun f=>f.name==n)=some f:=by
 unfold O3 at h;cases m:QS p with
 |false=>rw[m]at h;cases h
 | true=>
   rw[m,x7z]at h;by_cases o:n∈procsN p
   .obtain ⟨k,u,t,q,i,r⟩:=Wa o;rw[i,q]at h;cases h;exact⟨k,p.A[k],by simp,rfl,rfl,r,i⟩
   .rw [(OV o).2]at h;cases h
def x1r(p:Pg)(k:Nat)(f:Pr):Int:=if QH p.A k<QH p.A k+cntL f.body then((QH p.A k:Nat)+1:Int)else -1
def ZM(p:Pg)(j:Nat)(n i:Int):Int:=if i=0 then 0 else if i=n-1 then -1 else loI p j+i-1
def Zm(w:Way)(f:Pr)(t:w.p.A[w.j]?=some f)(v:cntP w.p.A<=1000)(z:0<=w.n/\w.n<=5000)(i:Int)(x:0<=i/\i<=5000):SpecP prog 65 [.ip w.cells,.int .i64 i] (fun r=>r=.int .i64 (ZM w.p w.j w.n i)):=by
 refine sB Yc func65 rfl call65 ?_;conv=>whnf
 obtain⟨_,_,_,o,m⟩:=QY w.p;obtain⟨h,q,u,_⟩:=m w.j f t;repeat' (first|((first|refine dA ?_|refine wI ?_|(refine IdxK.at rfl (UG h) rfl ?_));conv=>whnf)|(apply bD<;>intro _<;>first|omega|conv=>whnf))
 all_goals exact RetK.int (by unfold ZM loI;(repeat' split)<;>omega)
def CP(l:List Int):∀b:List Bool,(DE l b).length=b.length:=by
 induction l with
 |nil=>intro b;rfl
 | cons a r h=>
   intro b;show(DE r (b.set a.toNat true)).length=b.length;rw[h,x8i]
def OneRow(R:Nat->TypeId->Nat->List AV->Prop)(nil:Prop)(l:LV)(H:Heap):Prop:=
 (l=.p .nils/\H=[]/\nil)\/∃q e sz es,l=.hd q 0 es.length/\H=[(q,.own e sz es)]/\(∀x∈es,∀c∈x.cells,c.flat=true)/\R q e sz es
def JA{g:FuncId}{args:List LV}{R:Nat->TypeId->Nat->List AV->Prop}{nil:Prop}(k:Nat)(hu:WW k s=true)(hs:SpecH P g (avs.map .p) [] (OneRow R nil))(ha:FrzL s.H args avs)(hn:nil->setD N s.sl dst (.p .nils) fun sl=>K ⟨sl,s.H⟩)(h:∀q e sz es,R q e sz es->setD N s.sl dst (.hd k 0 es.length) fun sl=>K ⟨sl,(k,.own e sz es)::s.H⟩):CallK P N g args dst s K:=by
 refine⟨fun σ β a w Y vals hnv hv=>⟨hs.go vals,?_⟩⟩;obtain⟨hlen,hget⟩:=ha.get;obtain⟨τ,h5,h6,h7,h8⟩:=PU Y.heap;have hrel0:HRel τ (fun _=>none) [] w:=⟨h6,fun k c Z=>(by cases Z),z2g,fun k hk=>(by cases hk),fun k hk=>(by cases hk)⟩;have hno:∀b,¬owns (fun _=>none) [] b:=fun b ⟨j,r,_⟩=>by cases r
 refine(hs.ok τ (fun _=>none) w vals (by rw[x6j];exact hnv.trans hlen) (fun j l r=>?_) hrel0).mono fun e w' ⟨l,u,σ',β',H',he,hR,hrep,F,z⟩=>?_
 .rw [x6a]at r;cases Z:avs[j]?with
  |none=>rw[Z]at r;cases r
  | some c=>
    rw[Z]at r;cases r;obtain⟨l,B,D⟩:=hget j c Z;exact .p (h8 l _ c (hv j l B) D)
 .have U:σ.lies w':=fun b c d=>F.mem b c (z.le b c (h5 b c d));have hf:Frm (fun _=>False) w w':=⟨z.O.os,z.O.tape,z.O.output,z.O.drawn,z.O.size,fun b d _=>z.O.block b d (hno b)⟩;have hf':Frm (owns β s.H) w w':=⟨hf.os,hf.tape,hf.output,hf.drawn,hf.size,fun b d _=>hf.block b d id⟩;have T:=Y.heap.kept (Mem.le_refl σ) U hf fun b h0 B=>absurd h0 B;rcases hR with⟨rfl,rfl,hnil⟩|⟨q,e0,sz,es,rfl,rfl,hfl,hR⟩
  .have hr':Rel N σ β s a w':=⟨Y.size,Y.defers,Y.G,T⟩;have hrp:RepL σ β (.p .nils) u:=by
    cases hrep with
    |p h=>exact .p (h.flat rfl)
   obtain⟨sl,hK,V⟩:=hr'.setD hrp (hn hnil);exact⟨u,σ,β,_,he,hK,V,Mem.le_refl σ,hf',fun b h0 B=>absurd h0 B,fun b d=>.inl d,fun _ _ _=>rfl⟩
  .obtain ⟨hu1,hu2⟩:=ZV hu;have hkl:=KN hu;have C:∀j,j≠k->(β.set k (β' q)) j=β j:=fun j r=>by simp[Lab.set,r]
   have n:(β.set k (β' q)) k=β' q:=by simp[Lab.set]
   have J:∀i,β' q=some i->∀b,i.has b->w.heap.size<=b/\σ b=none/\b<w'.heap.size:=fun i A b d=>by
    have B:=F.apart q (x6p.2 rfl) i A b d;refine⟨?_,?_,B.2⟩
    .rcases z.own b ⟨q,x6p.2 rfl,i,A,d⟩with D|D
     .exact absurd D (hno b)
     .exact D
    .cases D:σ b with
     |none=>rfl
     |some c=>rw[z.le b c (h5 b c D)]at B;cases B.1
   have hch:(Chunk.own e0 sz es).holds σ (β.set k (β' q)) w' k:=by
    rcases F.chunks q (.own e0 sz es) (x6p.2 rfl)with⟨B,D⟩|⟨i,vs,B,D,h3,h4,h5',h6',h7'⟩
    .exact .inl ⟨n.trans B,D⟩
    .refine .inr ⟨i,vs,n.trans B,D,h3,h4,h5',h6',fun m x hx=>⟨(h7' m x hx).1,fun jj c Z=>?_⟩⟩;obtain⟨v,h8',h9⟩:=(h7' m x hx).2 jj c Z;exact⟨v,h8',h9.flat (hfl x (x7j hx) c (x7j Z))⟩
   have M:∀j∈s.H.map (·.1),j≠k:=fun j r=>by
    obtain⟨⟨j',c⟩,hm,rfl⟩:=x6r.1 r;exact(hu1 j' c hm).1
   have hr':Rel N σ (β.set k (β' q)) ⟨s.sl,(k,.own e0 sz es)::s.H⟩ a w':=by
    refine⟨Y.size,Y.defers,fun i=>(Y.G i).set _ (hu2 i),U,fun j c r=>?_,?_,fun j r i A b d=>?_,fun j r j' hj' i i' A Q b d hb'=>?_⟩
    .rcases x6m.1 r with t|r
     .cases t;exact hch
     .exact (T.chunks j c r).set _ (hu1 j c r).1 (hu1 j c r).2
    .rw [x7l,x8k];exact⟨fun hm=>M k hm rfl,T.nodup⟩
    .rcases x6m.1 r with t|r
     .have t:j=k:=t;subst t;rw[n]at A;exact(J i A b d).2
     .rw [C j (M j r)]at A;exact T.apart j r i A b d
    .have hold:∀j∈s.H.map (·.1),∀i,(β.set k (β' q)) j=some i->∀b,i.has b->b<w.heap.size:=fun j r i A b d=>by
      rw[C j (M j r)]at A;exact(Y.heap.apart j r i A b d).2
     rcases x6m.1 r with t|hm<;>rcases x6m.1 hj' with I|hm'
     .exact t.trans I.symm
     .have t:j=k:=t;subst t;rw[n]at A;have:=(J i A b d).1;have:=hold j' hm' i' Q b hb';omega
     .have I:j'=k:=I;subst I;rw[n]at Q;have:=(J i' Q b hb').1;have:=hold j hm i A b d;omega
     .rw [C j (M j hm)]at A;rw[C j' (M j' hm')]at Q;exact T.inj j hm j' hm' i i' A Q b d hb'
   have hrp:RepL σ (β.set k (β' q)) (.hd k 0 es.length) u:=by
    rcases hrep.hdI with⟨B,_,D,rfl⟩|⟨i,o,B,D,h3,rfl⟩
    .rw [D];exact .hdn k (n.trans B)
    .exact .hd k 0 es.length i o (n.trans B) D h3
   obtain⟨sl,hK,V⟩:=hr'.setD hrp (h q e0 sz es hR);refine⟨u,σ,_,_,he,hK,V,Mem.le_refl σ,hf',fun b h0 B=>absurd h0 B,fun b d=>?_,fun j B _=>C j (by omega)⟩;obtain⟨j,r,i,A,d⟩:=d;rcases x6m.1 r with t|r
   .have t:j=k:=t;subst t;rw[n]at A;exact .inr (J i A b d).1
   .rw [C j (M j r)]at A;exact .inl ⟨j,r,i,A,d⟩
def Gy(L:List Str)(_:Nat)(e:TypeId)(sz:Nat)(es:List AV):Prop:=e=9/\sz=1/\es=L.map .str
def SV(L:List Str):∀x∈L.map AV.str,∀c∈x.cells,c.flat=true:=fun x i c h=>by
 obtain⟨s,_,rfl⟩:=x6r.1 i;rw[x6p.1 (show c∈[AV.str s]from h)];rfl
def FP{q n:Nat}{nil:Prop}(h:n=L.length):OneRow (Gy L) nil (.hd q 0 n) [(q,.own 9 1 (L.map .str))]:=
 .inr ⟨q,_,_,_,by rw[h,x6j],rfl,SV L,rfl,rfl,rfl⟩
theorem OneRow.str{n:Nat}(h:n=L.length):OneRow (Gy L) False (.hd 0 0 n) [(0,.own 9 1 (L.map .str))]:=FP h
def YW{n:Nat}{nil:Prop}(h:n=L.length):OneRow (Gy L) nil (.hd 0 0 n) [(0,.own 9 1 (L.map .str))]:=FP h
def Au{H:Heap}{k d:Nat}{e:TypeId}{sz:Nat}{es:List AV}(I:WW k ⟨sl,H⟩=true):Le N ⟨W1 sl d (.hd k 0 es.length),(k,.own e sz es)::H⟩ ⟨W1 sl d (.p (.sl es)),H⟩:=fun σ β a w q=>by
 obtain⟨R,_⟩:=ZV I;have B:(H.map (·.1)).Nodup:=(x8k.1 q.heap.nodup).2;have o:∀j∈H.map (·.1),j∈((k,Chunk.own e sz es)::H).map (·.1):=fun j h=>x6b _ h;rcases VD.1 (q.heap.chunks k _ x6g)with⟨J,rfl⟩|⟨i,vs,M,U,hh,hn,V,Y,T⟩
 .refine ⟨σ,β,⟨q.size,q.defers,fun j=>?_,⟨q.heap.mem,fun j c' h=>q.heap.chunks j c' (x6b _ h),B,fun j h=>q.heap.apart j (o j h),fun j h j' O=>q.heap.inj j (o j h) j' (o j' O)⟩⟩,Mem.le_refl σ,Frm.refl _ _,fun _ h0 g=>absurd h0 g,fun b ⟨j,h,r⟩=>.inl ⟨j,o j h,r⟩,fun _ _ _=>rfl⟩;have n:=q.G j;show RepL σ β (getS (W1 sl d _) j) _;have n:RepL σ β (getS (W1 sl d (.hd k 0 [].length)) j) (a.tmps.getD j undef):=n;rw[NG]at n⊢;by_cases h:d=j
  .rw [if_pos h]at n⊢;rcases n.hdI with⟨_,_,_,he⟩|⟨i,_,z,_⟩
   .rw [he];exact .p .nilsl
   .rw [J]at z;cases z
  .rw [if_neg h]at n⊢;exact n
 .refine q.lay M x6g hh (fun τ t Z j v n=>?_) (fun τ t Z j c' h=>⟨(R j c' h).1,c',x6b _ h,fun C=>C.mono t fun _ _ _ _=>rfl⟩) B;have n:RepL σ β (getS (W1 sl d (.hd k 0 es.length)) j) v:=n;show RepL τ β (getS (W1 sl d _) j) v;rw[NG]at n⊢;by_cases h:d=j
  .rw [if_pos h]at n⊢;rcases n.hdI with⟨z,_⟩|⟨i',oo,z,hl,F,rfl⟩
   .rw [M]at z;cases z
   .rw [M]at z;cases z;have Q:oo=0:=by
     rcases F with F|F
     .simpa using F
     .omega
    subst Q;obtain⟨u,I⟩ : ∃u:Nat->Nat->Value,∀(m:Nat)(x:AV)(j:Nat)(c:AV),es[m]?=some x->x.cells[j]?=some c->vs[m*sz+j]?=some (u m j)/\Rep σ c (u m j):=by
     refine⟨fun m j=>(vs[m*sz+j]?).getD undef,fun m x j c D h=>?_⟩;obtain⟨v,g,h2⟩:=T.rep m x j c D h;rw[x7i]at g;split at g
     .have A:vs[m*sz+j]?=some v:=by simpa using g
      exact⟨by simp[A],by simpa[A]using h2⟩
     .cases g
    exact .p (.sl es i.blk 0 _ sz vs u Z (by omega) (by omega) T.size (fun m x j c D h=>by simpa using(I m x j c D h).1) fun m x j c D h=>(I m x j c D h).2.mono t)
  .rw [if_neg h]at n⊢;exact n.mono t
def q3l{H:Heap}{d:Nat}{l l':LV}(h:∀σ β v,RepL σ β l v->RepL σ β l' v):Le N ⟨W1 sl d l,H⟩ ⟨W1 sl d l',H⟩:=fun σ β a w m=>by
 refine⟨σ,β,⟨m.size,m.defers,fun j=>?_,m.heap⟩,Later.refl _ _ _ _⟩;have i:RepL σ β (getS (W1 sl d l) j) (a.tmps.getD j undef):=m.G j;show RepL σ β (getS (W1 sl d l') j) _;rw[NG]at i⊢;by_cases n:d=j
 .rw [if_pos n]at i⊢;exact h _ _ _ i
 .rw [if_neg n]at i⊢;exact i
theorem CallK.le{g:FuncId}{args:List LV}(h:CallK P N g args dst s fun s'=>∃i,K i/\Le N s' i):CallK P N g args dst s K:=
 ⟨fun σ β a w x m v z=>⟨(h.ok σ β a w x m v z).1,(h.ok σ β a w x m v z).2.mono fun e w' ⟨u,σ',β',s',c,⟨i,b,q⟩,r,A⟩=>by
   obtain⟨σ2,β2,t,o⟩:=A.le' q r;exact⟨u,σ2,β2,i,c,b,t,o⟩⟩⟩
def Lj{v n:LV}{K i:List (Nat×LV)->Prop}(h:setD N sl dst v K)(o:K sl->i sl)(q:∀d,K (W1 sl d v)->i (W1 sl d n)):setD N sl dst n i:=by
 unfold setD at h⊢;cases dst with
 |none=>exact o h
 | some d=>
   simp only at h⊢;cases m:Nat.blt d N with
   |false=>rw[m]at h;exact h
   | true=>
     rw[m,x7z,Qw]at h;rw[x7z,Qw];exact q d h
def R9{g:FuncId}{args:List LV}{R:Nat->TypeId->Nat->List AV->Prop}{nil:Prop}{E:List AV}(k:Nat)(t:WW k s=true)(b:SpecH P g (avs.map .p) [] (OneRow R nil))(x:FrzL s.H args avs)(z:nil->E=[])(u:∀q e sz es,R q e sz es->es=E)(h:setD N s.sl dst (.p (.sl E)) fun sl=>K ⟨sl,s.H⟩):CallK P N g args dst s K:=by
 refine CallK.le (JA k t b x (fun n=>?_) fun q e sz es o=>?_)
 .obtain rfl:=z n;exact Lj h (fun m=>⟨_,m,fun σ β a w o=>⟨σ,β,o,Later.refl _ _ _ _⟩⟩) fun d m=>⟨_,m,q3l fun σ β v r=>by
   cases r with
   |p r=>exact .p (Sub.nils _ _ r)⟩
 .obtain rfl:=u q e sz es o;refine Lj h (fun m=>⟨_,m,Ye (fun i=>.inl rfl) (List.sublist_cons_self _ _)⟩) fun d m=>⟨_,m,Au (by obtain⟨sl,H⟩:=s;exact t)⟩
theorem SpecH.toP{g:FuncId}{R:Nat->TypeId->Nat->List AV->Prop}{nil:Prop}{E:List AV}(F:SpecH P g (avs.map .p) [] (OneRow R nil))(hn:nil->E=[])(V:∀q e sz es,R q e sz es->es=E):SpecP P g avs (fun r=>r=.sl E):=by
 refine⟨F.go,fun σ w z H I M=>?_⟩;have t:Rel 1 σ (fun _=>none) ⟨[],[]⟩ {tmps:=#[undef],defers:=[]} w:=⟨rfl,rfl,fun i=>.p (.any _),M,fun k c B=>(by cases B),z2g,fun k C=>(by cases C),fun k C=>(by cases C)⟩;have B:CallK P 1 g (avs.map .p) (some 0) ⟨[],[]⟩ (fun s=>s=⟨[(0,.p (.sl E))],[]⟩):=R9 0 rfl F (by
  clear F H I;induction avs with
  |nil=>exact .nil
  |cons a r ih=>exact .cons (.p (Sub.refl _)) ih) hn V (by rfl)
 refine(B.ok σ _ _ w t z (by rw[x6j];exact H) fun j l o=>?_).2.mono fun e w' ⟨u,σ',β',s',Z,U,J,m⟩=>?_
 .rw [x6a]at o;cases D:avs[j]?with
  |none=>rw[D]at o;cases o
  |some c=>rw[D]at o;cases o;exact .p (I j c D)
 .subst U;have x:∀b,¬owns (fun _=>none) [] b:=fun b ⟨j,o,_⟩=>by cases o
  have Q:=J.G 0;refine⟨.sl E,u,σ',Z,rfl,?_,m.le,J.heap.mem,⟨m.O.os,m.O.tape,m.O.output,m.O.drawn,m.O.size,fun b Y _=>m.O.block b Y (x b)⟩,fun b v T=>?_⟩
  .have v:RepL σ' β' (.p (.sl E)) u:=by simpa[getS,Act.put]using Q
   cases v with
   |p v=>exact v
  .rcases m.mem b v T with A|A
   .exact absurd A (x b)
   .exact A
def PS(l:List Int)(v:Int):SpecP prog 266 [XL l,.int .i64 v] (fun r=>r=.int .i64 (idxF (fun s=>decide (v=s)) l)):=by
 refine sB FK func266 rfl call266 ?_;conv=>whnf
 refine iM fun _=>?_;have n:(l.map (AV.int .i64)).length=l.length:=x6j _;conv=>whnf
 refine LoopK.inv QW (fun j:Nat=>⟨[(0,.p (XL l)),(1,.p (.int .i64 v)),(7,.p (.int .i64 (l.map (AV.int .i64)).length)),(8,.p (.int .i64 j))],[]⟩) (fun j=>j<=l.length/\(l.drop j).any (fun s=>decide (v=s))=l.any (fun s=>decide (v=s))/\l.findIdx (fun s=>decide (v=s))=j+(l.drop j).findIdx (fun s=>decide (v=s))) (fun j=>l.length-j) 0 (Le.of_eq rfl) ⟨x6t _,rfl,by simp⟩ ?_;rintro j ⟨m,h,i⟩;conv=>whnf
 repeat' (first|((first|(refine iA fun _=>?_)|refine wI ?_);conv=>whnf)|(apply bD<;>intro _<;>first|omega|conv=>whnf))
 .exact RetK.int (Y9 (p:=fun s=>decide (v=s)) (by omega) (x8r (by assumption)) h i).symm
 .exact ⟨j+1,⟨by omega,by rw[<-h,Ve (p:=fun s=>decide (v=s)) (by omega) (x8c (by assumption))],by rw[i,Ob (p:=fun s=>decide (v=s)) (by omega) (x8c (by assumption))];omega⟩,by omega,Le.of_eq rfl⟩
 .exact RetK.int (by rw[Bx];rw[<-h,BC (by omega)])
def HI(l:List Int)(v:Int):SpecP prog 208 [XL l,.int .i64 v] (fun r=>r=.bool (l.any fun s=>decide (v=s))):=by
 refine sB KS func208 rfl call208 ?_;conv=>whnf
 repeat' (refine cP (PS _ _) ?_;conv=>whnf)
 exact RetK.bool Ws
def C0{T:Tab}{H:Bool}{o:Oper}{K:LV->Prop}(hT:TabOK P T){t u:TypeId}{x:Operand}(a:o.op=.binOp .eql t x (.const (.slice none 0 0)) u){i:TyI}(O:T.get t=some i){e:TypeId}(F:i.desc=.slice e){es:List AV}(Q:QR s.sl x=.p (.sl es))(D:∀b:Bool,(b=true->es=[])->K (.p (.bool b))):ValO P H s o K:=by
 refine⟨fun σ β r w J _=>?_⟩;have q:=QV J x;rw[Q]at q;have B:=hT.of O;rw[F]at B;have d:∃m n c,r.eval x=.slice m n c/\(m.isNone=true->es=[]):=by
  generalize r.eval x=v at q;cases q with
  | p q=>
    cases q with
    |nilsl=>exact⟨none,0,0,rfl,fun _=>rfl⟩
    |slz b=>exact⟨some b,0,0,rfl,fun _=>rfl⟩
    |sl _ b off cap sz cells u R g A M U I=>exact⟨_,_,_,rfl,fun h=>(by cases h)⟩
 obtain⟨m,n,c,d,z⟩:=d;refine⟨_,.bool m.isNone,D m.isNone z,.p (.bool _),fun w' _ _=>?_⟩;have C:r.eval (.const (.slice none 0 0))=.slice none 0 0:=rfl;have G:(eqGuard .eql t x (.const (.slice none 0 0)) (.slice m n c) (.slice none 0 0)).run P w'=.ok () w':=by unfold eqGuard;rfl
 have z:(Op.equal t (.slice m n c) (.slice none 0 0)).run P w'=.ok m.isNone w':=by
  have e:Op.equal t (.slice m n c) (.slice none 0 0)=Op.equalIn (9999+1) t (.slice m n c) (.slice none 0 0):=rfl;rw[e,Op.equalIn,Sem.run_bind,run_underlying B,Result.andThen_ok];cases m<;>rfl
 simp only[execOp,a,d,C,Sem.run_bind,G,Result.andThen_ok,binOp];simp[z]
def SE{es:List AV}{n:Nat}{nil:Prop}(q:Nat)(i:es=L.map .str)(h:n=L.length):OneRow (Gy L) nil (.hd q 0 n) [(q,.own 9 1 es)]:=by
 subst i;exact .inr ⟨q,_,_,_,by rw[h,x6j],rfl,SV L,rfl,rfl,rfl⟩
def WR(l:List Str)(m:l.length<=1000000):SpecH prog 170 [.p (eStrs l)] [] (fun r H=>OneRow (Gy l) (l=[]) r H):=by
 refine sH JW func170 rfl call170 ?_;conv=>whnf
 repeat' (first|((first|refine x6d rfl ?_|refine aD ?_|refine C0 QW rfl rfl rfl rfl (fun q h=>?_)|refine z1c (fun x i=>by cases i) rfl ?_|refine ZS _ (by simp) (by simp;omega) ?_);conv=>whnf)|(apply bB<;>intro _<;>conv=>whnf))
 all_goals first
  |exact x8y _ (x6e _) (.inl ⟨rfl,rfl,List.map_eq_nil_iff.1 (h (by assumption))⟩)
  |exact x8y _ (x6e _) (SE 0 rfl (by simp))
inductive CutH:Heap->Heap->Prop
 |nil:CutH [] []
 |same {c:Nat×Chunk} {H H':Heap} (h:CutH H H'):CutH (c::H) (c::H')
 |cut {k:Nat} {e:TypeId} {sz:Nat} {es es':List AV} {H H':Heap} (hp:es' <+: es) (h:CutH H H'):CutH ((k,.own e sz es)::H) ((k,.own e sz es')::H')
theorem CutH.get{H H':Heap}(h:CutH H H'):H'.map (·.1)=H.map (·.1)/\∀j c',(j,c')∈H'->(j,c')∈H\/∃e sz es es',(j,Chunk.own e sz es)∈H/\c'=.own e sz es'/\es' <+: es:=by
 induction h with
 |nil=>exact⟨rfl,by simp⟩
 | same h o=>
   refine⟨by simp[o.1],fun j c' i=>?_⟩;rcases x6m.1 i with rfl|i
   .exact .inl x6g
   .rcases o.2 j c' i with m|⟨e,sz,es,es',m,q⟩
    .exact .inl (x6b _ m)
    .exact .inr ⟨e,sz,es,es',x6b _ m,q⟩
 | @cut k e sz es es' H H' r h o=>
   refine⟨by simp[o.1],fun j c' i=>?_⟩;rcases x6m.1 i with i|i
   .cases i;exact .inr ⟨e,sz,es,es',x6g,rfl,r⟩
   .rcases o.2 j c' i with m|⟨e,sz,es,es',m,q⟩
    .exact .inl (x6b _ m)
    .exact .inr ⟨e,sz,es,es',x6b _ m,q⟩
theorem Le.cut{N:Nat}{sl:List (Nat×LV)}{H H':Heap}(h:CutH H H'):Le N ⟨sl,H⟩ ⟨sl,H'⟩:=fun σ β a w o=>by
 obtain⟨v,O⟩:=h.get;refine⟨σ,β,⟨o.size,o.defers,o.G,⟨o.heap.mem,fun j c' q=>?_,by show(H'.map (·.1)).Nodup;rw[v];exact o.heap.nodup,fun j q=>o.heap.apart j (by rw[<-v];exact q),fun j q Q A=>o.heap.inj j (by rw[<-v];exact q) Q (by rw[<-v];exact A)⟩⟩,Mem.le_refl σ,Frm.refl _ w,fun b C u=>absurd C u,fun b ⟨j,q,r⟩=>.inl ⟨j,by rw[<-v];exact q,r⟩,fun _ _ _=>rfl⟩;rcases O j c' q with u|⟨e,sz,es,es',u,rfl,z⟩
 .exact o.heap.chunks j c' u
 .rcases o.heap.chunks j _ u with⟨c,g⟩|⟨i,vs,c,g,D,F,I,J,M⟩
  .refine .inl ⟨c,?_⟩;rw[g]at z;exact List.prefix_nil.1 z
  .exact .inr ⟨i,vs,c,g,D,F,x8s z.length_le I,J,fun m x B=>M m x (by
    obtain⟨t,rfl⟩:=z;rw[x7b (x6n.1 B).1];exact B)⟩
def O1(p:Pg)(id:Int):Option S:=((sheetOf p).l[(id-1).toNat]?).map Item.s
def Ml(p:Pg)(h:List Str)(t:Step):Bool:=decide (t.src=0)||match O1 p t.src with
 |some s=> !(decide (s.kind=4) && !(h.any fun x=>s.D==x))
 |none=>true
def E1(w:Way)(f:Pr)(h:List Str):Bool:=
 (DS 0 (ZO (QO (cntL f.body+2) ((w.real.filter (Ml w.p h)).map (ixP w.p w.j f w.n))).1 [0])).any fun s=>decide (w.n-1=s)
def B1(p:Pg)(st:List Str×Bool)(k:Nat):List Str×Bool:=match p.A[k]?with
 |some f=>bif !(st.1.any fun s=>f.name==s)&&E1 (QQ p k f) f st.1 then(st.1++[f.name],true)else st
 |none=>st
def Ff(p:Pg)(out:List Str):List Str×Bool:=(List.range p.A.length).foldl (B1 p) (out,false)
def RU(p:Pg):Nat->List Str->List Str
 |0,out=>out
 |k+1,out=>bif (Ff p out).2 then RU p k (Ff p out).1 else(Ff p out).1
def Je(p:Pg)(out:List Str):Nat:=p.A.countP fun f=> !(out.any fun s=>f.name==s)
theorem Jx{α:Type}{p q:α->Bool}:∀{l:List α},(∀x∈l,q x=true->p x=true)->(∃x∈l,p x=true/\q x=false)->l.countP q<l.countP p
 |[],_,h=>by obtain⟨x,i,_⟩:=h;cases i
 | a::r,h1,h2=>by
   have t:r.countP q<=r.countP p:=List.countP_mono_left fun x i=>h1 x (x6b _ i);rw[List.countP_cons,List.countP_cons];have o:=h1 a x6g;obtain⟨x,i,m,n⟩:=h2;rcases x6m.1 i with rfl|i
   .rw [m,n];simp;omega
   .have:=Jx (fun y v=>h1 y (x6b _ v)) ⟨x,i,m,n⟩;cases u:q a with
    |true=>rw[o u];simp;omega
    |false=>cases p a<;>simp<;>omega
def EQ{out:List Str}(m:f∈p.A)(h:(out.any fun s=>f.name==s)=false):Je p (out++[f.name])<Je p out:=by
 unfold Je;refine Jx (fun g _ i=>?_) ⟨f,m,by rw[h];rfl,by rw[List.any_append];simp⟩;rw[List.any_append]at i;cases n:out.any fun s=>g.name==s with
 |false=>rfl
 |true=>rw[n]at i;cases i
def endsR(p:Pg):List Str:=bif QS p then YB (RU p (p.A.length+1) [])else []
def We(a b:Step):Prop:=ZN a.src<ZN b.src\/(ZN a.src=ZN b.src/\ZN a.dst<ZN b.dst)
def II(s:Step):Prop:=okSt s/\s.kind=1
def GO{a b:Step}(h:a.src=b.src)(i:a.dst=b.dst)(m:a.kind=b.kind):a=b:=by
 cases a;cases b;simp_all
def HO{a b:Step}:DI a b=true↔ZN a.src<ZN b.src\/(ZN a.src=ZN b.src/\(ZN a.dst<ZN b.dst\/(ZN a.dst=ZN b.dst/\a.kind<b.kind))):=by
 have h:DI a b=decide (Tw a b<0):=rfl;rw[h,x7s];unfold Tw;simp only[orI];split
 .rename_i i;rw[KY]at i;split
  .rename_i m;rw[KY]at m;split
   .rename_i n;rw[KY]at n;omega
   .rw [NY];omega
  .rename_i m;rw[KY]at m;rw[NY];omega
 .rename_i i;rw[KY]at i;rw[NY];omega
def Zk(l:List Step):(JM l).Pairwise fun a b=>DI b a=false:=by
 have:=List.pairwise_mergeSort (le:=fun x y=> !DI y x) (fun a b c i m=>by
  simp only[x9u]at i m⊢;rw[z2u,ne_eq,HO]at i m⊢;omega) (fun a b=>by
  cases i:DI b a with
  |false=>rfl
  | true=>
    have m:DI a b=false:=by
     rw[z2u,ne_eq,HO];rw[HO]at i;omega
    rw[m];rfl) l
 refine List.Pairwise.imp ?_ this;intro a b h;simpa using h
def Ux{a b:Step}(i:II a)(m:II b):ZR a b=true↔a=b:=by
 unfold ZR;simp only[x7y,x7s];refine⟨fun h=>GO h.1 h.2 (by rw[i.2,m.2]),fun h=>by rw[h];exact⟨rfl,rfl⟩⟩
def q5u{a b:Step}(i:II a)(m:II b)(h:DI b a=false)(n:a≠b):We a b:=by
 rw[z2u,ne_eq,HO]at h;unfold We;by_cases o:ZN a.src=ZN b.src
 .by_cases q:ZN a.dst=ZN b.dst
  .exact absurd (GO (HT i.1.1 m.1.1 o) (HT i.1.2 m.1.2 q) (by rw[i.2,m.2])) n
  .omega
 .omega
def Wi{a b c:Step}(h:We a b)(i:We b c):We a c:=by unfold We at*;omega
def DV{a:Step}(h:We a a):False:=by unfold We at h;omega
theorem Xf:∀(l:List Step)(a:Step),II a->(∀s∈l,II s)->(a::l).Pairwise (fun a b=>DI b a=false)->(a::XJ a l).Pairwise We/\∀s,s∈a::XJ a l↔s∈a::l
 |[],a,_,_,_=>⟨by simp[XJ],by simp[XJ]⟩
 | b::r,a,ha,hl,h=>by
   have o:=hl b x6g;have x:∀s∈r,II s:=fun s n=>hl s (x6b _ n);rw[x9i]at h;obtain⟨v,w⟩:=h;obtain⟨t,u⟩:=Xf r b o x w;rw[XJ];cases n:ZR b a with
   | true=>
     obtain rfl:=(Ux o ha).1 n;rw[x7z];exact⟨t,fun s=>by rw[u];simp⟩
   | false=>
     rw[x7k];have q:a≠b:=fun e=>by
      rw[(Ux o ha).2 e.symm]at n;cases n
     have m:=q5u ha o (v b x6g) q;refine⟨?_,fun s=>by rw[x6m,u,<-x6m (a:=s) (b:=a)]⟩;rw[x9i];refine⟨fun s i=>?_,t⟩;rcases x6m.1 i with rfl|i
     .exact m
     .exact Wi m ((x9i.1 t).1 s i)
def CV{l:List Step}(n:∀s∈l,II s):(WA l).Pairwise We/\∀s,s∈WA l↔s∈l:=by
 have m:∀s,s∈JM l↔s∈l:=fun s=>(Ka l).mem_iff;have q:=Zk l;unfold WA;cases o:JM l with
 | nil=>
   rw[o]at m;exact⟨by simp[LO],fun s=>by rw[<-m];simp[LO]⟩
 | cons a r=>
   rw[o]at m q;have i:∀s∈a::r,II s:=fun s h=>n s ((m s).1 h);obtain⟨t,u⟩:=Xf r a (i a x6g) (fun s h=>i s (x6b _ h)) q;exact⟨t,fun s=>by rw[LO,u,m]⟩
theorem Fc:∀{l m:List Step},l.Pairwise We->m.Pairwise We->(∀s,s∈l↔s∈m)->l=m
 |[],[],_,_,_=>rfl
 |[],b::m,_,_,h=>by have:=(h b).2 x6g;cases this
 |a::l,[],_,_,h=>by have:=(h a).1 x6g;cases this
 | a::l,b::m,hl,hm,h=>by
   rw[x9i]at hl hm;have o:a=b:=by
    rcases x6m.1 ((h a).1 x6g)with e|q
    .exact e
    .rcases x6m.1 ((h b).2 x6g)with e|r
     .exact e.symm
     .exact (DV (Wi (hl.1 b r) (hm.1 a q))).elim
   subst o;congr 1;refine Fc hl.2 hm.2 fun s=>⟨fun i=>?_,fun i=>?_⟩
   .rcases x6m.1 ((h s).1 (x6b _ i))with rfl|n
    .exact (DV (hl.1 _ i)).elim
    .exact n
   .rcases x6m.1 ((h s).2 (x6b _ i))with rfl|n
    .exact (DV (hm.1 _ i)).elim
    .exact n
def Lf(h:QS p=true)(n:p.A[j]?=some f):∀s∈QG p j f,II s:=by
 obtain⟨_,_,m⟩:=BI h n;intro s i;refine⟨m s i,?_⟩;unfold QG at i;rcases x6m.1 i with rfl|i
 .rfl
 .obtain ⟨it,_,o⟩:=x8w.1 i;obtain⟨y,_,rfl⟩:=x6r.1 o;rfl
def KF(h:QS p=true)(i:p.A[j]?=some f):(QQ p j f).real.Pairwise We/\∀s,s∈(QQ p j f).real↔s∈QG p j f:=CV (Lf h i)
def q0p(h:QS p=true)(o:p.A[j]?=some f){s:Step}(i:s∈QG p j f):s=⟨0,x1r p j f,1⟩\/(1<=s.src/\s.src<=9223372036854775806):=by
 obtain⟨_,_,r⟩:=XZ h;obtain⟨_,_,_,q,n⟩:=QY p;obtain⟨_,_,t,_⟩:=n j f o;unfold QG at i;rcases x6m.1 i with rfl|i
 .exact .inl rfl
 .obtain ⟨it,m,u⟩:=x8w.1 i;obtain⟨y,_,rfl⟩:=x6r.1 u;have:=WD (QJ h).1 o (JC m);refine .inr ?_;simp only;omega
def P8:Fit someP:=by unfold Fit;decide
def P7:QS someP=true:=by kernel_rfl
def f0:Pr:=someP.A[0]'(by decide)
def f1:Pr:=someP.A[1]'(by decide)
def q9w:WA (QG someP 0 f0)=[⟨0,1,1⟩,⟨1,2,1⟩,⟨2,3,1⟩,⟨3,4,1⟩,⟨4,-1,1⟩]:=by
 have h:QG someP 0 f0=[⟨0,1,1⟩,⟨1,2,1⟩,⟨2,3,1⟩,⟨3,4,1⟩,⟨4,-1,1⟩]:=by kernel_rfl
 unfold WA JM;rw[h,List.mergeSort_of_pairwise (by decide)];rfl
def q9v:WA (QG someP 1 f1)=[⟨0,5,1⟩,⟨5,6,1⟩,⟨6,7,1⟩,⟨6,8,1⟩,⟨7,-1,1⟩,⟨8,-1,1⟩]:=by
 have h:QG someP 1 f1=[⟨0,5,1⟩,⟨5,6,1⟩,⟨6,7,1⟩,⟨6,8,1⟩,⟨7,-1,1⟩,⟨8,-1,1⟩]:=by kernel_rfl
 unfold WA JM;rw[h,List.mergeSort_of_pairwise (by decide)];rfl
def RE(n k:Int):Int:=if k<1 then 0 else if n.tmod k<0 then n.tmod k+k else n.tmod k
def Bh{n k:Int}(i:0<k):0<=RE n k/\RE n k<k:=by
 unfold RE;have o:=Int.tmod_lt_of_pos n i;have q : -k<n.tmod k:=by
  rcases Int.le_total 0 n with h|h
  .have:=Int.tmod_nonneg k h;omega
  .have m:=Int.tmod_lt_of_pos (-n) i;rw[Int.neg_tmod]at m;omega
 rw[if_neg (by omega)];split<;>omega
def Ua(n k:Int)(m:k<=1000000):SpecP prog 39 [.int .i64 n,.int .i64 k] (fun r=>r=.int .i64 (RE n k)):=by
 refine sB X6 func39 rfl call39 ?_;conv=>whnf
 have i:=fun h:0<k=>Bh (n:=n) h;repeat' (first|(refine x6d (by omega) ?_;conv=>whnf)|(apply bD<;>intro _<;>first|omega|conv=>whnf))
 all_goals first
  | (refine Wr.i64 (by have:=i (by omega);unfold RE at this;rw[if_neg (by omega),if_pos (by assumption)]at this;omega) (by have:=i (by omega);unfold RE at this;rw[if_neg (by omega),if_pos (by assumption)]at this;omega) ?_
     conv=>whnf
     exact RetK.int (by unfold RE;rw[if_neg (by assumption),if_pos (by assumption)]))
  |exact RetK.int (by unfold RE;rw[if_pos (by assumption)])
  |exact RetK.int (by unfold RE;rw[if_neg (by assumption),if_neg (by assumption)])
def inS(l:List Str)(x:Str):Bool:=l.any fun y=>y==x
def XX(l:List Str)(x:Str):SpecP prog 24 [eStrs l,.str x] (fun r=>r=.bool (inS l x)):=by
 refine sB Wq func24 rfl call24 ?_;conv=>whnf
 repeat' (refine iM fun _=>?_;conv=>whnf)
 have n:(l.map AV.str).length=l.length:=x6j _;refine LoopK.inv QW (fun j:Nat=>⟨[(0,.p (eStrs l)),(1,.p (.str x)),(7,.p (.int .i64 (l.map AV.str).length)),(8,.p (.int .i64 j))],[]⟩) (fun j=>j<=l.length/\(l.drop j).any (fun y=>y==x)=inS l x) (fun j=>l.length-j) 0 (Le.of_eq rfl) ⟨x6t _,rfl⟩ ?_;rintro j ⟨m,i⟩;rcases x6c j l.length with h|h
 .conv=>whnf
  repeat' (first|((first|(refine iA fun _=>?_)|refine wI ?_);conv=>whnf)|(apply bD<;>intro _<;>first|omega|conv=>whnf)|(apply bB<;>intro _<;>conv=>whnf))
  .exact RetK.tt (by rw[<-i,J2 h (by assumption)])
  .exact ⟨j+1,⟨h,by rw[Ve h (by assumption)];exact i⟩,by omega,Le.of_eq rfl⟩
 .conv=>whnf
  repeat' (apply bD<;>intro _<;>first|omega|conv=>whnf)
  exact RetK.ff (by rw[<-i,BC h])
def GR(p:Pg)(n:Int):Str:=match p.A[(RE n p.A.length).toNat]?with
 |some f=>f.name
 |none=>[]
def Qb(p:Pg)(n:Int)(v:p.A.length<=21000):SpecP prog 14 [.agg p.cells,.int .i64 n] (fun r=>r=.str (GR p n)):=by
 refine sB BP func14 rfl call14 ?_;conv=>whnf
 have u:(p.A.map fun f=>AV.agg f.cells).length=p.A.length:=x6j _;have o:=fun h:0<(p.A.length:Int)=>Bh (n:=n) h;repeat' (first|((first|(refine iM fun _=>?_)|refine dA ?_|(refine CallK.pure (Ua n (p.A.length:Int) (by omega)) (.cons (Sub.refl _) (.cons (Sub.int (by omega)) .nil)) ?_;rintro _ rfl));conv=>whnf)|(apply bD<;>intro _<;>first|omega|conv=>whnf))
 .refine RetK.p ?_;have m:p.A=[]:=List.length_eq_zero_iff.1 (by omega);unfold GR;rw[m];rfl
 .obtain ⟨q,t⟩:=o (by omega);have i:(RE n p.A.length).toNat<p.A.length:=by omega
  refine IdxK.at (k:=(RE n p.A.length).toNat) (e:=.agg p.A[(RE n p.A.length).toNat].cells) (by omega) (by rw[x6a,x6k i];rfl) rfl ?_;conv=>whnf
  skip
  exact RetK.p (by unfold GR;rw[x6k i])
theorem Ku{α β:Type}{f:α->β}:∀{l:List α},(l.map f).Nodup->∀a∈l,∀b∈l,f a=f b->a=b
 |[],_,a,ha,_,_,_=>by cases ha
 | c::r,h,a,ha,b,hb,e=>by
   rw[x7l,x8k]at h;rcases x6m.1 ha with m|m
   .rcases x6m.1 hb with i|i
    .rw [m,i]
    .exact (h.1 (x6r.2 ⟨b,i,by rw[<-e,m]⟩)).elim
   .rcases x6m.1 hb with i|i
    .exact (h.1 (x6r.2 ⟨a,m,by rw[e,i]⟩)).elim
    .exact Ku h.2 a m b i e
theorem PF{α:Type}[DecidableEq α]:∀{l m:List α},l.Nodup->(∀s∈l,s∈m)->l.length<=m.length
 |[],m,_,_=>x6t _
 | a::r,m,h,hs=>by
   rw[x8k]at h;have n:=hs a x6g;have o:=PF (m:=m.erase a) h.2 fun s i=>(List.mem_erase_of_ne (fun e=>h.1 (by rw[<-e];exact i))).2 (hs s (x6b _ i));rw[List.length_erase_of_mem n]at o;have:=z2w n;simp only[x7g];omega
def Cb(n c:Nat):(JK n c).Nodup:=by
 unfold JK Nodup;rw[List.pairwise_map];exact List.Pairwise.imp (fun h e=>h (by omega)) (List.nodup_range' (s:=n+1) (n:=c) (step:=1))
def Bu(i:YH p=true)(h:p.A[j]?=some f):(itsOf p j f).map (fun it=>it.s.id)=JK (QH p.A j) (cntL f.body):=by
 rw[<-RS i h,<-BU (j:Nat) 0 (-1) 0 (QH p.A j) f.body,z1s];rfl
def Em(o:YH p=true)(n:p.A[j]?=some f){a b:Item}(i:a∈itsOf p j f)(m:b∈itsOf p j f)(h:a.s.id=b.s.id):a=b:=
 Ku (f:=fun it:Item=>it.s.id) (by rw[Bu o n];exact Cb _ _) a i b m h
def q4o{t:S}(h:t∈flL f.body):∃it∈itsOf p j f,it.s=t:=by
 rw[<-BU (j:Nat) 0 (-1) 0 (QH p.A j) f.body]at h;obtain⟨it,i,m⟩:=x6r.1 h;exact⟨it,i,m⟩
def OE{l:List Step}(h:l.Pairwise We):l.Nodup:=h.imp fun h e=>by subst e;exact DV h
def OW{n c:Nat}{a:Int}(h:(n:Int)+1<=a)(i:a<=(n+c:Nat)):a∈JK n c:=by
 unfold JK;refine x6r.2 ⟨a.toNat,List.mem_range'.2 ⟨a.toNat-(n+1),by omega,by omega⟩,by omega⟩
def E3(h:QS p=true):p.A.length<=21000:=by have:=(XZ h).2.1;omega
inductive Rch{α:Type}(R:α->α->Prop)(a:α):α->Prop
 |refl:Rch R a a
 |tail {b c:α} (h:Rch R a b) (hr:R b c):Rch R a c
theorem Rch.trans{α:Type}{R:α->α->Prop}{a b c:α}(h:Rch R a b)(i:Rch R b c):Rch R a c:=by
 induction i with
 |refl=>exact h
 |tail _ m o=>exact .tail o m
theorem Rch.head{α:Type}{R:α->α->Prop}{a b c:α}(i:R a b)(h:Rch R b c):Rch R a c:=Rch.trans (.tail .refl i) h
theorem Rch.mono{α:Type}{R R':α->α->Prop}(h:∀x y,R x y->R' x y){a b:α}(i:Rch R a b):Rch R' a b:=by
 induction i with
 |refl=>exact .refl
 |tail _ i m=>exact .tail m (h _ _ i)
theorem Rch.closed{α:Type}{R:α->α->Prop}{S:α->Prop}(i:∀x y,S x->R x y->S y){a b:α}(m:S a)(h:Rch R a b):S b:=by
 induction h with
 |refl=>exact m
 |tail _ o q=>exact i _ _ q o
structure WkM(n:Nat)(st:List Bool×List Int):Prop where
 inv:wkInv n st
 mem:∀x,x∈st.2↔(0<=x/\x<n)/\st.1.getD x.toNat false=true
theorem WkM.start(n:Nat):WkM n (List.replicate n false,[]):=⟨Ql n,fun x=>by
 simp only[not_mem_nil,false_iff,not_and];intro _;rw[x6h,x7c];split<;>simp⟩
theorem WkM.see{n:Nat}{st:List Bool×List Int}(h:WkM n st){b:Int}(q:0<=b/\b<n):WkM n (GU st b)/\(∀x,x∈(GU st b).2↔x∈st.2\/x=b)/\st.2 <+: (GU st b).2:=by
 have t:=Zw h.inv q;cases r:st.1.getD b.toNat false with
 | true=>
   have e:GU st b=st:=by unfold GU;rw[r];rfl
   rw[e];refine⟨h,fun x=>⟨.inl,fun m=>?_⟩,List.prefix_refl _⟩;rcases m with m|rfl
   .exact m
   .exact (h.mem _).2 ⟨q,r⟩
 | false=>
   have e:GU st b=(st.1.set b.toNat true,st.2++[b]):=by unfold GU;rw[r];rfl
   rw[e]at t⊢;have u:=h.inv.1;refine⟨⟨t,fun x=>?_⟩,fun x=>by simp,List.prefix_append _ _⟩;rw[x6s,x6p,h.mem];simp only[x6h,x9r];by_cases m:x=b
   .subst m;rw[if_pos rfl,if_pos (by omega)];simp[q]
   .constructor
    .rintro (⟨o,i⟩|i)
     .refine ⟨o,?_⟩;rw[if_neg (by omega)];exact i
     .exact absurd i m
    .rintro ⟨o,i⟩;rw[if_neg (by omega)]at i;exact .inl ⟨o,i⟩
theorem WkM.fold{n:Nat}:∀(l:List Int){st:List Bool×List Int},WkM n st->(∀b∈l,0<=b/\b<n)->WkM n (l.foldl GU st)/\(∀x,x∈(l.foldl GU st).2↔x∈st.2\/x∈l)/\st.2 <+: (l.foldl GU st).2
 |[],st,h,_=>⟨h,fun x=>by simp,List.prefix_refl _⟩
 | b::r,st,h,hl=>by
   obtain⟨i,m,o⟩:=h.see (hl b x6g);obtain⟨q,t,u⟩:=WkM.fold r i fun c v=>hl c (x6b _ v);refine⟨q,fun x=>?_,o.trans u⟩;rw[x9p,t,m,x6m,or_assoc]
def Be(h:List (List Int))(x y:Int):Prop:=y∈h.getD x.toNat []
def PT{n:Nat}{i:List (List Int)}(o:XD n i){x:Int}(h:Be i x y):0<=y/\y<n:=by
 unfold Be at h;rw[x6h]at h;cases m:i[x.toNat]?with
 |none=>rw[m]at h;simp at h
 |some r=>rw[m]at h;exact o.2 r (x7j m) y h
def Fj{α:Type}{l m:List α}(h:l <+: m){i:Nat}{a:α}(n:l[i]?=some a):m[i]?=some a:=by
 obtain⟨t,rfl⟩:=h;rw[x7b (x6n.1 n).1];exact n
theorem Gq{n:Nat}{o:List (List Int)}(G:XD n o):∀(k i:Nat){st:List Bool×List Int},WkM n st->i<=st.2.length->n+1<=k+i->(∀(m:Nat)(a:Int),m<i->st.2[m]?=some a->∀b,Be o a b->b∈st.2)->
  WkM n (ZD o k i st)/\(∀x∈st.2,x∈(ZD o k i st).2)/\(∀x∈(ZD o k i st).2,∀b,Be o x b->b∈(ZD o k i st).2)/\(∀S:Int->Prop,(∀x∈st.2,S x)->(∀x b,S x->Be o x b->S b)->∀x∈(ZD o k i st).2,S x)
 | 0,i,st,h,hi,hk,_=>by
   have:=NZ h.inv;omega
 | k+1,i,st,h,hi,hk,hc=>by
   rw[ZD];split
   .rename_i a u;have C:=(x6n.1 u).1;have e:∀b∈o.getD a.toNat [],0<=b/\b<n:=fun b t=>PT G t;obtain⟨H,A,B⟩:=h.fold (o.getD a.toNat []) e;obtain⟨I,J,M,O⟩:=Gq G k (i+1) H (x8s C B.length_le) (by omega) fun m c D r b t=>by
     rw[A];rcases x6c m i with z|z
     .have d:m<st.2.length:=by omega
      have w:st.2[m]?=some c:=by
       have:=Fj B (x6k d);rw[x6k d,<-this,r]
      exact .inl (hc m c z w b t)
     .obtain rfl:m=i:=by omega
      have:=Fj B u;rw[this]at r;cases r;exact .inr t
    refine⟨I,fun x q=>J x ((A x).2 (.inl q)),M,fun S g v=>O S (fun x q=>?_) v⟩;rcases(A x).1 q with q|q
    .exact g x q
    .exact v a x (g a (x7j u)) q
   .rename_i u;have F:st.2.length<=i:=List.getElem?_eq_none_iff.1 u;refine⟨h,fun x q=>q,fun x q b t=>?_,fun S g _=>g⟩;obtain⟨m,D⟩:=x9s.1 q;exact hc m x (by have:=(x6n.1 D).1;omega) D b t
theorem Vv{n:Nat}:∀(l:List Int){st:List Bool×List Int},WkM n st->WkM n (l.foldl (fun st a=>bif WV n a then GU st a else st) st)/\∀x,x∈(l.foldl (fun st a=>bif WV n a then GU st a else st) st).2↔x∈st.2\/(x∈l/\WV n x=true)
 |[],st,h=>⟨h,fun x=>by simp⟩
 | a::r,st,h=>by
   rw[x9p];cases t:WV n a with
   | true=>
     obtain⟨u,v,_⟩:=h.see (ZK t);obtain⟨o,q⟩:=Vv r u;rw[x7z];refine⟨o,fun x=>?_⟩;rw[q,v,x6m];constructor
     .rintro ((i|rfl)|⟨i,m⟩)
      .exact .inl i
      .exact .inr ⟨.inl rfl,t⟩
      .exact .inr ⟨.inr i,m⟩
     .rintro (i|⟨rfl|i,m⟩)
      .exact .inl (.inl i)
      .exact .inl (.inr rfl)
      .exact .inr ⟨i,m⟩
   | false=>
     obtain⟨o,q⟩:=Vv r h;rw[x7k];refine⟨o,fun x=>?_⟩;rw[q,x6m];constructor
     .rintro (i|⟨i,m⟩)
      .exact .inl i
      .exact .inr ⟨.inr i,m⟩
     .rintro (i|⟨rfl|i,m⟩)
      .exact .inl i
      .rw [t]at m;cases m
      .exact .inr ⟨i,m⟩
theorem Sq:∀(l:List Bool)(i:Nat)(y:Int),y∈DS i l ↔ ∃k:Nat,l[k]?=some true/\y=((i+k:Nat):Int)
 |[],i,y=>by simp[DS]
 | b::r,i,y=>by
   have n:=Sq r (i+1) y;have key:(∃k:Nat,(b::r)[k]?=some true/\y=((i+k:Nat):Int))↔(b=true/\y=(i:Int))\/∃k:Nat,r[k]?=some true/\y=((i+1+k:Nat):Int):=by
    constructor
    .rintro ⟨k,h,m⟩;cases k with
     |zero=>simp at h;exact .inl ⟨h,by simpa using m⟩
     |succ k=>exact .inr ⟨k,by simpa using h,by rw[m];omega⟩
    .rintro (⟨h,m⟩|⟨k,h,m⟩)
     .exact ⟨0,by simp[h],by simpa using m⟩
     .exact ⟨k+1,by simpa using h,by rw[m];omega⟩
   rw[key,<-n,DS];cases b<;>simp
def Lx{n:Nat}{h:List (List Int)}(u:XD n h)(l:List Int)(y:Int):y∈DS 0 (ZO h l) ↔ ∃a∈l,WV n a=true/\Rch (Be h) a y:=by
 obtain⟨d,e⟩:=Vv (n:=n) l (WkM.start n);obtain⟨v,g,A,B⟩:=Gq u (h.length+1) 0 (st:=PE h.length l) (by rw[u.1];exact d) (x6t _) (by rw[u.1];omega) (fun m a D=>by omega);have t:∀x,x∈(PE h.length l).2↔x∈l/\WV n x=true:=fun x=>by
  rw[u.1];unfold PE;rw[e];simp
 have r:∀y,y∈DS 0 (ZO h l)↔y∈(ZD h (h.length+1) 0 (PE h.length l)).2:=fun y=>by
  rw[Sq,v.mem];show(∃k:Nat,(ZD h (h.length+1) 0 (PE h.length l)).1[k]?=some true/\_)↔_;constructor
  .rintro ⟨k,o,i⟩;have q:=(x6n.1 o).1;rw[v.inv.1]at q;refine⟨by omega,?_⟩;rw[i,x6h];simp[o]
  .rintro ⟨o,i⟩;have q:y.toNat<(ZD h (h.length+1) 0 (PE h.length l)).1.length:=by rw[v.inv.1];omega
   refine⟨y.toNat,?_,by omega⟩;rw[x6h,x6k q]at i;rw[x6k q];simpa using i
 rw[r];constructor
 .intro C;refine B (fun y=>∃a∈l,WV n a=true/\Rch (Be h) a y) (fun x c=>?_) (fun x b ⟨a,o,i,w⟩ z=>⟨a,o,i,.tail w z⟩) y C;obtain⟨o,i⟩:=(t x).1 c;exact⟨x,o,i,.refl⟩
 .rintro ⟨a,o,i,w⟩;exact w.closed (S:=fun y=>y∈(ZD h (h.length+1) 0 (PE h.length l)).2) (fun x b c z=>A x c b z) (g a ((t a).2 ⟨o,i⟩))
def TC{l:List Int}{k:Nat}{b x:Int}:x∈U6 l k b↔x∈l\/x=b:=by
 unfold U6;rw[x6s,x6m];have:x∈l↔x∈l.take k\/x∈l.drop k:=by rw[<-x6s,z1b]
 rw[this];constructor
 .rintro (h|h|h)
  .exact .inl (.inl h)
  .exact .inr h
  .exact .inl (.inr h)
 .rintro ((h|h)|h)
  .exact .inl h
  .exact .inr (.inr h)
  .exact .inr (.inl h)
def O8{n:Nat}{g:List (List Int)×List (List Int)}(u:g.1.length=n)(e:Int×Int){x:Int}(r:0<=x/\x<n):y∈(Pd n g e).1.getD x.toNat []↔y∈g.1.getD x.toNat []\/((x,y)=e/\WV n y=true):=by
 rw[Yo];cases i:(WV n e.1&&WV n e.2 && !(g.1.getD e.1.toNat []).contains e.2)with
 | true=>
   simp only[x7y,x9u]at i;obtain⟨⟨o,q⟩,_⟩:=i;have t:=ZK o;rw[x7z];unfold Fk;rw[x6h,x9r];by_cases m:e.1.toNat=x.toNat
   .rw [if_pos m,if_pos (by omega)];simp only[x9h];rw[TC,<-m];have:x=e.1:=by omega
    constructor
    .rintro (h|h)
     .exact .inl h
     .exact .inr ⟨by rw[this,h],by rw[h];exact q⟩
    .rintro (h|⟨h,_⟩)
     .exact .inl h
     .exact .inr (by rw[<-h])
   .rw [if_neg m,<-x6h];constructor
    .exact .inl
    .rintro (h|⟨h,_⟩)
     .exact h
     .exact absurd (by rw[<-h]) m
 | false=>
   rw[x7k];constructor
   .exact .inl
   .rintro (h|⟨rfl,h⟩)
    .exact h
    .have o:WV n x=true:=by unfold WV;simp[r]
     simp only[o,h,z1j,Bool.not_eq_false']at i;simpa using i
def Tt{n:Nat}{g:List (List Int)×List (List Int)}(h:g.1.length=n)(e:Int×Int):(Pd n g e).1.length=n:=by
 rw[Yo];cases(WV n e.1&&WV n e.2 && !(g.1.getD e.1.toNat []).contains e.2)with
 |true=>rw[x7z];unfold Fk;rw[x8i];exact h
 |false=>exact h
theorem Mh{n:Nat}{x y:Int}(o:0<=x/\x<n):∀(l:List (Int×Int)){g:List (List Int)×List (List Int)},g.1.length=n->(y∈(l.foldl (Pd n) g).1.getD x.toNat []↔y∈g.1.getD x.toNat []\/((x,y)∈l/\WV n y=true))
 |[],g,_=>by simp
 | e::r,g,h=>by
   rw[x9p,Mh o r (Tt h e),O8 h e o,x6m];constructor
   .rintro ((i|⟨i,m⟩)|⟨i,m⟩)
    .exact .inl i
    .exact .inr ⟨.inl i,m⟩
    .exact .inr ⟨.inr i,m⟩
   .rintro (i|⟨i|i,m⟩)
    .exact .inl (.inl i)
    .exact .inl (.inr ⟨i,m⟩)
    .exact .inr ⟨i,m⟩
def NH{n:Nat}{l:List (Int×Int)}{x:Int}(h:0<=x/\x<n):Be (QO n l).1 x y↔(x,y)∈l/\WV n y=true:=by
 unfold Be QO;rw[Mh h l (by simp)];have:(List.replicate n ([]:List Int)).getD x.toNat []=[]:=by
  rw[x6h,x7c];split<;>rfl
 rw[this];simp
def Jb{n:Nat}{l:List (Int×Int)}(u:0<n)(y:Int):y∈DS 0 (ZO (QO n l).1 [0])↔Rch (fun a b=>(a,b)∈l/\WV n b=true) 0 y:=by
 rw[Lx (HB n l).1];have t:WV n 0=true:=by unfold WV;simp;omega
 constructor
 .rintro ⟨a,r,_,h⟩;obtain rfl:a=0:=by simpa using r
  exact(h.closed (S:=fun x:Int=>(0<=x/\x<n)/\Rch (fun a b=>(a,b)∈l/\WV n b=true) 0 x) (fun x y ⟨m,o⟩ i=>by
   have q:=(NH m).1 i;exact⟨ZK q.2,.tail o q⟩) ⟨⟨by omega,by omega⟩,.refl⟩).2
 .intro h;refine⟨0,by simp,t,?_⟩;exact(h.closed (S:=fun x:Int=>(0<=x/\x<n)/\Rch (Be (QO n l).1) 0 x) (fun x y ⟨m,o⟩ i=>⟨ZK i.2,.tail o ((NH m).2 i)⟩) ⟨⟨by omega,by omega⟩,.refl⟩).2
def stR(F:List Step)(a b:Int):Prop:=∃s∈F,s.src=a/\s.dst=b
def plP(p:Pg)(j:Nat)(f:Pr)(x:Int):Prop:=x=0\/x = -1\/((QH p.A j:Int)+1<=x/\x<=(QH p.A j+cntL f.body:Nat))
def ixI(p:Pg)(j:Nat)(f:Pr)(x:Int):Int:=KJ (loI p j) (hiI p j f) (cntL f.body+2:Nat) x
def HN{x:Int}(h:plP p j f x):0<=ixI p j f x/\ixI p j f x<(cntL f.body+2:Nat):=by
 unfold ixI KJ loI hiI;unfold plP at h
 (repeat' split)<;>omega
def Mp{x:Int}(i:plP p j f x)(m:plP p j f y)(h:ixI p j f x=ixI p j f y):x=y:=by
 unfold ixI KJ loI hiI at h;unfold plP at i m
 (repeat' split at h)<;>omega
def Fe{F:List Step}(v:∀s∈F,plP p j f s.src/\plP p j f s.dst)(A:plP p j f y):
  ixI p j f y∈DS 0 (ZO (QO (cntL f.body+2) (F.map (ixP p j f (cntL f.body+2:Nat)))).1 [0])↔Rch (stR F) 0 y:=by
 rw[Jb (by omega)];have t:ixI p j f 0=0:=by unfold ixI KJ;rw[if_pos rfl]
 have x:plP p j f 0:=.inl rfl;constructor
 .intro h;obtain⟨z,o,m,r⟩:=h.closed (S:=fun i=>∃z,plP p j f z/\ixI p j f z=i/\Rch (stR F) 0 z) (by
   rintro a b ⟨z,o,m,r⟩ ⟨g,_⟩;obtain⟨s,n,w⟩:=x6r.1 g;obtain⟨u,q⟩:=v s n;have c:ixI p j f s.src=a:=x8m Prod.fst w;have d:ixI p j f s.dst=b:=x8m Prod.snd w;have e:s.src=z:=Mp u o (by rw[c,m]);exact⟨s.dst,q,d,.tail r ⟨s,n,e,rfl⟩⟩) ⟨0,x,t,.refl⟩
  rw[<-Mp o A m];exact r
 .intro h;have:=h.closed (S:=fun z=>plP p j f z/\Rch (fun a b=>(a,b)∈F.map (ixP p j f (cntL f.body+2:Nat))/\WV (cntL f.body+2) b=true) 0 (ixI p j f z)) (by
   rintro a b ⟨o,m⟩ ⟨s,n,rfl,rfl⟩;obtain⟨u,q⟩:=v s n;refine⟨q,.tail m ⟨x6r.2 ⟨s,n,rfl⟩,?_⟩⟩;have:=HN q;unfold WV;simp only[x7y,x7s];exact this) ⟨x,by rw[t];exact .refl⟩
  exact this.2
def VE(h:QS p=true)(i:p.A[j]?=some f):∀s∈(QQ p j f).real,plP p j f s.src/\plP p j f s.dst:=fun s q=>by
 obtain⟨_,m⟩:=KF h i;obtain⟨_,n,_⟩:=BI h i;obtain⟨r,o⟩:=n s ((m s).1 q);unfold okI at o;unfold plP;omega
def q4g(p:Pg)(k:Nat)(f:Pr)(E:List Str):Prop:=Rch (stR ((QQ p k f).real.filter (Ml p E))) 0 (-1)
def Ni(h:QS p=true){k:Nat}(o:p.A[k]?=some f)(E:List Str):E1 (QQ p k f) f E=true↔q4g p k f E:=by
 unfold q4g;rw[<-Fe (p:=p) (j:=k) (f:=f) (fun s q=>VE h o s (x7o.1 q).1) (y := -1) (.inr (.inl rfl))];unfold E1;rw[x8z];have n:ixI p k f (-1)=((cntL f.body+2:Nat):Int)-1:=by unfold ixI KJ;rw[if_neg (by omega),if_pos rfl]
 rw[n];constructor
 .rintro ⟨x,i,m⟩;have m:((cntL f.body+2:Nat):Int)-1=x:=of_decide_eq_true m;rw[m];exact i
 .intro i;exact⟨_,i,x8r rfl⟩
def x4p(E:List Str)(s:Str):Bool:=E.any fun x=>s==x
def Bg{s:Str}:x4p E s=true↔s∈E:=by
 unfold x4p;rw[x8z];constructor
 .rintro ⟨x,i,m⟩;have:s=x:=by simpa using m
  rw[this];exact i
 .intro h;exact⟨s,h,by simp⟩
def Cc{m:List Str}(h:∀s∈E,s∈m){t:Step}(i:Ml p E t=true):Ml p m t=true:=by
 unfold Ml at i⊢;rw[z1q]at i⊢;rcases i with i|i
 .exact .inl i
 .refine .inr ?_;split at i
  .simp only[x9u,z0b,Bool.not_eq_false']at i⊢;rcases i with i|i
   .exact .inl i
   .exact .inr (Bg.2 (h _ (Bg.1 i)))
  .rfl
def Xp{k:Nat}{i:List Str}(h:∀s∈E,s∈i)(r:q4g p k f E):q4g p k f i:=by
 refine r.mono fun x y ⟨s,t,m,n⟩=>⟨s,?_,m,n⟩;obtain⟨o,q⟩:=x7o.1 t;exact x7o.2 ⟨o,Cc h q⟩
theorem Wd{p:Pg}:∀(l:List Nat)(o:List Str)(b:Bool),(l.foldl (B1 p) (o,b)).2=false->b=false/\(l.foldl (B1 p) (o,b)).1=o/\∀k∈l,B1 p (o,false) k=(o,false)
 |[],o,b,h=>⟨h,rfl,by simp⟩
 | k::r,o,b,h=>by
   rw[x9p]at h⊢;have i:B1 p (o,b) k=(o,b)\/(B1 p (o,b) k).2=true:=by
    unfold B1;split
    .rename_i f _;cases(!((o,b).1.any fun s=>f.name==s)&&E1 (QQ p k f) f (o,b).1)with
     |true=>exact .inr rfl
     |false=>exact .inl rfl
    .exact .inl rfl
   rcases i with i|i
   .rw [i]at h⊢;obtain⟨n,t,u⟩:=Wd r o b h;refine⟨n,t,fun m q=>?_⟩;rcases x6m.1 q with rfl|q
    .rw [<-n];rw[n]at i⊢;exact i
    .exact u m q
   .have:=(Wd r (B1 p (o,b) k).1 (B1 p (o,b) k).2 h).1;rw[i]at this;cases this
def Hh(p:Pg)(out:List Str):Prop:=∀s∈out,∃(k:Nat) (f:Pr),p.A[k]?=some f/\f.name=s/\q4g p k f out
def Oh(u:QS p=true){st:List Str×Bool}(h:Hh p st.1)(k:Nat):Hh p (B1 p st k).1/\Je p (B1 p st k).1+(B1 p st k).2.toNat<=Je p st.1+st.2.toNat:=by
 unfold B1;split
 .rename_i f m;cases n:(!(st.1.any fun s=>f.name==s)&&E1 (QQ p k f) f st.1)with
  | true=>
    rw[x7z];simp only[x7y,x9u]at n;have x:=EQ (p:=p) (out:=st.1) (x7j m) n.1;have v:=(Ni u m st.1).1 n.2;refine⟨fun s i=>?_,?_⟩
    .rcases x6s.1 i with i|i
     .obtain ⟨w,o,q,r,t⟩:=h s i;exact⟨w,o,q,r,Xp (fun s i=>x6s.2 (.inl i)) t⟩
     .obtain rfl:=x6p.1 i;exact⟨k,f,m,rfl,Xp (fun s i=>x6s.2 (.inl i)) v⟩
    .simp only[z1e];omega
  |false=>exact⟨h,x7u _⟩
 .exact ⟨h,x7u _⟩
theorem M5{p:Pg}(i:QS p=true):∀(l:List Nat){st:List Str×Bool},Hh p st.1->Hh p (l.foldl (B1 p) st).1/\Je p (l.foldl (B1 p) st).1+(l.foldl (B1 p) st).2.toNat<=Je p st.1+st.2.toNat
 |[],st,h=>⟨h,x7u _⟩
 | k::r,st,h=>by
   obtain⟨m,o⟩:=Oh i h k;obtain⟨n,q⟩:=M5 i r m;rw[x9p];exact⟨n,by omega⟩
theorem Hf{p:Pg}(q:QS p=true):∀(k:Nat){out:List Str},Je p out<k->Hh p out->Hh p (RU p k out)/\(∀s∈out,True)/\∀(m:Nat)(f:Pr),p.A[m]?=some f->q4g p m f (RU p k out)->f.name∈RU p k out
 |0,out,h,_=>by omega
 | k+1,out,h,hi=>by
   obtain⟨x,u⟩:=M5 q (List.range p.A.length) (st:=(out,false)) hi;rw[RU];cases w:(Ff p out).2 with
   | true=>
     rw[x7z];have t:((List.range p.A.length).foldl (B1 p) (out,false)).2=true:=w;rw[t]at u;simp only[z1e,Bool.toNat_false]at u;have n:Je p (Ff p out).1<k:=by show Je p ((List.range p.A.length).foldl (B1 p) (out,false)).1<k;omega
     obtain⟨o,_,i⟩:=Hf q k n x;exact⟨o,fun _ _=>trivial,i⟩
   | false=>
     rw[x7k];obtain⟨_,n,o⟩:=Wd (List.range p.A.length) out false w;have n:(Ff p out).1=out:=n;rw[n];refine⟨hi,fun _ _=>trivial,fun m f r z=>?_⟩;have i:=o m (x9l.2 (x6n.1 r).1);unfold B1 at i;rw[r]at i;simp only at i;cases v:(out.any fun s=>f.name==s)with
     |true=>exact Bg.1 v
     | false=>
       rw[v,(Ni q r out).2 z]at i;have:=x8m Prod.snd i;cases this
def EX(p:Pg):Je p []<=p.A.length:=z2j
def Yg(h:XF l=false):l.Nodup:=by
 unfold XF at h;rw[z0i]at h;unfold Nodup;rw[List.pairwise_iff_getElem];intro i j r m q o;have n:=h j (x9l.2 m);apply n;rw[x8z];refine⟨l[i],?_,?_⟩
 .exact x8v.2 ⟨i,by simp;omega,by simp⟩
 .rw [x6k m];simp[o]
def K8(h:QS p=true):(procsN p).Nodup:=by
 obtain⟨n,m,_⟩:=QJ h;unfold QA at m;rw[n,x7z]at m;cases i:ZX p with
 |true=>rw[i]at m;cases m
 | false=>
   unfold ZX at i;simp only[z0e]at i;exact Yg i.2.1
def NN(h:QS p=true){k:Nat}{g:Pr}(o:p.A[j]?=some f)(n:p.A[k]?=some g)(r:f.name=g.name):j=k/\f=g:=by
 have t:=K8 h;have i:(procsN p)[j]?=some f.name:=by simp[procsN,o]
 have q:(procsN p)[k]?=some g.name:=by simp[procsN,n]
 rw[r]at i;have m:=(x6n.1 i).1;obtain rfl:j=k:=(List.getElem?_inj m t).1 (i.trans q.symm);rw[o]at n;exact⟨rfl,x8l n⟩
def Of(h:QS p=true){k:Nat}(m:p.A[k]?=some f):f.name∈endsR p↔q4g p k f (endsR p):=by
 obtain⟨n,_,o⟩:=Hf h (p.A.length+1) (out:=[]) (by have:=EX p;omega) (fun s i=>by cases i);have e:∀s,s∈endsR p↔s∈RU p (p.A.length+1) []:=fun s=>by unfold endsR;rw[h,x7z,PC]
 rw[e];constructor
 .intro v;obtain⟨x,w,q,r,t⟩:=n _ v;obtain⟨rfl,rfl⟩:=NN h m q r.symm;exact Xp (fun s i=>(e s).2 i) t
 .intro u;exact o k f m (Xp (fun s i=>(e s).1 i) u)
def A2:∀(k:Nat)(l:List S)(_:cntL l<k)(_:cntL l<=1000000),SpecP prog 49 [eSs l] (fun r=>r=.int .i64 (cntL l)):=by
 intro k;induction k with
 |zero=>intro l h;omega
 | succ k u=>
   intro l x z;have o:=S.avs_len l;have a:l.length<=cntL l:=by
    clear x z o;induction l with
    |nil=>simp
    |cons t r i=>rw[cntL,WB,x7g];omega
   refine sB N4 func49 rfl call49 ?_;conv=>whnf
   repeat' (refine iM fun _=>?_;conv=>whnf)
   refine LoopK.inv QW (fun y:Nat×Nat=>⟨[(0,.p (eSs l)),(3,.p (.int .i64 y.2)),(8,.p (.int .i64 (S.avs l).length)),(9,.p (.int .i64 y.1))],[]⟩) (fun y=>y.1<=l.length/\y.2+cntL (l.drop y.1)=cntL l+(l.length-y.1)) (fun y=>l.length-y.1) (0,l.length) (Le.of_eq (by simp only[S.avs_len];rfl)) ⟨x6t _,by simp;omega⟩ ?_;rintro⟨j,n⟩ ⟨v,q⟩;simp only at v q⊢;rcases x6c j l.length with m|m
   .have b:=Xg m;have w:=WB l[j];have c:cntL (l.drop j)<=cntL l:=by
     have:∀(l:List S)(j:Nat),cntL (l.drop j)<=cntL l:=fun l=>by
      induction l with
      |nil=>intro j;simp
      | cons t r i=>
        intro j;cases j with
        |zero=>simp
        |succ j=>rw[List.drop_succ_cons,cntL];have:=i j;omega
     exact this l j
    conv=>whnf
    repeat' (first|((first|refine dA ?_|refine QI (by omega) ?_|refine wI ?_|(refine CallK.pure (u l[j].I (by omega) (by omega)) (.cons (Sub.refl _) .nil) ?_;rintro _ rfl)|(refine CallK.pure (u l[j].L (by omega) (by omega)) (.cons (Sub.refl _) .nil) ?_;rintro _ rfl));conv=>whnf)|(apply bD<;>intro _<;>first|omega|conv=>whnf))
    all_goals exact⟨(j+1,n+(cntL l[j].I+cntL l[j].L)),⟨by simp only;omega,by simp only;omega⟩,by simp only;omega,Le.of_eq rfl⟩
   .conv=>whnf
    rw[x7v m,cntL]at q;repeat' (apply bD<;>intro _<;>first|omega|conv=>whnf)
    exact RetK.int (by omega)
def A1(p:Pg)(u:cntP p.A<=1000):SpecP prog 13 [.agg p.cells] (fun r=>r=.int .i64 (cntP p.A)):=by
 refine sB N3 func13 rfl call13 ?_;conv=>whnf
 have q:(p.A.map fun f=>AV.agg f.cells).length=p.A.length:=x6j _;repeat' (refine iM fun _=>?_;conv=>whnf)
 refine LoopK.inv QW (fun y:Nat×Nat=>⟨[(3,.p (.int .i64 y.2)),(7,.p (.sl (p.A.map fun f=>.agg f.cells))),(8,.p (.int .i64 (p.A.map fun f=>AV.agg f.cells).length)),(9,.p (.int .i64 y.1))],[]⟩) (fun y=>y.1<=p.A.length/\y.2+cntP (p.A.drop y.1)=cntP p.A) (fun y=>p.A.length-y.1) (0,0) (Le.of_eq rfl) ⟨x6t _,by simp⟩ ?_;rintro⟨j,n⟩ ⟨m,i⟩;simp only at m i⊢;rcases x6c j p.A.length with h|h
 .have t:=Jq h;have o:=Xh _ _ (x6o h);conv=>whnf
  repeat' (first|((first|refine x6d rfl ?_|(refine iA fun _=>?_)|refine wI ?_|(refine CallK.pure (A2 (cntL p.A[j].body+1) p.A[j].body (by omega) (by omega)) (.cons (Sub.refl _) .nil) ?_;rintro _ rfl));conv=>whnf)|(apply bD<;>intro _<;>first|omega|conv=>whnf))
  exact⟨(j+1,n+cntL p.A[j].body),⟨by simp only;omega,by simp only;omega⟩,by simp only;omega,Le.of_eq rfl⟩
 .conv=>whnf
  rw[x7v h,cntP]at i;repeat' (apply bD<;>intro _<;>first|omega|conv=>whnf)
  exact RetK.int (by omega)
def Fs(p:Pg)(h:Int):Bool:=QS p&&decide ((cntP p.A:Int)<=h)
def JG{x:Str}:inS l x=true↔x∈l:=by
 unfold inS;rw[x8z];constructor
 .rintro ⟨y,i,m⟩;have:y=x:=by simpa using m
  rw[<-this];exact i
 .intro h;exact⟨x,h,by simp⟩
def P9(h:QS p=true)(n:p.A[j]?=some f){a:Int}(z:(QH p.A j:Int)+1<=a)(b:a<=(QH p.A j+cntL f.body:Nat)):∃t∈flL f.body,O1 p a=some t/\t.id=a:=by
 obtain⟨it,q,u⟩:=Zv n (k:=(a-1).toNat) (by omega) (by omega);refine⟨it.s,JC u,by unfold O1;rw[q];rfl,?_⟩;obtain⟨_,_,_,r,o⟩:=QY p;obtain⟨_,_,x,w⟩:=o j f n;have i:=Bu (QJ h).1 n;have v:(itsOf p j f)[(a-1).toNat-QH p.A j]?=some it:=by
  unfold itsOf;rw[<-w,x8t,x7i,if_pos (by omega),show QH p.A j+((a-1).toNat-QH p.A j)=(a-1).toNat by omega];exact q
 have m:((itsOf p j f).map fun it=>it.s.id)[(a-1).toNat-QH p.A j]?=some it.s.id:=by rw[x6a,v];rfl
 rw[i]at m;unfold JK at m;rw[x6a,z0m (by omega)]at m;simp at m;omega
def RA{s:Str}(h:s∈l):s∈Go.Lib.compact l:=by
 have key:∀(j:Nat)(i:j<l.length),l[j]∈Go.Lib.compact l:=fun j=>by
  induction j with
  | zero=>
    intro i;refine x6r.2 ⟨0,x7o.2 ⟨by simpa using i,by simp[Go.Lib.keeps]⟩,?_⟩;simp[i]
  | succ j o=>
    intro i;cases n:Go.Lib.keeps l.toArray (j+1)with
    | true=>
      refine x6r.2 ⟨j+1,x7o.2 ⟨by simpa using i,n⟩,?_⟩;simp[i]
    | false=>
      have m:j<l.length:=by omega
      have:l[j+1]=l[j]:=by
       unfold Go.Lib.keeps at n;simp[i,m]at n;exact n
      rw[this];exact o m
 obtain⟨j,i,rfl⟩:=x8v.1 h;exact key j i
def K6{s:Str}:s∈Go.Lib.compact l↔s∈l:=⟨Q0,RA⟩
def V3(n:Nat):List Pr->List Pr
 |[]=>[]
 |f::r=>⟨f.name,f.C,f.E,nmL n f.body,f.fin⟩::V3 (n+cntL f.body) r
def q5h(p:Pg):Pg:=⟨p.B,V3 0 p.A⟩
def Sz(h:QS p=true):∃(k:Nat) (f:Pr),p.A[k]?=some f/\p.A.filter (fun f=>f.name==mainS)=[f]/\f.name=mainS/\f.C=[]:=by
 obtain⟨D,d,_⟩:=QJ h;obtain⟨_,o,_⟩:=WX d;unfold ZX at o;simp only[z0e,Bool.not_eq_false']at o;obtain⟨_,x,z,t⟩:=o;have i:=Yg x;obtain⟨k,v,B,u⟩:=Sx z;have a:=z1x u;have w:p.A[k].name=mainS:=by
  have:mainS=p.A[k].name:=by simpa using a
  exact this.symm
 rw [u]at t;have c:p.A[k].C=[]:=x8a (by simpa using t);refine⟨k,p.A[k],x6k v,?_,w,c⟩;have key:∀(l:List Pr),(l.map Pr.name).Nodup->∀f∈l,f.name=mainS->l.filter (fun f=>f.name==mainS)=[f]:=fun l=>by
  induction l with
  |nil=>intro _ f n;cases n
  | cons g r e=>
    intro i f n m;rw[x7l,x8k]at i;rcases x6m.1 n with rfl|n
    .rw [x9j (by simp[m])];congr 1;rw[List.filter_eq_nil_iff];intro g b q;exact i.1 (by rw[m,<-show g.name=mainS by simpa using q];exact z0h b)
    .rw [x9f (by
      intro q;exact i.1 (by rw[show g.name=mainS by simpa using q,<-m];exact z0h n))]
     exact e i.2 f n m
 exact key p.A i _ (x6o v) w
mutual
theorem AH:∀(t:S)(n:Nat),XT (nmS n t)=XT t
 |.mk id kind F name D x has args I L,n=>by rw[nmS,XT,XT,J9 I,J9 L]
theorem J9:∀(l:List S)(n:Nat),cntL (nmL n l)=cntL l
 |[],n=>by rw[nmL]
 |t::r,n=>by rw[nmL,cntL,cntL,AH t,J9 r]
end
section
variable {p:Pg}{k:Nat}{f:Pr}
end
end Go.Ab
