/- cfg: the statements that real steps lead to. -/
import Derived.Laws.StructEq
import Derived.ChangeKeysEq
import Derived.Test.YtgpjfppgphaobaaGreatProJ13
set_option linter.all false
set_option maxRecDepth 100000
set_option maxHeartbeats 16000000
open List (Nodup)
namespace Go.Ab
open Go.Proofs.Tryz
open Go.Proofs
variable {K:St->Prop}{L:List Str}{N j:Nat}{P:Program}{avs:List AV}{dst:Option Nat}{f:Pr}{p:Pg}{y:Int}
def QB(p:Pg)(j:Nat)(n i:Int):Int:=if i=0 then 0 else if i=n-1 then -1 else loI p j+i-1
def ZB(w:Way)(f:Pr)(t:w.p.A[w.j]?=some f)(v:cntP w.p.A<=1000)(z:0<=w.n/\w.n<=5000)(i:Int)(x:0<=i/\i<=5000):aP 47 [.ip w.cells,.int .i64 i] (.int .i64 (QB w.p w.j w.n i)):=by
 refine sC Yu func47 ?_;conv=>whnf
 obtain⟨_,_,_,q,m⟩:=QU w.p;obtain⟨h,r,u,_⟩:=m w.j f t;repeat' ((first|refine dA ?_|refine wI ?_|refine IdxK.at rfl (UM h) rfl ?_|(apply bD<;>intro _<;>try omega))<;>conv=>whnf)
 all_goals exact RetK.int (by unfold QB loI;(repeat' split)<;>omega)
def PL(l:List Int):∀b:List Bool,(KN l b).length=b.length:=by
 induction l with
 |nil=>intro b;rfl
 | cons a r h=>
   intro b;show(KN r (b.set a.toNat true)).length=b.length;rw[h,z0m]
def A9(w:Way):List Int:=((List.range' 1 (w.n-2).toNat).filter fun i=>w.live.getD i false).map fun(i:Nat)=>QB w.p w.j w.n i
def JY(p:Pg)(n:Str):List Int:=match Cl p n with
 |some w=>A9 w
 |none=>[]
def S3(p:Pg)(J:Fit p)(n:Str):aP 24 [.agg p.cells,.str n] (QE (JY p n)):=by
 refine sC Cs func24 ?_;conv=>whnf
 have c:=x2n p J n;unfold JY;cases e:Cl p n with
 | none=>
   rw[e]at c;repeat' (refine cP c ?_;conv=>whnf)
   exact⟨_,.p Sub.nils,rfl⟩
 | some w=>
   obtain⟨k,f,z,h,H,_⟩:=Rt e;obtain⟨_,_,I⟩:=XZ H;obtain⟨_,_,_,_,B⟩:=QU p;obtain⟨_,_,t,_⟩:=B k f z;have b:w.p=p:=by rw[h];rfl
   have C:w.j=k:=by rw[h];rfl
   have D:w.n=(QY f.body+2:Nat):=by rw[h];rfl
   have O:w.live.length=QY f.body+2:=by rw[h];show(KN _ (List.replicate (QY f.body+2) false)).length=_;rw[PL];simp
   have a:w.p.A[w.j]?=some f:=by rw[b,C];exact z
   have v:cntP w.p.A<=1000:=by rw[b];omega
   rw[e]at c;clear h e;repeat' (refine cP c ?_;conv=>whnf)
   refine lJ (fun x:Nat×List Int=>⟨[(5,.p (.ip w.cells)),(6,.hd 0 0 x.2.length),(7,.j x.1)],[(0,.own 3 1 (x.2.map (.int .i64)))]⟩) (fun x=>1<=x.1/\x.1<=QY f.body+1/\x.2.length<=x.1/\x.2++(((List.range' x.1 (QY f.body+1-x.1)).filter fun i=>w.live.getD i false).map fun(i:Nat)=>QB w.p w.j w.n i)=A9 w) (fun x=>QY f.body+1-x.1) (1,[]) (lM [(0,.own 3 1 [])] (hsl:=.r (.cons (.nil x8p) (.cons (.of_eq rfl) .nil)))) ⟨x9z _,by simp only;omega,by simp,by unfold A9;rw[D,show((QY f.body+2:Nat)-2:Int).toNat=QY f.body+1-1 by omega];rfl⟩ ?_;rintro⟨i,u⟩ ⟨E,F,G,m⟩;simp only at E F G m⊢;rcases x8a i (QY f.body+1)with M|M;rotate_left 1
   .rw [show QY f.body+1-i=0 by omega]at m;simp only[List.range'_zero,List.filter_nil,z4v,x9c]at m;subst m;conv=>whnf
    repeat' ((first|refine wI ?_|(apply bD<;>intro _<;>try omega))<;>conv=>whnf)
    all_goals first
     |exact⟨_,.hd rfl (by simp),rfl⟩
     |(exfalso;omega)
   have q:i<w.live.length:=by omega
   rw[show QY f.body+1-i=QY f.body+1-(i+1)+1 by omega,List.range'_succ,z2a]at m;have g:=ZB w f a v (by omega) i (by omega);cases d:w.live.getD i false with
   | true=>
     have t:(w.live.map bv)[i]?=some .tt:=by
      have:w.live[i]=true:=by simpa[q]using d
      simp[q,this,bv]
     rw[d]at m;conv=>whnf
     repeat' ((first|refine x9g rfl ?_|refine aD ?_|refine bP ?_|refine wI ?_|refine iT t ?_|refine cP g ?_|refine pI ?_|(apply bD<;>intro _<;>try omega))<;>conv=>whnf)
     all_goals first
      |exact⟨(i+1,u++[QB w.p w.j w.n i]),⟨by simp only;omega,by simp only;omega,by simp;omega,by simpa using m⟩,by simp only;omega,Le.of_eq (by simp only[x8d,x8i];rfl)⟩
      |(exfalso;omega)
   | false=>
     have t:(w.live.map bv)[i]?=some .ff:=by
      have:w.live[i]=false:=by simpa[q]using d
      simp[q,this,bv]
     rw[d]at m;conv=>whnf
     repeat' ((first|refine wI ?_|refine iT t ?_|(apply bD<;>intro _<;>try omega))<;>conv=>whnf)
     all_goals first
      |exact nX (i+1,u) ⟨by simp only;omega,by simp only;omega,by simp only;omega,by simpa using m⟩
      |(exfalso;omega)
def OneRow(R:Nat->TypeId->Nat->List AV->Prop)(nil:Prop)(l:LV)(H:Heap):Prop:=
 (l=.p .nils/\H=[]/\nil)\/∃q e sz es,l=.hd q 0 es.length/\H=[(q,.own e sz es)]/\(∀x∈es,∀c∈x.cells,c.flat=true)/\R q e sz es
def WR{g:FuncId}{args:List LV}{s:St}{R:Nat->TypeId->Nat->List AV->Prop}{nil:Prop}(k:Nat)(hu:ZS k s=true)(hs:SpecH P g (avs.map .p) [] (OneRow R nil))(ha:FrzL s.H args avs)(hn:nil->setD N s.sl dst (.p .nils) fun sl=>K ⟨sl,s.H⟩)(h:∀q e sz es,R q e sz es->setD N s.sl dst (.hd k 0 es.length) fun sl=>K ⟨sl,(k,.own e sz es)::s.H⟩):CallK P N g args dst s K:=by
 refine⟨fun σ β a w hr vals hnv hv=>⟨hs.go vals,?_⟩⟩;obtain⟨hlen,hget⟩:=ha.get;obtain⟨τ,h5,h6,h7,h8⟩:=Qo hr.heap;have hrel0:HRel τ (fun _=>none) [] w:=⟨h6,fun k c Y=>(by cases Y),z5z,fun k hk=>(by cases hk),fun k hk=>(by cases hk)⟩;have hno:∀b,¬owns (fun _=>none) [] b:=fun b ⟨j,r,_⟩=>by cases r
 refine(hs.ok τ (fun _=>none) w vals (by rw[x8g];exact hnv.trans hlen) (fun j l r=>?_) hrel0).mono fun e w' ⟨l,u,σ',β',H',he,hR,hrep,F,z⟩=>?_
 .rw [x8n]at r;cases Y:avs[j]?with
  |none=>rw[Y]at r;cases r
  | some c=>
    rw[Y]at r;cases r;obtain⟨l,B,D⟩:=hget j c Y;exact .p (h8 l _ c (hv j l B) D)
 .have U:σ.lies w':=fun b c d=>F.mem b c (z.le b c (h5 b c d));have hf:Frm (fun _=>False) w w':=⟨z.G.os,z.G.tape,z.G.output,z.G.drawn,z.G.size,fun b d _=>z.G.block b d (hno b)⟩;have hf':Frm (owns β s.H) w w':=⟨hf.os,hf.tape,hf.output,hf.drawn,hf.size,fun b d _=>hf.block b d id⟩;have Q:=hr.heap.kept (Mem.le_refl σ) U hf fun b h0 B=>absurd h0 B;rcases hR with⟨rfl,rfl,hnil⟩|⟨q,e0,sz,es,rfl,rfl,hfl,hR⟩
  .have hr':Rel N σ β s a w':=⟨hr.size,hr.defers,hr.E,Q⟩;have hrp:RepL σ β (.p .nils) u:=by
    cases hrep with
    |p h=>exact .p (h.flat rfl)
   obtain⟨sl,hK,V⟩:=hr'.setD hrp (hn hnil);exact⟨u,σ,β,_,he,hK,V,Mem.le_refl σ,hf',fun b h0 B=>absurd h0 B,fun b d=>.inl d,fun _ _ _=>rfl⟩
  .obtain ⟨hu1,hu2⟩:=XM hu;have hkl:=YO hu;have C:∀j,j≠k->(β.set k (β' q)) j=β j:=fun j r=>by simp[Lab.set,r]
   have n:(β.set k (β' q)) k=β' q:=by simp[Lab.set]
   have J:∀i,β' q=some i->∀b,i.has b->w.heap.size<=b/\σ b=none/\b<w'.heap.size:=fun i A b d=>by
    have B:=F.apart q (x8l.2 rfl) i A b d;refine⟨?_,?_,B.2⟩
    .rcases z.own b ⟨q,x8l.2 rfl,i,A,d⟩with D|D
     .exact absurd D (hno b)
     .exact D
    .cases D:σ b with
     |none=>rfl
     |some c=>rw[z.le b c (h5 b c D)]at B;cases B.1
   have hch:(Chunk.own e0 sz es).holds σ (β.set k (β' q)) w' k:=by
    rcases F.chunks q (.own e0 sz es) (x8l.2 rfl)with⟨B,D⟩|⟨i,vs,B,D,h3,h4,h5',h6',h7'⟩
    .exact .inl ⟨n.trans B,D⟩
    .refine .inr ⟨i,vs,n.trans B,D,h3,h4,h5',h6',fun m x hx=>⟨(h7' m x hx).1,fun jj c Y=>?_⟩⟩;obtain⟨v,h8',h9⟩:=(h7' m x hx).2 jj c Y;exact⟨v,h8',h9.flat (hfl x (x9x hx) c (x9x Y))⟩
   have M:∀j∈s.H.map (·.1),j≠k:=fun j r=>by
    obtain⟨⟨j',c⟩,hm,rfl⟩:=x8s.1 r;exact(hu1 j' c hm).1
   have hr':Rel N σ (β.set k (β' q)) ⟨s.sl,(k,.own e0 sz es)::s.H⟩ a w':=by
    refine⟨hr.size,hr.defers,fun i=>(hr.E i).set _ (hu2 i),U,fun j c r=>?_,?_,fun j r i A b d=>?_,fun j r j' hj' i i' A O b d hb'=>?_⟩
    .rcases x8r.1 r with t|r
     .cases t;exact hch
     .exact (Q.chunks j c r).set _ (hu1 j c r).1 (hu1 j c r).2
    .rw [x9f,z0h];exact⟨fun hm=>M k hm rfl,Q.nodup⟩
    .rcases x8r.1 r with t|r
     .have t:j=k:=t;subst t;rw[n]at A;exact(J i A b d).2
     .rw [C j (M j r)]at A;exact Q.apart j r i A b d
    .have Z:∀j∈s.H.map (·.1),∀i,(β.set k (β' q)) j=some i->∀b,i.has b->b<w.heap.size:=fun j r i A b d=>by
      rw[C j (M j r)]at A;exact(hr.heap.apart j r i A b d).2
     rcases x8r.1 r with t|hm<;>rcases x8r.1 hj' with I|hm'
     .exact t.trans I.symm
     .have t:j=k:=t;subst t;rw[n]at A;have:=(J i A b d).1;have:=Z j' hm' i' O b hb';omega
     .have I:j'=k:=I;subst I;rw[n]at O;have:=(J i' O b hb').1;have:=Z j hm i A b d;omega
     .rw [C j (M j hm)]at A;rw[C j' (M j' hm')]at O;exact Q.inj j hm j' hm' i i' A O b d hb'
   have hrp:RepL σ (β.set k (β' q)) (.hd k 0 es.length) u:=by
    rcases hrep.hdI with⟨B,_,D,rfl⟩|⟨i,o,B,D,h3,rfl⟩
    .rw [D];exact .hdn k (n.trans B)
    .exact .hd k 0 es.length i o (n.trans B) D h3
   obtain⟨sl,hK,V⟩:=hr'.setD hrp (h q e0 sz es hR);refine⟨u,σ,_,_,he,hK,V,Mem.le_refl σ,hf',fun b h0 B=>absurd h0 B,fun b d=>?_,fun j B _=>C j (by omega)⟩;obtain⟨j,r,i,A,d⟩:=d;rcases x8r.1 r with t|r
   .have t:j=k:=t;subst t;rw[n]at A;exact .inr (J i A b d).1
   .rw [C j (M j r)]at A;exact .inl ⟨j,r,i,A,d⟩
def Gz(L:List Str)(_:Nat)(e:TypeId)(sz:Nat)(es:List AV):Prop:=e=9/\sz=1/\es=L.map .str
def Cu(L:List Str):∀x∈L.map AV.str,∀c∈x.cells,c.flat=true:=fun x m c h=>by
 obtain⟨s,_,rfl⟩:=x8s.1 m;rw[x8l.1 (show c∈[AV.str s]from h)];rfl
def MB{q n:Nat}{nil:Prop}(h:n=L.length):OneRow (Gz L) nil (.hd q 0 n) [(q,.own 9 1 (L.map .str))]:=
 .inr ⟨q,_,_,_,by rw[h,x8g],rfl,Cu L,rfl,rfl,rfl⟩
theorem OneRow.str{n:Nat}(h:n=L.length):OneRow (Gz L) False (.hd 0 0 n) [(0,.own 9 1 (L.map .str))]:=MB h
def YZ{n:Nat}{nil:Prop}(h:n=L.length):OneRow (Gz L) nil (.hd 0 0 n) [(0,.own 9 1 (L.map .str))]:=MB h
def Ez{sl:List (Nat×LV)}{H:Heap}{k d:Nat}{e:TypeId}{sz:Nat}{es:List AV}(F:ZS k ⟨sl,H⟩=true):Le N ⟨Zq sl d (.hd k 0 es.length),(k,.own e sz es)::H⟩ ⟨Zq sl d (.p (.sl es)),H⟩:=fun σ β a w hr=>by
 obtain⟨O,_⟩:=XM F;have hnd:(H.map (·.1)).Nodup:=(z0h.1 hr.heap.nodup).2;have q:∀j∈H.map (·.1),j∈((k,Chunk.own e sz es)::H).map (·.1):=fun j h=>x8b _ h;rcases WQ.1 (hr.heap.chunks k _ x8p)with⟨G,rfl⟩|⟨i,vs,I,U,hh,hn,V,Y,Q⟩
 .refine ⟨σ,β,⟨hr.size,hr.defers,fun j=>?_,⟨hr.heap.mem,fun j c' h=>hr.heap.chunks j c' (x8b _ h),hnd,fun j h=>hr.heap.apart j (q j h),fun j h j' J=>hr.heap.inj j (q j h) j' (q j' J)⟩⟩,Mem.le_refl σ,Frm.refl _ _,fun _ h0 g=>absurd h0 g,fun b ⟨j,h,r⟩=>.inl ⟨j,q j h,r⟩,fun _ _ _=>rfl⟩;have n:=hr.E j;show RepL σ β (getS (Zq sl d _) j) _;have n:RepL σ β (getS (Zq sl d (.hd k 0 [].length)) j) (a.tmps.getD j undef):=n;rw[PF]at n⊢;by_cases h:d=j
  .rw [if_pos h]at n⊢;rcases n.hdI with⟨_,_,_,he⟩|⟨i,_,z,_⟩
   .rw [he];exact .p .nilsl
   .rw [G]at z;cases z
  .rw [if_neg h]at n⊢;exact n
 .refine hr.lay I x8p hh (fun τ t Z j v n=>?_) (fun τ t Z j c' h=>⟨(O j c' h).1,c',x8b _ h,fun B=>B.mono t fun _ _ _ _=>rfl⟩) hnd;have n:RepL σ β (getS (Zq sl d (.hd k 0 es.length)) j) v:=n;show RepL τ β (getS (Zq sl d _) j) v;rw[PF]at n⊢;by_cases h:d=j
  .rw [if_pos h]at n⊢;rcases n.hdI with⟨z,_⟩|⟨i',oo,z,hl,D,rfl⟩
   .rw [I]at z;cases z
   .rw [I]at z;cases z;have M:oo=0:=by
     rcases D with D|D
     .simpa using D
     .omega
    subst M;obtain⟨u,F⟩ : ∃u:Nat->Nat->Value,∀(m:Nat)(x:AV)(j:Nat)(c:AV),es[m]?=some x->x.cells[j]?=some c->vs[m*sz+j]?=some (u m j)/\Rep σ c (u m j):=by
     refine⟨fun m j=>(vs[m*sz+j]?).getD undef,fun m x j c C h=>?_⟩;obtain⟨v,g,h2⟩:=Q.rep m x j c C h;rw[z0u]at g;split at g
     .have A:vs[m*sz+j]?=some v:=by simpa using g
      exact⟨by simp[A],by simpa[A]using h2⟩
     .cases g
    exact .p (.sl es i.blk 0 _ sz vs u Z (by omega) (by omega) Q.size (fun m x j c C h=>by simpa using(F m x j c C h).1) fun m x j c C h=>(F m x j c C h).2.mono t)
  .rw [if_neg h]at n⊢;exact n.mono t
theorem Le.slot{sl:List (Nat×LV)}{H:Heap}{d:Nat}{l l':LV}(h:∀σ β v,RepL σ β l v->RepL σ β l' v):Le N ⟨Zq sl d l,H⟩ ⟨Zq sl d l',H⟩:=fun σ β a w hr=>by
 refine⟨σ,β,⟨hr.size,hr.defers,fun j=>?_,hr.heap⟩,Later.refl _ _ _ _⟩;have m:RepL σ β (getS (Zq sl d l) j) (a.tmps.getD j undef):=hr.E j;show RepL σ β (getS (Zq sl d l') j) _;rw[PF]at m⊢;by_cases q:d=j
 .rw [if_pos q]at m⊢;exact h _ _ _ m
 .rw [if_neg q]at m⊢;exact m
theorem CallK.le{g:FuncId}{args:List LV}{s:St}(h:CallK P N g args dst s fun s'=>∃m,K m/\Le N s' m):CallK P N g args dst s K:=
 ⟨fun σ β a w hr q z b=>⟨(h.ok σ β a w hr q z b).1,(h.ok σ β a w hr q z b).2.mono fun e w' ⟨u,σ',β',s',A,⟨m,c,t⟩,v,B⟩=>by
   obtain⟨σ2,β2,x,r⟩:=B.le' t v;exact⟨u,σ2,β2,m,A,c,x,r⟩⟩⟩
def R3{sl:List (Nat×LV)}{v q:LV}{K m:List (Nat×LV)->Prop}(h:setD N sl dst v K)(r:K sl->m sl)(t:∀d,K (Zq sl d v)->m (Zq sl d q)):setD N sl dst q m:=by
 unfold setD at h⊢;cases dst with
 |none=>exact r h
 | some d=>
   simp only at h⊢;cases n:Nat.blt d N with
   |false=>rw[n]at h;exact h
   | true=>
     rw[n,x9y,LJ]at h;rw[x9y,LJ];exact t d h
def RQ{g:FuncId}{args:List LV}{s:St}{R:Nat->TypeId->Nat->List AV->Prop}{nil:Prop}{E:List AV}(k:Nat)(t:ZS k s=true)(z:SpecH P g (avs.map .p) [] (OneRow R nil))(ha:FrzL s.H args avs)(x:nil->E=[])(u:∀q e sz es,R q e sz es->es=E)(h:setD N s.sl dst (.p (.sl E)) fun sl=>K ⟨sl,s.H⟩):CallK P N g args dst s K:=by
 refine CallK.le (WR k t z ha (fun n=>?_) fun q e sz es hr=>?_)
 .obtain rfl:=x n;exact R3 h (fun m=>⟨_,m,fun σ β a w hr=>⟨σ,β,hr,Later.refl _ _ _ _⟩⟩) fun d m=>⟨_,m,Le.slot fun σ β v r=>by
   cases r with
   |p r=>exact .p (Sub.nils _ _ r)⟩
 .obtain rfl:=u q e sz es hr;refine R3 h (fun m=>⟨_,m,Np (fun i=>.inl rfl) (List.sublist_cons_self _ _)⟩) fun d m=>⟨_,m,Ez (by obtain⟨sl,H⟩:=s;exact t)⟩
theorem SpecH.toP{g:FuncId}{R:Nat->TypeId->Nat->List AV->Prop}{nil:Prop}{E:List AV}(H:SpecH P g (avs.map .p) [] (OneRow R nil))(hn:nil->E=[])(V:∀q e sz es,R q e sz es->es=E):SpecP P g avs (fun r=>r=.sl E):=by
 refine⟨H.go,fun σ w A I J M=>?_⟩;have v:Rel 1 σ (fun _=>none) ⟨[],[]⟩ {tmps:=#[undef],defers:=[]} w:=⟨rfl,rfl,fun i=>.p (.any _),M,fun k c C=>(by cases C),z5z,fun k D=>(by cases D),fun k D=>(by cases D)⟩;have C:CallK P 1 g (avs.map .p) (some 0) ⟨[],[]⟩ (fun s=>s=⟨[(0,.p (.sl E))],[]⟩):=RQ 0 rfl H (by
  clear H I J;induction avs with
  |nil=>exact .nil
  |cons a r ih=>exact .cons (.p (Sub.refl _)) ih) hn V (by rfl)
 refine(C.ok σ _ _ w v A (by rw[x8g];exact I) fun j l t=>?_).2.mono fun e w' ⟨u,σ',β',s',Z,U,hr,m⟩=>?_
 .rw [x8n]at t;cases F:avs[j]?with
  |none=>rw[F]at t;cases t
  |some c=>rw[F]at t;cases t;exact .p (J j c F)
 .subst U;have z:∀b,¬owns (fun _=>none) [] b:=fun b ⟨j,t,_⟩=>by cases t
  have O:=hr.E 0;refine⟨.sl E,u,σ',Z,rfl,?_,m.le,hr.heap.mem,⟨m.G.os,m.G.tape,m.G.output,m.G.drawn,m.G.size,fun b Y _=>m.G.block b Y (z b)⟩,fun b x Q=>?_⟩
  .have x:RepL σ' β' (.p (.sl E)) u:=by simpa[getS,Act.put]using O
   cases x with
   |p x=>exact x
  .rcases m.mem b x Q with B|B
   .exact absurd B (z b)
   .exact B
def Hb{T:Tab}{hr:Bool}{s:St}{o:Oper}{K:LV->Prop}(hT:TabOK P T){t u:TypeId}{x:Operand}(a:o.op=.binOp .eql t x (.const (.slice none 0 0)) u){i:TyI}(J:T.get t=some i){e:TypeId}(E:i.desc=.slice e){es:List AV}(M:QP s.sl x=.p (.sl es))(D:∀b:Bool,(b=true->es=[])->K (.p (.bool b))):ValO P hr s o K:=by
 refine⟨fun σ β r w H _=>?_⟩;have q:=QX H x;rw[M]at q;have B:=hT.of J;rw[E]at B;have d:∃m n c,r.eval x=.slice m n c/\(m.isNone=true->es=[]):=by
  generalize r.eval x=v at q;cases q with
  | p q=>
    cases q with
    |nilsl=>exact⟨none,0,0,rfl,fun _=>rfl⟩
    |slz b=>exact⟨some b,0,0,rfl,fun _=>rfl⟩
    |sl _ b off cap sz cells u O g A I Q G=>exact⟨_,_,_,rfl,fun h=>(by cases h)⟩
 obtain⟨m,n,c,d,z⟩:=d;refine⟨_,.bool m.isNone,D m.isNone z,.p (.bool _),fun w' _ _=>?_⟩;have C:r.eval (.const (.slice none 0 0))=.slice none 0 0:=rfl;have F:(eqGuard .eql t x (.const (.slice none 0 0)) (.slice m n c) (.slice none 0 0)).run P w'=.ok () w':=by unfold eqGuard;rfl
 have z:(Op.equal t (.slice m n c) (.slice none 0 0)).run P w'=.ok m.isNone w':=by
  have e:Op.equal t (.slice m n c) (.slice none 0 0)=Op.equalIn (9999+1) t (.slice m n c) (.slice none 0 0):=rfl;rw[e,Op.equalIn,Sem.run_bind,run_underlying B,Result.andThen_ok];cases m<;>rfl
 simp only[execOp,a,d,C,Sem.run_bind,F,Result.andThen_ok,binOp];simp[z]
def CX{es:List AV}{n:Nat}{nil:Prop}(q:Nat)(m:es=L.map .str)(h:n=L.length):OneRow (Gz L) nil (.hd q 0 n) [(q,.own 9 1 es)]:=by
 subst m;exact .inr ⟨q,_,_,_,by rw[h,x8g],rfl,Cu L,rfl,rfl,rfl⟩
def XQ(l:List Str)(n:l.length<=1000000):SpecH prog 165 [.p (eStrs l)] [] (fun r H=>OneRow (Gz l) (l=[]) r H):=by
 refine sK JZ func165 ?_;conv=>whnf
 repeat' ((first|refine x9g rfl ?_|refine aD ?_|refine Hb XD rfl rfl rfl rfl (fun q h=>?_)|refine z4x (fun x m=>by cases m) rfl ?_|refine DY _ (by simp) (by simp;omega) ?_|(apply bB<;>intro _))<;>conv=>whnf)
 all_goals first
  |exact z1z _ (x9j _) (.inl ⟨rfl,rfl,z5p.1 (h (by assumption))⟩)
  |exact z1z _ (x9j _) (CX 0 rfl (by simp))
inductive CutH:Heap->Heap->Prop
 |nil:CutH [] []
 |same {c:Nat×Chunk} {H H':Heap} (h:CutH H H'):CutH (c::H) (c::H')
 |cut {k:Nat} {e:TypeId} {sz:Nat} {es es':List AV} {H H':Heap} (hp:es' <+: es) (h:CutH H H'):CutH ((k,.own e sz es)::H) ((k,.own e sz es')::H')
theorem CutH.get{H H':Heap}(h:CutH H H'):H'.map (·.1)=H.map (·.1)/\∀j c',(j,c')∈H'->(j,c')∈H\/∃e sz es es',(j,Chunk.own e sz es)∈H/\c'=.own e sz es'/\es' <+: es:=by
 induction h with
 |nil=>exact⟨rfl,by simp⟩
 | same h r=>
   refine⟨by simp[r.1],fun j c' m=>?_⟩;rcases x8r.1 m with rfl|m
   .exact .inl x8p
   .rcases r.2 j c' m with q|⟨e,sz,es,es',q,t⟩
    .exact .inl (x8b _ q)
    .exact .inr ⟨e,sz,es,es',x8b _ q,t⟩
 | @cut k e sz es es' H H' u h r=>
   refine⟨by simp[r.1],fun j c' m=>?_⟩;rcases x8r.1 m with m|m
   .cases m;exact .inr ⟨e,sz,es,es',x8p,rfl,u⟩
   .rcases r.2 j c' m with q|⟨e,sz,es,es',q,t⟩
    .exact .inl (x8b _ q)
    .exact .inr ⟨e,sz,es,es',x8b _ q,t⟩
theorem Le.cut{N:Nat}{sl:List (Nat×LV)}{H H':Heap}(h:CutH H H'):Le N ⟨sl,H⟩ ⟨sl,H'⟩:=fun σ β a w hr=>by
 obtain⟨v,M⟩:=h.get;refine⟨σ,β,⟨hr.size,hr.defers,hr.E,⟨hr.heap.mem,fun j c' q=>?_,by show(H'.map (·.1)).Nodup;rw[v];exact hr.heap.nodup,fun j q=>hr.heap.apart j (by rw[<-v];exact q),fun j q O A=>hr.heap.inj j (by rw[<-v];exact q) O (by rw[<-v];exact A)⟩⟩,Mem.le_refl σ,Frm.refl _ w,fun b C u=>absurd C u,fun b ⟨j,q,r⟩=>.inl ⟨j,by rw[<-v];exact q,r⟩,fun _ _ _=>rfl⟩;rcases M j c' q with u|⟨e,sz,es,es',u,rfl,z⟩
 .exact hr.heap.chunks j c' u
 .rcases hr.heap.chunks j _ u with⟨c,g⟩|⟨i,vs,c,g,D,F,G,I,J⟩
  .refine .inl ⟨c,?_⟩;rw[g]at z;exact List.prefix_nil.1 z
  .exact .inr ⟨i,vs,c,g,D,F,x9r z.length_le G,I,fun m x B=>J m x (by
    obtain⟨t,rfl⟩:=z;rw[z0f (x8t.1 B).1];exact B)⟩
theorem DrawK.le{T:Tab}{ops:Array Oper}{m:Info}{id:Nat}{s s':St}(t:Le N s s')(h:DrawK P T N m id ops K s'):DrawK P T N m id ops K s:=by
 refine⟨⟨fun σ β a w hr=>?_⟩⟩;obtain⟨σ1,β1,v,r⟩:=t σ β a w hr;refine Code.wp_mono (fun e b w' q=>?_) (h.ok.ok σ1 β1 a w v);obtain⟨σ',β',z,q,u,x⟩:=q;exact⟨σ',β',z,q,u,r.trans x⟩
def AD(p:Pg)(id:Int):Option S:=((sheetOf p).l[(id-1).toNat]?).map Item.s
def W4(a b:Step):Prop:=XG a.src<XG b.src\/(XG a.src=XG b.src/\XG a.dst<XG b.dst)
def q0t(s:Step):Prop:=okSt s/\s.kind=1
def GO{a b:Step}(h:a.src=b.src)(m:a.dst=b.dst)(n:a.kind=b.kind):a=b:=by
 cases a;cases b;simp_all
def HN{a b:Step}:BI a b=true↔XG a.src<XG b.src\/(XG a.src=XG b.src/\(XG a.dst<XG b.dst\/(XG a.dst=XG b.dst/\a.kind<b.kind))):=by
 have h:BI a b=decide (TU a b<0):=rfl;rw[h,z0w];unfold TU;simp only[orI];split
 .rename_i m;rw[KX]at m;split
  .rename_i n;rw[KX]at n;split
   .rename_i q;rw[KX]at q;omega
   .rw [Qp];omega
  .rename_i n;rw[KX]at n;rw[Qp];omega
 .rename_i m;rw[KX]at m;rw[Qp];omega
def Xe(l:List Step):(GY l).Pairwise fun a b=>BI b a=false:=by
 have:=z4l (le:=fun x y=> !BI y x) (fun a b c m n=>by
  simp only[z2v]at m n⊢;rw[z4e,ne_eq,HN]at m n⊢;omega) (fun a b=>by
  cases m:BI b a with
  |false=>rfl
  | true=>
    have n:BI a b=false:=by
     rw[z4e,ne_eq,HN];rw[HN]at m;omega
    rw[n];rfl) l
 refine List.Pairwise.imp ?_ this;intro a b h;simpa using h
def Vl{a b:Step}(ha:q0t a)(m:q0t b):ZN a b=true↔a=b:=by
 unfold ZN;simp only[x9w,z0w];refine⟨fun h=>GO h.1 h.2 (by rw[ha.2,m.2]),fun h=>by rw[h];exact⟨rfl,rfl⟩⟩
def q8c{a b:Step}(ha:q0t a)(m:q0t b)(h:BI b a=false)(n:a≠b):W4 a b:=by
 rw[z4e,ne_eq,HN]at h;unfold W4;by_cases q:XG a.src=XG b.src
 .by_cases r:XG a.dst=XG b.dst
  .exact absurd (GO (YC ha.1.1 m.1.1 q) (YC ha.1.2 m.1.2 r) (by rw[ha.2,m.2])) n
  .omega
 .omega
def W5{a b c:Step}(h:W4 a b)(m:W4 b c):W4 a c:=by unfold W4 at*;omega
def FJ{a:Step}(h:W4 a a):False:=by unfold W4 at h;omega
theorem Qm:∀(l:List Step)(a:Step),q0t a->(∀s∈l,q0t s)->(a::l).Pairwise (fun a b=>BI b a=false)->(a::XW a l).Pairwise W4/\∀s,s∈a::XW a l↔s∈a::l
 |[],a,_,_,_=>⟨by simp[XW],by simp[XW]⟩
 | b::r,a,ha,hl,h=>by
   have t:=hl b x8p;have hr:∀s∈r,q0t s:=fun s q=>hl s (x8b _ q);rw[z1p]at h;obtain⟨x,z⟩:=h;obtain⟨v,w⟩:=Qm r b t hr z;rw[XW];cases q:ZN b a with
   | true=>
     obtain rfl:=(Vl t ha).1 q;rw[x9y];exact⟨v,fun s=>by rw[w];simp⟩
   | false=>
     rw[x9p];have u:a≠b:=fun e=>by
      rw[(Vl t ha).2 e.symm]at q;cases q
     have n:=q8c ha t (x b x8p) u;refine⟨?_,fun s=>by rw[x8r,w,<-x8r (a:=s) (b:=a)]⟩;rw[z1p];refine⟨fun s m=>?_,v⟩;rcases x8r.1 m with rfl|m
     .exact n
     .exact W5 n ((z1p.1 v).1 s m)
def Af{l:List Step}(q:∀s∈l,q0t s):(VD l).Pairwise W4/\∀s,s∈VD l↔s∈l:=by
 have n:∀s,s∈GY l↔s∈l:=fun s=>(G9 l).mem_iff;have u:=Xe l;unfold VD;cases t:GY l with
 | nil=>
   rw[t]at n;exact⟨by simp[MR],fun s=>by rw[<-n];simp[MR]⟩
 | cons a r=>
   rw[t]at n u;have m:∀s∈a::r,q0t s:=fun s h=>q s ((n s).1 h);obtain⟨v,w⟩:=Qm r a (m a x8p) (fun s h=>m s (x8b _ h)) u;exact⟨v,fun s=>by rw[MR,w,n]⟩
theorem Dx:∀{l m:List Step},l.Pairwise W4->m.Pairwise W4->(∀s,s∈l↔s∈m)->l=m
 |[],[],_,_,_=>rfl
 |[],b::m,_,_,h=>by have:=(h b).2 x8p;cases this
 |a::l,[],_,_,h=>by have:=(h a).1 x8p;cases this
 | a::l,b::m,hl,hm,h=>by
   rw[z1p]at hl hm;have r:a=b:=by
    rcases x8r.1 ((h a).1 x8p)with e|ha
    .exact e
    .rcases x8r.1 ((h b).2 x8p)with e|t
     .exact e.symm
     .exact (FJ (W5 (hl.1 b t) (hm.1 a ha))).elim
   subst r;congr 1;refine Dx hl.2 hm.2 fun s=>⟨fun n=>?_,fun n=>?_⟩
   .rcases x8r.1 ((h s).1 (x8b _ n))with rfl|q
    .exact (FJ (hl.1 _ n)).elim
    .exact q
   .rcases x8r.1 ((h s).2 (x8b _ n))with rfl|q
    .exact (FJ (hm.1 _ n)).elim
    .exact q
def Rv(h:QL p=true)(q:p.A[j]?=some f):∀s∈QM p j f,q0t s:=by
 obtain⟨_,_,n⟩:=Zc h q;intro s m;refine⟨n s m,?_⟩;unfold QM at m;rcases x8r.1 m with rfl|m
 .rfl
 .obtain ⟨t,_,r⟩:=x9m.1 m;obtain⟨y,_,rfl⟩:=x8s.1 r;rfl
def Xf(h:QL p=true)(m:p.A[j]?=some f):(QQ p j f).real.Pairwise W4/\∀s,s∈(QQ p j f).real↔s∈QM p j f:=Af (Rv h m)
def q4g(h:QL p=true)(r:p.A[j]?=some f){s:Step}(m:s∈QM p j f):s=⟨0,x7z p j f,1⟩\/(1<=s.src/\s.src<=9223372036854775806):=by
 obtain⟨_,_,u⟩:=XZ h;obtain⟨_,_,_,t,q⟩:=QU p;obtain⟨_,_,v,_⟩:=q j f r;unfold QM at m;rcases x8r.1 m with rfl|m
 .exact .inl rfl
 .obtain ⟨x,n,w⟩:=x9m.1 m;obtain⟨y,_,rfl⟩:=x8s.1 w;have:=VS (QG h).1 r (BU n);refine .inr ?_;simp only;omega
def I3(p:Pg):Bool:=decide (gPg p<=20000)
def q6v(h:I3 p=true):Fit p:=by
 have:=x6f p;have m:gPg p<=20000:=by simpa[I3]using h
 unfold Fit;omega
def XE(p:Pg):aP 8 [.agg p.cells] (.bool (I3 p)):=by
 refine sC MW func8 ?_;conv=>whnf
 have M:(p.A.map fun f=>AV.agg f.cells).length=p.A.length:=x8g _;have H:=ZZ (a:=0+NB p.F) (by omega);repeat' ((refine cP (XT p.F 0 (by omega)) ?_ (ha:=.cons (Sub.refl _) (.cons (Sub.refl _) .nil)))<;>conv=>whnf)
 refine lI (fun y:Nat×Int=>⟨[(1,.p (.ip p.cells)),(3,.j y.2),(4,.j y.1)],[]⟩) (fun y=>y.1<=p.A.length/\(0<=y.2/\y.2<=20001)/\XJ (y.2+T5 (p.A.drop y.1))=XJ (gPg p:Nat)) (fun y=>p.A.length-y.1) (0,XJ (0+NB p.F)) ⟨x8m _,H,by
  show XJ (XJ (0+NB p.F)+T5 p.A)=_;rw[ZH (by omega)];congr 1;unfold gPg;omega⟩ ?_
 rintro⟨j,m⟩ ⟨C,r,t⟩;simp only at C r t⊢;have q:∀{x:Int},0<=x/\x<=20001->XJ x=XJ (gPg p:Nat)->(decide (x<=20000))=I3 p:=fun {x} O h=>by
  unfold I3;unfold XJ at h;by_cases d:gPg p<=20000
  .rw [x9e d,z0w];split at h<;>split at h<;>omega
  .rw [x9o d,z1r];split at h<;>split at h<;>omega
 rcases x8a j p.A.length with b|b;rotate_left 1
 .rw [x9v b,T5]at t;conv=>whnf
  repeat' ((first|(refine iM fun _=>?_)|(apply bD<;>intro _<;>try omega))<;>conv=>whnf)
  all_goals exact RetK.bool (q r (by rw[<-t];simp))
 rw[x9t b,T5]at t;have c:gPr p.A[j]=1+p.A[j].name.length+NB p.A[j].zd+NB p.A[j].fin+q0l p.A[j].B+gL p.A[j].body:=rfl;have I:=ZZ (a:=m+(1+p.A[j].name.length:Nat)) (by omega);have J:=ZZ (a:=XJ (m+(1+p.A[j].name.length:Nat))+NB p.A[j].zd) (by omega);have g:=ZZ (a:=XJ (XJ (m+(1+p.A[j].name.length:Nat))+NB p.A[j].zd)+NB p.A[j].fin) (by omega);conv=>whnf
 repeat' ((first|(refine gX ?_;intros)|refine dA ?_|refine cP (QS p.A[j].name _ r) ?_|refine cP (XT p.A[j].zd _ I) ?_|refine cP (XT p.A[j].fin _ J) ?_|(apply bD<;>intro _<;>try omega))<;>conv=>whnf)
 rotate_left 1
 .exact RetK.bool (q r (by rw[<-t,<-YI (by omega) r.2 (by omega),Pk r.2]))
 have e:XJ (XJ (XJ (XJ (m+(1+p.A[j].name.length:Nat))+NB p.A[j].zd)+NB p.A[j].fin)+(q0l p.A[j].B+(gL p.A[j].body+T5 (p.A.drop (j+1))):Nat))=XJ (gPg p:Nat):=by
  rw[ZH (by omega),z4t,ZH (by omega),z4t,ZH (by omega),<-t,c];congr 1;omega
 generalize XJ (XJ (XJ (m+(1+p.A[j].name.length:Nat))+NB p.A[j].zd)+NB p.A[j].fin)=m0 at g e⊢;have G:(p.A[j].B.map fun a=>AV.agg a.cells).length=p.A[j].B.length:=x8g _;refine lI (fun y:Nat×Int=>⟨[(1,.p (.ip p.cells)),(3,.j y.2),(4,.j j),(5,.p (.ip p.A[j].cells)),(6,.j y.1)],[]⟩) (fun y=>y.1<=p.A[j].B.length/\(0<=y.2/\y.2<=20001)/\XJ (y.2+(q0l (p.A[j].B.drop y.1)+(gL p.A[j].body+T5 (p.A.drop (j+1))):Nat))=XJ (gPg p:Nat)) (fun y=>p.A[j].B.length-y.1) (0,m0) ⟨x8m _,g,e⟩ ?_;rintro⟨a,n⟩ ⟨D,u,v⟩;simp only at D u v⊢;have fin:XJ (n+(gL p.A[j].body+T5 (p.A.drop (j+1)):Nat))=XJ (gPg p:Nat)->(0<=XJ (n+gL p.A[j].body)/\XJ (n+gL p.A[j].body)<=20001)/\XJ (XJ (n+gL p.A[j].body)+T5 (p.A.drop (j+1)))=XJ (gPg p:Nat):=fun h=>by
  refine⟨ZZ (by omega),?_⟩;rw[ZH (by omega),<-h];congr 1;omega
 have w:n>20000->XJ (n+(gL p.A[j].body+T5 (p.A.drop (j+1)):Nat))=XJ (gPg p:Nat):=fun h=>by
  rw[<-v,<-YI h u.2 (by omega),<-YI h u.2 (by omega)]
 rcases x8a a p.A[j].B.length with ha|ha;rotate_left 1
 .have E:XJ (n+(gL p.A[j].body+T5 (p.A.drop (j+1)):Nat))=XJ (gPg p:Nat):=by
   rw[x9v ha,q0l,z1h]at v;exact v
  obtain⟨f1,f2⟩:=fin E;conv=>whnf
  repeat' ((first|(refine gX ?_;intros)|refine cP (UI (gL p.A[j].body+1) p.A[j].body (by omega) n u) ?_ (ha:=.cons (Sub.refl _) (.cons (Sub.refl _) .nil))|(apply bD<;>intro _<;>try omega))<;>conv=>whnf)
  all_goals exact nX (j+1,XJ (n+gL p.A[j].body)) ⟨by simp only;omega,f1,f2⟩
 rw[x9t ha,q0l]at v;conv=>whnf
 repeat' ((first|(refine gX ?_;intros)|refine cP (QS p.A[j].B[a].name _ u) ?_|refine cP (UI (gL p.A[j].body+1) p.A[j].body (by omega) n u) ?_ (ha:=.cons (Sub.refl _) (.cons (Sub.refl _) .nil))|(apply bD<;>intro _<;>try omega))<;>conv=>whnf)
 .have z:XJ (XJ (n+(1+p.A[j].B[a].name.length:Nat))+(q0l (p.A[j].B.drop (a+1))+(gL p.A[j].body+T5 (p.A.drop (j+1))):Nat))=XJ (gPg p:Nat):=by
   rw[ZH (by omega),<-v];congr 1;omega
  exact nX (a+1,XJ (n+(1+p.A[j].B[a].name.length:Nat))) ⟨by simp only;omega,ZZ (by omega),z⟩
 .obtain ⟨f1,f2⟩:=fin (w (by omega));exact nX (j+1,XJ (n+gL p.A[j].body)) ⟨by simp only;omega,f1,f2⟩
inductive SubE:List AV->List AV->Prop
 |nil:SubE [] []
 |cons {a b:AV} {xs ys:List AV} (h:SubL a.cells b.cells) (hs:SubE xs ys):SubE (a::xs) (b::ys)
theorem SubE.get{xs q:List AV}(h:SubE xs q):xs.length=q.length/\∀(i:Nat)(b:AV),q[i]?=some b->∃a,xs[i]?=some a/\SubL a.cells b.cells:=by
 induction h with
 |nil=>exact⟨rfl,by simp⟩
 | cons h t r=>
   refine⟨by simp[r.1],fun i b m=>?_⟩;cases i with
   |zero=>simp at m;subst m;exact⟨_,rfl,h⟩
   |succ i=>exact r.2 i b (by simpa using m)
theorem Sub.sl{xs w:List AV}(h:SubE xs w):Sub (.sl xs) (.sl w):=fun σ v hr=>by
 obtain⟨A,z⟩:=h.get;cases hr with
 | nilsl=>
   obtain rfl:w=[]:=by simpa using A.symm
   exact .nilsl
 | slz b=>
   obtain rfl:w=[]:=by simpa using A.symm
   exact .slz b
 | sl _ b off cap sz cells u F D t C G B=>
   rw[A];refine .sl w b off cap sz cells u F (by omega) t (fun i e r=>?_) (fun i e j c r g=>?_) (fun i e j c r g=>?_)
   .obtain ⟨a,m,q⟩:=z i e r;rw[<-C i a m,q.1]
   .obtain ⟨a,m,q⟩:=z i e r;obtain⟨d,x,_⟩:=q.get g;exact G i a j d m x
   .obtain ⟨a,m,q⟩:=z i e r;obtain⟨d,x,E⟩:=q.get g;exact E _ _ (B i a j d m x)
def Ug(n:Int):aP 54 [.int .i64 n] (.agg (X.mk 1 n [] []).cells):=by
 refine sC Qz func54 ?_;conv=>whnf
 repeat' (refine x9g rfl ?_;conv=>whnf)
 exact⟨_,.p (Sub.agg x6i),rfl⟩
def Wo(s:Str):aP 55 [.str s] (.agg (X.mk 2 0 s []).cells):=by
 refine sC MJ func55 ?_;conv=>whnf
 repeat' (refine x9g rfl ?_;conv=>whnf)
 exact⟨_,.p (Sub.agg x6i),rfl⟩
def FC(op:Int)(a b:X):aP 56 [.int .i64 op,.agg a.cells,.agg b.cells] (.agg (X.mk op 0 [] [a,b]).cells):=by
 refine sC Qv func56 ?_;conv=>whnf
 repeat' ((first|refine x9g rfl ?_|refine aD ?_|refine BsK.pureL rfl rfl ?_)<;>conv=>whnf)
 have e:X.avs [a,b]=[.agg a.cells,.agg b.cells]:=by simp only[X.avs,X.av_eq]
 exact⟨_,.p (Sub.agg (SubL.cons (Sub.refl _) (SubL.cons (Sub.refl _) (SubL.cons (Sub.refl _) (SubL.cons (Sub.of_eq (by show _=AV.sl (X.avs [a,b]);rw[e];rfl)) SubL.nil))))),rfl⟩
def bs(l:List Nat):Str:=l.map fun n=>UInt8.ofNat n
def someP:Pg:=⟨[[103]],[
 ⟨[109,97,105,110],[],[[118]],[
   .mk 1 1 [] [118] [] (.mk 1 2 [] []) false [] [] [],
   .mk 2 4 [] [103] [112] (.mk 0 0 [] []) false [⟨false,[],.mk 1 3 [] []⟩,⟨true,[118],.mk 0 0 [] []⟩] [] [],
   .mk 3 3 [] [] [] (.mk 2 0 [118] []) false [] [] [],
   .mk 4 3 [] [] [] (.mk 2 0 [103] []) false [] [] []],[]⟩,
 ⟨[112],[⟨[120],false⟩,⟨[121],true⟩],[],[
   .mk 5 1 [] [121] [] (.mk 8 0 [] [.mk 2 0 [121] [],.mk 2 0 [120] []]) false [] [] [],
   .mk 6 5 [] [] [] (.mk 12 0 [] [.mk 2 0 [121] [],.mk 1 9 [] []]) false [] [.mk 7 10 [] [101] [] (.mk 0 0 [] []) false [] [] []] [],
   .mk 8 9 [] [] [] (.mk 2 0 [121] []) true [] [] []],[[101]]⟩]⟩
def Wc:aP 32 [] (.agg someP.cells):=by
 refine sC MU func32 ?_;conv=>whnf
 repeat' ((first|refine cP (Ug _) ?_|refine cP (Wo _) ?_|refine gX ?_|refine BsK.pureL rfl rfl ?_|refine cP (FC 8 (.mk 2 0 [121] []) (.mk 2 0 [120] [])) ?_|refine cP (FC 12 (.mk 2 0 [121] []) (.mk 1 9 [] [])) ?_)<;>conv=>whnf)
 exact⟨_,.p (Sub.agg (by repeat' (first|exact SubL.nil|exact SubE.nil|exact Sub.nils|exact Sub.ff rfl|exact Sub.tt rfl|refine SubL.cons ?_ ?_|refine SubE.cons ?_ ?_|exact Sub.refl _|refine Sub.agg ?_|refine Sub.sl ?_))),rfl⟩
def Y5:Fit someP:=by unfold Fit;decide
def FN:QL someP=true:=by kernel_rfl
def f0:Pr:=someP.A[0]'(by decide)
def f1:Pr:=someP.A[1]'(by decide)
def x1a:VD (QM someP 0 f0)=[⟨0,1,1⟩,⟨1,2,1⟩,⟨2,3,1⟩,⟨3,4,1⟩,⟨4,-1,1⟩]:=by
 have h:QM someP 0 f0=[⟨0,1,1⟩,⟨1,2,1⟩,⟨2,3,1⟩,⟨3,4,1⟩,⟨4,-1,1⟩]:=by kernel_rfl
 unfold VD GY;rw[h,List.mergeSort_of_pairwise (by decide)];rfl
def x1e:VD (QM someP 1 f1)=[⟨0,5,1⟩,⟨5,6,1⟩,⟨6,7,1⟩,⟨6,8,1⟩,⟨7,-1,1⟩,⟨8,-1,1⟩]:=by
 have h:QM someP 1 f1=[⟨0,5,1⟩,⟨5,6,1⟩,⟨6,7,1⟩,⟨6,8,1⟩,⟨7,-1,1⟩,⟨8,-1,1⟩]:=by kernel_rfl
 unfold VD GY;rw[h,List.mergeSort_of_pairwise (by decide)];rfl
def SF(n k:Int):Int:=if k<1 then 0 else if n.tmod k<0 then n.tmod k+k else n.tmod k
def P1{n k:Int}(m:0<k):0<=SF n k/\SF n k<k:=by
 unfold SF;have r:=Int.tmod_lt_of_pos n m;have t : -k<n.tmod k:=by
  rcases Int.le_total 0 n with h|h
  .have:=Int.tmod_nonneg k h;omega
  .have q:=Int.tmod_lt_of_pos (-n) m;rw[Int.neg_tmod]at q;omega
 rw[if_neg (by omega)];split<;>omega
def Uj(n k:Int)(q:k<=1000000):aP 18 [.int .i64 n,.int .i64 k] (.int .i64 (SF n k)):=by
 refine sC Qq func18 ?_;conv=>whnf
 have m:=fun h:0<k=>P1 (n:=n) h;repeat' ((first|refine x9g (by omega) ?_|(apply bD<;>intro _<;>try omega))<;>conv=>whnf)
 all_goals first
  | (refine Wr.i64 (by have:=m (by omega);unfold SF at this;rw[if_neg (by omega),if_pos (by assumption)]at this;omega) (by have:=m (by omega);unfold SF at this;rw[if_neg (by omega),if_pos (by assumption)]at this;omega) ?_
     conv=>whnf
     exact RetK.int (by unfold SF;rw[if_neg (by assumption),if_pos (by assumption)]))
  |exact RetK.int (by unfold SF;rw[if_pos (by assumption)])
  |exact RetK.int (by unfold SF;rw[if_neg (by assumption),if_neg (by assumption)])
def Bm(l:List Int)(x:Int):Bool:=l.any fun y=>decide (x=y)
def Wt(l:List Int)(x:Int):aP 45 [QE l,.int .i64 x] (.bool (Bm l x)):=by
 refine sC MQ func45 ?_;conv=>whnf
 repeat' ((refine iM fun _=>?_)<;>conv=>whnf)
 have q:(l.map (AV.int .i64)).length=l.length:=x8g _;refine lI (fun j:Nat=>⟨[(1,.j x),(7,.p (QE l)),(8,.p (.int .i64 (l.map (AV.int .i64)).length)),(9,.j j)],[]⟩) (fun j=>j<=l.length/\(l.drop j).any (fun y=>decide (x=y))=Bm l x) (fun j=>l.length-j) 0 ⟨x8m _,rfl⟩ ?_;rintro j ⟨n,m⟩;rcases x8a j l.length with h|h
 .conv=>whnf
  repeat' ((first|(refine gX ?_;intros)|(apply bD<;>intro _<;>try omega))<;>conv=>whnf)
  all_goals first
   |exact RetK.tt (by rw[<-m,Yp h (by simp_all)])
   |exact nX (j+1) ⟨h,by rw[Vq h (by simp;omega)];exact m⟩
 .conv=>whnf
  repeat' (apply bD<;>intro _<;>first|omega|conv=>whnf)
  exact RetK.ff (by rw[<-m,DL h])
def inS(l:List Str)(x:Str):Bool:=l.any fun y=>y==x
def KL(l:List Str)(x:Str):aP 50 [eStrs l,.str x] (.bool (inS l x)):=by
 refine sC Zp func50 ?_;conv=>whnf
 repeat' ((refine iM fun _=>?_)<;>conv=>whnf)
 have q:(l.map AV.str).length=l.length:=x8g _;refine lI (fun j:Nat=>⟨[(0,.p (eStrs l)),(1,.p (.str x)),(7,.p (.int .i64 (l.map AV.str).length)),(8,.j j)],[]⟩) (fun j=>j<=l.length/\(l.drop j).any (fun y=>y==x)=inS l x) (fun j=>l.length-j) 0 ⟨x8m _,rfl⟩ ?_;rintro j ⟨n,m⟩;rcases x8a j l.length with h|h
 .conv=>whnf
  repeat' ((first|(refine gX ?_;intros)|((first|apply bD|apply bB)<;>intro _<;>try omega))<;>conv=>whnf)
  .exact RetK.tt (by rw[<-m,Yp h (by assumption)])
  .exact nX (j+1) ⟨h,by rw[Vq h (by assumption)];exact m⟩
 .conv=>whnf
  repeat' (apply bD<;>intro _<;>first|omega|conv=>whnf)
  exact RetK.ff (by rw[<-m,DL h])
theorem Ku{α β:Type}{f:α->β}:∀{l:List α},(l.map f).Nodup->∀a∈l,∀b∈l,f a=f b->a=b
 |[],_,a,ha,_,_,_=>by cases ha
 | c::r,h,a,ha,b,hb,e=>by
   rw[x9f,z0h]at h;rcases x8r.1 ha with n|n
   .rcases x8r.1 hb with m|m
    .rw [n,m]
    .exact (h.1 (x8s.2 ⟨b,m,by rw[<-e,n]⟩)).elim
   .rcases x8r.1 hb with m|m
    .exact (h.1 (x8s.2 ⟨a,n,by rw[e,m]⟩)).elim
    .exact Ku h.2 a n b m e
theorem HG{α:Type}[DecidableEq α]:∀{l m:List α},l.Nodup->(∀s∈l,s∈m)->l.length<=m.length
 |[],m,_,_=>x8m _
 | a::r,m,h,hs=>by
   rw[z0h]at h;have ha:=hs a x8p;have q:=HG (m:=m.erase a) h.2 fun s n=>(List.mem_erase_of_ne (fun e=>h.1 (by rw[<-e];exact n))).2 (hs s (x8b _ n));rw[List.length_erase_of_mem ha]at q;have:=z4a ha;simp only[x9s];omega
def A3(n c:Nat):(KO n c).Nodup:=by
 unfold KO Nodup;rw[List.pairwise_map];exact List.Pairwise.imp (fun h e=>h (by omega)) (List.nodup_range' (s:=n+1) (n:=c) (step:=1))
def Tv(m:KT p=true)(h:p.A[j]?=some f):(itsOf p j f).map (fun n=>n.s.id)=KO (QC p.A j) (QY f.body):=by
 rw[<-IM m h,<-W3 (j:Nat) 0 (-1) 0 (QC p.A j) f.body,z2c];rfl
def Ic(q:KT p=true)(n:p.A[j]?=some f){a b:Item}(ha:a∈itsOf p j f)(m:b∈itsOf p j f)(h:a.s.id=b.s.id):a=b:=
 Ku (f:=fun r:Item=>r.s.id) (by rw[Tv q n];exact A3 _ _) a ha b m h
def q8n{t:S}(h:t∈flL f.body):∃m∈itsOf p j f,m.s=t:=by
 rw[<-W3 (j:Nat) 0 (-1) 0 (QC p.A j) f.body]at h;obtain⟨m,n,q⟩:=x8s.1 h;exact⟨m,n,q⟩
def SG{l:List Step}(h:l.Pairwise W4):l.Nodup:=h.imp fun h e=>by subst e;exact FJ h
def q2b{l:List Int}{x:Int}:Bm l x=true↔x∈l:=by
 unfold Bm;rw[z1b];refine⟨fun⟨y,n,m⟩=>by simp at m;exact m▸n,fun h=>⟨x,h,by simp⟩⟩
def Sr{n c:Nat}{a:Int}(h:(n:Int)+1<=a)(m:a<=(n+c:Nat)):a∈KO n c:=by
 unfold KO;refine x8s.2 ⟨a.toNat,List.mem_range'.2 ⟨a.toNat-(n+1),by omega,by omega⟩,by omega⟩
inductive Rch{α:Type}(R:α->α->Prop)(a:α):α->Prop
 |refl:Rch R a a
 |tail {b c:α} (h:Rch R a b) (hr:R b c):Rch R a c
theorem Rch.trans{α:Type}{R:α->α->Prop}{a b c:α}(h:Rch R a b)(m:Rch R b c):Rch R a c:=by
 induction m with
 |refl=>exact h
 |tail _ hr q=>exact .tail q hr
theorem Rch.head{α:Type}{R:α->α->Prop}{a b c:α}(hr:R a b)(h:Rch R b c):Rch R a c:=Rch.trans (.tail .refl hr) h
theorem Rch.mono{α:Type}{R R':α->α->Prop}(h:∀x y,R x y->R' x y){a b:α}(hr:Rch R a b):Rch R' a b:=by
 induction hr with
 |refl=>exact .refl
 |tail _ hr m=>exact .tail m (h _ _ hr)
theorem Rch.closed{α:Type}{R:α->α->Prop}{S:α->Prop}(m:∀x y,S x->R x y->S y){a b:α}(ha:S a)(h:Rch R a b):S b:=by
 induction h with
 |refl=>exact ha
 |tail _ hr q=>exact m _ _ q hr
structure WkM(n:Nat)(st:List Bool×List Int):Prop where
 inv:wkInv n st
 mem:∀x,x∈st.2↔(0<=x/\x<n)/\st.1.getD x.toNat false=true
theorem WkM.start(n:Nat):WkM n (List.replicate n false,[]):=⟨LT n,fun x=>by
 simp only[z3w,false_iff,not_and];intro _;rw[x8f,x9l];split<;>simp⟩
theorem WkM.see{n:Nat}{st:List Bool×List Int}(h:WkM n st){b:Int}(t:0<=b/\b<n):WkM n (GU st b)/\(∀x,x∈(GU st b).2↔x∈st.2\/x=b)/\st.2 <+: (GU st b).2:=by
 have v:=Xl h.inv t;cases u:st.1.getD b.toNat false with
 | true=>
   have e:GU st b=st:=by unfold GU;rw[u];rfl
   rw[e];refine⟨h,fun x=>⟨.inl,fun q=>?_⟩,List.prefix_refl _⟩;rcases q with q|rfl
   .exact q
   .exact (h.mem _).2 ⟨t,u⟩
 | false=>
   have e:GU st b=(st.1.set b.toNat true,st.2++[b]):=by unfold GU;rw[u];rfl
   rw[e]at v⊢;have w:=h.inv.1;refine⟨⟨v,fun x=>?_⟩,fun x=>by simp,List.prefix_append _ _⟩;rw[x8e,x8l,h.mem];simp only[x8f,z3i];by_cases q:x=b
   .subst q;rw[if_pos rfl,if_pos (by omega)];simp[t]
   .constructor
    .rintro (⟨r,m⟩|m)
     .refine ⟨r,?_⟩;rw[if_neg (by omega)];exact m
     .exact absurd m q
    .rintro ⟨r,m⟩;rw[if_neg (by omega)]at m;exact .inl ⟨r,m⟩
theorem WkM.fold{n:Nat}:∀(l:List Int){st:List Bool×List Int},WkM n st->(∀b∈l,0<=b/\b<n)->WkM n (l.foldl GU st)/\(∀x,x∈(l.foldl GU st).2↔x∈st.2\/x∈l)/\st.2 <+: (l.foldl GU st).2
 |[],st,h,_=>⟨h,fun x=>by simp,List.prefix_refl _⟩
 | b::r,st,h,hl=>by
   obtain⟨m,q,t⟩:=h.see (hl b x8p);obtain⟨u,v,w⟩:=WkM.fold r m fun c z=>hl c (x8b _ z);refine⟨u,fun x=>?_,t.trans w⟩;rw[z1n,v,q,x8r,z5t]
def Pu(rows:List (List Int))(x y:Int):Prop:=y∈rows.getD x.toNat []
def BR{n:Nat}{rows:List (List Int)}(hr:XH n rows){x:Int}(h:Pu rows x y):0<=y/\y<n:=by
 unfold Pu at h;rw[x8f]at h;cases m:rows[x.toNat]?with
 |none=>rw[m]at h;simp at h
 |some r=>rw[m]at h;exact hr.2 r (x9x m) y h
def Fo{α:Type}{l m:List α}(h:l <+: m){i:Nat}{a:α}(ha:l[i]?=some a):m[i]?=some a:=by
 obtain⟨t,rfl⟩:=h;rw[z0f (x8t.1 ha).1];exact ha
theorem Gf{n:Nat}{rows:List (List Int)}(hr:XH n rows):∀(k i:Nat){st:List Bool×List Int},WkM n st->i<=st.2.length->n+1<=k+i->(∀(m:Nat)(a:Int),m<i->st.2[m]?=some a->∀b,Pu rows a b->b∈st.2)->
  WkM n (ZD rows k i st)/\(∀x∈st.2,x∈(ZD rows k i st).2)/\(∀x∈(ZD rows k i st).2,∀b,Pu rows x b->b∈(ZD rows k i st).2)/\(∀S:Int->Prop,(∀x∈st.2,S x)->(∀x b,S x->Pu rows x b->S b)->∀x∈(ZD rows k i st).2,S x)
 | 0,i,st,h,hi,hk,_=>by
   have:=PW h.inv;omega
 | k+1,i,st,h,hi,hk,hc=>by
   rw[ZD];split
   .rename_i a ha;have B:=(x8t.1 ha).1;have d:∀b∈rows.getD a.toNat [],0<=b/\b<n:=fun b t=>BR hr t;obtain⟨E,g,A⟩:=h.fold (rows.getD a.toNat []) d;obtain⟨F,G,H,I⟩:=Gf hr k (i+1) E (x9r B A.length_le) (by omega) fun m c C r b t=>by
     rw[g];rcases x8a m i with w|w
     .have z:m<st.2.length:=by omega
      have v:st.2[m]?=some c:=by
       have:=Fo A (x8h z);rw[x8h z,<-this,r]
      exact .inl (hc m c w v b t)
     .obtain rfl:m=i:=by omega
      have:=Fo A ha;rw[this]at r;cases r;exact .inr t
    refine⟨F,fun x q=>G x ((g x).2 (.inl q)),H,fun S e u=>I S (fun x q=>?_) u⟩;rcases(g x).1 q with q|q
    .exact e x q
    .exact u a x (e a (x9x ha)) q
   .rename_i ha;have D:st.2.length<=i:=z2i.1 ha;refine⟨h,fun x q=>q,fun x q b t=>?_,fun S e _=>e⟩;obtain⟨m,C⟩:=z1g.1 q;exact hc m x (by have:=(x8t.1 C).1;omega) C b t
theorem Wb{n:Nat}:∀(l:List Int){st:List Bool×List Int},WkM n st->WkM n (l.foldl (fun st a=>bif ZT n a then GU st a else st) st)/\∀x,x∈(l.foldl (fun st a=>bif ZT n a then GU st a else st) st).2↔x∈st.2\/(x∈l/\ZT n x=true)
 |[],st,h=>⟨h,fun x=>by simp⟩
 | a::r,st,h=>by
   rw[z1n];cases v:ZT n a with
   | true=>
     obtain⟨w,z,_⟩:=h.see (ZJ v);obtain⟨t,u⟩:=Wb r w;rw[x9y];refine⟨t,fun x=>?_⟩;rw[u,z,x8r];constructor
     .rintro ((m|rfl)|⟨m,q⟩)
      .exact .inl m
      .exact .inr ⟨.inl rfl,v⟩
      .exact .inr ⟨.inr m,q⟩
     .rintro (m|⟨rfl|m,q⟩)
      .exact .inl (.inl m)
      .exact .inl (.inr rfl)
      .exact .inr ⟨m,q⟩
   | false=>
     obtain⟨t,u⟩:=Wb r h;rw[x9p];refine⟨t,fun x=>?_⟩;rw[u,x8r];constructor
     .rintro (m|⟨m,q⟩)
      .exact .inl m
      .exact .inr ⟨.inr m,q⟩
     .rintro (m|⟨rfl|m,q⟩)
      .exact .inl m
      .rw [v]at q;cases q
      .exact .inr ⟨m,q⟩
theorem SK:∀(l:List Bool)(i:Nat)(y:Int),y∈DZ i l ↔ ∃k:Nat,l[k]?=some true/\y=((i+k:Nat):Int)
 |[],i,y=>by simp[DZ]
 | b::r,i,y=>by
   have n:=SK r (i+1) y;have key:(∃k:Nat,(b::r)[k]?=some true/\y=((i+k:Nat):Int))↔(b=true/\y=(i:Int))\/∃k:Nat,r[k]?=some true/\y=((i+1+k:Nat):Int):=by
    constructor
    .rintro ⟨k,h,m⟩;cases k with
     |zero=>simp at h;exact .inl ⟨h,by simpa using m⟩
     |succ k=>exact .inr ⟨k,by simpa using h,by rw[m];omega⟩
    .rintro (⟨h,m⟩|⟨k,h,m⟩)
     .exact ⟨0,by simp[h],by simpa using m⟩
     .exact ⟨k+1,by simpa using h,by rw[m];omega⟩
   rw[key,<-n,DZ];cases b<;>simp
def Lm{n:Nat}{rows:List (List Int)}(hr:XH n rows)(l:List Int)(y:Int):y∈DZ 0 (WX rows l) ↔ ∃a∈l,ZT n a=true/\Rch (Pu rows) a y:=by
 obtain⟨d,e⟩:=Wb (n:=n) l (WkM.start n);obtain⟨v,g,A,B⟩:=Gf hr (rows.length+1) 0 (st:=BE rows.length l) (by rw[hr.1];exact d) (x8m _) (by rw[hr.1];omega) (fun m a D=>by omega);have u:∀x,x∈(BE rows.length l).2↔x∈l/\ZT n x=true:=fun x=>by
  rw[hr.1];unfold BE;rw[e];simp
 have t:∀y,y∈DZ 0 (WX rows l)↔y∈(ZD rows (rows.length+1) 0 (BE rows.length l)).2:=fun y=>by
  rw[SK,v.mem];show(∃k:Nat,(ZD rows (rows.length+1) 0 (BE rows.length l)).1[k]?=some true/\_)↔_;constructor
  .rintro ⟨k,q,h⟩;have r:=(x8t.1 q).1;rw[v.inv.1]at r;refine⟨by omega,?_⟩;rw[h,x8f];simp[q]
  .rintro ⟨q,h⟩;have r:y.toNat<(ZD rows (rows.length+1) 0 (BE rows.length l)).1.length:=by rw[v.inv.1];omega
   refine⟨y.toNat,?_,by omega⟩;rw[x8f,x8h r]at h;rw[x8h r];simpa using h
 rw[t];constructor
 .intro C;refine B (fun y=>∃a∈l,ZT n a=true/\Rch (Pu rows) a y) (fun x c=>?_) (fun x b ⟨a,q,h,w⟩ z=>⟨a,q,h,.tail w z⟩) y C;obtain⟨q,h⟩:=(u x).1 c;exact⟨x,q,h,.refl⟩
 .rintro ⟨a,q,h,w⟩;exact w.closed (S:=fun y=>y∈(ZD rows (rows.length+1) 0 (BE rows.length l)).2) (fun x b c z=>A x c b z) (g a ((u a).2 ⟨q,h⟩))
def Sa{l:List Int}{k:Nat}{b x:Int}:x∈Vf l k b↔x∈l\/x=b:=by
 unfold Vf;rw[x8e,x8r];have:x∈l↔x∈l.take k\/x∈l.drop k:=by rw[<-x8e,z5w]
 rw[this];constructor
 .rintro (h|h|h)
  .exact .inl (.inl h)
  .exact .inr h
  .exact .inl (.inr h)
 .rintro ((h|h)|h)
  .exact .inl h
  .exact .inr (.inr h)
  .exact .inr (.inl h)
def q1w{n:Nat}{g:List (List Int)×List (List Int)}(w:g.1.length=n)(e:Int×Int){x:Int}(u:0<=x/\x<n):y∈(N4 n g e).1.getD x.toNat []↔y∈g.1.getD x.toNat []\/((x,y)=e/\ZT n y=true):=by
 rw[Yd];cases m:(ZT n e.1&&ZT n e.2 && !(g.1.getD e.1.toNat []).contains e.2)with
 | true=>
   simp only[x9w,z2v]at m;obtain⟨⟨r,t⟩,_⟩:=m;have v:=ZJ r;rw[x9y];unfold D0;rw[x8f,z3i];by_cases q:e.1.toNat=x.toNat
   .rw [if_pos q,if_pos (by omega)];simp only[x9i];rw[Sa,<-q];have:x=e.1:=by omega
    constructor
    .rintro (h|h)
     .exact .inl h
     .exact .inr ⟨by rw[this,h],by rw[h];exact t⟩
    .rintro (h|⟨h,_⟩)
     .exact .inl h
     .exact .inr (by rw[<-h])
   .rw [if_neg q,<-x8f];constructor
    .exact .inl
    .rintro (h|⟨h,_⟩)
     .exact h
     .exact absurd (by rw[<-h]) q
 | false=>
   rw[x9p];constructor
   .exact .inl
   .rintro (h|⟨rfl,h⟩)
    .exact h
    .have r:ZT n x=true:=by unfold ZT;simp[u]
     simp only[r,h,z5h,Bool.not_eq_false']at m;simpa using m
def TR{n:Nat}{g:List (List Int)×List (List Int)}(h:g.1.length=n)(e:Int×Int):(N4 n g e).1.length=n:=by
 rw[Yd];cases(ZT n e.1&&ZT n e.2 && !(g.1.getD e.1.toNat []).contains e.2)with
 |true=>rw[x9y];unfold D0;rw[z0m];exact h
 |false=>exact h
theorem Mp{n:Nat}{x y:Int}(t:0<=x/\x<n):∀(l:List (Int×Int)){g:List (List Int)×List (List Int)},g.1.length=n->(y∈(l.foldl (N4 n) g).1.getD x.toNat []↔y∈g.1.getD x.toNat []\/((x,y)∈l/\ZT n y=true))
 |[],g,_=>by simp
 | e::r,g,h=>by
   rw[z1n,Mp t r (TR h e),q1w h e t,x8r];constructor
   .rintro ((m|⟨m,q⟩)|⟨m,q⟩)
    .exact .inl m
    .exact .inr ⟨.inl m,q⟩
    .exact .inr ⟨.inr m,q⟩
   .rintro (m|⟨m|m,q⟩)
    .exact .inl (.inl m)
    .exact .inl (.inr ⟨m,q⟩)
    .exact .inr ⟨m,q⟩
def PP{n:Nat}{l:List (Int×Int)}{x:Int}(h:0<=x/\x<n):Pu (QA n l).1 x y↔(x,y)∈l/\ZT n y=true:=by
 unfold Pu QA;rw[Mp h l (by simp)];have:(List.replicate n ([]:List Int)).getD x.toNat []=[]:=by
  rw[x8f,x9l];split<;>rfl
 rw[this];simp
def Jn{n:Nat}{l:List (Int×Int)}(v:0<n)(y:Int):y∈DZ 0 (WX (QA n l).1 [0])↔Rch (fun a b=>(a,b)∈l/\ZT n b=true) 0 y:=by
 rw[Lm (KW n l).1];have u:ZT n 0=true:=by unfold ZT;simp;omega
 constructor
 .rintro ⟨a,ha,_,h⟩;obtain rfl:a=0:=by simpa using ha
  exact(h.closed (S:=fun x:Int=>(0<=x/\x<n)/\Rch (fun a b=>(a,b)∈l/\ZT n b=true) 0 x) (fun x y ⟨q,r⟩ m=>by
   have t:=(PP q).1 m;exact⟨ZJ t.2,.tail r t⟩) ⟨⟨by omega,by omega⟩,.refl⟩).2
 .intro h;refine⟨0,by simp,u,?_⟩;exact(h.closed (S:=fun x:Int=>(0<=x/\x<n)/\Rch (Pu (QA n l).1) 0 x) (fun x y ⟨q,r⟩ m=>⟨ZJ m.2,.tail r ((PP q).2 m)⟩) ⟨⟨by omega,by omega⟩,.refl⟩).2
def stR(F:List Step)(a b:Int):Prop:=∃s∈F,s.src=a/\s.dst=b
def plP(p:Pg)(j:Nat)(f:Pr)(x:Int):Prop:=x=0\/x = -1\/((QC p.A j:Int)+1<=x/\x<=(QC p.A j+QY f.body:Nat))
def ixI(p:Pg)(j:Nat)(f:Pr)(x:Int):Int:=KU (loI p j) (hiI p j f) (QY f.body+2:Nat) x
def KY{x:Int}(h:plP p j f x):0<=ixI p j f x/\ixI p j f x<(QY f.body+2:Nat):=by
 unfold ixI KU loI hiI;unfold plP at h
 (repeat' split)<;>omega
def Ms{x:Int}(m:plP p j f x)(n:plP p j f y)(h:ixI p j f x=ixI p j f y):x=y:=by
 unfold ixI KU loI hiI at h;unfold plP at m n
 (repeat' split at h)<;>omega
def AP{F:List Step}(v:∀s∈F,plP p j f s.src/\plP p j f s.dst)(g:plP p j f y):
  ixI p j f y∈DZ 0 (WX (QA (QY f.body+2) (F.map (ixP p j f (QY f.body+2:Nat)))).1 [0])↔Rch (stR F) 0 y:=by
 rw[Jn (by omega)];have e0:ixI p j f 0=0:=by unfold ixI KU;rw[if_pos rfl]
 have x:plP p j f 0:=.inl rfl;constructor
 .intro h;obtain⟨z,q,m,t⟩:=h.closed (S:=fun i=>∃z,plP p j f z/\ixI p j f z=i/\Rch (stR F) 0 z) (by
   rintro a b ⟨z,q,m,t⟩ ⟨e,_⟩;obtain⟨s,n,w⟩:=x8s.1 e;obtain⟨u,r⟩:=v s n;have c:ixI p j f s.src=a:=z0o Prod.fst w;have e2:ixI p j f s.dst=b:=z0o Prod.snd w;have d:s.src=z:=Ms u q (by rw[c,m]);exact⟨s.dst,r,e2,.tail t ⟨s,n,d,rfl⟩⟩) ⟨0,x,e0,.refl⟩
  rw[<-Ms q g m];exact t
 .intro h;have:=h.closed (S:=fun z=>plP p j f z/\Rch (fun a b=>(a,b)∈F.map (ixP p j f (QY f.body+2:Nat))/\ZT (QY f.body+2) b=true) 0 (ixI p j f z)) (by
   rintro a b ⟨q,m⟩ ⟨s,n,rfl,rfl⟩;obtain⟨u,r⟩:=v s n;refine⟨r,.tail m ⟨x8s.2 ⟨s,n,rfl⟩,?_⟩⟩;have:=KY r;unfold ZT;simp only[x9w,z0w];exact this) ⟨x,by rw[e0];exact .refl⟩
  exact this.2
def VE(h:QL p=true)(m:p.A[j]?=some f):∀s∈(QQ p j f).real,plP p j f s.src/\plP p j f s.dst:=fun s t=>by
 obtain⟨_,n⟩:=Xf h m;obtain⟨_,q,_⟩:=Zc h m;obtain⟨u,r⟩:=q s ((n s).1 t);unfold okI at r;unfold plP;omega
def Cf{l:List Str}(h:UY l=false):l.Nodup:=by
 unfold UY at h;rw[z4h]at h;unfold Nodup;rw[z3r];intro i j t m r q;have n:=h j (z0t.2 m);apply n;rw[z1b];refine⟨l[i],?_,?_⟩
 .exact z0l.2 ⟨i,by simp;omega,by simp⟩
 .rw [x8h m];simp[q]
def Kq(h:QL p=true):(QK p).Nodup:=by
 obtain⟨q,n,_⟩:=QG h;unfold QO at n;rw[q,x9y]at n;cases m:VU p with
 |true=>rw[m]at n;cases n
 | false=>
   unfold VU at m;simp only[z3f]at m;exact Cf m.2.1
def SI(h:QL p=true){k:Nat}{g:Pr}(r:p.A[j]?=some f)(q:p.A[k]?=some g)(u:f.name=g.name):j=k/\f=g:=by
 have v:=Kq h;have m:(QK p)[j]?=some f.name:=by simp[QK,r]
 have t:(QK p)[k]?=some g.name:=by simp[QK,q]
 rw[u]at m;have n:=(x8t.1 m).1;obtain rfl:j=k:=(List.getElem?_inj n v).1 (m.trans t.symm);rw[r]at q;exact⟨rfl,z1e q⟩
def AT:∀(k:Nat)(l:List S)(_:QY l<k)(_:QY l<=1000000),aP 38 [eSs l] (.int .i64 (QY l)):=by
 intro k;induction k with
 |zero=>intro l h;omega
 | succ k w=>
   intro l a b;have u:=S.avs_len l;have c:l.length<=QY l:=by
    clear a b u;induction l with
    |nil=>simp
    |cons t r m=>rw[QY,VA,x9s];omega
   refine sC Nk func38 ?_;conv=>whnf
   repeat' ((refine iM fun _=>?_)<;>conv=>whnf)
   refine lJ (fun y:Nat×Nat=>⟨[(0,.p (eSs l)),(3,.j y.2),(8,.p (.int .i64 (S.avs l).length)),(9,.j y.1)],[]⟩) (fun y=>y.1<=l.length/\y.2+QY (l.drop y.1)=QY l+(l.length-y.1)) (fun y=>l.length-y.1) (0,l.length) (Le.of_eq (by simp only[S.avs_len];rfl)) ⟨x8m _,by simp;omega⟩ ?_;rintro⟨j,n⟩ ⟨x,v⟩;simp only at x v⊢;rcases x8a j l.length with q|q
   .have d:=Qn q;have z:=VA l[j];have e:QY (l.drop j)<=QY l:=by
     have:∀(l:List S)(j:Nat),QY (l.drop j)<=QY l:=fun l=>by
      induction l with
      |nil=>intro j;simp
      | cons t r m=>
        intro j;cases j with
        |zero=>simp
        |succ j=>rw[List.drop_succ_cons,QY];have:=m j;omega
     exact this l j
    conv=>whnf
    repeat' ((first|refine dA ?_|(refine gX ?_;intros)|refine cP (w l[j].M (by omega) (by omega)) ?_ (ha:=.cons (Sub.refl _) .nil)|refine cP (w l[j].V (by omega) (by omega)) ?_ (ha:=.cons (Sub.refl _) .nil)|(apply bD<;>intro _<;>try omega))<;>conv=>whnf)
    all_goals exact nX (j+1,n+(QY l[j].M+QY l[j].V)) ⟨by simp only;omega,by simp only;omega⟩
   .conv=>whnf
    rw[x9v q,QY]at v;repeat' (apply bD<;>intro _<;>first|omega|conv=>whnf)
    exact RetK.int (by omega)
def AR(p:Pg)(v:cntP p.A<=1000):aP 10 [.agg p.cells] (.int .i64 (cntP p.A)):=by
 refine sC Nj func10 ?_;conv=>whnf
 have t:(p.A.map fun f=>AV.agg f.cells).length=p.A.length:=x8g _;repeat' ((refine iM fun _=>?_)<;>conv=>whnf)
 refine lI (fun y:Nat×Nat=>⟨[(3,.j y.2),(7,.p (.sl (p.A.map fun f=>.agg f.cells))),(8,.p (.int .i64 (p.A.map fun f=>AV.agg f.cells).length)),(9,.j y.1)],[]⟩) (fun y=>y.1<=p.A.length/\y.2+cntP (p.A.drop y.1)=cntP p.A) (fun y=>p.A.length-y.1) (0,0) ⟨x8m _,by simp⟩ ?_;rintro⟨j,n⟩ ⟨q,m⟩;simp only at q m⊢;rcases x8a j p.A.length with h|h
 .have u:=J2 h;have r:=Ud _ _ (x8o h);conv=>whnf
  repeat' ((first|(refine gX ?_;intros)|refine cP (AT (QY p.A[j].body+1) p.A[j].body (by omega) (by omega)) ?_ (ha:=.cons (Sub.refl _) .nil)|(apply bD<;>intro _<;>try omega))<;>conv=>whnf)
  exact nX (j+1,n+QY p.A[j].body) ⟨by simp only;omega,by simp only;omega⟩
 .conv=>whnf
  rw[x9v h,cntP]at m;repeat' (apply bD<;>intro _<;>first|omega|conv=>whnf)
  exact RetK.int (by omega)
def D9(p:Pg)(h:Int):Bool:=QL p&&decide ((cntP p.A:Int)<=h)
def KV{l:List Str}{x:Str}:inS l x=true↔x∈l:=by
 unfold inS;rw[z1b];constructor
 .rintro ⟨y,m,n⟩;have:y=x:=by simpa using n
  rw[<-this];exact m
 .intro h;exact⟨x,h,by simp⟩
def Pp(h:QL p=true)(r:p.A[j]?=some f){a:Int}(d:(QC p.A j:Int)+1<=a)(e:a<=(QC p.A j+QY f.body:Nat)):∃t∈flL f.body,AD p a=some t/\t.id=a:=by
 obtain⟨n,v,x⟩:=Xr r (k:=(a-1).toNat) (by omega) (by omega);refine⟨n.s,BU x,by unfold AD;rw[v];rfl,?_⟩;obtain⟨_,_,_,w,u⟩:=QU p;obtain⟨_,_,c,b⟩:=u j f r;have m:=Tv (QG h).1 r;have z:(itsOf p j f)[(a-1).toNat-QC p.A j]?=some n:=by
  unfold itsOf;rw[<-b,z0p,z0u,if_pos (by omega),show QC p.A j+((a-1).toNat-QC p.A j)=(a-1).toNat by omega];exact v
 have q:((itsOf p j f).map fun n=>n.s.id)[(a-1).toNat-QC p.A j]?=some n.s.id:=by rw[x8n,z];rfl
 rw[m]at q;unfold KO at q;rw[x8n,List.getElem?_range' (by omega)]at q;simp at q;omega
def Tf{l:List Str}{s:Str}(h:s∈l):s∈Go.Lib.compact l:=by
 have key:∀(j:Nat)(m:j<l.length),l[j]∈Go.Lib.compact l:=fun j=>by
  induction j with
  | zero=>
    intro m;refine x8s.2 ⟨0,z0v.2 ⟨by simpa using m,by simp[Go.Lib.keeps]⟩,?_⟩;simp[m]
  | succ j r=>
    intro m;cases q:Go.Lib.keeps l.toArray (j+1)with
    | true=>
      refine x8s.2 ⟨j+1,z0v.2 ⟨by simpa using m,q⟩,?_⟩;simp[m]
    | false=>
      have n:j<l.length:=by omega
      have:l[j+1]=l[j]:=by
       unfold Go.Lib.keeps at q;simp[m,n]at q;exact q
      rw[this];exact r n
 obtain⟨j,m,rfl⟩:=z0l.1 h;exact key j m
def KF{l:List Str}{s:Str}:s∈Go.Lib.compact l↔s∈l:=⟨MT,Tf⟩
theorem WU{s:Str}:∀(l out:List Str),s∈XU out l↔s∈out\/s∈l
 |[],out=>by rw[XU];simp
 | n::r,out=>by
   rw[XU,WU r];split
   .rename_i h;obtain⟨m,t,q⟩:=z1b.1 h;have:n=m:=by simpa using q
    subst this;constructor
    .rintro (h|h)
     .exact .inl h
     .exact .inr (x8b _ h)
    .rintro (h|h)
     .exact .inl h
     .rcases x8r.1 h with rfl|h
      .exact .inl t
      .exact .inr h
   .simp only[x8e,x8r,z3w,z5t,false_or]
theorem Zl:∀(l out:List Str),∃r,XU out l=out++r
 |[],out=>⟨[],by rw[XU];simp⟩
 | n::r,out=>by
   rw[XU];split
   .exact Zl r out
   .obtain ⟨m,h⟩:=Zl r (out++[n]);exact⟨n::m,by rw[h];simp⟩
theorem Kb{p:Pg}(z:(QO p).1=0)(n:Str):∀(fuel i:Nat)(out:List Str),out.Nodup->(∀s∈out,s∈QK p)->(∀s∈out,Rch (fun x y=>y∈YL p x) n s)->n∈out->i<=out.length->(∀(j:Nat)(m:Str),j<i->out[j]?=some m->∀y∈YL p m,y∈out)->p.A.length+1<=fuel+i->
  (∀s∈VP p fuel i out,Rch (fun x y=>y∈YL p x) n s)/\n∈VP p fuel i out/\∀m∈VP p fuel i out,∀y∈YL p m,y∈VP p fuel i out
 | 0,i,out,h1,h2,h3,h4,h5,h6,h7=>by
   have:=YF h1 h2;have d:(QK p).length=p.A.length:=x8g _;omega
 | fuel+1,i,out,h1,h2,h3,h4,h5,h6,h7=>by
   rw[VP];cases u:out[i]?with
   | none=>
     have b:out.length<=i:=z2i.1 u;refine⟨h3,h4,fun m t y v=>?_⟩;have t:m∈out:=t;show y∈out;obtain⟨j,w,rfl⟩:=z0l.1 t;exact h6 j _ (by omega) (x8h w) y v
   | some m=>
     have b:=(x8t.1 u).1;have t:m∈out:=x9x u;obtain⟨g1,a,_⟩:=VO (YL p m) h1 h2 fun s h=>DT z h;obtain⟨r,hr⟩:=Zl (YL p m) out;refine Kb z n fuel (i+1) (XU out (YL p m)) g1 a (fun s h=>?_) ((WU _ _).2 (.inl h4)) (by rw[hr,x8d];omega) (fun j c w q y v=>?_) (by omega)
     .rcases (WU _ _).1 h with h|h
      .exact h3 s h
      .exact .tail (h3 m t) h
     .rw [hr,z0f (by omega)]at q;rcases x8a j i with h|h
      .exact (WU _ _).2 (.inl (h6 j c h q y v))
      .have:j=i:=by omega
       subst this;rw[u]at q;cases q;exact(WU _ _).2 (.inr v)
def B4(v:(QO p).1=0){n s:Str}(u:n∈QK p):s∈Gl p n↔Rch (fun x y=>y∈YL p x) n s:=by
 obtain⟨q,r,t⟩:=Kb v n (p.A.length+1) 0 [n] (by simp) (by simpa using u) (fun s h=>by rcases x8l.1 h with rfl;exact .refl) (by simp) (x8m _) (fun j m h=>absurd h (by omega)) (by omega);unfold Gl;rw[XR];exact⟨q s,fun h=>Rch.closed (fun x y w z=>t x w y z) r h⟩
theorem Px{α:Type}{R:α->α->Prop}(irr:∀a,¬R a a)(u:∀a b c,R a b->R b c->R a c):∀{l m:List α},l.Pairwise R->m.Pairwise R->(∀s,s∈l↔s∈m)->l=m
 |[],[],_,_,_=>rfl
 |[],b::m,_,_,h=>by have:=(h b).2 x8p;cases this
 |a::l,[],_,_,h=>by have:=(h a).1 x8p;cases this
 | a::l,b::m,hl,hm,h=>by
   rw[z1p]at hl hm;have t:a=b:=by
    rcases x8r.1 ((h a).1 x8p)with n|n
    .exact n
    rcases x8r.1 ((h b).2 x8p)with r|r
    .exact r.symm
    exact absurd (u _ _ _ (hl.1 b r) (hm.1 a n)) (irr a)
   subst t;rw[Px irr u hl.2 hm.2 fun s=>?_];constructor
   .intro q;rcases x8r.1 ((h s).1 (x8b _ q))with rfl|n
    .exact absurd (hl.1 s q) (irr s)
    .exact n
   .intro q;rcases x8r.1 ((h s).2 (x8b _ q))with rfl|n
    .exact absurd (hm.1 s q) (irr s)
    .exact n
def Cz(l:List Str):(UF l).Pairwise fun a b=>a<=b:=by
 have:=z4l (le:=fun x y:Str=>decide (x<=y)) (fun a b c m n=>by
  rw[z0w]at m n⊢;exact List.le_trans m n) (fun a b=>by
  rcases List.le_total a b with h|h
  .rw [x9e h];rfl
  .rw [x9e h];exact Bool.or_true _) l
 exact this.imp fun h=>by simpa using h
def M2{l:List Str}(h:l.Pairwise fun a b=>a<=b):(Go.Lib.compact l).Pairwise ltT:=by
 unfold Go.Lib.compact Go.Lib.compactUpTo;rw[List.pairwise_map];refine(List.Pairwise.filter _ (List.pairwise_lt_range (n:=l.length))).imp_of_mem fun {i k} d e A=>?_;obtain⟨r,_⟩:=z0v.1 d;obtain⟨m,q⟩:=z0v.1 e;rw[z0t]at r m;have le:∀(a b:Nat)(_:a<=b)(x:b<l.length),l[a]'(by omega)<=l[b]:=fun a b c x=>by
  rcases x8a a b with t|t
  .exact z3r.1 h a b (by omega) x t
  .obtain rfl:a=b:=by omega
   exact List.le_refl _
 have g:∀(a:Nat)(ha:a<l.length),l.toArray[a]! = l[a]:=fun a ha=>by simp[ha]
 rw[g i r,g k m];unfold Go.Lib.keeps at q;rw[z0w,g k m,g (k-1) (by omega)]at q;have v:l[k]≠l[k-1]'(by omega):=by
  rcases q with w|w
  .omega
  .exact w
 have t:=le i (k-1) (by omega) (by omega);have z:=le (k-1) k (by omega) m;rcases List.le_iff_lt_or_eq.1 z with u|u
 .exact BJ.2 (List.lt_of_le_of_lt t u)
 .exact absurd u.symm v
def WH(l:List Str):List Str:=Go.Lib.compact (UF l)
def WZ{l:List Str}{s:Str}:s∈WH l↔s∈l:=by unfold WH;rw[KF,XR]
def ZU(l:List Str):(WH l).Pairwise ltT:=M2 (Cz l)
def Xd{l m:List Str}(h:m.Pairwise ltT)(n:∀s,s∈m↔s∈l):m=WH l:=Px ltT.irr ltT.trans h (ZU l) fun s=>by rw[n,WZ]
def G8{l:List Str}(h:l.Nodup):UF l=WH l:=by
 refine Xd ?_ fun s=>XR;have r:(UF l).Nodup:=by
  unfold UF;exact(z1v l _).nodup_iff.2 h
 refine(List.pairwise_and_iff.2 ⟨Cz l,r⟩).imp fun⟨n,q⟩=>?_;rcases List.le_iff_lt_or_eq.1 n with m|m
 .exact BJ.2 m
 .exact absurd m q
structure RiseI{α:Type}(R:α->α->Prop)(l out:List α)(i:Nat):Prop where
 rise:out.Pairwise R
 sub:∀s∈out,s∈l
 seg:∀s∈l,s∉out->∀o∈out,R o s
 cnt:(∀s∈l,s∈out)\/out.length=i
def LeastI{α:Type}(R:α->α->Prop)(l out:List α)(k:Nat):Option α->Prop
 |none=>∀s∈l.take k,s∈out
 |some m=>m∈l/\m∉out/\∀s∈l.take k,s∉out->s=m\/R m s
section
variable {α:Type}{R:α->α->Prop}{l out:List α}{i k:Nat}
theorem RiseI.zero:RiseI R l [] 0:=⟨.nil,fun _ h=>(by cases h),fun _ _ _ _ h=>(by cases h),.inr rfl⟩
theorem LeastI.zero:LeastI R l out 0 none:=fun s h=>by rw[z5s]at h;cases h
def ZK{s:α}(h:k<l.length):s∈l.take (k+1)↔s∈l.take k\/s=l[k]:=by
 rw[x8c h,x8e,x8l]
theorem LeastI.old(t:k<l.length){o:Option α}(h:LeastI R l out k o)(v:l[k]∈out):LeastI R l out (k+1) o:=by
 cases o with
 | none=>
   intro s r;rcases(ZK t).1 r with q|rfl
   .exact h s q
   .exact v
 | some m=>
   refine⟨h.1,h.2.1,fun s r u=>?_⟩;rcases(ZK t).1 r with q|rfl
   .exact h.2.2 s q u
   .exact absurd v u
theorem LeastI.first(m:k<l.length)(h:LeastI R l out k none)(u:l[k]∉out):LeastI R l out (k+1) (some l[k]):=by
 refine⟨x8o m,u,fun s t r=>?_⟩;rcases(ZK m).1 t with q|rfl
 .exact absurd (h s q) r
 .exact .inl rfl
theorem LeastI.less(z:∀a b c,R a b->R b c->R a c)(r:k<l.length){m:α}(h:LeastI R l out k (some m))(x:l[k]∉out)(q:R l[k] m):LeastI R l out (k+1) (some l[k]):=by
 refine⟨x8o r,x,fun s w v=>?_⟩;rcases(ZK r).1 w with t|rfl
 .rcases h.2.2 s t v with rfl|u
  .exact .inr q
  .exact .inr (z _ _ _ q u)
 .exact .inl rfl
theorem LeastI.more(tot:∀a b,a≠b->R a b\/R b a)(u:k<l.length){m:α}(h:LeastI R l out k (some m))(t:¬R l[k] m):LeastI R l out (k+1) (some m):=by
 refine⟨h.1,h.2.1,fun s w v=>?_⟩;rcases(ZK u).1 w with r|rfl
 .exact h.2.2 s r v
 .by_cases q:l[k]=m
  .exact .inl q
  .exact .inr ((tot _ _ q).resolve_left t)
theorem RiseI.stay(h:RiseI R l out i)(m:LeastI R l out l.length none):RiseI R l out (i+1):=by
 rw[LeastI,z4z]at m;exact⟨h.rise,h.sub,h.seg,.inl m⟩
theorem RiseI.snoc(h:RiseI R l out i){m:α}(z:LeastI R l out l.length (some m)):RiseI R l (out++[m]) (i+1):=by
 obtain⟨u,v,w⟩:=z;rw[z4z]at w;refine⟨?_,fun s t=>?_,fun s t r o c=>?_,?_⟩
 .rw [List.pairwise_append];exact⟨h.rise,List.pairwise_singleton _ _,fun a ha b x=>by rw[x8l.1 x];exact h.seg m u v a ha⟩
 .rcases x8e.1 t with q|q
  .exact h.sub s q
  .rw [x8l.1 q];exact u
 .rw [x8e,not_or,x8l]at r;rcases x8e.1 c with q|q
  .exact h.seg s t r.1 o q
  .rw [x8l.1 q];exact(w s t r.1).resolve_left r.2
 .rcases h.cnt with q|q
  .exact absurd (q m u) v
  .exact .inr (by rw[x8d,q];rfl)
theorem RiseI.nodup(irr:∀a,¬R a a)(h:RiseI R l out i):out.Nodup:=by
 unfold Nodup;refine h.rise.imp fun {a b} m e=>?_;subst e;exact irr _ m
theorem RiseI.all[DecidableEq α](irr:∀a,¬R a a)(h:RiseI R l out i)(v:i=l.length):out.Pairwise R/\∀s,s∈out↔s∈l:=by
 refine⟨h.rise,fun s=>⟨h.sub s,fun t=>?_⟩⟩;rcases h.cnt with r|r
 .exact r s t
 .refine z1c fun u=>?_;have hnd:(s::out).Nodup:=z0h.2 ⟨u,h.nodup irr⟩;have:=HG hnd (m:=l) fun x q=>by
   rcases x8r.1 q with rfl|q
   .exact t
   .exact h.sub x q
  rw[x9s]at this;omega
theorem RiseI.len[DecidableEq α](irr:∀a,¬R a a)(h:RiseI R l out i):out.length<=l.length:=HG (h.nodup irr) h.sub
end
section
variable {P:Program}{T:Tab}{N:Nat}{o:Oper}{K:St->Prop}{s:St}
end
section
variable {P:Program}{T:Tab}{N:Nat}{o:Oper}{s:St}{hr:Bool}
def Il{σ:Mem}{β:Lab}{H:Heap}{w:World}(h:HRel σ β H w){k q:Nat}{i:BInfo}(B:k∈H.map (·.1))(g:β k=some i)(t:i.has q){vs:Array Value}{H':Heap}(hH:H'.map (·.1)=H.map (·.1))(z:∀j c,(j,c)∈H'->j≠k->(j,c)∈H)(x:∀c,(k,c)∈H'->c.holds σ β (w.setRow q vs) k):
  HRel σ β H' (w.setRow q vs)/\Later σ β H w σ β H' (w.setRow q vs):=by
 have a:=h.apart k B i g q t;have v:∀b,b≠q->(w.setRow q vs).heap[b]?=w.heap[b]?:=fun b m=>setRow_other w q b vs m;refine⟨⟨fun b c m=>?_,fun j c r=>?_,by rw[hH];exact h.nodup,fun j r i' n b m=>?_,fun j r M A=>h.inj j (hH▸r) M (hH▸A)⟩,Mem.le_refl σ,⟨rfl,rfl,rfl,x9z _,by simp,fun b _ J=>v b fun e=>J ⟨k,B,i,g,e.symm▸t⟩⟩,fun b F G=>absurd F G,fun b m=>?_,fun _ _ _=>rfl⟩
 .have C:b≠q:=fun e=>by rw[e,a.1]at m;cases m
  obtain⟨e,E,I⟩:=h.mem b c m;exact⟨e,E,(v b C).trans I⟩
 .by_cases u:j=k
  .subst u;exact x c r
  .have D:=z j c r u;refine(h.chunks j c D).mono (Mem.le_refl σ) fun i' n b m=>v _ fun e=>u ?_;exact h.inj j (x8s.2 ⟨_,D,rfl⟩) k B i' i n g b m (e.symm▸t)
 .have:=h.apart j (hH▸r) i' n b m;exact⟨this.1,by simpa using this.2⟩
 .obtain ⟨j,r,i',n,d⟩:=m;exact .inl ⟨j,hH▸r,i',n,d⟩
def setCell(b:Nat)(c:AV)(l:List (Nat×AV)):List (Nat×AV):=l.map fun x=>if x.1=b then(b,c)else x
end
end Go.Ab
