/- A call that turns a row of a matrix of the caller's own in its place; a second row, of the call's own, is looked at. Conditions: none. -/
import Derived.Test.YtgpjfppgphaobaaGreatEndA19
set_option linter.all false
set_option maxRecDepth 100000
set_option maxHeartbeats 16000000
open Int (ofNat)
namespace Go.Ab
open Go.Proofs.Tryz
variable {N w:Nat}{P:Program}
inductive MrA(k a q n:Nat)(two:Bool):List LV->List LV->Prop
 |nil:MrA k a q n two [] []
 |row {ls ls0:List LV} (hs:MrA k a q n two ls ls0):MrA k a q n two (.ext k (.row a n)::ls) (.hd 1000 0 n::ls0)
 |own {m:Nat} {ls ls0:List LV} (ht:two=true) (hs:MrA k a q n two ls ls0):MrA k a q n two (.hd q 0 m::ls) (.hd 1001 0 m::ls0)
 |p {x y:AV} {ls ls0:List LV} (h:Sub x y) (hs:MrA k a q n two ls ls0):MrA k a q n two (.p x::ls) (.p y::ls0)
theorem MrA.get{k a q n:Nat}{u:Bool}{ls t:List LV}(h:MrA k a q n u ls t):ls.length=t.length/\∀(j:Nat)(o:LV),t[j]?=some o->∃l,ls[j]?=some l/\((l=.ext k (.row a n)/\o=.hd 1000 0 n)\/(∃m,u=true/\l=.hd q 0 m/\o=.hd 1001 0 m)\/∃x y,l=.p x/\o=.p y/\Sub x y):=by
 induction h with
 |nil=>exact⟨rfl,by simp⟩
 | row v r=>
   refine⟨by simp[r.1],fun j o i=>?_⟩;cases j with
   |zero=>simp at i;subst i;exact⟨_,rfl,.inl ⟨rfl,rfl⟩⟩
   |succ j=>exact r.2 j o (by simpa using i)
 | own z v r=>
   refine⟨by simp[r.1],fun j o i=>?_⟩;cases j with
   |zero=>simp at i;subst i;exact⟨_,rfl,.inr (.inl ⟨_,z,rfl,rfl⟩)⟩
   |succ j=>exact r.2 j o (by simpa using i)
 | p h v r=>
   refine⟨by simp[r.1],fun j o i=>?_⟩;cases j with
   |zero=>simp at i;subst i;exact⟨_,rfl,.inr (.inr ⟨_,_,rfl,rfl,h⟩)⟩
   |succ j=>exact r.2 j o (by simpa using i)
def SQ{H:Heap}(h:(H.map (·.1)).Nodup){k:Nat}{c d:Chunk}(l:(k,c)∈H)(m:(k,d)∈H):c=d:=by
 induction H with
 |nil=>cases l
 | cons x r n=>
   rw[x4o,x6q]at h;rcases x4v.1 l with j|j
   .rcases x4v.1 m with i|i
    .exact (Prod.mk.inj (j.trans i.symm)).2
    .exact (h.1 (x4y.2 ⟨_,i,by rw[<-j]⟩)).elim
   .rcases x4v.1 m with i|i
    .exact (h.1 (x4y.2 ⟨_,j,by rw[<-i]⟩)).elim
    .exact n h.2 j i
def Z8{s:St}{K:St->Prop}{g:FuncId}{args args0:List LV}{dst:Option Nat}(k a q:Nat)(A:Bool){e e2 sz e3 sz3:Nat}{rows:List (List AV)}{row V:List AV}(row':List AV){R:LV->Heap->Prop}{S:AV->Prop}(ha:MrA k a q row.length A args args0)(hs:SpecH P g args0 ((1000,.own e2 sz row)::bif A then [(1001,.own e3 sz3 V)]else []) R)(hg:getH s.H k=some (.ext (.mat e e2 sz rows [])))(hrow:rows[a]?=some row)(hne:0<row.length)(hq:A=true->getH s.H q=some (.own e3 sz3 V)/\k≠q)(hR:∀l H',R l H'->∃c,l=.p c/\S c/\H'=(1000,.own e2 sz row')::bif A then [(1001,.own e3 sz3 V)]else [])(hlen:row'.length=row.length)(h:∀c,S c->Wv s.H k (.ext (.mat e e2 sz (rows.set a row') [])) fun H=>setD N s.sl dst (.p c) fun sl=>K ⟨sl,H⟩):CallK P N g args dst s K:=by
 refine⟨fun σ β ac w I vals hn hv=>⟨hs.go vals,?_⟩⟩;have O:=QP hg;have hal:a<rows.length:=(x4u.1 hrow).1;rcases I.heap.chunks k _ (QG hg)with⟨_,h0⟩|⟨i,vs,hi,hisz,hh,hvs,hle,hmax,hsl,hdis,hrows⟩
 .rw [h0]at hal;cases hal
 rcases(hrows a row hrow).2 (by simp)with⟨_,D,_⟩|⟨b,c,ws,Z,hva,hbh,hws,hrl,hc,hel⟩
 .rw [D]at hne;cases hne
 let ri:BInfo:=⟨b,c,sz,[],hc⟩;let β0:Lab:=fun j=>if j=1000 then some ri else if j=1001 then(bif A then β q else none)else none;have hri:∀n,ri.has n->n=b:=fun n C=>by
  rcases C with C|⟨c',C⟩
  .exact C.symm
  .cases C
 have hib:i.has b:=.inr ⟨c,x4p Z⟩;have e0:β0 1000=some ri:=rfl;have e1:A=true->β0 1001=β q:=fun z=>by show(bif A then β q else none)=_;rw[z];rfl
 let H0:Heap:=(1000,.own e2 sz row)::bif A then [(1001,.own e3 sz3 V)]else [];have hlab0:∀j∈H0.map (·.1),j=1000\/(A=true/\j=1001):=fun j f=>by
  simp only[H0,x4o,x4v]at f;rcases f with f|f
  .exact .inl f
  .cases z:A with
   |true=>rw[z]at f;exact .inr ⟨rfl,by simpa using f⟩
   |false=>rw[z]at f;cases f
 have hq1:A=true->q∈s.H.map (·.1):=fun z=>QP (hq z).1;have U:∀j∈H0.map (·.1),∀L,β0 j=some L->∀n,L.has n->(j=1000/\n=b)\/(A=true/\j=1001/\∃Q,β q=some Q/\Q.has n):=fun j f L B n C=>by
  rcases hlab0 j f with rfl|⟨z,rfl⟩
  .rw [e0]at B;cases B;exact .inl ⟨rfl,hri n C⟩
  .rw [e1 z]at B;exact .inr ⟨z,rfl,L,B,C⟩
 have hown:∀n,owns β0 H0 n->n=b\/(A=true/\∃Q,β q=some Q/\Q.has n):=fun n ⟨j,f,L,B,C⟩=>by
  rcases U j f L B n C with⟨_,h⟩|⟨z,_,h⟩
  .exact .inl h
  .exact .inr ⟨z,h⟩
 have hownS:∀n,owns β0 H0 n->owns β s.H n:=fun n ho=>by
  rcases hown n ho with rfl|⟨z,Q,D,J⟩
  .exact ⟨k,O,i,hi,hib⟩
  .exact ⟨q,hq1 z,Q,D,J⟩
 have hH0:HRel σ β0 H0 w:=by
  refine⟨I.heap.mem,fun j d f=>?_,?_,fun j f L B n C=>?_,fun j f j' hj' i1 i2 D J n hb1 hb2=>?_⟩
  .simp only[H0,x4v]at f;rcases f with f|f
   .cases f;exact .inr ⟨ri,ws,e0,rfl,hbh,hws,hrl,hc,hel⟩
   .cases z:A with
    |false=>rw[z]at f;cases f
    | true=>
      rw[z,x4s,x4w]at f;cases f;have:=I.heap.chunks q _ (QG (hq z).1);rcases this with⟨D,J⟩|⟨i2,rest⟩
      .exact .inl ⟨(e1 z).trans D,J⟩
      .exact .inr ⟨i2,by rw[e1 z];exact rest⟩
  .cases A<;>simp[H0]
  .rcases U j f L B n C with⟨_,rfl⟩|⟨z,_,Q,D,J⟩
   .exact I.heap.apart k O i hi _ hib
   .exact I.heap.apart q (hq1 z) Q D n J
  .rcases U j f i1 D n hb1 with⟨rfl,rfl⟩|⟨z,rfl,Q,Y,h4⟩<;>rcases U j' hj' i2 J _ hb2 with⟨rfl,h5⟩|⟨ht2,rfl,iq2,h5,F⟩
   .rfl
   .exact absurd (I.heap.inj k O q (hq1 ht2) i iq2 hi h5 _ hib F) (hq ht2).2
   .subst h5;exact absurd (I.heap.inj k O q (hq1 z) i Q hi Y _ hib h4) (hq z).2
   .rfl
 obtain⟨hal0,hget⟩:=ha.get;refine(hs.ok σ β0 w vals (hn.trans hal0) (fun j l0 f=>?_) hH0).mono fun ex w' ⟨l,u,σ',β1,H',he,hRl,hrep,hH',t⟩=>?_
 .obtain ⟨l,D,⟨rfl,rfl⟩|⟨m,z,rfl,rfl⟩|⟨x,y,rfl,rfl,J⟩⟩:=hget j l0 f
  .have Y:=hv j _ D;generalize vals.getD j undef=v at Y;cases Y with
   | ext _ _ L _ hk hd=>
     rw[hi]at hk;cases hk;rcases hd with⟨h4,_⟩|⟨n,c',h4,h5,rfl⟩
     .rw [Z]at h4;cases h4
     .rw [Z]at h4;cases h4;have:=z1v (σ:=σ) (β:=β0) 1000 0 row.length ri 0 e0 (by simpa using hrl) (.inl (by simp));simpa using this
  .have Y:=hv j _ D;rcases Y.hdI with⟨h4,_,h5,F⟩|⟨i3,o,h4,h5,F,h7⟩
   .subst h5;rw[F];exact .hdn 1001 ((e1 z).trans h4)
   .rw [h7];exact .hd 1001 0 m i3 o ((e1 z).trans h4) h5 F
  .have Y:=hv j _ D;cases Y with
   |p Y=>exact .p (J _ _ Y)
 .obtain ⟨c0,rfl,hS,rfl⟩:=hR l H' hRl;have p0:β1 1000=some ri:=(t.pin 1000 (by omega) (by omega)).trans e0;have p1:A=true->β1 1001=β q:=fun z=>(t.pin 1001 (by omega) (by omega)).trans (e1 z);have T:∀n,n<w.heap.size->¬owns β0 H0 n->w'.heap[n]?=w.heap[n]?:=fun n C hn=>t.G.block n C hn;have hstay:∀n,owns β0 H0 n->σ' n=none:=fun n ho=>by
   rcases hown n ho with rfl|⟨z,Q,D,J⟩
   .exact (hH'.apart 1000 (by simp) ri p0 _ ri.has_blk).1
   .exact (hH'.apart 1001 (by rw[z];simp) Q ((p1 z).trans D) n J).1
  have hnew:∀n,σ n=none->n<w.heap.size->σ' n=none:=fun n D J=>by
   cases hq:σ' n with
   |none=>rfl
   | some x=>
     rcases t.mem n D (by rw[hq];simp)with Y|Y
     .rw [hstay n Y]at hq;cases hq
     .omega
  have M:∀j∈s.H.map (·.1),(A=true->j≠q)->∀L,β j=some L->∀n,L.has n->(j=k->n≠b)->w'.heap[n]?=w.heap[n]?:=fun j f hjq L B n C hjb=>by
   refine T n (I.heap.apart j f L B n C).2 fun ho=>?_;rcases hown n ho with rfl|⟨z,Q,D,J⟩
   .have:=I.heap.inj j f k O L i B hi _ C hib;exact hjb this rfl
   .exact hjq z (I.heap.inj j f q (hq1 z) L Q B D n C J)
  obtain⟨H2,J,g3,g4,g5⟩:=VO I.heap.nodup (h c0 hS);have hkq:A=true->k≠q:=fun z=>(hq z).2;have hheap:HRel σ' β H2 w':=by
   refine⟨hH'.mem,fun j d f=>?_,by rw[g3];exact I.heap.nodup,fun j f L B n C=>?_,fun j f j' hj'=>I.heap.inj j (g3▸f) j' (g3▸hj')⟩
   .by_cases hjk:j=k
    .subst hjk;rw[g5 d f];have hblk:w'.heap[i.blk]?=w.heap[i.blk]?:=M _ O hkq i hi i.blk i.has_blk fun _ he=>(hdis a b c Z).1 he;refine .inr ⟨i,vs,hi,hisz,hblk.trans hh,hvs,by simpa using hle,hmax,by simpa using hsl,hdis,fun p x hx=>⟨fun hin=>by(cases hin),fun _=>?_⟩⟩;by_cases hp:p=a
     .subst hp;rw[x5f hal]at hx;cases hx;rcases hH'.chunks 1000 _ x4z with⟨F,_⟩|⟨i6,ws6,F,h7,h8,h9,h10,h11,h12⟩
      .rw [p0]at F;cases F
      .rw [p0]at F;cases F;exact .inr ⟨b,c,ws6,Z,by rw[hlen];exact hva,h8,h9,h10,h11,h12⟩
     .rw [x5p (x7d hp)]at hx;rcases(hrows p x hx).2 (by simp)with F|⟨n,c',ws',F,h7,h8,h9,h10,h11,h12⟩
      .exact .inl F
      .have hbb:n≠b:=fun he=>hp ((hdis a b c Z).2 p c' (he▸F));refine .inr ⟨n,c',ws',F,h7,(M _ O hkq i hi n (.inr ⟨c',x4p F⟩) fun _=>hbb).trans h8,h9,h10,h11,fun m y hy=>⟨(h12 m y hy).1,fun j' c'' hj'=>?_⟩⟩;obtain⟨u',h13,h14⟩:=(h12 m y hy).2 j' c'' hj';exact⟨u',h13,h14.mono t.le⟩
    .have hm:=g4 j d f hjk;have hjl:j∈s.H.map (·.1):=x4y.2 ⟨_,hm,rfl⟩;by_cases hjq:A=true/\j=q
     .obtain ⟨z,rfl⟩:=hjq;have hd:d=.own e3 sz3 V:=by
       have:=QG (hq z).1;exact SQ I.heap.nodup hm this
      subst hd;have hq':=hH'.chunks 1001 (.own e3 sz3 V) (by rw[z];simp);rcases hq' with⟨F,h7⟩|⟨i6,rest⟩
      .exact .inl ⟨(p1 z).symm.trans F,h7⟩
      .exact .inr ⟨i6,by rw[<-p1 z];exact rest⟩
     .exact (I.heap.chunks j d hm).mono t.le fun i' hi' n C=>M j hjl (fun z he=>hjq ⟨z,he⟩) i' hi' n C fun he=>absurd he hjk
   .have:=I.heap.apart j (g3▸f) L B n C;exact⟨hnew n this.1 this.2,x7o this.2 t.G.size⟩
  have hr1:Rel N σ' β ⟨s.sl,H2⟩ ac w':=⟨I.size,I.defers,fun j=>(I.E j).mono t.le,hheap⟩;have hrep':RepL σ' β (.p c0) u:=by
   cases hrep with
   |p hrep=>exact .p hrep
  obtain⟨sl,hK,hr2⟩:=hr1.setD hrep' J;refine⟨u,σ',β,_,he,hK,hr2,t.le,⟨t.G.os,t.G.tape,t.G.output,t.G.drawn,t.G.size,fun n C hn=>T n C fun ho=>hn (hownS n ho)⟩,fun n D J=>(t.mem n D J).imp (hownS n) id,fun n ⟨j,f,r⟩=>.inl ⟨j,g3▸f,r⟩,fun _ _ _=>rfl⟩
open Go.Proofs
def Ur(g:List (List Int)×List (List Int)):aP 260 [VS g] (.int .i64 g.1.length):=by
 refine sC X1 func260 ?_;conv=>whnf
 have h:((avI g.1).map AV.sl).length=g.1.length:=by unfold avI;rw[x3a,x3a]
 repeat' ((refine iM fun _=>?_)<;>conv=>whnf)
 all_goals first
  |exact RetK.int (by rw[h])
def DC(l:List Int)(k:l.length<=1000000):aP 283 [XQ l] (XQ l):=by
 refine sC GS func283 ?_;conv=>whnf
 have i:(l.map (AV.int .i64)).length=l.length:=x3a _;repeat' ((first|refine x4e rfl ?_|refine aD ?_|refine K9 XM rfl rfl rfl rfl (fun q j=>?_)|refine x9p (fun x h=>by cases h) rfl ?_|refine AppK.mk (n:=0) rfl rfl (by show _*8<=140737488355328;omega) (by show _<=9223372036854775807;omega) (fun x h=>by obtain⟨y,_,rfl⟩:=x4y.1 h;exact⟨rfl,rfl⟩) ?_|(apply bB<;>intro _))<;>conv=>whnf)
 all_goals first
  |exact⟨_,.p Sub.nils,by rw[z0i.1 (j (by assumption))];rfl⟩
  |exact⟨_,.hd rfl (by simp),rfl⟩
def Wx(g:List (List Int)×List (List Int))(a:Int)(l:∀r∈g.1,r.length<=1000000):aP 261 [VS g,.int .i64 a] (XQ (if ZT g.1.length a=true then g.1.getD a.toNat []else [])):=by
 refine sC MG func261 ?_;conv=>whnf
 have hH:=DV g a;cases i:ZT g.1.length a with
 | false=>
   rw[i]at hH;repeat' ((first|refine cP hH ?_|(apply bN<;>intro _))<;>conv=>whnf)
   all_goals first
    |contradiction
    |exact⟨_,.p Sub.nils,rfl⟩
 | true=>
   rw[i]at hH;have m:0<=a/\a<g.1.length:=by
    unfold ZT at i;simpa using i
   have h:a.toNat<g.1.length:=by omega
   have k:((avI g.1).map AV.sl)[a.toNat]?=some (XQ (g.1.getD a.toNat [])):=by
    unfold avI;rw[x4q,x4q,x3i,x3e h];rfl
   have j:=DC (g.1.getD a.toNat []) (by rw[x3i,x3e h];exact l _ (x4h h));rw[if_pos rfl];generalize g.1.getD a.toNat []=row at*
   repeat' ((first|refine cP hH ?_|refine iT k ?_|refine cP j ?_|(apply bN<;>intro _))<;>conv=>whnf)
   all_goals first
    |contradiction
    |exact⟨_,.p (Sub.refl _),rfl⟩
def eWm(m:List (List Wd)):List (List AV):=m.map fun r=>r.map eW
def LU(m:List (List Wd)):AV:=.sl ((eWm m).map .sl)
def Ig(w:Nat)(l:List (List Int))(i:Nat):List (List Wd):=(l.take i).map (Zl w)++List.replicate (l.length-i) []
def q0d(w:Nat)(l:List (List Int)){i:Nat}(h:i<=l.length):(Ig w l i).length=l.length:=by
 unfold Ig;rw[x3o,x3a,x5z,x5e];omega
def q0b(w:Nat)(l:List (List Int)){i:Nat}(h:i<l.length):(Ig w l i).set i (Zl w l[i])=Ig w l (i+1):=by
 unfold Ig;have j:((l.take i).map (Zl w)).length=i:=by rw[x3a,x5z];omega
 rw[x7k _ _ (by omega),j,x8w,show l.length-i=(l.length-(i+1))+1 by omega,x8v,x7m,x4k h,x4d,x4r];rfl
def Sm{h:Nat}{sl:List (Nat×LV)}(n:Nat)(i:(sl.all fun x=>x.2.xfree 0)=true):
  Le h ⟨sl,[(0,.own 295 1 (List.replicate n .nils))]⟩ ⟨sl,[(0,.ext (.mat 295 251 1 (List.replicate n []) []))]⟩:=by
 have j:=JW (N:=h) (sl:=sl) (H:=[(0,.own 295 1 (List.replicate n .nils))])
  (H':=[(0,.ext (.mat 295 251 1 (List.replicate (List.replicate n AV.nils).length []) []))])
  0 251 1 (e:=295) (es:=List.replicate n .nils) rfl (fun x k=>x6v k) rfl i rfl rfl (by simp[JL])
 simpa using j
def Gf(l:List (List Int))(hl:l.length<=5000)(hr:∀r∈l,r.length<=5000)(k:Nat)(hm:k<=5000)(R:∀r∈l,∀f∈r,0<=f/\f<k):aP 230 [eMat l,.int .i64 k] (.tup [LU (l.map (Zl (k/64+1))),.tt]):=by
 refine sC Da func230 ?_;conv=>whnf
 have C:((avI l).map AV.sl).length=l.length:=by unfold avI;rw[x3a,x3a]
 obtain⟨w,J⟩ : ∃w,w=k/64+1:=⟨_,rfl⟩;rw[<-J];have g:=IM k;repeat' ((first|(refine gX ?_;intros)|refine x8a l.length (by omega) (by show 24*_<=140737488355328;omega) (by unfold maxLen;omega) ?_)<;>conv=>whnf)
 refine lJ (fun i:Nat=>⟨[(1,.j k),(6,.hd 0 0 l.length),(14,.p (eMat l)),(15,.j l.length),(16,.j i)],[(0,.ext (.mat 295 251 1 (eWm (Ig w l i)) []))]⟩) (fun i=>i<=l.length) (fun i=>l.length-i) 0 (by
   refine Le.trans (Sm l.length rfl) ?_;exact lE (hsl:=.r (.r (.r (.cons (.of_eq (by rw[C];rfl)) (.r .nil))))) (hH:=.cons rfl (.of_eq (by simp[eWm,Ig])) .nil)) (x4j _) ?_
 intro i hi;rcases x4f i l.length with o|o
 .have hsl:=q0d w l hi;have y:=q0b w l o;have F:=hr _ (x4h o);have a:=R _ (x4h o);have d:((avI l).map AV.sl)[i]?=some (XQ l[i]):=by unfold avI;rw[x4q,x4q,x3e o];rfl
  generalize Ig w l i=rows at hsl y⊢;generalize l[i]=fs at y F a d;have Q:(eWm rows).length=l.length:=by unfold eWm;rw[x3a,hsl]
  have V:(fs.map (AV.int .i64)).length=fs.length:=x3a _;conv=>whnf
  repeat' ((first|(refine iM fun _=>?_)|refine x4e rfl ?_|refine aR ?_|(refine iA fun _=>?_)|refine x4e (by decide) ?_|refine Wr.i64 (by first|omega|(rw[g];omega)) (by first|omega|(rw[g];omega)) ?_|refine x8a w (by rw[J,g];omega) (by show 8*_<=140737488355328;omega) (by unfold maxLen;omega) ?_|refine x6b i rfl o ?_|refine ZA XM rfl rfl rfl rfl rfl rfl rfl rfl rfl (by decide) i [] (by omega) (by omega) (by simp) ⟨by simp,by simp,by simp⟩ ?_|(apply bD<;>intro _<;>try omega))<;>conv=>whnf)
  have A:∀h,(avI l)[i]'h=fs.map (.int .i64):=fun h=>by
   have n:=d;rw[x4q,x3e h]at n;have M:AV.sl (avI l)[i]=.sl (fs.map (.int .i64)):=x8z n;exact(AV.sl.inj M)
  simp only[A];refine lJ (fun j:Nat=>⟨[(1,.j k),(6,.hd 0 0 l.length),(7,.j i),(14,.p (eMat l)),(15,.j l.length),(16,.j i),(28,.p (XQ fs)),(29,.p (.int .i64 (fs.map (AV.int .i64)).length)),(30,.j j)],[(0,.ext (.mat 295 251 1 ((eWm rows).set i ((Zl w (fs.take j)).map eW)) []))]⟩) (fun j=>j<=fs.length) (fun j=>fs.length-j) 0 (Le.of_eq (by simp[Zl];exact⟨⟨rfl,rfl⟩,rfl⟩)) (x4j _) ?_;intro j hj;rcases x4f j fs.length with n|n
  .obtain ⟨T,U⟩:=a _ (x4h n);have I:=Ex w fs n;have e:=V2 w (fs.take j);have B:fs[j]=((fs[j].toNat:Nat):Int):=by omega
   have Y:(fs.map (AV.int .i64))[j]?=some (.int .i64 fs[j]):=by rw[x4q,x3e n];rfl
   generalize Zl w (fs.take j)=ws at*
   have s:=K4 ws fs[j].toNat (by rw[e,J];omega) (by omega);rw[<-B,<-I]at s;have E:(Zl w (fs.take (j+1))).length=ws.length:=by rw[V2,e]
   generalize L:Zl w (fs.take (j+1))=ws' at*
   have K:(ws.map eW).length=ws.length:=x3a _;have v:SpecH prog 259 [.hd 1000 0 (ws.map eW).length,.p (.int .i64 fs[j])] ((1000,.own 251 1 (ws.map eW))::bif false then [(1001,.own 0 0 [])]else []) (fun r H=>(∃b,r=.p (.bool b))/\H=[wsH 1000 ws']):=by rw[K];exact s
   have t:((eWm rows).set i (ws.map eW))[i]?=some (ws.map eW):=x5f (by omega);have G:((eWm rows).set i (ws.map eW)).set i (ws'.map eW)=(eWm rows).set i (ws'.map eW):=List.set_set _;conv=>whnf
   repeat' ((first|(refine gX ?_;intros)|refine x6b i rfl o ?_|refine x9q i (ws.map eW) (by omega) t (by simp) ?_|(refine Z8 0 i 0 false (ws'.map eW) (S:=fun c=>∃b,c=.bool b) (.row (.p (Sub.refl _) .nil)) v rfl t (by omega) (fun h=>by cases h) (fun l' H' Z=>by obtain⟨⟨b,O⟩,hH⟩:=Z;exact⟨_,O,⟨b,rfl⟩,hH⟩) (by rw[x3a,x3a,E]) ?_;rintro _ ⟨b,rfl⟩)|(apply bD<;>intro _<;>try omega))<;>conv=>whnf)
   all_goals first
    |(exfalso;omega)
    |exact⟨j+1,n,by omega,Le.of_eq (by rw[G,L];rfl)⟩
  .have m:fs.take j=fs:=x4b n;rw[m];have D:(eWm rows).set i ((Zl w fs).map eW)=eWm (rows.set i (Zl w fs)):=by unfold eWm;rw[x5d]
   rw[D,y];conv=>whnf
   repeat' ((first|refine wI ?_|(apply bD<;>intro _<;>try omega))<;>conv=>whnf)
   all_goals first
    |(exfalso;omega)
    |exact nX (i+1) o
 .obtain rfl:i=l.length:=by omega
  have m:Ig w l l.length=l.map (Zl w):=by unfold Ig;rw[z0t,x8w];simp
  rw[m];conv=>whnf
  repeat' (apply bD<;>intro _<;>first|omega|conv=>whnf)
  all_goals exact⟨_,.tup (cs:=[LU (l.map (Zl w)),.tt]) rfl (fun q u c x z=>by
   match q,x,z with
   |0,x,z=>cases x;cases z;exact .mat rfl (by unfold eWm;simp)
   |1,x,z=>cases x;cases z;exact .p (Sub.refl _)
   |q+2,x,_=>simp at x),rfl⟩
theorem RepE.drop{σ:Mem}{sz:Nat}{es:List AV}{vs:List Value}(h:RepE σ sz es vs)(k:Nat):RepE σ sz (es.drop k) (vs.drop (k*sz)):=by
 refine⟨by rw[x6c,x6c,h.len,Nat.sub_mul],fun i e l=>?_,fun i e j c l m=>?_⟩
 .rw [x5o]at l;exact h.size _ e l
 .rw [x5o]at l;obtain⟨u,q,o⟩:=h.rep _ e j c l m;exact⟨u,by rw[x5o,<-x8j,<-x6r];exact q,o⟩
def Hn{σ:Mem}{β:Lab}{w:World}{k:Nat}{e:TypeId}{l:TyI}{es xs:List AV}(t ty:TypeId)(ht:P.underlying t=some (.slice e))(hie:TyOK P e l)(hz:l.zero.cells.size=l.size)(T:(Chunk.own e l.size es).holds σ β w k){off n:Nat}(hoff:0<off)(hn:off+n=es.length){v:Value}(hv:RepL σ β (.hd k off n) v){x:Value}{h:List Value}{I:Addr}{c:Nat}(hx:x=.slice (some I) xs.length c)(y:∀(j:Nat)(u:Value),h[j]?=some u->w.cell? (I.add j)=some u)(q:RepE σ l.size xs h)(Z:∀u∈h,u.oneCell'=true)(hxs:0<xs.length)(J:n+xs.length<=maxLen)(f:(n+xs.length)*l.bytes<=140737488355328)(hlt:∀i,β k=some i->∀b,i.has b->b<w.heap.size):
  ∃v' w' i',(Builtin.append_ #[t,t] ty #[v,x]).run P w=.ok v' w'/\Frm (fun b=>∃i,β k=some i/\i.has b) w w'/\
   (∀i,i'=some i->∀b,i.has b->b<w'.heap.size/\((∃i0,β k=some i0/\i0.has b)\/w.heap.size<=b))/\
   (((Chunk.own e l.size (es++xs)).holds σ (β.set k i') w' k/\RepL σ (β.set k i') (.hd k off (n+xs.length)) v')\/
     ((Chunk.own e l.size (es.drop off++xs)).holds σ (β.set k i') w' k/\RepL σ (β.set k i') (.hd k 0 (n+xs.length)) v')):=by
 obtain⟨fi,K,z,hfb,hfz⟩:=hie.getInfo;have a:∀i':Option BInfo,(β.set k i') k=i':=fun i'=>by simp[Lab.set]
 have Q:(n+xs.length:Nat)<=(9223372036854775807:Int):=by simp only[maxLen]at J;omega
 rcases WD.1 T with⟨hb0,rfl⟩|⟨i,vs,A,r,hh,hvs,hlen,D,hE⟩
 .simp at hn;omega
 rcases hv.hdI with⟨M,_⟩|⟨i',o,M,hl,C,hvv⟩
 .rw [A]at M;cases M
 rw[A]at M;cases M;subst hx hvv;have B:=q.len;by_cases G:n+xs.length<=i.cap-off
 .have hoo:o=off*l.size:=by
   rcases C with C|C
   .rw [<-r];exact C
   .omega
  subst hoo;have U:es.length+xs.length<=i.cap:=by omega
  have e1:off*l.size+n*l.size=es.length*l.size:=by rw[<-x6r,hn]
  have L:off*l.size+n*l.size+h.length<=vs.size:=by rw[e1,B,hvs,<-x6r];exact x5l _ U
  have Y:(Builtin.append_ #[t,t] ty #[.slice (some ⟨i.blk,off*l.size,none⟩) n (i.cap-off),.slice (some I) xs.length c]).run P w =
    .ok (.slice (some ⟨i.blk,off*l.size,none⟩) (n+xs.length) (i.cap-off)) (w.setRow i.blk (vs.toList.take (off*l.size+n*l.size)++h++vs.toList.drop (off*l.size+n*l.size+h.length)).toArray):=by
   have hf:=run_firstCells_some (P:=P) w fi.size xs.length I xs.length c h (by rw[z];exact B) y;rw[z]at hf;have V:=run_storeCells_at P i.blk (off*l.size+n*l.size) e h 0 vs w hh (by simpa using L) Z;simp only[x8d]at V;simp[Builtin.append_,run_underlying ht,sizeOf,typeInfo,K,Builtin.lenOf,G,hf,JF,z,V]
  have d:β.set k (some i)=β:=by funext j;unfold Lab.set;split<;>simp_all
  refine⟨_,_,some i,Y,⟨rfl,rfl,rfl,x4m _,by simp,fun b _ hnb=>setRow_other w i.blk b _ fun he=>hnb ⟨i,A,.inl he.symm⟩⟩,fun i1 Z b d=>?_,.inl ⟨?_,?_⟩⟩
  .cases Z;exact⟨by simpa using hlt i A b d,.inl ⟨i,A,d⟩⟩
  .rw [d,e1];refine WD.2 (.inr ⟨i,_,A,r,setRow_heap w i.blk vs _ e _ hh,?_,by simpa using U,D,?_⟩)
   .simp only[x8y,x3o,x5z,x6c,x6g];omega
   .have p:=hE.append q;rw[show(vs.toList.take (es.length*l.size)++h++vs.toList.drop (es.length*l.size+h.length)).toArray.toList.take ((es++xs).length*l.size)=vs.toList.take (es.length*l.size)++h by
     rw[<-p.len];simp only[List.take_left]]
    exact p
  .rw [d];exact .hd k off (n+xs.length) i (off*l.size) A (by omega) (.inl (by rw[r]))
 .obtain ⟨m,hO,g⟩ : ∃m,RepE σ l.size (es.drop off) m/\∀(j:Nat)(u:Value),m[j]?=some u->w.cell? ((⟨i.blk,o,none⟩:Addr).add j)=some u:=by
   refine⟨_,hE.drop off,fun j u H=>?_⟩;have hu0:=H;rw[x5o,x5s]at H;rcases C with C|C
   .rw [JF,C,r];split at H
    .simp only[World.cell?,hh];simpa using H
    .cases H
   .have hn0:n=0:=by omega
    split at H
    .rename_i O;have:es.length=off:=by omega
     rw[this]at O;omega
    .cases H
  have E:(es.drop off).length=n:=by rw[x6c];omega
  have Y:=run_append_grow (P:=P) w t ty e fi l.zero ht K hfz ⟨i.blk,o,none⟩ n (i.cap-off) m (by rw[z,hO.len,E]) g I xs.length c h (by rw[z];exact B) y (by omega) Q (by rw[hfb];exact growslice_fits (by omega) f);have F:=grownCap_ge w (n+xs.length) (i.cap-off) e;have s:=grownCap_le_maxLen w (n+xs.length) (i.cap-off) e J;generalize grownCap w (n+xs.length) (i.cap-off) e=cap at F s Y;have hsz:(w.drew.alloc (.cells (m.toArray++h.toArray++Builtin.zeroCells l.zero.cells (cap-(n+xs.length))) e)).heap.size=w.heap.size+1:=by
   show(w.heap.push _).size=_;simp
  have p:=hO.append q;have R:(w.drew.alloc (.cells (m.toArray++h.toArray++Builtin.zeroCells l.zero.cells (cap-(n+xs.length))) e)).heap[w.heap.size]?=some (.cells (m.toArray++h.toArray++Builtin.zeroCells l.zero.cells (cap-(n+xs.length))) e (0,0)):=heap_alloc_new w.drew _;refine⟨_,_,some ⟨w.heap.size,cap,l.size,[],s⟩,Y,⟨rfl,rfl,rfl,Nat.le_succ _,by omega,fun b d _=>by first|exact heap_alloc_old w.drew _ b d|exact heap_alloc_old w.drew _ d⟩,fun i A b d=>?_,.inr ⟨WD.2 (.inr ⟨⟨w.heap.size,cap,l.size,[],s⟩,_,a _,rfl,R,?_,by rw[x3o,E];exact F,s,?_⟩),?_⟩⟩
  .cases A;rw[MX]at d;exact⟨by omega,.inr (by omega)⟩
  .simp only[Array.size_append,x8y,size_zeroCells,hz,hO.len,B,E];rw[<-x6r,<-x6r];congr 1;omega
  .rw [show(m.toArray++h.toArray++Builtin.zeroCells l.zero.cells (cap-(n+xs.length))).toList.take ((es.drop off++xs).length*l.size)=m++h by
    rw[<-p.len];simp only[Array.toList_append];exact List.take_left]
   exact p
  .have:=z1v (σ:=σ) (β:=β.set k (some ⟨w.heap.size,cap,l.size,[],s⟩)) k 0 (n+xs.length) ⟨w.heap.size,cap,l.size,[],s⟩ 0 (a _) (by simpa using F) (.inl (by simp));simpa using this
def TR{T:Tab}(hT:TabOK P T){s:St}{o:Oper}{K:St->Prop}{x y:Operand}{t:TypeId}(hop:o.op=.call {callee:=.builtin .append,args:=#[x,y],argTypes:=#[t,t]}){k off n:Nat}(L:QD s.sl x=.hd k off n)(D:0<off){i q:TyI}{e:TypeId}(ht:T.get t=some i)(hd:i.desc=.slice e)(hie:T.get e=some q){sz:Nat}{es:List AV}(hg:getH s.H k=some (.own e sz es))(hsz:sz=q.size)(hz:q.zero.cells.size=q.size)(f:0<q.size)(hn:off+n=es.length){xs:List AV}(hy:QD s.sl y=.p (.sl xs))(hxl:0<xs.length)(O:∀x∈xs,x.cells.length=q.size/\x.cells.all AV.one=true)(Z:n+xs.length<=maxLen)(hb:(n+xs.length)*q.bytes<=140737488355328)(r:q6y k <|Y5 s.sl k fun sl=>DK s.H k (.own e sz (es++xs)) fun H=>setD N sl o.dst (.hd k off (n+xs.length)) fun sl=>K ⟨sl,H⟩)(Y:q6y k <|Y5 s.sl k fun sl=>DK s.H k (.own e sz (es.drop off++xs)) fun H=>setD N sl o.dst (.hd k 0 (n+xs.length)) fun sl=>K ⟨sl,H⟩):OpK P N s o K:=by
 refine⟨fun σ β a w z Q=>?_⟩;subst hsz;have M:=QX z.E x;rw[L]at M;have hu:=hT.of ht;rw[hd]at hu;have d:=QP hg;obtain⟨U,m,⟨rfl,rfl⟩,J⟩:=Ts z (y:=y) (C:=fun ys m=>ys=xs/\m=xs.length) (sz:=q.size) (by unfold q2l;rw[hy];exact⟨rfl,rfl⟩) f;obtain⟨news,A,hE⟩:=J rfl fun x L=>(O x L).1;have F:=hE.oneAll f fun x L=>(O x L).2;rcases A with⟨_,hnn⟩|⟨ad,c,A,g⟩
 .have:=hE.len;rw[hnn,x8c]at this;rcases Nat.mul_eq_zero.1 this.symm with h|h<;>omega
 obtain⟨v',w',i',I,B,hi',v⟩:=Hn (P:=P) t o.type hu (hT _ _ hie) hz (z.heap.chunks k _ (QG hg)) D hn M A g hE F hxl Z hb (fun i hi b hb=>(z.heap.apart k d i hi b hb).2);have fin:∀(es':List AV)(l:Nat),(Chunk.own e q.size es').holds σ (β.set k i') w' k->RepL σ (β.set k i') (.hd k l (n+U.length)) v'->(q6y k <|Y5 s.sl k fun sl=>DK s.H k (.own e q.size es') fun H=>setD N sl o.dst (.hd k l (n+U.length)) fun sl=>K ⟨sl,H⟩)->
   o.wp P a w (fun a' w'=>∃σ' β' s',K s'/\Rel N σ' β' s' a' w'/\Later σ β s.H w σ' β' s'.H w') Q:=fun es' l hch hv' u=>by
  obtain⟨hpk,u⟩:=N1 u;obtain⟨R,u,hs1⟩:=NH u;obtain⟨H1,u,hH1,hH2,hH3⟩:=HY u;obtain⟨hh,hl⟩:=P6 z.heap hpk d B hi' hH1 (fun j c hj hne=>by
   obtain⟨c0,r,rfl⟩:=hH2 j c hj hne;exact⟨Chunk.kill_free k c0,(z.heap.chunks j c0 r).kill k⟩) (fun c hc=>by rw[hH3 c hc];exact hch)
  have G:Rel N σ (β.set k i') ⟨R,H1⟩ a w':=⟨z.size,z.defers,fun i=>by
   obtain⟨r,Y⟩:=hs1 i;have:RepL σ β (getS R i) (a.tmps.getD i undef):=by
    rcases r with r|r
    .rw [r];exact z.E i
    .rw [r];exact .p (.any _)
   exact this.set i' Y,hh⟩
  obtain⟨sl,u,hr'⟩:=G.setD hv' u;refine XT (w':=w') ?_ ⟨σ,_,_,u,hr',hl⟩;simp[execOp,hop,resolve,invoke,builtin,I]
 rcases v with⟨g1,V⟩|⟨g1,V⟩
 .exact fin _ _ g1 V r
 .exact fin _ _ g1 V Y
def svA(w n a:Nat):List (List Wd):=List.replicate a (List.replicate w 0)++List.replicate (n-a) []
def tdA(n a:Nat):List Int:=(List.range a).map ofNat++List.replicate (n-a) 0
def wtA(n a:Nat):List Bool:=List.replicate a true++List.replicate (n-a) false
def q5f{n a:Nat}(h:a<n):(svA w n a).set a (List.replicate w 0)=svA w n (a+1):=by
 unfold svA;rw[x7k _ _ (by simp),x5e,x8w,show n-a=(n-(a+1))+1 by omega,x8v,x7m,List.replicate_succ' (n:=a),x4r];rfl
def q5b{n a:Nat}(h:a<n):(tdA n a).set a (a:Int)=tdA n (a+1):=by
 unfold tdA;rw[x7k _ _ (by simp),x3a,x6l,x8w,show n-a=(n-(a+1))+1 by omega,x8v,x7m,x8x,x4d,x4r];rfl
def q6x{n a:Nat}(h:a<n):(wtA n a).set a true=wtA n (a+1):=by
 unfold wtA;rw[x7k _ _ (by simp),x5e,x8w,show n-a=(n-(a+1))+1 by omega,x8v,x7m,List.replicate_succ' (n:=a),x4r];rfl
def q5h{n a:Nat}(h:a<=n):(svA w n a).length=n:=by unfold svA;simp;omega
def q5d{n a:Nat}(h:a<=n):(tdA n a).length=n:=by unfold tdA;simp;omega
def q6q{n a:Nat}(h:a<=n):(wtA n a).length=n:=by unfold wtA;simp;omega
def svO(h:Int):Heap:=[(1,.obj 228 [.p .nils,.p (.int .i64 h)]),(0,.obj 228 [.p .nils,.p (.int .i64 0)])]
def svH(k:List (List Wd))(h:List Int)(j:List Bool)(i:Int):Heap:=(4,.own 4 1 (j.map bv))::(3,.own 3 1 (h.map (.int .i64)))::(2,.ext (.mat 295 251 1 (eWm k) []))::svO i
def q1q{sl:List (Nat×LV)}(n:Nat)(es ws:List AV)(h:Int)(i:(sl.all fun x=>x.2.xfree 2)=true):
  Le N ⟨sl,(4,.own 4 1 ws)::(3,.own 3 1 es)::(2,.own 295 1 (List.replicate n .nils))::svO h⟩ ⟨sl,(4,.own 4 1 ws)::(3,.own 3 1 es)::(2,.ext (.mat 295 251 1 (List.replicate n []) []))::svO h⟩:=by
 have j:=JW (N:=N) (sl:=sl) (H:=(4,.own 4 1 ws)::(3,.own 3 1 es)::(2,.own 295 1 (List.replicate n .nils))::svO h)
  (H':=(4,.own 4 1 ws)::(3,.own 3 1 es)::(2,.ext (.mat 295 251 1 (List.replicate (List.replicate n AV.nils).length []) []))::svO h)
  2 251 1 (e:=295) (es:=List.replicate n .nils) rfl (fun x k=>x6v k) rfl i rfl rfl (by simp[JL,svO])
 simpa using j
def q8q(n:List (List Wd)){a:Nat}(o:(eWm n).length=a)(m:Nat)(q:Int):
  Le N ⟨[(3,.p (.int .i64 m)),(8,.ptr 0 0),(9,.ptr 1 0),(11,.hd 2 0 a),(130,.p (.int .i64 a)),(131,.p (.int .i64 0))],(2,.ext (.mat 295 251 1 (eWm n) []))::svO q⟩
   ⟨[(3,.p (.int .i64 m)),(8,.ptr 0 0),(9,.ptr 1 0),(11,.p (LU n)),(130,.p (.int .i64 a)),(131,.p (.int .i64 0))],svO q⟩:=by
 refine Rx (k:=2) (e:=295) (e2:=251) (sz:=1) (rows:=eWm n) rfl (fun i=>?_) (by show [1,0].Sublist [2,1,0];decide) fun j c' r=>?_
 .refine SlRel.get (P:=fun l l'=>l'=l.kill 2\/(l=.hd 2 0 (eWm n).length/\l'=.p (.sl ((eWm n).map .sl)))) (.inl rfl) ?_ i;exact .cons (.inl rfl) (.cons (.inl rfl) (.cons (.inl rfl) (.cons (.inr ⟨by rw[o],rfl⟩) (.cons (.inl rfl) (.cons (.inl rfl) .nil)))))
 .rcases x4v.1 r with h|h
  .cases h;exact⟨by decide,x4x _ x4z,rfl⟩
  .rcases x4w.1 h with h;cases h;exact⟨by decide,x4x _ (x4x _ x4z),rfl⟩
def Oq{goes:List Wd}{i:Nat}(j:goes.length=w)(h:i<w):(goes.take i++List.replicate (w-i) 0).set i (goes[i]'(by omega))=goes.take (i+1)++List.replicate (w-(i+1)) 0:=by
 rw[x7k _ _ (by rw[x5z];omega),x5z,show i-min i goes.length=0 by omega,show w-i=(w-(i+1))+1 by omega,x8v,x7m,x4k (by omega),x4r];rfl
def Lc(g:List (List Int)×List (List Int))(n:Nat)(hn:n<=5000)(hg:XG n g.1)(E:∀r∈g.1,r.length<=1000000)(k:Nat)(hm:k<=5000)(gen kill:List (List Wd))(hgn:gen.length=n)(hkn:kill.length=n)(hgw:∀r∈gen,r.length=k/64+1)(hkw:∀r∈kill,r.length=k/64+1):SpecP prog 231 [VS g,LU gen,LU kill,.int .i64 k] (fun r=>∃(t:List (List Wd)) (Z:Int),(∀b:Int,0<=b->b<n->∀f,f/64<k/64+1->(bitW (t.getD b.toNat []) f=true↔SolP g.1 gen kill f b))/\t.length=n/\r=.agg [eMat (t.map fun row=>YP row k),.int .i64 Z]):=by
 refine sC H8 func231 ?_;conv=>whnf
 have hgl0:=E;have hL:=Ur g;have hgl1:g.1.length=n:=hg.1;rw[hgl1]at hL;obtain⟨w,hw⟩ : ∃w,w=k/64+1:=⟨_,rfl⟩;rw[<-hw];rw[<-hw]at hgw hkw;have e7:=IM k;repeat' ((first|(refine gX ?_;intros)|refine cP hL ?_|refine x8a n (by omega) (by first|(show 24*_<=140737488355328;omega)|(show 8*_<=140737488355328;omega)|(show 1*_<=140737488355328;omega)) (by unfold maxLen;omega) ?_)<;>conv=>whnf)
 refine lJ (fun a:Nat=>⟨[(0,.p (VS g)),(1,.p (LU gen)),(2,.p (LU kill)),(3,.j k),(8,.ptr 0 0),(9,.ptr 1 0),(11,.hd 2 0 n),(12,.hd 3 0 n),(13,.hd 4 0 n),(30,.j n),(31,.j a)],svH (svA w n a) (tdA n a) (wtA n a) 0⟩) (fun a=>a<=n) (fun a=>n-a) 0 (by
   refine Le.trans (q1q n _ _ 0 rfl) ?_;exact Le.of_eq (by simp[svH,svA,tdA,wtA,eWm,bv];exact⟨rfl,.inr rfl,.inr rfl⟩)) (x4j _) ?_
 intro a ha;rcases x4f a n with e|e
 .have g1:=q5f (w:=w) e;have g2:=q5b e;have g3:=q6x e;have l1:=q5h (w:=w) ha;have l2:=q5d ha;have l3:=q6q ha;have x2:((tdA n a).map (AV.int .i64))[a]?=some (.int .i64 ((tdA n a)[a]'(by omega))):=by rw[x4q,x3e (by omega)];rfl
  have x3:((wtA n a).map bv)[a]?=some (bv ((wtA n a)[a]'(by omega))):=by rw[x4q,x3e (by omega)];rfl
  generalize(tdA n a)[a]'(by omega)=o2 at x2;generalize(wtA n a)[a]'(by omega)=o3 at x3;have q1:(eWm (svA w n a)).set a (List.replicate w (.int .u64 0))=eWm (svA w n (a+1)):=by rw[<-g1];unfold eWm;rw[x5d,x7h];rfl
  have q2:((tdA n a).map (AV.int .i64)).set a (.int .i64 a)=(tdA n (a+1)).map (AV.int .i64):=by rw[<-g2,x5d]
  have q3:((wtA n a).map bv).set a .tt=(wtA n (a+1)).map bv:=by rw[<-g3,x5d];rfl
  generalize svA w n a=t at*
  generalize tdA n a=td at*
  generalize wtA n a=wt at*
  have hel:(eWm t).length=n:=by unfold eWm;rw[x3a,l1]
  unfold svH svO;conv=>whnf
  repeat' ((first|refine x4e rfl ?_|refine aR ?_|refine x4e (by decide) ?_|refine Wr.i64 (by first|omega|(rw[e7];omega)) (by first|omega|(rw[e7];omega)) ?_|refine x8a w (by rw[hw,e7];omega) (by show 8*_<=140737488355328;omega) (by unfold maxLen;omega) ?_|refine x6b a rfl e ?_|refine ZA XM rfl rfl rfl rfl rfl rfl rfl rfl rfl (by decide) a [] (by omega) (by omega) (by simp) ⟨by simp,by simp,by simp⟩ ?_|refine sO (.int .i64 a) x2 ?_|refine x8l a 0 _ .tt (by omega) x3 (x4m 1) (by cases o3<;>rfl) ?_|(apply bD<;>intro _<;>try omega))<;>conv=>whnf)
  all_goals exact⟨a+1,e,by omega,Le.of_eq (by show _=St.mk _ (svH (svA w n (a+1)) (tdA n (a+1)) (wtA n (a+1)) 0);unfold svH svO;rw[<-q1,<-q2,<-q3];rfl)⟩
 .obtain rfl:a=n:=by omega
  have hB:a*(64*w)<=5000*(64*79):=z0n hn (by omega);have hst:=Et (n:=a) (w:=w) (nx:=g.1) (gen:=gen) (kill:=kill) (by omega);have i1:svA w a a=List.replicate a (List.replicate w 0):=by unfold svA;simp
  have i2:tdA a a=(List.range a).map ofNat:=by unfold tdA;simp
  have i3:wtA a a=List.replicate a true:=by unfold wtA;simp
  rw[i1,i2,i3];conv=>whnf
  repeat' (apply bD<;>intro _<;>first|omega|conv=>whnf)
  refine lJ (fun x:SvS×List Int×Int=>⟨[(0,.p (VS g)),(1,.p (LU gen)),(2,.p (LU kill)),(3,.j k),(8,.ptr 0 0),(9,.ptr 1 0),(11,.hd 2 0 a),(12,.hd 3 x.2.1.length x.1.todo.length),(13,.hd 4 0 a)],svH x.1.zc (x.2.1++x.1.todo) x.1.waits x.2.2⟩) (fun x=>SvI a w g.1 gen kill x.1/\(∀y:Int,0<=y->y<a->y∉x.1.todo->closedA a w g.1 gen kill x.1.zc y)/\0<=x.2.2/\(x.2.1.length:Int)<=x.2.2/\x.2.2.toNat+(a*(64*w)+x.1.todo.length-UJ w x.1.zc)<=a*(64*w)+a) (fun x=>a*(64*w)+x.1.todo.length-UJ w x.1.zc) (⟨List.replicate a (List.replicate w 0),(List.range a).map ofNat,List.replicate a true⟩,[],0) (lE (hnd:=by simp[svH,svO]) (hsl:=.r (.r (.r (.r (.r (.r (.r (.cons (.of_eq (by simp only[x3a,x6l];rfl)) (.r .nil)))))))))) ⟨hst,fun y h0 e hy=>absurd (x4y.2 ⟨y.toNat,x5a.2 (by omega),by show((y.toNat:Nat):Int)=y;omega⟩) hy,Int.le_refl _,Int.le_refl _,by simp only[x3a,x6l];omega⟩ ?_;rintro⟨st,pre,Z⟩ ⟨Q,J,ht0,hpt,L⟩;simp only at Q J ht0 hpt L⊢;cases D:st.todo with
  | nil=>
    rw[D]at J L;unfold svH svO;conv=>whnf
    repeat' ((first|(refine gX ?_;intros)|(apply bD<;>intro _<;>try omega))<;>conv=>whnf)
    all_goals try (exfalso;simp only[x8c]at*;omega)
    obtain⟨t,todo,u⟩:=st;simp only at D Q J L⊢;subst D;have F:=Q.len;simp only at F;have hel:(eWm t).length=a:=by unfold eWm;rw[x3a,F]
    have hfin:∀b:Int,0<=b->b<a->∀f,f/64<w->(bitW (t.getD b.toNat []) f=true↔SolP g.1 gen kill f b):=fun b h0 e f hf=>q0r Q J rfl (by omega) h0 e hf;have hrow:=Q.rows;simp only at hrow;refine lJ (fun i:Nat=>⟨[(3,.j k),(8,.ptr 0 0),(9,.ptr 1 0),(11,.p (LU t)),(130,.j a),(131,.j i)],[(1,.obj 228 [.hd 5 0 i,.j Z]),(0,.obj 228 [.p .nils,.j 0]),(5,.own 56 1 ((t.take i).map fun r=>XQ (YP r k)))]⟩) (fun i=>i<=a) (fun i=>a-i) 0 (by
      refine Le.trans (q8q (N:=_) t hel k Z) ?_;exact lM [(5,.own 56 1 [])] (hH:=.cons rfl (.obj (.cons (.nil x4z) (.r .nil))) (.cons rfl (.refl _) (.new x4z .nil)))) (x4j _) ?_
    intro i hi;rcases x4f i a with e|e
    .have hlt:i<t.length:=by omega
     have eI:((eWm t).map AV.sl)[i]?=some (.sl (t[i].map eW)):=by unfold eWm;rw[x4q,x4q,x3e hlt];rfl
     have hrl:=hrow _ (x4h hlt);have hLi:=Ye t[i] k (by omega) (by omega);have hacl:((t.take i).map fun r=>XQ (YP r k)).length=i:=by rw[x3a,x5z];omega
     have hacs:((t.take (i+1)).map fun r=>XQ (YP r k))=((t.take i).map fun r=>XQ (YP r k))++[XQ (YP t[i] k)]:=by rw[x4k hlt,x4d];rfl
     generalize((t.take i).map fun r=>XQ (YP r k))=B at hacl hacs⊢;generalize t[i]=row at*
     conv=>whnf
     repeat' ((first|refine dA ?_|refine x4e rfl ?_|refine aD ?_|refine bP ?_|refine wI ?_|refine iT eI ?_|refine cP hLi ?_|refine pA 1 24 hacl.symm ?_|(apply bD<;>intro _<;>try omega)|refine x4e ?_ ?_)<;>conv=>whnf)
     all_goals first
      |(exfalso;omega)
      |exact⟨i+1,e,by omega,Le.of_eq (by rw[hacs];rfl)⟩
    .obtain rfl:i=a:=by omega
     have R:((t.take i).map fun r=>XQ (YP r k))=t.map fun r=>XQ (YP r k):=by rw[x4b (by omega)]
     have hal2:(t.map fun r=>XQ (YP r k)).length=i:=by rw[x3a,F]
     rw[R];conv=>whnf
     repeat' ((first|refine x4e rfl ?_|(apply bD<;>intro _<;>try omega))<;>conv=>whnf)
     all_goals try (exfalso;omega)
     have he:(avI (t.map fun row=>YP row k)).map AV.sl=t.map fun r=>XQ (YP r k):=by
      unfold avI;rw[x8t,x8t];rfl
     refine⟨_,.agg (cs:=[eMat (t.map fun row=>YP row k),.int .i64 Z]) rfl fun q l c e H=>?_,⟨t,Z,hfin,F,rfl⟩⟩
     match q,e,H with
     | 0,e,H=>
       cases e;cases H;show Frz _ _ (.sl ((avI (t.map fun row=>YP row k)).map AV.sl));rw[he];exact .hd rfl hal2.symm
     |1,e,H=>cases e;cases H;exact .p (Sub.refl _)
     |q+2,e,H=>simp at e
  | cons x r=>
    have har:=Q.rng x (by rw[D];exact x4z);obtain⟨hJ,K⟩:=OC Q J D;have hca:=U5 (w:=w) st.zc;rw[Q.len]at hca;rw[D]at L;simp only[x5g]at L;obtain⟨t,todo,u⟩:=st;simp only at D Q J L hJ K hca⊢;subst D;obtain⟨s,hxn⟩ : ∃s:Nat,x=s:=⟨x.toNat,by omega⟩;subst hxn;rw[x5u]at hJ K;have hxl:s<a:=by omega
    have F:=Q.len;have hwl:=Q.wl;simp only at F hwl;have hiw:=Q.rows _ (x4h (show s<t.length by omega));have e1:((pre++(s:Int)::r).map (AV.int .i64))[pre.length]?=some (.int .i64 s):=by rw[x4q,x5t (x4m _),x8w];rfl
    have e2:(u.map bv)[s]?=some (bv (u[s]'(by omega))):=by rw[x4q,x3e (by omega)];rfl
    generalize u[s]'(by omega)=w0 at e2;have hrm:(u.map bv).set s .ff=(u.set s false).map bv:=by rw[x5d];rfl
    have hwm:(u.map bv).length=a:=by rw[x3a,hwl]
    have hpm:((pre++(s:Int)::r).map (AV.int .i64)).length=pre.length+(r.length+1):=by simp
    unfold svH svO;conv=>whnf
    repeat' ((first|(refine iM fun _=>?_)|refine x4e rfl ?_|refine aR ?_|refine x6b 0 rfl (by simp) ?_|refine lO e1 ?_|refine x9r 1 (r.length+1) rfl rfl (by omega) (by simp) ?_|refine iO s ?_|refine x8l s 0 _ .ff (by omega) e2 (x4m 1) (by cases w0<;>rfl) ?_|refine x4e (by decide) ?_|refine Wr.i64 (by first|omega|(rw[e7];omega)) (by first|omega|(rw[e7];omega)) ?_|refine x8a w (by rw[hw,e7];omega) (by show 8*_<=140737488355328;omega) (by unfold maxLen;omega) ?_|(apply bD<;>intro _<;>try omega))<;>conv=>whnf)
    all_goals try (exfalso;simp only[x5g]at*;omega)
    have hxg:s<gen.length:=by omega
    have hxk:s<kill.length:=by omega
    have hG:=hgw _ (x4h hxg);have hK:=hkw _ (x4h hxk);have eG:((eWm gen).map AV.sl)[s]?=some (.sl (gen[s].map eW)):=by unfold eWm;rw[x4q,x4q,x3e hxg];rfl
    have eK:((eWm kill).map AV.sl)[s]?=some (.sl (kill[s].map eW)):=by unfold eWm;rw[x4q,x4q,x3e hxk];rfl
    have eI:(eWm t)[s]?=some ((t[s]'(by omega)).map eW):=by unfold eWm;rw[x4q,x3e (by omega)];rfl
    have hel:(eWm t).length=a:=by unfold eWm;rw[x3a,F]
    have hgoes:goA w gen kill t s=PY w gen[s] (t[s]'(by omega)) kill[s]:=by
     unfold goA;rw[x3i,x3e hxg,x3i,x3e (by omega),x3i,x3e hxk];rfl
    rw[hgoes]at hJ K;generalize hgG:gen[s]=G at*
    generalize hgK:kill[s]=Kr at*
    generalize hgI:t[s]'(by omega)=I at*
    have E:(PY w G I Kr).length=w:=Aj _ _ _ _;refine lJ (fun i:Nat=>⟨[(0,.p (VS g)),(1,.p (LU gen)),(2,.p (LU kill)),(3,.j k),(8,.ptr 0 0),(9,.ptr 1 0),(11,.hd 2 0 a),(12,.hd 3 (pre.length+1) r.length),(13,.hd 4 0 a),(15,.j s),(16,.hd 5 0 w),(69,.j w),(70,.j i)],(5,.own 251 1 (((PY w G I Kr).take i++List.replicate (w-i) 0).map eW))::svH t (pre++(s:Int)::r) (u.set s false) (Z+1)⟩) (fun i=>i<=w) (fun i=>w-i) 0 (Le.of_eq (by unfold svH svO;simp[hrm,eW];exact⟨rfl,rfl,.inr rfl⟩)) (x4j _) ?_;intro i hi;rcases x4f i w with e|e
    .have gI:(I.map eW)[i]?=some (.int .u64 ((I[i]'(by omega)).toNat:Int)):=C7 (by omega);have gG:(G.map eW)[i]?=some (.int .u64 ((G[i]'(by omega)).toNat:Int)):=C7 (by omega);have gK:(Kr.map eW)[i]?=some (.int .u64 ((Kr[i]'(by omega)).toNat:Int)):=C7 (by omega);have U:=Oq (goes:=PY w G I Kr) (w:=w) E e;have hgi:(PY w G I Kr)[i]'(by omega)=G[i]'(by omega) |||(I[i]'(by omega) &&& ~~~ (Kr[i]'(by omega))):=by
      unfold PY;rw[x8i,z0q,x3i,x3e (by omega),x3i,x3e (by omega),x3i,x3e (by omega)];rfl
     rw[hgi]at U;obtain⟨B,hacc⟩ : ∃B,B=((PY w G I Kr).take i++List.replicate (w-i) 0):=⟨_,rfl⟩;have hal:B.length=w:=by rw[hacc,x3o,x5z,x5e];omega
     have gA:(B.map eW)[i]?=some (eW (B[i]'(by omega))):=by rw[x4q,x3e (by omega)];rfl
     rw[<-hacc]at U⊢;generalize B[i]'(by omega)=o5 at gA;generalize I[i]'(by omega)=x1 at*
     generalize G[i]'(by omega)=x2 at*
     generalize Kr[i]'(by omega)=x3 at*
     have hst2:(B.map eW).set i (eW (x2 |||(x1 &&& ~~~x3)))=((PY w G I Kr).take (i+1)++List.replicate (w-(i+1)) 0).map eW:=by rw[<-U,x5d]
     have ham:(B.map eW).length=w:=by rw[x3a,hal]
     have hIm:(I.map eW).length=w:=by rw[x3a];exact hiw
     unfold svH svO;conv=>whnf
     repeat' ((first|refine dA ?_|refine x4e rfl ?_|refine wI ?_|refine iT eG ?_|refine iT gG ?_|refine iT eK ?_|refine iT gK ?_|refine iO s ?_|refine iO i ?_|refine x9q s _ (by omega) eI (by simp) ?_|refine RLd.mk _ i 0 _ eI (by simp) (by omega) gI ?_|refine UI rfl x1 x3 _ rfl rfl rfl rfl (.inr (.inr ⟨rfl,rfl⟩)) ?_|refine UI rfl x2 _ _ rfl rfl rfl rfl (.inr (.inl ⟨rfl,rfl⟩)) ?_|refine sO (eW (x2 |||(x1 &&& ~~~x3))) gA ?_|(apply bD<;>intro _<;>try omega))<;>conv=>whnf)
     all_goals first
      |(exfalso;omega)
      |exact⟨i+1,e,by omega,Le.of_eq (by rw[<-hst2];rfl)⟩
    .have hie:i=w:=by omega
     rw[hie];have R:(PY w G I Kr).take w++List.replicate (w-w) 0=PY w G I Kr:=by rw[x4b (by omega),x8w];simp
     rw[R];obtain⟨d,hgw2⟩ : ∃d,d=PY w G I Kr:=⟨_,rfl⟩;rw[<-hgw2]at E K hJ⊢;have hNx:=Wx g s hgl0;have hhas:ZT g.1.length (s:Int)=true:=by unfold ZT;simp;omega
     rw[if_pos hhas,x5u]at hNx;unfold svH svO;conv=>whnf
     repeat' ((first|(refine iM fun _=>?_)|refine cP hNx ?_|(apply bD<;>intro _<;>try omega))<;>conv=>whnf)
     all_goals try (exfalso;omega)
     have hnx:∀r∈g.1,∀b∈r,0<=b/\b<a:=hg.2;have hnxl:(g.1.getD s []).length<=1000000:=by
      rw[x3i,x3e (by omega)];exact hgl0 _ (x4h (by omega))
     have hnr:∀b∈g.1.getD s [],0<=b/\b<a:=fun b hb=>by
      rw[x3i,x3e (by omega)]at hb;exact hnx _ (x4h (by omega)) b hb
     obtain⟨v,T⟩ : ∃v,v=g.1.getD s []:=⟨_,rfl⟩;have hE:∀{st:SvS},SvJ a w g.1 gen kill s d v.length st->∀x:Int,0<=x->x<a->x∉st.todo->closedA a w g.1 gen kill st.zc x:=fun {st} h=>by
      subst T;exact IS h
     have hJn:∀{j:Nat}{st:SvS},SvJ a w g.1 gen kill s d j st->∀Y:j<v.length,SvJ a w g.1 gen kill s d (j+1) (jnE d st v[j])/\UJ w st.zc+(jnE d st v[j]).todo.length<=UJ w (jnE d st v[j]).zc+st.todo.length:=fun {j st} h Y=>by
      subst T;exact q4g hnx har.1 har.2 E K h Y
     rw[<-T]at hnr hnxl⊢;clear K hNx;have hnl:(v.map (AV.int .i64)).length=v.length:=x3a _;refine lJ (fun x:Nat×SvS×List Int=>⟨[(0,.p (VS g)),(1,.p (LU gen)),(2,.p (LU kill)),(3,.j k),(8,.ptr 0 0),(9,.ptr 1 0),(11,.hd 2 0 a),(12,.hd 3 x.2.2.length x.2.1.todo.length),(13,.hd 4 0 a),(16,.hd 5 0 w),(102,.p (XQ v)),(103,.p (.int .i64 (v.map (AV.int .i64)).length)),(104,.j x.1)],(5,.own 251 1 (d.map eW))::svH x.2.1.zc (x.2.2++x.2.1.todo) x.2.1.waits (Z+1)⟩) (fun x=>x.1<=v.length/\SvJ a w g.1 gen kill s d x.1 x.2.1/\UJ w t+x.2.1.todo.length<=UJ w x.2.1.zc+r.length/\(x.2.2.length:Int)<=Z+1) (fun x=>v.length-x.1) (0,⟨t,r,u.set s false⟩,pre++[(s:Int)]) (Le.of_eq (by unfold svH svO;simp;rfl)) ⟨x4j _,hJ,x4m _,by simp;omega⟩ ?_;rintro⟨j,⟨o,A,m⟩,pre2⟩ ⟨h2,H,h4,h5⟩;simp only at h2 H h4 h5⊢;have hca2:=U5 (w:=w) o;have hl2:=H.I.len;simp only at hl2;rw[hl2]at hca2;rcases x4f j v.length with Y|Y
     .obtain ⟨M,O⟩:=hJn H Y;have hbr:=hnr _ (x4h Y);obtain⟨z,hbj⟩ : ∃z:Nat,v[j]=z:=⟨v[j].toNat,by omega⟩;rw[hbj]at M O hbr;have hbl:z<o.length:=by omega
      have hwl2:=H.I.wl;simp only at hwl2;unfold jnE at M O;simp only[x5u]at M O;rw[x3i,x3e hbl,x5b,x3i,x3e (show z<m.length by omega),x5b]at M O;have hrw:=H.I.rows _ (x4h hbl);have eR:(eWm o)[z]?=some (o[z].map eW):=by unfold eWm;rw[x4q,x3e hbl];rfl
      have eW2:(m.map bv)[z]?=some (bv (m[z]'(by omega))):=by rw[x4q,x3e (by omega)];rfl
      have C:(eWm o).set z ((ZO o[z] d).map eW)=eWm (o.set z (ZO o[z] d)):=by unfold eWm;rw[x5d]
      have V:(m.map bv).set z .tt=(m.set z true).map bv:=by rw[x5d];rfl
      generalize o[z]=row at*
      generalize m[z]'(by omega)=wb at*
      have hjo:=SM row d (by omega) (by omega);have hjl:=Y2 (b:=row) (c:=d) (by omega);have hrm2:(row.map eW).length=w:=by rw[x3a];exact hrw
      have hgm2:(d.map eW).length=w:=by rw[x3a];exact E
      have hel2:(eWm o).length=a:=by unfold eWm;rw[x3a,hl2]
      have hwm2:(m.map bv).length=a:=by rw[x3a,hwl2]
      have hjo2:aH 262 [.hd 1000 0 (row.map eW).length,.hd 1001 0 w] ((1000,.own 251 1 (row.map eW))::bif true then [(1001,.own 251 1 (d.map eW))]else []) (.p (.bool (LT row d row.length))) [wsH 1000 (ZO row d),wsH 1001 d]:=by
       rw[hrm2];rw[hrw,E]at hjo;rw[hrw];exact hjo
      generalize LT row d row.length=mv at*
      unfold svH svO;rcases wb with _|_;rcases pre2 with _|⟨y,p2⟩;all_goals
       conv=>whnf
       repeat' ((first|(refine gX ?_;intros)|refine x6b z hbj (by omega) ?_|refine x9q z _ (by omega) eR (by simp) ?_|(refine Z8 2 z 5 true ((ZO row d).map eW) (S:=fun c=>c=.bool mv) (.row (.own rfl .nil)) hjo2 rfl eR (by omega) (fun _=>⟨rfl,by decide⟩) (fun l' H' hh=>by obtain⟨h8,h9⟩:=hh;exact⟨_,h8,rfl,h9⟩) (by rw[x3a,x3a,hjl]) ?_;rintro _ rfl)|refine lO eW2 ?_|refine sO .tt eW2 ?_|refine pI ?_|refine TR XM rfl rfl (Nat.succ_pos _) rfl rfl rfl rfl rfl rfl (by decide) (by rw[x3a,x3o]) rfl (Nat.succ_pos _) (fun x hx=>by rcases x4w.1 hx with rfl;exact⟨rfl,rfl⟩) (by show _+1<=maxLen;unfold maxLen;omega) (by show(_+1)*8<=_;omega) ?_ ?_|((first|apply bD|apply bB)<;>intro _<;>try omega))<;>conv=>whnf)
       all_goals try (exfalso;simp_all;done)
       all_goals first
        | (have hq:(mv && !true)=false:=by simp[*]
           rw[hq,x5q]at M O;exact⟨(j+1,⟨o.set z (ZO row d),A,m⟩,_),⟨Y,M,by simp only at O⊢;omega,h5⟩,by simp only;omega,Le.of_eq (by rw[<-C];rfl)⟩)
        | (have hq:(mv && !false)=false:=by simp[*]
           rw[hq,x5q]at M O;exact⟨(j+1,⟨o.set z (ZO row d),A,m⟩,_),⟨Y,M,by simp only at O⊢;omega,h5⟩,by simp only;omega,Le.of_eq (by rw[<-C];rfl)⟩)
        | (have hq:(mv && !false)=true:=by simp[*]
           rw[hq,x4s]at M O;exact⟨(j+1,⟨o.set z (ZO row d),A++[(z:Int)],m.set z true⟩,_),⟨Y,M,by simp only[x3o,x4i]at O⊢;omega,h5⟩,by simp only;omega,Le.of_eq (by simp only[svH,svO,<-C,<-V,hbj,x4d,x4r,x3o,x4o,z0d];rfl)⟩)
        | (have hq:(mv && !false)=true:=by simp[*]
           rw[hq,x4s]at M O;exact⟨(j+1,⟨o.set z (ZO row d),A++[(z:Int)],m.set z true⟩,[]),⟨Y,M,by simp only[x3o,x4i]at O⊢;omega,by simp only[x8c];omega⟩,by simp only;omega,Le.of_eq (by rw[<-List.map_drop,List.drop_left];simp only[svH,svO,<-C,<-V,hbj,x4d,x4r,x3o,x4o,z0d];rfl)⟩)
     .obtain rfl:j=v.length:=by omega
      have hcl2:=hE H;unfold svH svO;conv=>whnf
      repeat' (apply bD<;>intro _<;>first|omega|conv=>whnf)
      all_goals try (exfalso;omega)
      all_goals first
       |exact⟨(⟨o,A,m⟩,pre2,Z+1),⟨H.I,hcl2,by simp only;omega,h5,by simp only;omega⟩,by simp only[x5g];omega,lE⟩
def x2c(n:Nat)(steps:List (Int×Int))(gen kill:List (List Int))(h:Nat)(r:AV):Prop:=∃(zc:List (List Wd)) (tm:Int),(∀b:Int,0<=b->b<n->∀f,f/64<h/64+1->(bitW (zc.getD b.toNat []) f=true↔SolP (QA n steps).1 (gen.map (Zl (h/64+1))) (kill.map (Zl (h/64+1))) f b))/\zc.length=n/\r=.tup [.agg [eMat (zc.map fun row=>YP row h),.int .i64 tm],.tt]
def Tr(n:Nat)(C:n<=5000)(steps:List (Int×Int))(G:steps.length<=1000000)(H:∀s∈steps,(0<=s.1/\s.1<n)/\0<=s.2/\s.2<n)(gen kill:List (List Int))(A:gen.length=n)(B:kill.length=n)(h:Nat)(d:h<=5000)(m:∀r∈gen,r.length<=5000/\∀f∈r,0<=f/\f<h)(u:∀r∈kill,r.length<=5000/\∀f∈r,0<=f/\f<h):SpecP prog 178 [.int .i64 n,.sl (avP steps),eMat gen,eMat kill,.int .i64 h] (fun r=>x2c n steps gen kill h r):=by
 refine sC TN func178 ?_;conv=>whnf
 have E:((avI gen).map AV.sl).length=n:=by unfold avI;rw[x3a,x3a,A]
 have F:((avI kill).map AV.sl).length=n:=by unfold avI;rw[x3a,x3a,B]
 have I:(avP steps).length=steps.length:=x3a _;repeat' ((first|(refine iM fun _=>?_)|((first|apply bD|apply bE)<;>intro _<;>try omega))<;>conv=>whnf)
 all_goals try (exfalso;omega)
 refine lI (fun j:Nat=>⟨[(0,.j n),(1,.p (.sl (avP steps))),(2,.p (eMat gen)),(3,.p (eMat kill)),(4,.j h),(10,.ptr 0 0),(45,.p (.sl (avP steps))),(46,.p (.int .i64 (avP steps).length)),(47,.j j)],[(0,.obj 228 [.p .nils,.j 0])]⟩) (fun j=>j<=steps.length) (fun j=>steps.length-j) 0 (x4j _) ?_;intro j L;rcases x4f j steps.length with v|v
 .have e:=H _ (x4h v);have k:(avP steps)[j]?=some (.agg [.int .i64 steps[j].1,.int .i64 steps[j].2]):=by unfold avP;rw[x4q,x3e v];rfl
  generalize steps[j]=s at*
  obtain⟨x,y⟩:=s;simp only at e k;conv=>whnf
  repeat' ((first|refine x4e rfl ?_|refine wI ?_|refine iT k ?_|refine x6b 0 rfl (by decide) ?_|refine x6b 1 rfl (by decide) ?_|(apply bD<;>intro _<;>try omega))<;>conv=>whnf)
  all_goals first
   |(exfalso;omega)
   |exact nX (j+1) v
 .have D:=Ut n C steps G;have z:=Gf gen (by omega) (fun r i=>(m r i).1) h d (fun r i=>(m r i).2);have a:=Gf kill (by omega) (fun r i=>(u r i).1) h d (fun r i=>(u r i).2);have c:=(JP n steps).1;have o:∀r∈(QA n steps).1,r.length<=1000000:=fun r i=>by
   have g:=(BR (n:=n) (l:=steps) (x4m _)).1;rw[z0t]at g;have:=(g.2 r i).2;omega
  have b:=Lc (QA n steps) n C c o h d (gen.map (Zl (h/64+1))) (kill.map (Zl (h/64+1))) (by rw[x3a,A]) (by rw[x3a,B]) (fun r i=>by obtain⟨x,_,rfl⟩:=x4y.1 i;exact V2 _ _) (fun r i=>by obtain⟨x,_,rfl⟩:=x4y.1 i;exact V2 _ _);conv=>whnf
  repeat' ((first|refine x4e rfl ?_|refine cP z ?_|refine cP a ?_|refine cP D ?_|(refine CallK.pure b (.cons (Sub.refl _) (.cons (Sub.refl _) (.cons (Sub.refl _) (.cons (Sub.refl _) .nil)))) ?_;rintro _ ⟨K,J,q,t,rfl⟩)|(apply bD<;>intro _<;>try omega))<;>conv=>whnf)
  all_goals first
   |(exfalso;omega)
   |contradiction
   |exact⟨_,.p (Sub.refl _),K,J,q,t,rfl⟩
inductive RwL(k:Nat)(es:List AV):LV->LV->Prop
 |keep {l:LV} (hf:l.free k=true):RwL k es l l
 |row {n:Nat} (hn:n=es.length):RwL k es (.hd k 0 n) (.p (.sl es))
inductive RwC(k:Nat)(es:List AV):List LV->List LV->Prop
 |nil:RwC k es [] []
 |cons {l l':LV} {r r':List LV} (h:RwL k es l l') (hr:RwC k es r r'):RwC k es (l::r) (l'::r')
theorem RwC.get{k:Nat}{es:List AV}{ls i:List LV}(h:RwC k es ls i):i.length=ls.length/\∀(j:Nat)(l':LV),i[j]?=some l'->∃l,ls[j]?=some l/\RwL k es l l':=by
 induction h with
 |nil=>exact⟨rfl,by simp⟩
 | cons h q o=>
   refine⟨by simp[o.1],fun j l' m=>?_⟩;cases j with
   |zero=>simp at m;subst m;exact⟨_,rfl,h⟩
   |succ j=>exact o.2 j l' (by simpa using m)
inductive RwS(k:Nat)(es:List AV):List (Nat×LV)->List (Nat×LV)->Prop
 |nil:RwS k es [] []
 |cons {i:Nat} {l l':LV} {r r':List (Nat×LV)} (h:RwL k es l l') (hr:RwS k es r r'):RwS k es ((i,l)::r) ((i,l')::r')
theorem RwS.get{k:Nat}{es:List AV}{sl m:List (Nat×LV)}(h:RwS k es sl m)(i:Nat):RwL k es (getS sl i) (getS m i):=by
 induction h with
 |nil=>exact .keep rfl
 | @cons j l l' r t h q o=>
   simp only[getS];cases j==i
   .exact o
   .exact h
inductive RwH(k:Nat)(es:List AV):Heap->Heap->Prop
 |nil:RwH k es [] []
 |drop {e:TypeId} {sz:Nat} {es':List AV} {H H':Heap} (h:RwH k es H H'):RwH k es ((k,.own e sz es')::H) H'
 |own {j:Nat} {e:TypeId} {sz:Nat} {es':List AV} {H H':Heap} (hj:j≠k) (h:RwH k es H H'):RwH k es ((j,.own e sz es')::H) ((j,.own e sz es')::H')
 |ext {j:Nat} {d:XC} {H H':Heap} (hj:j≠k) (h:RwH k es H H'):RwH k es ((j,.ext d)::H) ((j,.ext d)::H')
 |obj {j:Nat} {e:TypeId} {cs cs':List LV} {H H':Heap} (hj:j≠k) (hc:RwC k es cs cs') (h:RwH k es H H'):RwH k es ((j,.obj e cs)::H) ((j,.obj e cs')::H')
inductive CRw(k:Nat)(es:List AV):Chunk->Chunk->Prop
 |own {e:TypeId} {sz:Nat} {es':List AV}:CRw k es (.own e sz es') (.own e sz es')
 |ext {d:XC}:CRw k es (.ext d) (.ext d)
 |obj {e:TypeId} {cs cs':List LV} (hc:RwC k es cs cs'):CRw k es (.obj e cs) (.obj e cs')
theorem RwH.get{k:Nat}{es:List AV}{H H':Heap}(h:RwH k es H H'):(H'.map (·.1)).Sublist (H.map (·.1))/\∀j c',(j,c')∈H'->j≠k/\∃c,(j,c)∈H/\CRw k es c c':=by
 induction h with
 |nil=>exact⟨.slnil,by simp⟩
 |drop h l=>exact⟨l.1.cons _,fun j c' r=>let ⟨m,c,o,q⟩:=l.2 j c' r;⟨m,c,x4x _ o,q⟩⟩
 | own r h l=>
   refine⟨l.1.cons_cons _,fun j c' i=>?_⟩;rcases x4v.1 i with t|i
   .cases t;exact⟨r,_,x4z,.own⟩
   .obtain ⟨m,c,o,q⟩:=l.2 j c' i;exact⟨m,c,x4x _ o,q⟩
 | ext r h l=>
   refine⟨l.1.cons_cons _,fun j c' i=>?_⟩;rcases x4v.1 i with t|i
   .cases t;exact⟨r,_,x4z,.ext⟩
   .obtain ⟨m,c,o,q⟩:=l.2 j c' i;exact⟨m,c,x4x _ o,q⟩
 | obj r u h l=>
   refine⟨l.1.cons_cons _,fun j c' i=>?_⟩;rcases x4v.1 i with t|i
   .cases t;exact⟨r,_,x4z,.obj u⟩
   .obtain ⟨m,c,o,q⟩:=l.2 j c' i;exact⟨m,c,x4x _ o,q⟩
def Hg{sl I:List (Nat×LV)}{H H':Heap}{k:Nat}{e:TypeId}{sz:Nat}{es:List AV}(hg:getH H k=some (.own e sz es))(hs:RwS k es sl I)(hh:RwH k es H H'):Le N ⟨sl,H⟩ ⟨I,H'⟩:=fun σ β a w s=>by
 obtain⟨d,y⟩:=hh.get;have hnd:=d.nodup s.heap.nodup;have q:∀j∈H'.map (·.1),j∈H.map (·.1):=fun j n=>d.subset n;rcases WD.1 (s.heap.chunks k _ (QG hg))with⟨L,rfl⟩|⟨i,vs,O,hisz,hb,hn,hle',hmax,hE⟩
 .have B:∀{l l':LV}{v:Value},RwL k [] l l'->RepL σ β l v->RepL σ β l' v:=fun {l l' v} V f=>by
   cases V with
   |keep=>exact f
   | row hn=>
     rcases f.hdI with⟨_,_,_,he⟩|⟨i,_,z,_⟩
     .rw [he];exact .p .nilsl
     .rw [L]at z;cases z
  refine⟨σ,β,⟨s.size,s.defers,fun j=>B (hs.get j) (s.E j),⟨s.heap.mem,fun j c' n=>?_,hnd,fun j n=>s.heap.apart j (q j n),fun j n j' Q=>s.heap.inj j (q j n) j' (q j' Q)⟩⟩,Mem.le_refl σ,Frm.refl _ _,fun _ h0 t=>absurd h0 t,fun b ⟨j,n,r⟩=>.inl ⟨j,q j n,r⟩,fun _ _ _=>rfl⟩;obtain⟨_,c,D,K⟩:=y j c' n;have h:=s.heap.chunks j c D;cases K with
  |own=>exact h
  |ext=>exact h
  | obj M=>
    obtain⟨i',A,Y,Z,q3,q4⟩:=h;obtain⟨q5,q6⟩:=M.get;refine⟨i',A,Y,Z,by omega,fun m l' R=>?_⟩;obtain⟨l,q7,q8⟩:=q6 m l' R;obtain⟨u,q9,g⟩:=q4 m l q7;exact⟨u,q9,B q8 g⟩
 .have B:∀τ:Mem,σ.le τ->τ i.blk=some vs->∀{l l':LV}{v:Value},RwL k es l l'->RepL σ β l v->RepL τ β l' v:=fun τ o G {l l' v} V f=>by
   cases V with
   |keep=>exact f.mono o
   | row T=>
     rcases f.hdI with⟨z,_⟩|⟨i',oo,z,B,J,rfl⟩
     .rw [O]at z;cases z
     .rw [O]at z;cases z;have U:oo=0:=by
       rcases J with J|J
       .simpa using J
       .omega
      subst U T;obtain⟨u,hu⟩ : ∃u:Nat->Nat->Value,∀(m:Nat)(x:AV)(j:Nat)(c:AV),es[m]?=some x->x.cells[j]?=some c->vs[m*sz+j]?=some (u m j)/\Rep σ c (u m j):=by
       refine⟨fun m j=>(vs[m*sz+j]?).getD undef,fun m x j c F n=>?_⟩;obtain⟨v,t,D⟩:=hE.rep m x j c F n;rw[x5s]at t;split at t
       .have C:vs[m*sz+j]?=some v:=by simpa using t
        exact⟨by simp[C],by simpa[C]using D⟩
       .cases t
      exact .p (.sl es i.blk 0 _ sz vs u G (by omega) (by omega) hE.size (fun m x j c F n=>by simpa using(hu m x j c F n).1) fun m x j c F n=>(hu m x j c F n).2.mono o)
  refine s.lay O (QP hg) hb (fun τ o G j v f=>B τ o G (hs.get j) f) (fun τ o G j c' n=>?_) hnd;obtain⟨t,c,D,K⟩:=y j c' n;refine⟨t,c,D,fun h=>?_⟩;cases K with
  |own=>exact h.mono o fun _ _ _ _=>rfl
  |ext=>exact h.mono o fun _ _ _ _=>rfl
  | obj M=>
    obtain⟨i',A,Y,Z,q3,q4⟩:=h;obtain⟨q5,q6⟩:=M.get;refine⟨i',A,Y,Z,by omega,fun m l' R=>?_⟩;obtain⟨l,q7,q8⟩:=q6 m l' R;obtain⟨u,q9,g⟩:=q4 m l q7;exact⟨u,q9,B τ o G q8 g⟩
def eN(r:List Int):AV:=if r=[]then .nils else XQ r
def X8(m:Nat):List Int:=(List.range m).map ofNat
def gnC(n:Nat)(at_:List Nat):Nat->List (List Int)
 |0=>List.replicate n []
 |k+1=>(gnC n at_ k).set (at_.getD k 0) [(k:Int)]
def klC(n:Nat)(at_:List Nat):Nat->List (List Int)
 |0=>List.replicate n []
 |k+1=>(klC n at_ k).set (at_.getD k 0) (X8 at_.length)
theorem NK(n:Nat)(at_:List Nat):∀k,(gnC n at_ k).length=n
 |0=>by simp[gnC]
 |k+1=>by rw[gnC,x6x,NK n at_ k]
theorem NF(n:Nat)(at_:List Nat):∀k,(klC n at_ k).length=n
 |0=>by simp[klC]
 |k+1=>by rw[klC,x6x,NF n at_ k]
def Wj(m:Nat):(X8 m).length=m:=by unfold X8;simp
def B9(m:Nat):X8 (m+1)=X8 m++[(m:Int)]:=by unfold X8;rw[x8x,x4d];rfl
def Ia{m:Nat}{f:Int}(h:f∈X8 m):0<=f/\f<m:=by
 unfold X8 at h;obtain⟨x,i,rfl⟩:=x4y.1 h;have:=x5a.1 i;exact⟨Int.natCast_nonneg _,by show(x:Int)<m;omega⟩
def q9g{r:List Int}(h:r≠[]):eN r=XQ r:=if_neg h
theorem LY:∀l:List (List Int),SubE (l.map eN) ((avI l).map .sl)
 |[]=>.nil
 | r::l=>by
   refine .cons ?_ (LY l);unfold eN;split
   .rename_i h;subst h;exact SubL.cons Sub.nils SubL.nil
   .exact SubL.cons (Sub.refl _) SubL.nil
def RJ(n:Nat)(at_:List Nat):(gnC n at_ 0).map eN=List.replicate n .nils:=by rw[gnC,x7h];rfl
def RA(n:Nat)(at_:List Nat):(klC n at_ 0).map eN=List.replicate n .nils:=by rw[klC,x7h];rfl
def q2x(n:Nat)(at_:List Nat){q:Nat}(h:q<at_.length):((gnC n at_ q).map eN).set at_[q] (.sl [.int .i64 q])=(gnC n at_ (q+1)).map eN:=by
 rw[gnC,x5d,x3i,x3e h];rfl
def q2u(n:Nat)(at_:List Nat){q:Nat}(h:q<at_.length):((klC n at_ q).map eN).set at_[q] (XQ (X8 at_.length))=(klC n at_ (q+1)).map eN:=by
 rw[klC,x5d,x3i,x3e h,q9g (fun e=>by have:=Wj at_.length;rw[e]at this;simp at this;omega)];rfl
theorem q3e(n:Nat)(at_:List Nat)(j:at_.length<=5000):∀k,k<=at_.length->∀r∈gnC n at_ k,r.length<=5000/\∀f∈r,0<=f/\f<(at_.length:Nat)
 | 0,_,r,hr=>by
   rw[gnC]at hr;rw[(z0x.1 hr).2];exact⟨by simp,fun f i=>by cases i⟩
 | k+1,hk,r,hr=>by
   rw[gnC]at hr;rcases x7q hr with h|h
   .exact q3e n at_ j k (by omega) r h
   .subst h;exact⟨by simp,fun f i=>by rw[x4w.1 i];omega⟩
theorem q4f(n:Nat)(at_:List Nat)(j:at_.length<=5000):∀k,∀r∈klC n at_ k,r.length<=5000/\∀f∈r,0<=f/\f<(at_.length:Nat)
 | 0,r,hr=>by
   rw[klC]at hr;rw[(z0x.1 hr).2];exact⟨by simp,fun f i=>by cases i⟩
 | k+1,r,hr=>by
   rw[klC]at hr;rcases x7q hr with h|h
   .exact q4f n at_ j k r h
   .subst h;exact⟨by rw[Wj];exact j,fun f i=>Ia i⟩
def ComR(n:Nat)(steps:List (Int×Int))(at_:List Nat)(r:AV):Prop:=∃h:List (List Wd),(∀b:Int,0<=b->b<n->∀f,f/64<at_.length/64+1->(bitW (h.getD b.toNat []) f=true↔SolP (QA n steps).1 ((gnC n at_ at_.length).map (Zl (at_.length/64+1))) ((klC n at_ at_.length).map (Zl (at_.length/64+1))) f b))/\h.length=n/\r=eMat (h.map fun row=>YP row at_.length)
def Uf(b:Book)(i:Nat)(w:Way)(Q:b.ways[i]?=some w)(n:Nat)(M:n<=5000)(E:w.n=n)(steps:List (Int×Int))(L:steps.length<=1000000)(O:∀s∈steps,(0<=s.1/\s.1<n)/\0<=s.2/\s.2<n)(at_:List Nat)(D:∀a∈at_,a<n)(g:at_.length<=5000):SpecP prog 130 [.ip b.cells,.int .i64 i,.sl (avP steps),.sl (at_.map fun a=>.int .i64 (a:Nat))] (fun r=>ComR n steps at_ r):=by
 refine sC Qa func130 ?_;conv=>whnf
 have G:(b.ways.map fun w=>AV.ip w.cells)[i]?=some (.ip w.cells):=by rw[x4q,Q];rfl
 have z:(at_.map fun a=>AV.int .i64 (a:Nat)).length=at_.length:=x3a _;repeat' ((first|(refine iM fun _=>?_)|refine dA ?_|refine aR ?_|refine iT G ?_|refine x8a n (by omega) (by show 24*_<=140737488355328;omega) (by unfold maxLen;omega) ?_|refine x4e ?_ ?_)<;>conv=>whnf)
 .refine lJ (fun j:Nat=>⟨[(2,.p (.sl (avP steps))),(3,.p (.sl (at_.map fun a=>.int .i64 (a:Nat)))),(9,.j n),(10,.hd 0 0 n),(11,.hd 1 0 n),(12,.hd 2 0 ((X8 j).map (AV.int .i64)).length),(33,.p (.int .i64 (at_.map fun a=>AV.int .i64 (a:Nat)).length)),(34,.j j)],[(1,.own 56 1 (List.replicate n .nils)),(0,.own 56 1 (List.replicate n .nils)),(2,.own 3 1 ((X8 j).map (.int .i64)))]⟩) (fun j=>j<=at_.length) (fun j=>at_.length-j) 0 (lM [(2,.own 3 1 [])] (hsl:=.r (.r (.cons (.of_eq (by rw[E];rfl)) (.r (.r (.cons (.nil x4z) (.r (.r .nil)))))))) (hH:=.cons rfl (.of_eq rfl) (.cons rfl (.of_eq rfl) (.new x4z .nil)))) (x4j _) ?_;intro j R;have F:=Wj j;rcases x4f j at_.length with C|C
  .have f:=B9 j;generalize X8 j=acc at*
   conv=>whnf
   repeat' ((first|refine gX ?_|refine pI ?_|(apply bD<;>intro _<;>try omega))<;>conv=>whnf)
   all_goals first
    |exact⟨j+1,C,by omega,Le.of_eq (by rw[f];simp only[x3o,x4d];rfl)⟩
  .obtain rfl:j=at_.length:=by omega
   conv=>whnf
   repeat' ((first|(refine iM fun _=>?_)|(apply bD<;>intro _<;>try omega))<;>conv=>whnf)
   refine lJ (fun q:Nat=>⟨[(2,.p (.sl (avP steps))),(3,.p (.sl (at_.map fun a=>.int .i64 (a:Nat)))),(9,.j n),(10,.hd 0 0 n),(11,.hd 1 0 n),(12,.p (XQ (X8 at_.length))),(42,.p (.sl (at_.map fun a=>.int .i64 (a:Nat)))),(43,.p (.int .i64 (at_.map fun a=>AV.int .i64 (a:Nat)).length)),(44,.j q)],[(1,.own 56 1 ((klC n at_ q).map eN)),(0,.own 56 1 ((gnC n at_ q).map eN))]⟩) (fun q=>q<=at_.length) (fun q=>at_.length-q) 0 (by
     obtain⟨s',rfl,d⟩:=Le.row (N:=Tryz.f130.ntmps) (s:=⟨[(2,.p (.sl (avP steps))),(3,.p (.sl (at_.map fun a=>.int .i64 (a:Nat)))),(9,.j n),(10,.hd 0 0 n),(11,.hd 1 0 n),(12,.hd 2 0 ((X8 at_.length).map (AV.int .i64)).length),(42,.p (.sl (at_.map fun a=>.int .i64 (a:Nat)))),(43,.p (.int .i64 (at_.map fun a=>AV.int .i64 (a:Nat)).length)),(44,.j 0)],[(1,.own 56 1 (List.replicate n .nils)),(0,.own 56 1 (List.replicate n .nils)),(2,.own 3 1 ((X8 at_.length).map (.int .i64)))]⟩) (k:=2) (e:=3) (sz:=1) (es:=(X8 at_.length).map (.int .i64)) (zs:=[12]) rfl
      (K:=fun s=>s=⟨[(2,.p (.sl (avP steps))),(3,.p (.sl (at_.map fun a=>.int .i64 (a:Nat)))),(9,.j n),(10,.hd 0 0 n),(11,.hd 1 0 n),(12,.p (XQ (X8 at_.length))),(42,.p (.sl (at_.map fun a=>.int .i64 (a:Nat)))),(43,.p (.int .i64 (at_.map fun a=>AV.int .i64 (a:Nat)).length)),(44,.j 0)],[(1,.own 56 1 (List.replicate n .nils)),(0,.own 56 1 (List.replicate n .nils))]⟩) ⟨rfl,rfl⟩
     exact d.trans (Le.of_eq (by rw[RA,RJ];rfl))) (x4j _) ?_
   intro q T;have m:=NK n at_ q;have v:=NF n at_ q;rcases x4f q at_.length with h|h
   .have o:=q2x n at_ h;have x:=q2u n at_ h;have c:=D _ (x4h h);obtain⟨a,y⟩ : ∃a,at_[q]=a:=⟨_,rfl⟩;rw[y]at o x c;generalize gnC n at_ q=gn at*
    generalize klC n at_ q=kl at*
    have A:(gn.map eN)[a]?=some (eN (gn[a]'(by omega))):=by rw[x4q,x3e (by omega)];rfl
    have B:(kl.map eN)[a]?=some (eN (kl[a]'(by omega))):=by rw[x4q,x3e (by omega)];rfl
    have H:(gn.map eN).length=n:=by rw[x3a,m]
    have I:(kl.map eN).length=n:=by rw[x3a,v]
    generalize gn[a]'(by omega)=o1 at A;generalize kl[a]'(by omega)=o2 at B;conv=>whnf
    repeat' ((first|(refine gX ?_;intros)|refine x6b a (by rw[y]) (by omega) ?_|refine x8l a 0 (eN o1) (.sl [.int .i64 q]) (by omega) A (x4m 1) (by unfold eN;split<;>rfl) ?_|refine x8l a 0 (eN o2) (XQ (X8 at_.length)) (by omega) B (x4m 1) (by unfold eN;split<;>rfl) ?_|(apply bD<;>intro _<;>try omega))<;>conv=>whnf)
    all_goals first
     |exact⟨q+1,h,by omega,Le.of_eq (by rw[<-o,<-x];rfl)⟩
   .obtain rfl:q=at_.length:=by omega
    have l:=Tr n M steps L O (gnC n at_ at_.length) (klC n at_ at_.length) m v at_.length g (q3e n at_ g at_.length (x4m _)) (q4f n at_ g at_.length);conv=>whnf
    repeat' ((first|(refine gX ?_;intros)|(refine KI l (.cons (.p (Sub.refl _)) (.cons (.p (Sub.refl _)) (.cons (.sub (.hd rfl (by rw[x3a,NK])) (Sub.sl (LY _))) (.cons (.sub (.hd rfl (by rw[x3a,NF])) (Sub.sl (LY _))) (.cons (.p (Sub.int (by rw[z]))) .nil))))) ?_;rintro _ ⟨J,U,t,u,rfl⟩)|(apply bD<;>intro _<;>try omega))<;>conv=>whnf)
    all_goals first
     |exact⟨_,.p (Sub.refl _),J,t,u,rfl⟩
     |refine KI l (.cons (.p (Sub.refl _)) (.cons (.p (Sub.refl _)) (.cons (.sub (.hd rfl (by rw[x3a,NK])) (Sub.sl (LY _))) (.cons (.sub (.hd rfl (by rw[x3a,NF])) (Sub.sl (LY _))) (.cons (.p (Sub.int (by rw[z]))) .nil))))) ?_
 .refine lJ (fun j:Nat=>⟨[(2,.p (.sl (avP steps))),(3,.p (.sl (at_.map fun a=>.int .i64 (a:Nat)))),(9,.j n),(10,.hd 1 0 n),(11,.hd 0 0 n),(12,.hd 2 0 ((X8 j).map (AV.int .i64)).length),(33,.p (.int .i64 (at_.map fun a=>AV.int .i64 (a:Nat)).length)),(34,.j j)],[(1,.own 56 1 (List.replicate n .nils)),(0,.own 56 1 (List.replicate n .nils)),(2,.own 3 1 ((X8 j).map (.int .i64)))]⟩) (fun j=>j<=at_.length) (fun j=>at_.length-j) 0 (lM [(2,.own 3 1 [])] (hsl:=.r (.r (.cons (.of_eq (by rw[E];rfl)) (.r (.r (.cons (.nil x4z) (.r (.r .nil)))))))) (hH:=.cons rfl (.of_eq rfl) (.cons rfl (.of_eq rfl) (.new x4z .nil)))) (x4j _) ?_;intro j R;have F:=Wj j;rcases x4f j at_.length with C|C
  .have f:=B9 j;generalize X8 j=acc at*
   conv=>whnf
   repeat' ((first|refine gX ?_|refine pI ?_|(apply bD<;>intro _<;>try omega))<;>conv=>whnf)
   all_goals first
    |exact⟨j+1,C,by omega,Le.of_eq (by rw[f];simp only[x3o,x4d];rfl)⟩
  .obtain rfl:j=at_.length:=by omega
   conv=>whnf
   repeat' ((first|(refine iM fun _=>?_)|(apply bD<;>intro _<;>try omega))<;>conv=>whnf)
   refine lJ (fun q:Nat=>⟨[(2,.p (.sl (avP steps))),(3,.p (.sl (at_.map fun a=>.int .i64 (a:Nat)))),(9,.j n),(10,.hd 1 0 n),(11,.hd 0 0 n),(12,.p (XQ (X8 at_.length))),(42,.p (.sl (at_.map fun a=>.int .i64 (a:Nat)))),(43,.p (.int .i64 (at_.map fun a=>AV.int .i64 (a:Nat)).length)),(44,.j q)],[(1,.own 56 1 ((gnC n at_ q).map eN)),(0,.own 56 1 ((klC n at_ q).map eN))]⟩) (fun q=>q<=at_.length) (fun q=>at_.length-q) 0 (by
     obtain⟨s',rfl,d⟩:=Le.row (N:=Tryz.f130.ntmps) (s:=⟨[(2,.p (.sl (avP steps))),(3,.p (.sl (at_.map fun a=>.int .i64 (a:Nat)))),(9,.j n),(10,.hd 1 0 n),(11,.hd 0 0 n),(12,.hd 2 0 ((X8 at_.length).map (AV.int .i64)).length),(42,.p (.sl (at_.map fun a=>.int .i64 (a:Nat)))),(43,.p (.int .i64 (at_.map fun a=>AV.int .i64 (a:Nat)).length)),(44,.j 0)],[(1,.own 56 1 (List.replicate n .nils)),(0,.own 56 1 (List.replicate n .nils)),(2,.own 3 1 ((X8 at_.length).map (.int .i64)))]⟩) (k:=2) (e:=3) (sz:=1) (es:=(X8 at_.length).map (.int .i64)) (zs:=[12]) rfl
      (K:=fun s=>s=⟨[(2,.p (.sl (avP steps))),(3,.p (.sl (at_.map fun a=>.int .i64 (a:Nat)))),(9,.j n),(10,.hd 1 0 n),(11,.hd 0 0 n),(12,.p (XQ (X8 at_.length))),(42,.p (.sl (at_.map fun a=>.int .i64 (a:Nat)))),(43,.p (.int .i64 (at_.map fun a=>AV.int .i64 (a:Nat)).length)),(44,.j 0)],[(1,.own 56 1 (List.replicate n .nils)),(0,.own 56 1 (List.replicate n .nils))]⟩) ⟨rfl,rfl⟩
     exact d.trans (Le.of_eq (by rw[RA,RJ];rfl))) (x4j _) ?_
   intro q T;have m:=NK n at_ q;have v:=NF n at_ q;rcases x4f q at_.length with h|h
   .have o:=q2x n at_ h;have x:=q2u n at_ h;have c:=D _ (x4h h);obtain⟨a,y⟩ : ∃a,at_[q]=a:=⟨_,rfl⟩;rw[y]at o x c;generalize gnC n at_ q=gn at*
    generalize klC n at_ q=kl at*
    have A:(gn.map eN)[a]?=some (eN (gn[a]'(by omega))):=by rw[x4q,x3e (by omega)];rfl
    have B:(kl.map eN)[a]?=some (eN (kl[a]'(by omega))):=by rw[x4q,x3e (by omega)];rfl
    have H:(gn.map eN).length=n:=by rw[x3a,m]
    have I:(kl.map eN).length=n:=by rw[x3a,v]
    generalize gn[a]'(by omega)=o1 at A;generalize kl[a]'(by omega)=o2 at B;conv=>whnf
    repeat' ((first|(refine gX ?_;intros)|refine x6b a (by rw[y]) (by omega) ?_|refine x8l a 0 (eN o1) (.sl [.int .i64 q]) (by omega) A (x4m 1) (by unfold eN;split<;>rfl) ?_|refine x8l a 0 (eN o2) (XQ (X8 at_.length)) (by omega) B (x4m 1) (by unfold eN;split<;>rfl) ?_|(apply bD<;>intro _<;>try omega))<;>conv=>whnf)
    all_goals first
     |exact⟨q+1,h,by omega,Le.of_eq (by rw[<-o,<-x];rfl)⟩
   .obtain rfl:q=at_.length:=by omega
    have l:=Tr n M steps L O (gnC n at_ at_.length) (klC n at_ at_.length) m v at_.length g (q3e n at_ g at_.length (x4m _)) (q4f n at_ g at_.length);conv=>whnf
    repeat' ((first|(refine gX ?_;intros)|(refine KI l (.cons (.p (Sub.refl _)) (.cons (.p (Sub.refl _)) (.cons (.sub (.hd rfl (by rw[x3a,NK])) (Sub.sl (LY _))) (.cons (.sub (.hd rfl (by rw[x3a,NF])) (Sub.sl (LY _))) (.cons (.p (Sub.int (by rw[z]))) .nil))))) ?_;rintro _ ⟨J,U,t,u,rfl⟩)|(apply bD<;>intro _<;>try omega))<;>conv=>whnf)
    all_goals first
     |exact⟨_,.p (Sub.refl _),J,t,u,rfl⟩
     |refine KI l (.cons (.p (Sub.refl _)) (.cons (.p (Sub.refl _)) (.cons (.sub (.hd rfl (by rw[x3a,NK])) (Sub.sl (LY _))) (.cons (.sub (.hd rfl (by rw[x3a,NF])) (Sub.sl (LY _))) (.cons (.p (Sub.int (by rw[z]))) .nil))))) ?_
end Go.Ab
