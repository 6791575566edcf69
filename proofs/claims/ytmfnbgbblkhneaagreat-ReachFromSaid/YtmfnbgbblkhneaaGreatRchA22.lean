/- give: who gives what, by name. -/
import Derived.Test.YtmfnbgbblkhneaaGreatRchA17
import Derived.Test.YtmfnbgbblkhneaaGreatRchA18
import Derived.Test.YtmfnbgbblkhneaaGreatRchA20
import Derived.Test.YtmfnbgbblkhneaaGreatRchA21
set_option linter.unusedSimpArgs false
set_option linter.unusedVariables false
set_option maxRecDepth 100000
set_option maxHeartbeats 16000000
open Nat (blt)
namespace Go.Ab
open Go.Proofs.Tryz
open Go.Proofs
variable {D U:List (List Str)}{K:St->Prop}{N k:Nat}{P:Program}{f:Pr}{info:Info}{l:List (Str×List AV)}{net:List (List Int)}{o:List Str}{seen:List Bool}{todo:List Int}{x:Str}
def Hw(l:List (Str×List AV))(x:Str×Nat):List (Str×List AV):=BG l x.1 (Fq l x.1++[.int .i64 x.2])
def prsG(G:Nat->List Str)(n:Nat):List (Str×Nat):=(List.range n).flatMap fun a=>(G a).map fun s=>(s,a)
def mapG(l:List (Str×Nat)):List (Str×List AV):=l.foldl Hw []
theorem KL(l:List (Str×Nat))(x:Str×Nat):mapG (l++[x])=Hw (mapG l) x:=by unfold mapG;rw[x2i];rfl
theorem FD(G:Nat->List Str)(n:Nat):prsG G (n+1)=prsG G n++(G n).map fun s=>(s,n):=by
 unfold prsG;rw[x1e,x1g];simp
theorem Sp{k j:Str}{v:List AV}:Pv (BG l k v) j=if j=k then some v else Pv l j:=by
 induction l with
 |nil=>rw[BG];unfold Pv;by_cases h:j=k<;>simp[h]
 | cons x r ih=>
   rw[BG];by_cases h:k=x.1
   ·rw[if_pos h];unfold Pv;by_cases h2:j=k
    ·simp[h2,<-h]
    ·have:¬j=x.1:=fun e=>h2 (e.trans h.symm);simp[h2,this]
   ·rw[if_neg h];unfold Pv at ih⊢;rw[x2s,x2s];by_cases h2:j=x.1
    ·have:¬j=k:=fun e=>h (e.symm.trans h2);simp[h2,this];intro e;exact absurd e.symm h
    ·rw[x0y h2];exact ih
theorem Eh(l:List (Str×List AV))(x:Str×Nat)(j:Str):Fq (Hw l x) j=if j=x.1 then Fq l x.1++[.int .i64 x.2]else Fq l j:=by
 unfold Hw Fq;rw[Sp];split<;>rfl
theorem Lw(l:List (Str×Nat))(j:Str):Fq (mapG l) j=(l.filter fun x=>decide (x.1=j)).map fun x=>.int .i64 x.2:=by
 have key:∀l:List (Str×Nat),Fq (mapG l.reverse) j=(l.reverse.filter fun x=>decide (x.1=j)).map fun x=>AV.int .i64 x.2:=fun l=>by
  induction l with
  |nil=>rfl
  | cons x r ih=>
    rw[x3p,KL,Eh,x0f,q7o,<-ih];by_cases h:j=x.1
    ·subst h;simp
    ·have:¬x.1=j:=fun e=>h e.symm;simp[h,this]
 have:=key l.reverse
 rwa[x2o]at this
theorem Ek(l:List (Str×Nat))(j:Str):(Fq (mapG l) j).length<=l.length:=by
 rw[Lw,q7f];exact q9l _ _
theorem Ll{G:Nat->List Str}(hG:∀a,(G a).length<=1000):∀n,(prsG G n).length<=1000*n
 |0=>q7c _
 | n+1=>by
   have:=Ll hG n;have:=hG n;rw[FD,q7b,q7f];omega
theorem Vj(b:Book)(p:Pg)(i:Nat)(f:Pr)(n:Nat)(hn:n<=5000)(hW:b.ways[i]?=some (QQ p i f))(hwn:(QQ p i f).n=n)(G:Nat->List Str)(hG:∀a,a<n->SpecP prog 156 [.ip b.cells,.int .i64 i,.int .i64 a] (fun r=>r=eStrs (G a)))(hGl:∀a,(G a).length<=1000):SpecH prog 96 [.p (.ip b.cells),.p (.int .i64 i)] [] (fun r H=>r=.tup [.ext 0 .map,.p (.int .i64 (prsG G n).length)]/\H=[(0,.ext (.mapr 3 1 (mapG (prsG G n)) none))]):=by
 refine sH LI func96 rfl call96 ?_;conv=>whnf
 have hg2:(b.ways.map fun w=>AV.ip w.cells)[i]?=some (.ip (QQ p i f).cells):=by rw[q7l,hW];rfl
 repeat' (first|((first|(refine iM fun _=>?_)|refine dA ?_|refine q7p rfl ?_|refine aD ?_|refine aR ?_|refine bP ?_|(refine iA fun _=>?_)|refine IdxK.xs (by omega) ?_|refine QX (by omega) ?_|(refine ByteK.at (by omega) ?_)|refine wI ?_|refine Fe 3 1 rfl ?_|(refine IdxK.at (k:=i) rfl hg2 rfl ?_));conv=>whnf)|(apply bD<;>intro _<;>first|omega|conv=>whnf)|(apply bE<;>intro _<;>first|omega|conv=>whnf)|(apply bN<;>intro _<;>conv=>whnf)|(apply bB<;>intro _<;>conv=>whnf))
 refine LoopK.inv QK (fun a:Nat=>⟨[(0,.p (.ip b.cells)),(1,.p (.int .i64 i)),(4,.ext 0 .map),(5,.p (.int .i64 (prsG G a).length)),(19,.p (.int .i64 n)),(20,.p (.int .i64 a))],[(0,.ext (.mapr 3 1 (mapG (prsG G a)) none))]⟩) (fun a=>a<=n) (fun a=>n-a) 0 (Le.of_eq (by rw[hwn];rfl)) (q7c _) ?_;intro a ha;have hal:(prsG G a).length<=1000*a:=Ll hGl a;rcases q7e a n with h1|h1
 ·have hGa:=hG a h1;have hga:=hGl a;have hsu:=FD G a;generalize prsG G a=acc at*
  generalize G a=L at*
  have hlm:(L.map AV.str).length=L.length:=q7f _;conv=>whnf
  repeat' (first|((first|(refine iM fun _=>?_)|refine dA ?_|refine q7p rfl ?_|refine aD ?_|refine aR ?_|refine bP ?_|(refine iA fun _=>?_)|refine IdxK.xs (by omega) ?_|refine QX (by omega) ?_|(refine ByteK.at (by omega) ?_)|refine wI ?_|refine cP hGa ?_);conv=>whnf)|(apply bD<;>intro _<;>first|omega|conv=>whnf)|(apply bE<;>intro _<;>first|omega|conv=>whnf)|(apply bN<;>intro _<;>conv=>whnf)|(apply bB<;>intro _<;>conv=>whnf))
  refine LoopK.inv QK (fun j:Nat=>⟨[(0,.p (.ip b.cells)),(1,.p (.int .i64 i)),(4,.ext 0 .map),(5,.p (.int .i64 (acc++(L.take j).map fun s=>(s,a)).length)),(6,.p (.int .i64 a)),(19,.p (.int .i64 n)),(20,.p (.int .i64 a)),(26,.p (eStrs L)),(27,.p (.int .i64 (L.map AV.str).length)),(28,.p (.int .i64 j))],[(0,.ext (.mapr 3 1 (mapG (acc++(L.take j).map fun s=>(s,a))) none))]⟩) (fun j=>j<=L.length) (fun j=>L.length-j) 0 (Le.of_eq (by simp;rfl)) (q7c _) ?_;intro j hj;rcases q7e j L.length with h2|h2
  ·have hst:acc++(L.take (j+1)).map (fun s=>(s,a))=(acc++(L.take j).map fun s=>(s,a))++[(L[j],a)]:=by rw[q8q h2,q7o,q8d];rfl
   have hl3:(acc++(L.take j).map fun s=>(s,a)).length<=5002000:=by rw[q7b,q7f,q8n];omega
   generalize(acc++(L.take j).map fun s=>(s,a))=o at*
   have hsn:=KL o (L[j],a);unfold Hw at hsn;have hrl:=Ek o L[j];simp only at hsn;generalize mapG o=m at*
   conv=>whnf
   repeat' (first|((first|(refine iM fun _=>?_)|refine dA ?_|refine q7p rfl ?_|refine aD ?_|refine aR ?_|refine bP ?_|(refine iA fun _=>?_)|refine IdxK.xs (by omega) ?_|refine QX (by omega) ?_|(refine ByteK.at (by omega) ?_)|refine wI ?_|refine TZ QK 1 rfl rfl rfl rfl rfl rfl rfl rfl rfl rfl rfl rfl ?_|refine XX rfl (by omega) ?_|refine Aj QK rfl rfl rfl rfl rfl rfl rfl (by simp) (Nat.succ_pos _) rfl rfl rfl rfl rfl (by decide) ?_);conv=>whnf)|(apply bD<;>intro _<;>first|omega|conv=>whnf)|(apply bE<;>intro _<;>first|omega|conv=>whnf)|(apply bN<;>intro _<;>conv=>whnf)|(apply bB<;>intro _<;>conv=>whnf))
   all_goals first
    |exact⟨j+1,h2,by omega,Le.of_eq (by rw[hst,hsn,q7b];rfl)⟩
  ·rw[q8y h2,<-hsu];conv=>whnf
   repeat' (first|((first|(refine iM fun _=>?_)|refine dA ?_|refine q7p rfl ?_|refine aD ?_|refine aR ?_|refine bP ?_|(refine iA fun _=>?_)|refine IdxK.xs (by omega) ?_|refine QX (by omega) ?_|(refine ByteK.at (by omega) ?_)|refine wI ?_);conv=>whnf)|(apply bD<;>intro _<;>first|omega|conv=>whnf)|(apply bE<;>intro _<;>first|omega|conv=>whnf)|(apply bN<;>intro _<;>conv=>whnf)|(apply bB<;>intro _<;>conv=>whnf))
   all_goals first
    |exact⟨a+1,h1,by omega,Le.of_eq rfl⟩
 ·obtain rfl:a=n:=by omega
  conv=>whnf
  repeat' (first|((first|(refine iM fun _=>?_)|refine dA ?_|refine q7p rfl ?_|refine aD ?_|refine aR ?_|refine bP ?_|(refine iA fun _=>?_)|refine IdxK.xs (by omega) ?_|refine QX (by omega) ?_|(refine ByteK.at (by omega) ?_)|refine wI ?_);conv=>whnf)|(apply bD<;>intro _<;>first|omega|conv=>whnf)|(apply bE<;>intro _<;>first|omega|conv=>whnf)|(apply bN<;>intro _<;>conv=>whnf)|(apply bB<;>intro _<;>conv=>whnf))
  all_goals first
   |exact x1c _ (q8k _) ⟨rfl,rfl⟩
section
variable {P:Program}{T:Tab}{N:Nat}
theorem Nr{sl:List (Nat×LV)}(hsl:(sl.all fun x=>x.2.xfree k)=true)(i:Nat):(getS sl i).xfree k=true:=by
 induction sl with
 |nil=>rfl
 | cons x r ih=>
   simp only[List.all_cons,q8j]at hsl;obtain⟨j,l⟩:=x;simp only[getS];cases j==i
   ·exact ih hsl.2
   ·exact hsl.1
theorem TX{sl:List (Nat×LV)}{H H':Heap}(k:Nat){e sz:Nat}{l:List (List UInt8×List AV)}(hg:getH H k=some (.ext (.mapr e sz l none)))(hpin:ZJ k=false)(hsl:(sl.all fun x=>x.2.xfree k)=true)(hH:(H.all fun x=>match x.2 with |.obj _ cs=>LV.xfree.xfreeAll k cs|_=>true)=true)(h':H'=H.map fun x=>bif x.1==k then(k,.ext (A9 (l.map fun y=>(y.1,AV.sl y.2))))else x):Le N ⟨sl,H⟩ ⟨sl,H'⟩:=fun σ β a w hr=>by
 have hk1:=QN hg;have hlabs:H'.map (·.1)=H.map (·.1):=by
  rw[h',x1o];apply List.map_congr_left;intro x hx;simp only[Function.comp];cases hb:x.1==k with
  |true=>simp at hb;simp[hb]
  |false=>rfl
 have hmem:∀j c,(j,c)∈H'->(j=k/\c=.ext (A9 (l.map fun y=>(y.1,AV.sl y.2))))\/(j≠k/\(j,c)∈H):=fun j c hj=>by
  rw[h']at hj;obtain⟨x,hx,he⟩:=q7s.1 hj;cases hb:x.1==k with
  | true=>
    rw[hb,q8g]at he;cases he;exact .inl ⟨rfl,rfl⟩
  | false=>
    rw[hb,q8b]at he;subst he;exact .inr ⟨by simpa using hb,hx⟩
 obtain⟨i,es,clock,hi,hh,hbo,h1,h2,h3,h4,h5⟩:=hr.heap.chunks k _ (QF hg);let S:Nat->Prop:=fun b=>∃c,some (b,c)∈i.subs;have hrow:∀(p b c:Nat),i.subs[p]?=some (some (b,c))->∃ws,w.heap[b]?=some (.cells ws e (0,0)):=fun p b c hp=>by
  have hlt:p<l.length:=by rw[<-h2];exact(q7t.1 hp).1
  obtain⟨e',_,_,_,g4⟩:=h5 p _ (q7g hlt);obtain⟨b',c',ws,q1,_,q3,_⟩:=g4 (by simp);rw[hp]at q1;cases q1;exact⟨ws,q3⟩
 have hcell:∀b,S b->∃ws,w.heap[b]?=some (.cells ws e (0,0)):=fun b ⟨c,hb⟩=>by
  obtain⟨p,hp⟩:=x0g.1 hb;exact hrow p b c hp
 have hhasS:∀b,S b->i.has b:=fun b hb=>.inr hb;let τ:Mem:=fun b=>@ite _ (S b) (Classical.propDecidable _) (match w.heap[b]?with
  |some (.cells c _ _)=>some c
  |_=>none) (σ b)
 have hpos:∀b c e fr,S b->w.heap[b]?=some (.cells c e fr)->τ b=some c:=fun b c e fr hb hh=>by
  show @ite _ (S b) (Classical.propDecidable _) _ _=_;rw[if_pos hb,hh]
 have hneg:∀b,¬S b->τ b=σ b:=fun b hb=>by
  show @ite _ (S b) (Classical.propDecidable _) _ _=_;rw[if_neg hb]
 have hle:σ.le τ:=fun b c hb=>by
  rw[hneg b]
  ·exact hb
  ·intro hib;rw[(hr.heap.apart k hk1 i hi b (hhasS b hib)).1]at hb;cases hb
 let i':BInfo:=⟨i.blk,i.cap,i.sz,[],i.ok⟩;have hset:∀j,j≠k->(β.set k (some i')) j=β j:=fun j hj=>by simp[Lab.set,hj]
 have hsetk:(β.set k (some i')) k=some i':=by simp[Lab.set]
 have hhas:∀b,i'.has b->b=i.blk:=fun b hb=>by
  rcases hb with hb|⟨c,hb⟩
  ·exact hb.symm
  ·cases hb
 have hblk:¬S i.blk:=fun⟨c,hb⟩=>by
  obtain⟨p,hp⟩:=x0g.1 hb;exact(h4 p _ c hp).1 rfl
 have hwas:∀j∈H.map (·.1),∀ij,(β.set k (some i')) j=some ij->∀b,ij.has b->(∃i0,β j=some i0/\i0.has b)/\¬S b:=fun j hin ij hj b hb=>by
  by_cases hjk:j=k
  ·subst hjk;rw[hsetk]at hj;cases hj;obtain rfl:=hhas b hb;exact⟨⟨i,hi,i.has_blk⟩,hblk⟩
  ·rw[hset j hjk]at hj;exact⟨⟨ij,hj,hb⟩,fun hS=>hjk (hr.heap.inj j hin k hk1 ij i hj hi b hb (hhasS b hS))⟩
 have hlab:∀j∈H'.map (·.1),j∈H.map (·.1):=fun j hj=>hlabs▸hj;refine⟨τ,β.set k (some i'),⟨hr.size,hr.defers,fun j=>((hr.slots j).subs (i':=i') hi ⟨rfl,rfl,rfl⟩ (Nr hsl j)).mono hle,⟨fun b c hb=>?_,fun j c hj=>?_,by rw[hlabs];exact hr.heap.nodup,fun j hj ij hij b hb=>?_,fun j hj j' hj' i1 i2 g1 g2 b hb1 hb2=>?_⟩⟩,
  hle,Frm.refl _ _,fun b g0 g1=>?_,fun b ⟨j,hj,ij,hij,hb⟩=>?_,fun j g0 g1=>hset j (P9 hpin j g0 g1)⟩
 ·by_cases hS:S b
  ·obtain⟨ws,hw⟩:=hcell b hS;rw[hpos b ws e (0,0) hS hw]at hb;cases hb;exact⟨_,_,hw⟩
  ·rw[hneg b hS]at hb;exact hr.heap.mem b c hb
 ·rcases hmem j c hj with⟨rfl,rfl⟩|⟨hjk,hm⟩
  ·refine⟨i',es,clock,hsetk,hh,hbo,by simpa using h1,fun p x hp=>?_⟩;rw[x1o,q7l]at hp;cases hq:l[p]?with
   |none=>rw[hq]at hp;cases hp
   | some y=>
     rw[hq]at hp;cases hp;obtain⟨e',g1,g2,_,g4⟩:=h5 p y hq;obtain⟨b,c,ws,q1,q2,q3,q4,q5,q6,q7⟩:=g4 (by simp);refine⟨e',g1,g2,?_⟩;show Rep τ (.sl y.2) e'.val;rw[q2];refine .sl y.2 b 0 c sz ws (fun m j=>(ws[m*sz+j]?).getD undef) (hpos b ws _ _ ⟨c,q8u q1⟩ q3) q5 q6 (fun m x hx=>(q7 m x hx).1) (fun m x j c' hx hj=>?_) fun m x j c' hx hj=>?_
     ·obtain⟨u,r4,_⟩:=(q7 m x hx).2 j c' hj;simp[r4]
     ·obtain⟨u,r4,r5⟩:=(q7 m x hx).2 j c' hj;simpa[r4]using r5.mono hle
  ·have hx:=q9b.1 hH (j,c) hm;have hhold:=(hr.heap.chunks j c hm).mono (w':=w) hle fun _ _ _ _=>rfl;cases c with
   | obj e' cs=>
     obtain⟨i2,vs2,hi2,hh2,hn2,hc2⟩:=hhold;refine⟨i2,vs2,(hset j hjk).trans hi2,hh2,hn2,fun m l hm=>?_⟩;obtain⟨u,g5,g6⟩:=hc2 m l hm;exact⟨u,g5,g6.subs hi ⟨rfl,rfl,rfl⟩ (UE hx m l hm)⟩
   | own e' sz' es'=>
     rcases hhold with⟨g5,g6⟩|⟨i2,vs2,hi2,rest⟩
     ·exact .inl ⟨(hset j hjk).trans g5,g6⟩
     ·exact .inr ⟨i2,vs2,(hset j hjk).trans hi2,rest⟩
   | ext d=>
     show d.holds τ ((β.set k (some i')) j) w;rw[hset j hjk];exact hhold
 ·obtain⟨⟨i0,g1,g2⟩,g3⟩:=hwas j (hlab j hj) ij hij b hb;rw[hneg b g3];exact hr.heap.apart j (hlab j hj) i0 g1 b g2
 ·obtain⟨⟨i3,q1,q2⟩,_⟩:=hwas j (hlab j hj) i1 g1 b hb1;obtain⟨⟨i4,q3,q4⟩,_⟩:=hwas j' (hlab j' hj') i2 g2 b hb2;exact hr.heap.inj j (hlab j hj) j' (hlab j' hj') i3 i4 q1 q3 b q2 q4
 ·by_cases hS:S b
  ·exact .inl ⟨k,hk1,i,hi,hhasS b hS⟩
  ·rw[hneg b hS]at g1;exact absurd g0 g1
 ·obtain⟨⟨i0,g1,g2⟩,_⟩:=hwas j (hlab j hj) ij hij b hb;exact .inl ⟨j,hlab j hj,i0,g1,g2⟩
theorem OpK.range(hT:TabOK P T){s:St}{o:Oper}{K:St->Prop}{t:TypeId}{x:Operand}(hop:o.op=.range t x){k:Nat}(hx:QL s.sl x=.ext k .map){l:List (List UInt8×AV)}(hg:getH s.H k=some (.ext (A9 l))){i:TyI}{kt et:TypeId}(ht:T.get t=some i)(hd:i.desc=.map kt et)(hpin:ZJ k=false)(h:Vo (LV.kill k) s.sl fun sl=>Qf k 99999 (LV.kill k) (.ext (.iter l none)) s.H fun H=>setD N sl o.dst (.ext k .iter) fun sl=>K ⟨sl,H⟩):OpK P N s o K:=by
 refine⟨fun σ β a w hr Q=>?_⟩;obtain⟨sl,h,hsl⟩:=WW (by rfl) h;obtain⟨H2,h,hsub,hmem⟩:=WV h;have hx':=QZ hr.slots x;rw[hx]at hx';generalize hxe:a.eval x=xv at hx';cases hx' with
 |ext _ _ bi _ hbi hd'=>
 obtain rfl:xv=.map (some bi.blk):=hd';obtain⟨bi',es,clock,hbi',hh,hbo,h1,h2⟩:=hr.heap.chunks k _ (QF hg);rw[hbi]at hbi';cases hbi';have hk1:=QN hg;have hu:=hT.of ht;rw[hd]at hu;let o':Obj:=.mapIter (some bi.blk) clock #[] clock;let i':BInfo:=⟨w.heap.size,0,0,[some (bi.blk,0)],q7c _⟩;have hset:∀j,j≠k->(β.set k (some i')) j=β j:=fun j hj=>by simp[Lab.set,hj]
 have hsetk:(β.set k (some i')) k=some i':=by simp[Lab.set]
 have hlt:=(hr.heap.apart k hk1 bi hbi bi.blk bi.has_blk).2;have hold:∀b,b<w.heap.size->(w.alloc o').heap[b]?=w.heap[b]?:=fun b hb=>Go.heap_alloc_old w o' hb;have hsize:(w.alloc o').heap.size=w.heap.size+1:=by
  show(w.heap.push o').size=_;simp
 have hhas:∀b,i'.has b->b=w.heap.size\/b=bi.blk:=fun b hb=>by
  rcases hb with hb|⟨c,hb⟩
  ·exact .inl hb.symm
  ·have hb:some (b,c)∈[some (bi.blk,0)]:=hb;rw[q7m]at hb;cases hb;exact .inr rfl
 have hlab:∀j∈H2.map (·.1),j∈s.H.map (·.1):=fun j hj=>hsub.subset hj;have hold2:∀j∈s.H.map (·.1),j≠k->∀ij,β j=some ij->∀b,ij.has b->b<w.heap.size:=fun j hj _ ij hij b hb=>(hr.heap.apart j hj ij hij b hb).2;have hrun:(execOp a.eval o).run P w=.ok (.value (.pointer (some ⟨w.heap.size,0,none⟩))) (w.alloc o'):=by
  have hr1:(Instr.range t (.map (some bi.blk))).run P w=.ok (.pointer (some ⟨w.heap.size,0,none⟩)) (w.alloc o'):=by
   unfold Instr.range;simp only[Sem.run_bind,run_underlying hu,Result.andThen_ok,UG hh,Sem.run_pure];rfl
  simp only[execOp,hop,hxe,Sem.run_bind,hr1,Result.andThen_ok];rfl
 have hr2:Rel N σ (β.set k (some i')) ⟨sl,H2⟩ a (w.alloc o'):=by
  refine⟨hr.size,hr.defers,fun j=>?_,⟨fun b c hb=>?_,fun j c hj=>?_,hsub.nodup hr.heap.nodup,fun j hj ij hij b hb=>?_,fun j hj j' hj' i1 i2 g1 g2 b hb1 hb2=>?_⟩⟩
  ·show RepL _ _ (getS sl j) _;rw[hsl];exact((hr.slots j).kill k).set _ (LV.kill_free k _)
  ·obtain⟨e,fr,h3⟩:=hr.heap.mem b c hb;exact⟨e,fr,(hold b (q8h.1 h3).1).trans h3⟩
  ·obtain⟨_,⟨rfl,rfl⟩|⟨hjk,c0,hm,rfl⟩⟩:=hmem j c hj
   ·have hall:es.filter (fun x=> !(#[]:Array Nat).contains x.born)=es:=Array.filter_eq_self.2 fun x _=>by simp
    refine⟨i',bi.blk,es,clock,clock,#[],hsetk,rfl,heap_alloc_new w o',(hold _ hlt).trans hh,hbo.1,hbo.2,q8z _,by rw[hall];simpa using h1,fun p x hp=>?_,fun x hx=>by cases hx⟩;rw[hall];obtain⟨e,q1,q2,q3⟩:=h2 p (YW x.1,x.2) (by rw[q7l,hp];rfl);exact⟨e,q1,q2,q3⟩
   ·have hjl:j∈s.H.map (·.1):=q7s.2 ⟨_,hm,rfl⟩;exact(hr.heap.chunks j c0 hm).mapL (f:=LV.kill k) (Mem.le_refl σ) (fun l v hl=>(hl.kill k).set _ (LV.kill_free k _)) (hset j hjk) fun ij hij b hb=>hold b (hold2 j hjl hjk ij hij b hb)
  ·rw [hsize];by_cases hjk:j=k
   ·subst hjk;rw[hsetk]at hij;cases hij;rcases hhas b hb with rfl|rfl
    ·refine⟨?_,by omega⟩;cases hq:σ w.heap.size with
     |none=>rfl
     | some c=>
       obtain⟨e,fr,h3⟩:=hr.heap.mem _ c hq;have:=(q8h.1 h3).1;omega
    ·have:=hr.heap.apart _ hk1 bi hbi bi.blk bi.has_blk;exact⟨this.1,by omega⟩
   ·rw[hset j hjk]at hij;have:=hr.heap.apart j (hlab j hj) ij hij b hb;exact⟨this.1,by omega⟩
  ·have key:∀j∈s.H.map (·.1),j≠k->∀ij,β j=some ij->∀b,ij.has b->i'.has b->False:=fun j hj hjk ij hij b hb hb'=>by
    rcases hhas b hb' with rfl|rfl
    ·have:=hold2 j hj hjk ij hij _ hb;omega
    ·exact hjk (hr.heap.inj j hj k hk1 ij bi hij hbi _ hb bi.has_blk)
   by_cases e1:j=k<;>by_cases e2:j'=k
   ·rw[e1,e2]
   ·subst e1;rw[hsetk]at g1;cases g1;rw[hset j' e2]at g2;exact(key j' (hlab j' hj') e2 i2 g2 b hb2 hb1).elim
   ·subst e2;rw[hsetk]at g2;cases g2;rw[hset j e1]at g1;exact(key j (hlab j hj) e1 i1 g1 b hb1 hb2).elim
   ·rw[hset j e1]at g1;rw[hset j' e2]at g2;exact hr.heap.inj j (hlab j hj) j' (hlab j' hj') i1 i2 g1 g2 b hb1 hb2
 have hlater:Later σ β s.H w σ (β.set k (some i')) H2 (w.alloc o'):=by
  refine⟨Mem.le_refl σ,⟨rfl,rfl,rfl,q8z _,by omega,fun b hb _=>hold b hb⟩,fun b g0 g1=>absurd g0 g1,fun b ⟨j,hj,ij,hij,hb⟩=>?_,fun j g0 g1=>hset j (P9 hpin j g0 g1)⟩;by_cases hjk:j=k
  ·subst hjk;rw[hsetk]at hij;cases hij;rcases hhas b hb with rfl|rfl
   ·exact .inr (q8z _)
   ·exact .inl ⟨_,hk1,bi,hbi,bi.has_blk⟩
  ·rw[hset j hjk]at hij;exact .inl ⟨j,hlab j hj,ij,hij,hb⟩
 obtain⟨sl',hK,hr''⟩:=hr2.setD (v:=.ext k .iter) (u:=.pointer (some ⟨w.heap.size,0,none⟩)) (.ext k .iter i' _ hsetk rfl) h;exact XE hrun ⟨σ,_,_,hK,hr'',hlater⟩
theorem Xm:∀(L:List MapEntry)(j:Nat)(h:j<L.length),(L.map (·.born)).Nodup->L.filter (fun x=>decide (x.born≠L[j].born))=L.eraseIdx j
 | x::r,0,_,hn=>by
   rw[q8f,q9v]at hn;rw[x0t (by simp)];show r.filter _=r;rw[List.filter_eq_self];intro y hy;have:y.born≠x.born:=fun he=>hn.1 (he▸x1h hy);simpa using this
 | x::r,j+1,h,hn=>by
   rw[q8f,q9v]at hn;have hj:j<r.length:=by simpa using h
   have hne:x.born≠r[j].born:=fun he=>hn.1 (he▸x1h (q7i hj));rw[x0n (by simpa using hne)];show x::r.filter _=x::r.eraseIdx j;congr 1;exact Xm r j hj hn.2
theorem SU(es:Array MapEntry)(seen:Array Nat)(b:Nat):(es.filter fun x=> !(seen.push b).contains x.born).toList=(es.filter fun x=> !seen.contains x.born).toList.filter fun x=>decide (x.born≠b):=by
 rw[x3i,x3i,List.filter_filter];apply List.filter_congr;intro x _;simp only[Array.contains_push,Bool.not_or];rw[Bool.and_comm];congr 1;by_cases hb:x.born=b<;>simp[hb]
theorem OpK.next{s:St}{o:Oper}{x:Operand}(hop:o.op=.next x false)(hx:QL s.sl x=.ext k .iter){l:List (List UInt8×AV)}{cur:Option (List UInt8×AV)}(hg:getH s.H k=some (.ext (.iter l cur)))(hlen:∀y∈l,y.1.length<=maxLen)(h0:l=[]->setD N s.sl o.dst (.p (.tup [.ff])) fun sl=>K ⟨sl,s.H⟩)(h1:∀(j:Nat)(hj:j<l.length),Yf s.H k (.ext (.iter (l.eraseIdx j) (some l[j]))) fun H=>setD N s.sl o.dst (.p (.tup [.tt,.str l[j].1,l[j].2])) fun sl=>K ⟨sl,H⟩):OpK P N s o K:=by
 refine⟨fun σ β a w hr Q=>?_⟩;have hx':=QZ hr.slots x;rw[hx]at hx';generalize hxe:a.eval x=xv at hx';cases hx' with
 |ext _ _ bi _ hbi hd'=>
 obtain rfl:xv=.pointer (some ⟨bi.blk,0,none⟩):=hd';obtain⟨bi',m,es,clock,since,seen,hbi',hsub,hh,hm,hnd,hborn,hsc,hsz,hent,hcur⟩:=hr.heap.chunks k _ (QF hg);rw[hbi]at hbi';cases hbi';have hk1:=QN hg;have hne:bi.blk≠m:=fun he=>by rw[<-he,hh]at hm;cases hm
 rcases run_next_at (P:=P) w o.type bi.blk m since clock seen es clock hh hm hborn hsc with⟨hz,hrun⟩|⟨e,he,w1,hw1,hrun⟩
 ·have hl0:l=[]:=x0v (by rw[<-hsz];exact hz);have hrun':(execOp a.eval o).run P w=.ok (.value (.tuple #[.bool false])) w:=by
   simp only[execOp,hop,hxe,Sem.run_bind,hrun,Result.andThen_ok];rfl
  obtain⟨sl,hK,hr'⟩:=hr.setD (v:=.p (.tup [.ff])) (u:=.tuple #[.bool false]) (.p (.tup [.ff] #[.bool false] (fun _=>.bool false) rfl (fun j c hj=>by
   match j,hj with
   |0,hj=>rfl
   |j+1,hj=>simp at hj) fun j c hj=>by
   match j,hj with
   |0,hj=>cases hj;exact .ff
   |j+1,hj=>simp at hj)) (h0 hl0)
  exact XE hrun' ⟨σ,β,_,hK,hr',Later.refl _ _ _ _⟩
 ·have hleft:leftOf es seen=es.filter fun x=> !seen.contains x.born:=rfl;rw[hleft]at he;obtain⟨j,hjlt,hje⟩:=x0w.1 he;have hjl:j<l.length:=by rw[<-hsz,<-x0z];exact hjlt
  obtain⟨e2,q1,q2,q3⟩:=hent j _ (q7g hjl);have he2:e2=e:=by
   have q1':(es.filter fun x=> !seen.contains x.born).toList[j]?=some e2:=by rw[x0e];exact q1
   rw[q7g hjlt,hje]at q1';exact(x0m q1').symm
  subst he2;have hmemes:e2∈es.toList:=by
   rw[x3i]at he;exact(q8t.1 he).1
  have h:=h1 j hjl;obtain⟨H',h,g3,g4,g5⟩:=YB hr.heap.nodup h;have hw1h:w1.heap=w.heap:=by rcases hw1 with rfl|rfl<;>rfl
  let w':World:=ChangeMaps.setBlock w1 bi.blk (.mapIter (some m) since (seen.push e2.born) clock);have hw'h:w'.heap=w.heap.setIfInBounds bi.blk (.mapIter (some m) since (seen.push e2.born) clock):=by
   show w1.heap.setIfInBounds _ _=_;rw[hw1h]
  have hot:∀b,b≠bi.blk->w'.heap[b]?=w.heap[b]?:=fun b hb=>by rw[hw'h];exact x1v (x1k hb)
  have hlt:=(hr.heap.apart k hk1 bi hbi bi.blk bi.has_blk).2;have hrun':(execOp a.eval o).run P w=.ok (.value (.tuple #[.bool true,e2.key,e2.val])) w':=by
   simp only[execOp,hop,hxe,Sem.run_bind,hrun,Result.andThen_ok];rfl
  have hborns:((es.filter fun x=> !seen.contains x.born).toList.map (·.born)).Nodup:=by
   rw[x3i];exact(List.filter_sublist.map _).nodup hnd
  have hleft':(es.filter fun x=> !(seen.push e2.born).contains x.born).toList=(es.filter fun x=> !seen.contains x.born).toList.eraseIdx j:=by
   rw[SU];have:=Xm _ j hjlt hborns;rw[hje]at this;exact this
  have hheap:HRel σ β H' w':=by
   refine⟨fun b c hb=>?_,fun j' c hj'=>?_,by rw[g3];exact hr.heap.nodup,fun j' hj' i' hi' b hb=>?_,fun j' hj' j'' hj''=>hr.heap.inj j' (g3▸hj') j'' (g3▸hj'')⟩
   ·obtain⟨e',fr,h6⟩:=hr.heap.mem b c hb;exact⟨e',fr,(hot b fun he=>by rw[he,hh]at h6;cases h6).trans h6⟩
   ·by_cases hjk:j'=k
    ·subst hjk;rw[g5 c hj'];refine⟨bi,m,es,clock,since,seen.push e2.born,hbi,hsub,by rw[hw'h];simp[hlt],(hot m (x1k hne)).trans hm,hnd,hborn,hsc,?_,fun p y hp=>?_,fun y hy=>?_⟩
     ·rw[<-x0z,hleft',List.length_eraseIdx,List.length_eraseIdx,x0z,hsz]
     ·have hp':(l.eraseIdx j)[p]?=some y:=hp;rw[List.getElem?_eraseIdx]at hp';have key:∀p',l[p']?=some y->∃e:MapEntry,(es.filter fun x=> !seen.contains x.born).toList[p']?=some e/\e.key=.string ⟨y.1.toArray⟩/\Rep σ y.2 e.val:=fun p' hp'=>by
       obtain⟨e,r1,r2,r3⟩:=hent p' y hp';exact⟨e,by rw[x0e];exact r1,r2,r3⟩
      have hget:(es.filter fun x=> !(seen.push e2.born).contains x.born)[p]?=((es.filter fun x=> !seen.contains x.born).toList.eraseIdx j)[p]?:=by
       rw[<-hleft',x0e]
      rw[hget,List.getElem?_eraseIdx];split at hp'
      ·rename_i hlt2;rw[if_pos hlt2];exact key p hp'
      ·rename_i hlt2;rw[if_neg hlt2];exact key (p+1) hp'
     ·cases hy;exact⟨e2,hmemes,seen,rfl,q2,q3⟩
    ·have hm':=g4 j' c hj' hjk;exact(hr.heap.chunks j' c hm').mono (Mem.le_refl σ) fun i' hi' b hb=>hot b fun he=>hjk (hr.heap.inj j' (q7s.2 ⟨_,hm',rfl⟩) k hk1 i' bi hi' hbi b hb (.inl he.symm))
   ·have hsz':w'.heap.size=w.heap.size:=by rw[hw'h];simp
    rw[hsz'];exact hr.heap.apart j' (g3▸hj') i' hi' b hb
  have hkl:l[j].1.length<=maxLen:=hlen _ (q7i hjl);have hr1:Rel N σ β ⟨s.sl,H'⟩ a w':=⟨hr.size,hr.defers,hr.slots,hheap⟩;obtain⟨sl,hK,hr'⟩:=hr1.setD (v:=.p (.tup [.tt,.str l[j].1,l[j].2])) (u:=.tuple #[.bool true,e2.key,e2.val]) (.p (.tup [.tt,.str l[j].1,l[j].2] #[.bool true,e2.key,e2.val] (fun i=>(#[.bool true,e2.key,e2.val]:Array Value).getD i undef) rfl (fun i c hi=>by
   match i,hi with
   |0,hi=>rfl
   |1,hi=>rfl
   |2,hi=>rfl
   |i+3,hi=>simp at hi) fun i c hi=>by
   match i,hi with
   |0,hi=>cases hi;exact .tt
   |1,hi=>cases hi;show Rep σ _ e2.key;rw[q2];exact .str _ hkl
   |2,hi=>cases hi;exact q3
   |i+3,hi=>simp at hi)) h
  refine XE hrun' ⟨σ,β,_,hK,hr',Mem.le_refl σ,⟨?_,?_,?_,?_,by rw[hw'h];simp,fun b _ hn=>hot b fun he=>hn ⟨k,hk1,bi,hbi,.inl he.symm⟩⟩,fun b g0 g1=>absurd g0 g1,fun b ⟨j',hj',r⟩=>.inl ⟨j',g3▸hj',r⟩,fun _ _ _=>rfl⟩
  ·rcases hw1 with rfl|rfl<;>rfl
  ·rcases hw1 with rfl|rfl<;>rfl
  ·rcases hw1 with rfl|rfl<;>rfl
  ·rcases hw1 with rfl|rfl
   ·exact q8z _
   ·exact Nat.le_succ _
theorem OpK.entry{s:St}{o:Oper}{x:Operand}(hop:o.op=.entry x)(hx:QL s.sl x=.ext k .iter){l:List (List UInt8×AV)}{y:List UInt8×AV}(hg:getH s.H k=some (.ext (.iter l (some y))))(hlen:y.1.length<=maxLen)(h:setD N s.sl o.dst (.p (.tup [.str y.1,y.2])) fun sl=>K ⟨sl,s.H⟩):OpK P N s o K:=by
 refine⟨fun σ β a w hr Q=>?_⟩;have hx':=QZ hr.slots x;rw[hx]at hx';generalize hxe:a.eval x=xv at hx';cases hx' with
 |ext _ _ bi _ hbi hd'=>
 obtain rfl:xv=.pointer (some ⟨bi.blk,0,none⟩):=hd';obtain⟨bi',m,es,clock,since,seen,hbi',hsub,hh,hm,hnd,hborn,hsc,hsz,hent,hcur⟩:=hr.heap.chunks k _ (QF hg);rw[hbi]at hbi';cases hbi';obtain⟨e,he,seen0,rfl,q2,q3⟩:=hcur y rfl;have hrun:=run_entry_at (P:=P) w bi.blk m since seen0 es clock e hh hm he hnd;have hrun':(execOp a.eval o).run P w=.ok (.value (.tuple #[e.key,e.val])) w:=by
  simp only[execOp,hop,hxe,Sem.run_bind,hrun,Result.andThen_ok];rfl
 obtain⟨sl,hK,hr'⟩:=hr.setD (v:=.p (.tup [.str y.1,y.2])) (u:=.tuple #[e.key,e.val]) (.p (.tup [.str y.1,y.2] #[e.key,e.val] (fun i=>(#[e.key,e.val]:Array Value).getD i undef) rfl (fun i c hi=>by
  match i,hi with
  |0,hi=>rfl
  |1,hi=>rfl
  |i+2,hi=>simp at hi) fun i c hi=>by
  match i,hi with
  |0,hi=>cases hi;show Rep σ _ e.key;rw[q2];exact .str _ hlen
  |1,hi=>cases hi;exact q3
  |i+2,hi=>simp at hi)) h
 exact XE hrun' ⟨σ,β,_,hK,hr',Later.refl _ _ _ _⟩
end
def atN(G:Nat->List Str)(n:Nat)(nm:Str):List Nat:=((prsG G n).filter fun x=>decide (x.1=nm)).map Prod.snd
def Ix(G:Nat->List Str)(n:Nat)(nm:Str):Str×AV:=(nm,.sl ((atN G n nm).map fun a=>.int .i64 (a:Nat)))
noncomputable def outN(G T:Nat->List Str)(plc:Nat->Int)(n:Nat)(steps:List (Int×Int))(nm:Str):List Fl:=(List.range n).flatMap fun c=>((comC n steps (atN G n nm)).getD c []).flatMap fun f=>if inS (T c) nm=true then [⟨plc ((atN G n nm).getD f.toNat 0),plc c,nm⟩]else []
structure FlB(b:Book)(i:Nat)(w:Way)(n:Nat)(L:List Step)(steps:List (Int×Int))(G T:Nat->List Str)(plc:Nat->Int):Prop where
 hW:b.ways[i]?=some w
 hn:n<=5000
 hwn:w.n=n
 dat:SpecP prog 95 [.ip w.cells] (fun r=>r=eSteps L)
 prs:SpecP prog 94 [.ip w.cells,eSteps L] (fun r=>r=.sl (avP steps))
 giv:SpecH prog 96 [.p (.ip b.cells),.p (.int .i64 i)] [] (fun r H=>r=.tup [.ext 0 .map,.p (.int .i64 (prsG G n).length)]/\H=[(0,.ext (.mapr 3 1 (mapG (prsG G n)) none))])
 tak:∀c,c<n->SpecP prog 97 [.ip b.cells,.int .i64 i,.int .i64 c] (fun r=>r=eStrs (T c))
 com:∀at_:List Nat,(∀a∈at_,a<n)->at_.length<=5000->SpecP prog 98 [.ip b.cells,.int .i64 i,.sl (avP steps),.sl (at_.map fun a=>.int .i64 (a:Nat))] (fun r=>r=eMat (comC n steps at_))
 place:∀c,c<n->SpecP prog 64 [.ip w.cells,.int .i64 c] (fun r=>r=.int .i64 (plc c))
 srt:∀c,(T c).Pairwise ltT/\(T c).length<=1000000
 ok:∀s∈((mapG (prsG G n)).map Prod.fst).flatMap (outN G T plc n steps),okFl s
 cnt:(((mapG (prsG G n)).map Prod.fst).flatMap (outN G T plc n steps)).length<=1000000000
 atl:∀nm,(atN G n nm).length<=5000
 key:∀y:Str,y∈(mapG (prsG G n)).map Prod.fst->y.length<=maxLen
theorem OpK.le{s s':St}{o:Oper}(hle:Le N s s')(h:OpK P N s' o K):OpK P N s o K:=⟨fun σ β a w hr Q=>by
 obtain⟨σ1,β1,hr1,hl1⟩:=hle σ β a w hr;exact Oper.wp_mono (fun a' w' ⟨σ',β',s2,hK,hr',hl⟩=>⟨σ',β',s2,hK,hr',hl1.trans hl⟩) (h.1 σ1 β1 a w hr1 Q)⟩
def tkA(T:Nat->List Str)(n c:Nat):List AV:=((List.range c).map fun q=>eStrs (T q))++List.replicate (n-c) .nils
theorem EI(T:Nat->List Str)(n:Nat):tkA T n 0=List.replicate n .nils:=by unfold tkA;simp
theorem q2h(T:Nat->List Str){n c:Nat}(h:c<=n):(tkA T n c).length=n:=by unfold tkA;simp;omega
theorem q2f(T:Nat->List Str){n c:Nat}(h:c<n):(tkA T n c).set c (eStrs (T c))=tkA T n (c+1):=by
 unfold tkA;rw[x1d _ _ (by simp),q7f,x0h,x2r,show n-c=(n-(c+1))+1 by omega,x2f,x1n,x1e,q7o,q8d];rfl
theorem q2g(T:Nat->List Str){n c:Nat}(h:c<n):(tkA T n c)[c]?=some .nils:=by
 unfold tkA;rw[q9w (by simp),q7f,x0h,x2r,q8l];simp;omega
def Lk(T:Nat->List Str)(plc:Nat->Int)(n:Nat)(at_:List Nat)(C:List (List Int))(nm:Str):List Fl:=(List.range n).flatMap fun c=>(C.getD c []).flatMap fun f=>if inS (T c) nm=true then [⟨plc (at_.getD f.toNat 0),plc c,nm⟩]else []
theorem MC(T:Nat->List Str)(plc:Nat->Int)(q:Nat)(at_:List Nat)(C:List (List Int))(nm:Str):Lk T plc (q+1) at_ C nm=Lk T plc q at_ C nm++(C.getD q []).flatMap fun f=>if inS (T q) nm=true then [⟨plc (at_.getD f.toNat 0),plc q,nm⟩]else []:=by
 unfold Lk;rw[x1e,x1g];simp
theorem Oo(T:Nat->List Str)(plc:Nat->Int){q c:Nat}(h:q<=c)(at_:List Nat)(C:List (List Int))(nm:Str):(Lk T plc q at_ C nm).length<=(Lk T plc c at_ C nm).length:=by
 induction c with
 | zero=>
   obtain rfl:q=0:=by omega
   exact q8z _
 | succ c ih=>
   rcases q7e c q with h1|h1
   ·obtain rfl:q=c+1:=by omega
    exact q8z _
   ·rw[MC,q7b];have:=ih h1;omega
theorem Yo{G:Nat->List Str}{n:Nat}{nm:Str}{a:Nat}(h:a∈atN G n nm):a<n:=by
 unfold atN prsG at h;obtain⟨x,hx,rfl⟩:=q7s.1 h;obtain⟨b,hb,hx⟩:=q8r.1 (q8t.1 hx).1;obtain⟨s,_,rfl⟩:=q7s.1 hx;exact q9q.1 hb
theorem LH{k:Str}{v:List AV}:(BG l k v).map Prod.fst=if k∈l.map Prod.fst then l.map Prod.fst else l.map Prod.fst++[k]:=by
 induction l with
 |nil=>rw[BG];rfl
 | cons x r ih=>
   rw[BG];by_cases h:k=x.1
   ·rw[if_pos h,q8f,q8f,if_pos (by rw[h];exact q7d)]
   ·rw[if_neg h,q8f,q8f,ih];by_cases h2:k∈r.map Prod.fst
    ·rw[if_pos h2,if_pos (q7n _ h2)]
    ·rw[if_neg h2,if_neg (by rw[q7r];rintro(h3|h3);exact h h3;exact h2 h3)];rfl
theorem SF(l:List (Str×Nat)):((mapG l).map Prod.fst).Nodup:=by
 have key:∀l:List (Str×Nat),((mapG l.reverse).map Prod.fst).Nodup:=fun l=>by
  induction l with
  |nil=>exact x4x
  | cons x r ih=>
    rw[x3p,KL];unfold Hw;rw[LH];split
    ·exact ih
    ·rename_i h;rw[x0x];exact⟨ih,by simp,fun a ha b hb e=>h (by rw[<-q7m.1 hb,<-e];exact ha)⟩
 have:=key l.reverse
 rwa[x2o]at this
theorem Eg(hn:(l.map Prod.fst).Nodup){y:Str×List AV}(hy:y∈l):Fq l y.1=y.2:=by
 induction l with
 |nil=>cases hy
 | cons x r ih=>
   rw[q8f,q9v]at hn;unfold Fq Pv;rw[x2s];rcases q7r.1 hy with rfl|hy
   ·simp
   ·have:¬y.1=x.1:=fun e=>hn.1 (by rw[<-e];exact x1h hy);rw[x0y this];exact ih hn.2 hy
theorem q1w(G:Nat->List Str)(n:Nat):(mapG (prsG G n)).map (fun y=>(y.1,AV.sl y.2))=((mapG (prsG G n)).map Prod.fst).map (Ix G n):=by
 rw[x1o];refine List.map_congr_left fun y hy=>?_;have:=Eg (SF (prsG G n)) hy;rw[Lw]at this;show(y.1,AV.sl y.2)=(y.1,AV.sl ((atN G n y.1).map fun a=>.int .i64 (a:Nat)));rw[<-this];unfold atN;rw[x1o];rfl
theorem J9{α:Type}:∀(l:List α)(k:Nat)(h:k<l.length),(l[k]::l.eraseIdx k).Perm l
 |x::r,0,_=>by rw[List.eraseIdx_cons_zero];exact .refl _
 | x::r,k+1,h=>by
   rw[List.eraseIdx_cons_succ,List.getElem_cons_succ];exact(List.Perm.swap _ _ _).trans (.cons _ (J9 r k (by simpa using h)))
theorem Dv{α β:Type}(f:α->β):∀(l:List α)(k:Nat),(l.map f).eraseIdx k=(l.eraseIdx k).map f
 |[],_=>rfl
 |_::_,0=>rfl
 |x::r,k+1=>by rw[q8f,List.eraseIdx_cons_succ,List.eraseIdx_cons_succ,q8f,Dv f r k]
theorem Vw(b:Book)(i:Nat)(w:Way)(n:Nat)(L:List Step)(steps:List (Int×Int))(G T:Nat->List Str)(plc:Nat->Int)(F:FlB b i w n L steps G T plc):SpecP prog 50 [.ip b.cells,.int .i64 i] (fun r=>r=.sl ((VJ (((mapG (prsG G n)).map Prod.fst).flatMap (outN G T plc n steps))).map LN)):=by
 refine sB LS func50 rfl call50 ?_;conv=>whnf
 obtain⟨hW,hn,hwn,hD,hP,hGv,hT,hC,hPl,hSr,hOk,hCn,hAt,hKy⟩:=F;have hky:∀y∈(mapG (prsG G n)).map (fun y=>(y.1,AV.sl y.2)),y.1.length<=maxLen:=fun y hy=>by
  obtain⟨z,hz,rfl⟩:=q7s.1 hy;exact hKy z.1 (x1h hz)
 have hg2:(b.ways.map fun w=>AV.ip w.cells)[i]?=some (.ip w.cells):=by rw[q7l,hW];rfl
 repeat' (first|((first|(refine iM fun _=>?_)|refine dA ?_|refine q7p rfl ?_|refine aD ?_|refine aR ?_|refine bP ?_|(refine iA fun _=>?_)|refine IdxK.xs (by omega) ?_|refine QX (by omega) ?_|(refine ByteK.at (by omega) ?_)|refine wI ?_|(refine IdxK.at (k:=i) rfl hg2 rfl ?_)|refine x2m n (by omega) (by show 24*_<=140737488355328;omega) (by unfold maxLen;omega) ?_|refine cP hD ?_|refine cP hP ?_);conv=>whnf)|(apply bD<;>intro _<;>first|omega|conv=>whnf)|(apply bE<;>intro _<;>first|omega|conv=>whnf)|(apply bN<;>intro _<;>conv=>whnf)|(apply bB<;>intro _<;>conv=>whnf)|(refine CallK.heap [] 0 (by repeat' (first|exact q8c|refine q8w ?_ ?_|exact q8k _|exact q8m Sub.nils|exact q8m (Sub.tt rfl)|exact q8m (Sub.ff rfl)|exact q8m (Sub.int (by omega)))) q8a hGv rfl rfl ?_;rintro l' H' ⟨rfl,rfl⟩;conv=>whnf)|(refine q7p ?_ ?_<;>conv=>whnf))
 refine LoopK.inv QK (fun c:Nat=>⟨[(0,.p (.ip b.cells)),(1,.p (.int .i64 i)),(5,.p (.ip w.cells)),(6,.p .nils),(7,.p (.sl (avP steps))),(8,.ext 0 .map),(10,.hd 1 0 n),(41,.p (.int .i64 n)),(42,.p (.int .i64 c))],[(1,.own 22 1 (tkA T n c)),(0,.ext (.mapr 3 1 (mapG (prsG G n)) none))]⟩) (fun c=>c<=n) (fun c=>n-c) 0 (Le.of_eq (by rw[EI];rfl)) (q7c _) ?_;intro c hc;have htl:=q2h T hc;rcases q7e c n with h1|h1
 ·have hTc:=hT c h1;have hst:=q2f T h1;have eT:=q2g T h1;generalize tkA T n c=tk at*
  conv=>whnf
  repeat' (first|((first|(refine iM fun _=>?_)|refine dA ?_|refine q7p rfl ?_|refine aD ?_|refine aR ?_|refine bP ?_|(refine iA fun _=>?_)|refine IdxK.xs (by omega) ?_|refine QX (by omega) ?_|(refine ByteK.at (by omega) ?_)|refine wI ?_|refine q9x c rfl (by omega) ?_|refine cP hTc ?_|refine x0r c 0 .nils (eStrs (T c)) (by omega) eT (q8z 1) rfl ?_);conv=>whnf)|(apply bD<;>intro _<;>first|omega|conv=>whnf)|(apply bE<;>intro _<;>first|omega|conv=>whnf)|(apply bN<;>intro _<;>conv=>whnf)|(apply bB<;>intro _<;>conv=>whnf))
  all_goals first
   |exact⟨c+1,h1,by omega,Le.of_eq (by rw[<-hst];rfl)⟩
 ·obtain rfl:c=n:=by omega
  conv=>whnf
  repeat' (first|((first|(refine iM fun _=>?_)|refine dA ?_|refine q7p rfl ?_|refine aD ?_|refine aR ?_|refine bP ?_|(refine iA fun _=>?_)|refine IdxK.xs (by omega) ?_|refine QX (by omega) ?_|(refine ByteK.at (by omega) ?_)|refine wI ?_|refine OpK.le (TX 0 rfl rfl rfl rfl rfl) (OpK.range QK rfl rfl rfl rfl rfl rfl ?_));conv=>whnf)|(apply bD<;>intro _<;>first|omega|conv=>whnf)|(apply bE<;>intro _<;>first|omega|conv=>whnf)|(apply bN<;>intro _<;>conv=>whnf)|(apply bB<;>intro _<;>conv=>whnf))
  have htk:tkA T c c=(List.range c).map fun q=>eStrs (T q):=by unfold tkA;simp
  rw[q1w];generalize hks:(mapG (prsG G c)).map Prod.fst=keys at*
  refine LoopK.inv QK (fun x:List Str×Option Str×List Fl=>⟨[(0,.p (.ip b.cells)),(1,.p (.int .i64 i)),(5,.p (.ip w.cells)),(6,.hd 2 0 x.2.2.length),(7,.p (.sl (avP steps))),(10,.p (.sl ((List.range c).map fun q=>eStrs (T q)))),(54,.ext 0 .iter)],[(0,.ext (.iter (x.1.map (Ix G c)) (x.2.1.map (Ix G c)))),(2,.own 99 3 (x.2.2.map LN))]⟩) (fun x=>∃vis,(vis++x.1).Perm keys/\x.2.2=vis.flatMap (outN G T plc c steps)) (fun x=>x.1.length) (keys,none,[])
   (by
     obtain⟨s',rfl,hle⟩:=Le.row (N:=Tryz.f50.ntmps) (s:=⟨[(0,.p (.ip b.cells)),(1,.p (.int .i64 i)),(5,.p (.ip w.cells)),(6,.p .nils),(7,.p (.sl (avP steps))),(10,.hd 1 0 ((List.range c).map fun q=>eStrs (T q)).length),(54,.ext 0 .iter)],[(1,.own 22 1 ((List.range c).map fun q=>eStrs (T q))),(0,.ext (.iter (keys.map (Ix G c)) none))]⟩) (k:=1) (e:=22) (sz:=1) (es:=(List.range c).map fun q=>eStrs (T q)) (zs:=[10]) rfl
      (K:=fun s=>s=⟨[(0,.p (.ip b.cells)),(1,.p (.int .i64 i)),(5,.p (.ip w.cells)),(6,.p .nils),(7,.p (.sl (avP steps))),(10,.p (.sl ((List.range c).map fun q=>eStrs (T q)))),(54,.ext 0 .iter)],[(0,.ext (.iter (keys.map (Ix G c)) none))]⟩) ⟨rfl,rfl⟩
     refine Le.trans (Le.of_eq (by rw[htk];simp)) (hle.trans ?_);exact Le.mk [(2,.own 99 3 [])] (by simp[Chunk.new0];rfl) (by simp) (by simp) (.r (.r (.r (.cons (.nil q7d) (.r (.r (.r .nil))))))) (.cons rfl (.refl _) (.new q7d .nil))) ⟨[],by simp,rfl⟩ ?_
  rintro⟨rest,cur,acc⟩ ⟨vis,hv1,hv2⟩;simp only at hv1 hv2⊢;conv=>whnf
  repeat' (first|((first|(refine iM fun _=>?_)|refine dA ?_|refine q7p rfl ?_|refine aD ?_|refine aR ?_|refine bP ?_|(refine iA fun _=>?_)|refine IdxK.xs (by omega) ?_|refine QX (by omega) ?_|(refine ByteK.at (by omega) ?_)|refine wI ?_|refine OpK.next rfl rfl rfl (fun y hy=>by obtain⟨z,hz,rfl⟩:=q7s.1 hy;exact hKy z (hv1.subset (q9r _ hz))) (fun hnil=>?_) (fun jj hjj=>?_));conv=>whnf)|(apply bD<;>intro _<;>first|omega|conv=>whnf)|(apply bE<;>intro _<;>first|omega|conv=>whnf)|(apply bN<;>intro _<;>conv=>whnf)|(apply bB<;>intro _<;>conv=>whnf))
  ·obtain rfl:rest=[]:=x3z.1 hnil;rw[q9h]at hv1;have hpa:acc.Perm (keys.flatMap (outN G T plc c steps)):=by rw[hv2];exact hv1.flatMap_right _
   have hSo:=Ud acc (fun s hs=>hOk s (hpa.subset hs)) (by have:=hpa.length_eq;omega);have hsl:=P2 hpa fun s hs=>hOk s (hpa.subset hs);refine CallK.heap [(1000,2)] 0 (by repeat' (first|exact q8c|refine q8w ?_ ?_|exact q8k _|exact q8m Sub.nils|exact q8m (Sub.tt rfl)|exact q8m (Sub.ff rfl)|exact q8m (Sub.int (by omega)))) (by refine q8x (j:=2) rfl rfl ?_ ?_;exact CSub.refl _;exact q8a) hSo rfl rfl ?_;rintro l' H' ⟨rfl,rfl⟩;rw[hsl];conv=>whnf
   repeat' (first|((first|(refine iM fun _=>?_)|refine dA ?_|refine q7p rfl ?_|refine aD ?_|refine aR ?_|refine bP ?_|(refine iA fun _=>?_)|refine IdxK.xs (by omega) ?_|refine QX (by omega) ?_|(refine ByteK.at (by omega) ?_)|refine wI ?_);conv=>whnf)|(apply bD<;>intro _<;>first|omega|conv=>whnf)|(apply bE<;>intro _<;>first|omega|conv=>whnf)|(apply bN<;>intro _<;>conv=>whnf)|(apply bB<;>intro _<;>conv=>whnf))
   all_goals first
    |exact⟨_,.hd rfl (by rw[<-hsl,q7f,Kz]),rfl⟩
  ·have hjr:jj<rest.length:=by simpa using hjj
   rw[Dv,x1i];have hp2:(vis++[rest[jj]]++rest.eraseIdx jj).Perm keys:=by
    refine List.Perm.trans ?_ hv1;rw[q8d];exact List.Perm.append_left _ (J9 rest jj hjr)
   have hle2:(rest.eraseIdx jj).length<rest.length:=by rw[List.length_eraseIdx,if_pos hjr];omega
   generalize rest[jj]=nm at*
   generalize rest.eraseIdx jj=rest2 at*
   have hnk:=hKy nm (hp2.subset (by simp));have hCo:=hC (atN G c nm) (fun a ha=>Yo ha) (hAt nm);have hcl:=Gv c steps (atN G c nm);have hcr:=fun r hr=>NA (n:=c) (steps:=steps) (at_:=atN G c nm) (r:=r) hr;have hal:=hAt nm;have hon:outN G T plc c steps nm=Lk T plc c (atN G c nm) (comC c steps (atN G c nm)) nm:=rfl;have htot:(vis.flatMap (outN G T plc c steps)).length+(outN G T plc c steps nm).length<=1000000000:=by
    have h5:=(hp2.flatMap_right (outN G T plc c steps)).length_eq;simp only[x1g,q9m,List.flatMap_nil,q9h,q7b]at h5;omega
   unfold Ix;conv=>whnf
   repeat' (first|((first|(refine iM fun _=>?_)|refine dA ?_|refine q7p rfl ?_|refine aD ?_|refine aR ?_|refine bP ?_|(refine iA fun _=>?_)|refine IdxK.xs (by omega) ?_|refine QX (by omega) ?_|(refine ByteK.at (by omega) ?_)|refine wI ?_|refine OpK.entry rfl rfl rfl hnk ?_|refine cP hCo ?_);conv=>whnf)|(apply bD<;>intro _<;>first|omega|conv=>whnf)|(apply bE<;>intro _<;>first|omega|conv=>whnf)|(apply bN<;>intro _<;>conv=>whnf)|(apply bB<;>intro _<;>conv=>whnf))
   rw[hon]at htot;rw[<-hv2]at htot;have hcl3:outN G T plc c steps nm=Lk T plc c (atN G c nm) (comC c steps (atN G c nm)) nm:=hon;obtain⟨ats,hats⟩ : ∃ats,ats=atN G c nm:=⟨_,rfl⟩;obtain⟨C,hCC⟩ : ∃C,C=comC c steps ats:=⟨_,rfl⟩;have hatl:∀a∈ats,a<c:=fun a ha=>Yo (hats▸ha);rw[<-hats]at hcl3 htot hcl hcr hal⊢;rw[<-hCC]at hcl3 htot hcl hcr⊢;have hCm:((avI C).map AV.sl).length=c:=by unfold avI;rw[q7f,q7f,hcl]
   obtain⟨ch,hch⟩ : ∃ch:XC,ch=.iter (rest2.map (Ix G c)) (some (Ix G c nm)):=⟨_,rfl⟩;refine LoopK.inv QK (fun q:Nat=>⟨[(0,.p (.ip b.cells)),(1,.p (.int .i64 i)),(5,.p (.ip w.cells)),(6,.hd 2 0 (acc++Lk T plc q ats C nm).length),(7,.p (.sl (avP steps))),(10,.p (.sl ((List.range c).map fun q=>eStrs (T q)))),(12,.p (.str nm)),(13,.p (.sl (ats.map fun a=>.int .i64 (a:Nat)))),(54,.ext 0 .iter),(64,.p (eMat C)),(65,.p (.int .i64 ((avI C).map AV.sl).length)),(66,.p (.int .i64 q))],[(0,.ext ch),(2,.own 99 3 ((acc++Lk T plc q ats C nm).map LN))]⟩) (fun q=>q<=c) (fun q=>c-q) 0 (Le.of_eq (by rw[hch,hats];simp[Lk];exact⟨rfl,fun _ _=>rfl,rfl⟩)) (q7c _) ?_;intro q hq;rcases q7e q c with hq1|hq1
   ·have hsu:=MC T plc q ats C nm;have hqC:q<C.length:=by omega
    have hrow:=hcr _ (q7i hqC);have eC:((avI C).map AV.sl)[q]?=some (QA C[q]):=by unfold avI;rw[q7l,q7l,q7g hqC];rfl
    have hge:C.getD q []=C[q]:=by rw[q7h,q7g hqC];rfl
    rw[hge]at hsu;have hle3:=Oo T plc (Nat.succ_le_of_lt hq1) ats C nm;conv=>whnf
    repeat' (first|((first|(refine iM fun _=>?_)|refine dA ?_|refine q7p rfl ?_|refine aD ?_|refine aR ?_|refine bP ?_|(refine iA fun _=>?_)|refine IdxK.xs (by omega) ?_|refine QX (by omega) ?_|(refine ByteK.at (by omega) ?_)|refine wI ?_);conv=>whnf)|(apply bD<;>intro _<;>first|omega|conv=>whnf)|(apply bE<;>intro _<;>first|omega|conv=>whnf)|(apply bN<;>intro _<;>conv=>whnf)|(apply bB<;>intro _<;>conv=>whnf))
    have hav:∀h,(avI C)[q]'h=C[q].map (.int .i64):=fun h=>by
     have h2:=eC;rw[q7l,q7g h]at h2;have h3:AV.sl (avI C)[q]=.sl (C[q].map (.int .i64)):=x0m h2;exact AV.sl.inj h3
    simp only[hav];generalize C[q]=row at*
    have hrm:(row.map (AV.int .i64)).length=row.length:=q7f _;have hHs:=MK (T q) nm (hSr q).1 (by have:=(hSr q).2;omega);have eTk:((List.range c).map fun q=>eStrs (T q))[q]?=some (eStrs (T q)):=by rw[q7l,x1t hq1];rfl
    have hPq:=hPl q hq1;obtain⟨gf,hgf⟩ : ∃gf:Int->List Fl,gf=fun f=>if inS (T q) nm=true then [⟨plc (ats.getD f.toNat 0),plc q,nm⟩]else []:=⟨_,rfl⟩;rw[<-hgf]at hsu;rw[hsu,q7b]at hle3;generalize Lk T plc q ats C nm=o at*
    refine LoopK.inv QK (fun z:Nat=>⟨[(0,.p (.ip b.cells)),(1,.p (.int .i64 i)),(5,.p (.ip w.cells)),(6,.hd 2 0 (acc++o++(row.take z).flatMap gf).length),(7,.p (.sl (avP steps))),(10,.p (.sl ((List.range c).map fun q=>eStrs (T q)))),(12,.p (.str nm)),(13,.p (.sl (ats.map fun a=>.int .i64 (a:Nat)))),(14,.p (.int .i64 q)),(54,.ext 0 .iter),(64,.p (eMat C)),(65,.p (.int .i64 ((avI C).map AV.sl).length)),(66,.p (.int .i64 q)),(71,.p (QA row)),(72,.p (.int .i64 (row.map (AV.int .i64)).length)),(73,.p (.int .i64 z))],[(0,.ext ch),(2,.own 99 3 ((acc++o++(row.take z).flatMap gf).map LN))]⟩) (fun z=>z<=row.length) (fun z=>row.length-z) 0 (Le.of_eq (by simp;exact⟨rfl,rfl⟩)) (q7c _) ?_;intro z hz;have hzl:((row.take z).flatMap gf).length<=(row.flatMap gf).length:=by
     conv=>rhs;rw[<-List.take_append_drop z row,x1g,q7b]
     omega
    have hall:(acc++o++(row.take z).flatMap gf).length<=1000000000:=by rw[q7b,q7b];omega
    rcases q7e z row.length with hz1|hz1
    ·have hzs:acc++o++(row.take (z+1)).flatMap gf=(acc++o++(row.take z).flatMap gf)++gf row[z]:=by rw[q8q hz1,x1g,q8d,q8d,q8d];simp
     have hfr:=hrow.2 _ (q7i hz1);obtain⟨fz,hfz⟩ : ∃fz:Nat,row[z]=fz:=⟨row[z].toNat,by omega⟩;rw[hfz]at hfr hzs;have hfl:fz<ats.length:=by omega
     have hgz:gf (fz:Int)=if inS (T q) nm=true then [⟨plc ats[fz],plc q,nm⟩]else []:=by rw[hgf];simp only[x0q,q7h,q7g hfl,q9j]
     have eAt:(ats.map fun a=>AV.int .i64 (a:Nat))[fz]?=some (.int .i64 (ats[fz]:Nat)):=by rw[q7l,q7g hfl];rfl
     have hPa:=hPl _ (hatl _ (q7i hfl));rw[hgz]at hzs;generalize ats[fz]=az at*
     generalize(acc++o++(row.take z).flatMap gf)=oo at*
     have hom:(oo.map LN).length=oo.length:=q7f _;cases hin:inS (T q) nm;all_goals
      rw[hin]at hHs hzs;conv=>whnf
      repeat' (first|((first|(refine iM fun _=>?_)|refine dA ?_|refine q7p rfl ?_|refine aD ?_|refine aR ?_|refine bP ?_|(refine iA fun _=>?_)|refine IdxK.xs (by omega) ?_|refine QX (by omega) ?_|(refine ByteK.at (by omega) ?_)|refine wI ?_|(refine IdxK.at (k:=q) rfl eTk rfl ?_)|(refine IdxK.at (k:=fz) hfz eAt rfl ?_)|refine cP hHs ?_|refine cP hPa ?_|refine cP hPq ?_|refine x1m hom.symm rfl (by show(oo.length+1)*32<=140737488355328;omega) (by show oo.length+1<=9223372036854775807;omega) (fun x hx=>by rcases q7m.1 hx with rfl;exact⟨rfl,rfl⟩) ?_);conv=>whnf)|(apply bD<;>intro _<;>first|omega|conv=>whnf)|(apply bE<;>intro _<;>first|omega|conv=>whnf)|(apply bN<;>intro _<;>conv=>whnf)|(apply bB<;>intro _<;>conv=>whnf))
      all_goals first
       |contradiction
       |exact⟨z+1,hz1,by omega,Le.of_eq (by rw[hzs];simp<;>exact⟨rfl,rfl⟩)⟩
    ·rw[q8y hz1,q8d,<-hsu];conv=>whnf
     repeat' (first|((first|(refine iM fun _=>?_)|refine dA ?_|refine q7p rfl ?_|refine aD ?_|refine aR ?_|refine bP ?_|(refine iA fun _=>?_)|refine IdxK.xs (by omega) ?_|refine QX (by omega) ?_|(refine ByteK.at (by omega) ?_)|refine wI ?_);conv=>whnf)|(apply bD<;>intro _<;>first|omega|conv=>whnf)|(apply bE<;>intro _<;>first|omega|conv=>whnf)|(apply bN<;>intro _<;>conv=>whnf)|(apply bB<;>intro _<;>conv=>whnf))
     all_goals first
      |exact⟨q+1,hq1,by omega,Le.of_eq rfl⟩
   ·have hqe:q=c:=by omega
    rw[hqe,<-hcl3];conv=>whnf
    repeat' (first|((first|(refine iM fun _=>?_)|refine dA ?_|refine q7p rfl ?_|refine aD ?_|refine aR ?_|refine bP ?_|(refine iA fun _=>?_)|refine IdxK.xs (by omega) ?_|refine QX (by omega) ?_|(refine ByteK.at (by omega) ?_)|refine wI ?_);conv=>whnf)|(apply bD<;>intro _<;>first|omega|conv=>whnf)|(apply bE<;>intro _<;>first|omega|conv=>whnf)|(apply bN<;>intro _<;>conv=>whnf)|(apply bB<;>intro _<;>conv=>whnf))
    all_goals first
     |exact⟨(rest2,some nm,acc++outN G T plc c steps nm),⟨vis++[nm],hp2,by simp only;rw[x1g,<-hv2];simp⟩,hle2,Le.mk [] (by simp) (by simp) (by simp) (.r (.r (.r (.r (.r (.r (.r .nil))))))) (.cons rfl (.of_eq (by rw[hch];rfl)) (.cons rfl (.refl _) .nil))⟩
theorem V8{α β:Type}(f:α->List β)(k:Nat):∀l:List α,(∀x∈l,(f x).length<=k)->(l.flatMap f).length<=l.length*k
 |[],_=>by simp
 | x::r,h=>by
   have h1:=h x q7d;have h2:=V8 f k r fun y hy=>h y (q7n _ hy);rw[q9m,q7b,q8s,q9o];omega
theorem Ee{l:List Str}(hn:l.Nodup)(nm:Str)(a:Nat):((l.map fun s=>(s,a)).filter fun x=>decide (x.1=nm)).map Prod.snd=if nm∈l then [a]else []:=by
 induction l with
 |nil=>rfl
 | cons x r ih=>
   rw[q9v]at hn;rw[q8f,x3s];by_cases h:x=nm
   ·subst h;rw[if_pos (by simp),q8f,ih hn.2,if_neg hn.1,if_pos q7d]
   ·rw[if_neg (by simpa using h),ih hn.2];by_cases h2:nm∈r
    ·rw[if_pos h2,if_pos (q7n _ h2)]
    ·rw[if_neg h2,if_neg (by rw[q7r];rintro(h3|h3);exact h h3.symm;exact h2 h3)]
theorem D7{G:Nat->List Str}(hG:∀a,(G a).Nodup)(nm:Str):∀n,atN G n nm=(List.range n).filter fun a=>decide (nm∈G a)
 |0=>rfl
 | n+1=>by
   have ih:=D7 hG nm n;unfold atN at ih⊢;rw[FD,x0f,q7o,ih,Ee (hG n),x1e,x0f];congr 1;by_cases h:nm∈G n
   ·rw[if_pos h];simp[h]
   ·rw[if_neg h];simp[h]
theorem E4(l:List (Str×Nat)):((mapG l).map Prod.fst).length<=l.length:=by
 have key:∀l:List (Str×Nat),((mapG l.reverse).map Prod.fst).length<=l.length:=fun l=>by
  induction l with
  |nil=>exact q8z _
  | cons x r ih=>
    rw[x3p,KL];unfold Hw;rw[LH];split
    ·rw[q8s];omega
    ·simp only[q7b,q8s,x1a];omega
 have:=key l.reverse
 rwa[x2o,List.length_reverse]at this
theorem E5(l:List (Str×Nat)){k:Str}(h:k∈(mapG l).map Prod.fst):∃a,(k,a)∈l:=by
 have key:∀l:List (Str×Nat),k∈(mapG l.reverse).map Prod.fst->∃a,(k,a)∈l:=fun l=>by
  induction l with
  |nil=>intro h;cases h
  | cons x r ih=>
    rw[x3p,KL];unfold Hw;rw[LH];intro h;have:k∈(mapG r.reverse).map Prod.fst\/k=x.1:=by
     split at h
     ·exact .inl h
     ·rcases q7a.1 h with h|h
      ·exact .inl h
      ·exact .inr (q7m.1 h)
    rcases this with h|h
    ·obtain⟨a,ha⟩:=ih h;exact⟨a,q7n _ ha⟩
    ·exact⟨x.2,by rw[h];exact q7d⟩
 obtain⟨a,ha⟩:=key l.reverse (by rwa[x2o]);exact⟨a,List.mem_reverse.1 ha⟩
theorem C5{G:Nat->List Str}{n:Nat}{k:Str}{a:Nat}(h:(k,a)∈prsG G n):a<n/\k∈G a:=by
 unfold prsG at h;obtain⟨b,hb,hx⟩:=q8r.1 h;obtain⟨s,hs,he⟩:=q7s.1 hx;cases he;exact⟨q9q.1 hb,hs⟩
theorem Et(G T:Nat->List Str)(plc:Nat->Int)(n:Nat)(steps:List (Int×Int))(nm:Str):(outN G T plc n steps nm).length<=n*(atN G n nm).length:=by
 unfold outN;refine q8i (V8 _ (atN G n nm).length _ fun c hc=>?_) (by rw[x0h];exact q8z _);refine q8i (V8 _ 1 _ fun f _=>by split<;>simp) ?_;rw[x4w,q7h];cases hq:(comC n steps (atN G n nm))[c]?with
 |none=>simp
 |some r=>exact(NA (q8u hq)).1
theorem q2z{G:Nat->List Str}(hG:∀a,(G a).length<=k)(n:Nat):(prsG G n).length<=n*k:=by
 unfold prsG;refine q8i (V8 _ k _ fun a _=>by rw[q7f];exact hG a) (by rw[x0h];exact q8z _)
theorem Sw{G T:Nat->List Str}{plc:Nat->Int}{n:Nat}{steps:List (Int×Int)}(hn:n<=202)(hG:∀a,(G a).length<=34)(hnd:∀a,(G a).Nodup):(((mapG (prsG G n)).map Prod.fst).flatMap (outN G T plc n steps)).length<=1000000000:=by
 have h1:=E4 (prsG G n);have h2:=q2z hG n;have h3:=V8 (outN G T plc n steps) (202*202) ((mapG (prsG G n)).map Prod.fst) fun nm _=>by
  refine q8i (Et G T plc n steps nm) ?_;have h4:(atN G n nm).length<=n:=by
   rw[D7 hnd];exact q8i (q9l _ _) (by simp)
  exact Nat.mul_le_mul hn (q8i h4 hn)
 have h5:((mapG (prsG G n)).map Prod.fst).length<=202*34:=q8i h1 (q8i h2 (q9y _ hn));have h6:((mapG (prsG G n)).map Prod.fst).length*(202*202)<=(202*34)*(202*202):=q9y _ h5;omega
theorem MJ{L:List (List Str)}{Q:List Str->Prop}(h0:Q [])(h:∀o∈L,Q o)(i:Nat):Q (L.getD i []):=by
 rw[q7h];cases hq:L[i]?with
 |none=>exact h0
 |some o=>exact h o (q8u hq)
theorem Dt{p:Pg}{i:Nat}{I:List Str}(hD:∀d∈D,d.Pairwise ltT)(a:Nat):(Ms p i f D I a).Pairwise ltT:=by
 unfold Ms;split
 ·exact ZK _
 split
 ·exact .nil
 cases(QQ p i f).live.getD a false with
 |false=>exact .nil
 |true=>exact MJ .nil hD _
theorem CK{p:Pg}{i:Nat}{O:List Str}(hU:∀d∈U,d.Pairwise ltT)(a:Nat):(EA p i f U O a).Pairwise ltT:=by
 unfold EA;split
 ·exact ZK _
 split
 ·exact .nil
 cases(QQ p i f).live.getD a false with
 |false=>exact .nil
 |true=>exact MJ .nil hU _
theorem AR{p:Pg}{i:Nat}{I:List Str}(hD:∀d∈D,d.length<=34)(hI:I.length<=25)(hf:f.params.length<=8)(a:Nat):(Ms p i f D I a).length<=34:=by
 unfold Ms;split
 ·refine q8i (YI _) ?_;rw[q7b,q7f];omega
 split
 ·simp
 cases(QQ p i f).live.getD a false with
 |false=>simp
 |true=>exact MJ (Q:=fun l=>l.length<=34) (by simp) hD _
theorem L8{p:Pg}{n:Str}(h:FY p f n≠0):n∈p.globals\/n∈Ja f:=by
 unfold FY at h;unfold Ja;cases hq:f.params.find? (fun a=>a.name==n)with
 | some a=>
   refine .inr (q9u _ (q7s.2 ⟨a,x0c hq,by simpa using x2q hq⟩))
 | none=>
   rw[hq]at h;cases hv:f.vars.any (fun s=>n==s)with
   | true=>
     obtain⟨s,h1,h2⟩:=q9c.1 hv;exact .inr (q9r _ (by rw[eq_of_beq h2];exact h1))
   | false=>
     cases hg:p.globals.any (fun s=>n==s)with
     | true=>
       obtain⟨s,h1,h2⟩:=q9c.1 hg;exact .inl (by rw[eq_of_beq h2];exact h1)
     |false=>exact absurd (by simp only[hv,hg];rfl) h
theorem Ds{p:Pg}(h:QO p=true){n:Str}(hn:n∈p.globals):isName n=true:=by
 have hm:=(QD h).1;unfold HY at hm;simp only[q8j]at hm;exact q9b.1 hm.1.2 n hn
theorem Lg{p:Pg}(h:QO p=true)(hf:f∈p.procs){n:Str}(hn:n∈Ja f):isName n=true:=by
 obtain⟨_,_,_,h1,_,h2⟩:=KR.1 (Nj (QD h).1 hf);rcases q7a.1 hn with hn|hn
 ·obtain⟨a,ha,rfl⟩:=q7s.1 hn;exact q9b.1 h2 a ha
 ·exact q9b.1 h1 n hn
section
variable {p:Pg}{j:Nat}{f:Pr}
theorem Bc(h:QO p=true)(hf:f∈p.procs){t:S}(ht:t∈flL f.body){n:Str}(hn:n∈ZP t):isName n=true:=by
 have hk:=JQ (QD h).2.1 hf ht;unfold knownB at hk;rw[q8j]at hk;have h1:=q9b.1 hk.1 n hn;rcases L8 (by simpa using h1)with h2|h2
 ·exact Ds h h2
 ·exact Lg h hf h2
theorem Ac{t:S}{a:Arg}(ha:a∈t.args){n:Str}(hn:n∈usA a):n∈ZP t:=by
 unfold ZP;refine q9r _ (q8r.2 ⟨a,ha,?_⟩);unfold usA at hn;unfold JN;rcases q7a.1 hn with hn|hn
 ·refine q9u _ ?_;cases hr:a.ref with
  |true=>rw[hr,if_pos rfl]at hn;exact hn
  |false=>rw[hr,if_neg (by decide)]at hn;cases hn
 ·exact q9r _ hn
theorem Ov{I:List (List Str)}{t:S}:inAt (bkI p I) t=I.getD (caI p t).toNat []:=rfl
theorem q3k(h:QO p=true)(hj:p.procs[j]?=some f){t:S}(ht:t∈flL f.body):∃it,(sheetOf p).l[(t.id-1).toNat]?=some it/\it.s=t:=by
 have h1:=CX h hj ht;unfold IV at h1;obtain⟨it,h2,h3⟩:=x2p.1 h1;exact⟨it,h2,h3⟩
theorem q5m(h:QO p=true)(hj:p.procs[j]?=some f){t:S}(ht:t∈flL f.body)(I:List (List Str)):HV (usB p I) t.id=WR (PR (bkI p I) t):=by
 obtain⟨it,h1,rfl⟩:=q3k h hj ht;unfold HV usB;rw[q7h,q7l,h1];rfl
theorem q1n{y:Int}(hy:plP p j f y):idN p j f (ixI p j f y)=y:=DP hy
theorem Ol(h:QO p=true)(hj:p.procs[j]?=some f){a b:Int}(hw:wR p j f a b)(hp:HJ p j f D x (ixI p j f a)=true):nR p j f D x (ixI p j f a) (ixI p j f b):=by
 have hd:=(Mg h hj).2 (.inl hw);obtain⟨h1,h2⟩:=Dw h hj hd;exact⟨hp,(Hx h hj h1 h2).2 hd⟩
theorem q1p(h:QO p=true)(hj:p.procs[j]?=some f){t:S}(ht:t∈flL f.body)(hu:x∈HV U t.id):hitN p j f U o x (ixI p j f t.id)=true:=by
 have hb:=WG (QD h).1 hj ht;have hy:plP p j f t.id:=.inr (.inr hb);have hr:=ZA hy;unfold hitN;have hE:¬ixI p j f t.id=(QU f.body+2:Nat)-1:=fun he=>by
  have:=BJ hy (.inr (.inl rfl)) (he.trans ix_exit.symm);omega
 have h0:0<ixI p j f t.id:=by
  rcases Int.lt_or_le 0 (ixI p j f t.id)with h1|h1
  ·exact h1
  ·have h2:ixI p j f t.id=ixI p j f 0:=by
    have:ixI p j f 0=0:=by unfold ixI UZ;rw[if_pos rfl]
    omega
   have:=BJ hy (.inl rfl) h2;omega
 rw[x0y hE,x0b h0];show inS (HV U (idN p j f (ixI p j f t.id))) x=true;rw[q1n hy];exact UH.2 hu
theorem Ea(h:QO p=true)(hj:p.procs[j]?=some f){y:Int}(hy:plP p j f y)(hne:y ≠ -1)(hp:HJ p j f D x (ixI p j f y)=false):∃t∈flL f.body,t.id=y/\x∈HV D y:=by
 unfold HJ at hp;by_cases hE:ixI p j f y=(QU f.body+2:Nat)-1
 ·exact absurd (BJ hy (.inr (.inl rfl)) (hE.trans ix_exit.symm)) hne
 ·rw[x0y hE]at hp;by_cases h0:0<ixI p j f y
  ·rw[x0b h0]at hp;have h1:inS (HV D (idN p j f (ixI p j f y))) x=true:=by simpa using hp
   rw[q1n hy]at h1;rcases hy with rfl|rfl|⟨h2,h3⟩
   ·unfold ixI UZ at h0;rw[if_pos rfl]at h0;omega
   ·exact absurd rfl hne
   ·obtain⟨t,ht,_,h4⟩:=LJ h hj h2 h3;exact⟨t,ht,h4,UH.1 h1⟩
  ·rw[x0y h0]at hp;cases hp
end
section
variable {a b:Str}{p:Pg}{j:Nat}{f:Pr}
end
section
variable {a b:Str}{p:Pg}{j:Nat}{f:Pr}
end
theorem count_set{l:List Bool}{k:Nat}(hk:k<l.length)(h:l.getD k false=false):(l.set k true).count false+1=l.count false:=by
 rw[q7h,q7g hk]at h;have h1:l[k]=false:=h;have h2:0<l.count false:=List.count_pos_iff.2 (h1▸q7i hk);rw[List.count_set hk,h1];simp;omega
theorem NedJ.shutN{p:Pg}{i:Nat}{n:Nat}{a:Int}(hn:netR p i f=net)(h:QO p=true)(hj:p.procs[i]?=some f)(hJ:NedJ p i f D U o x n a k seen todo)(hk:(net.getD a.toNat []).length<=k)(h1:hitN p i f U o x a=false):NedI p i f D U o x n seen todo:=by
 subst hn;exact hJ.shut h hj hk h1
theorem NedJ.oldN{p:Pg}{i:Nat}{n:Nat}{a:Int}(hn:netR p i f=net)(hJ:NedJ p i f D U o x n a k seen todo)(hk:k<(net.getD a.toNat []).length)(hs:seen.getD ((net.getD a.toNat [])[k]).toNat false=true):NedJ p i f D U o x n a (k+1) seen todo:=by
 subst hn;exact hJ.old hk hs
theorem NedJ.newN{p:Pg}{i:Nat}{n:Nat}{a:Int}(hn:netR p i f=net)(hJ:NedJ p i f D U o x n a k seen todo)(hk:k<(net.getD a.toNat []).length){c:Int}(hc:c=(net.getD a.toNat [])[k])(hr:0<=c/\c<(n:Int))(hR:nR p i f D x a c):NedJ p i f D U o x n a (k+1) (seen.set c.toNat true) (todo++[c]):=by
 subst hn;exact hJ.new hk hc hr hR
theorem Jy{s:St}(h:K s):ZV s K:=by
 rw[VW];exact h
theorem Cu{T:Tab}{ops:Array Oper}{s:St}(h:K s):run P T N ops [] s K:=h
theorem CH{id:Nat}{s:St}(hf:info.frz id=[])(h:J4 (info.keep id) s K):P5 info id s K:=by
 unfold P5;rw[hf];show J4 (info.keep id) s fun s=>ZV s K;have e:(fun s=>ZV s K)=K:=funext fun s=>VW s K;rw[e];exact h
theorem Mw{ks:List Nat}{s:St}(s':St)(h:∀K:St->Prop,K s'->J4 ks s K)(hK:K s'):J4 ks s K:=h K hK
theorem R1{sl:List (Nat×LV)}{d:Nat}{v:LV}{K:List (Nat×LV)->Prop}(hd:blt d N=true)(h:K (Pj sl d v)):setD N sl (some d) v K:=by
 show(bif blt d N then OX sl d v K else False);rw[hd,q8g,Uy];exact h
theorem q0e{T:Tab}{c:Operand}{a b:Code}{K:Exit->St->Prop}{s:St}(h:QL s.sl c=.p (.bool false))(hb:W P T N info b K s):W P T N info (.cond c a b) K s:=by
 unfold W;rw[h];exact Br.ff hb
theorem q0i{T:Tab}{c:Operand}{a b:Code}{K:Exit->St->Prop}{s:St}(h:QL s.sl c=.p (.bool true))(ha:W P T N info a K s):W P T N info (.cond c a b) K s:=by
 unfold W;rw[h];exact Br.tt ha
theorem Vk(b:Book)(p:Pg)(h:QO p=true)(i:Nat)(f:Pr)(hj:p.procs[i]?=some f)(hW:b.ways[i]?=some (QQ p i f))(o:List Str)(hO:b.outs[i]?=some o)(ho:o.Pairwise ltT)(hol:o.length<=1000000000)(hDl:b.defs.length=(sheetOf p).l.length)(hUl:b.uses.length=(sheetOf p).l.length)(hDr:∀d∈b.defs,d.Pairwise ltT/\d.length<=1000000000)(hUr:∀d∈b.uses,d.Pairwise ltT/\d.length<=1000000000)(x:Str):SpecP prog 152 [.ip b.cells,.int .i64 i,eMat (netR p i f),.str x] (fun r=>r=.bool (Tc p i f b.defs b.uses o x)):=by
 refine sB LO func152 rfl call152 ?_;conv=>whnf
 obtain⟨n,hn⟩ : ∃n,n=QU f.body+2:=⟨_,rfl⟩;have hcn:=(XP h).2.2;obtain⟨_,_,_,hsl,hsp⟩:=QV p;obtain⟨_,_,hle,_⟩:=hsp i f hj;have hn200:n<=202:=by omega
 have hg1:(b.ways.map fun w=>AV.ip w.cells)[i]?=some (.ip (QQ p i f).cells):=by rw[q7l,hW];rfl
 have hg2:(b.outs.map eStrs)[i]?=some (eStrs o):=by rw[q7l,hO];rfl
 have hwn:(QQ p i f).n=n:=by rw[hn];rfl
 have hHo:=MK o x ho hol;have hP:∀a:Int,0<=a/\a<=5000->SpecP prog 64 [.ip (QQ p i f).cells,.int .i64 a] (fun r=>r=.int .i64 (idN p i f a)):=fun a ha=>WY (QQ p i f) f hj (by show cntP p.procs<=1000;omega) ⟨by rw[hwn];omega,by rw[hwn];omega⟩ a ha;have hNl:(netR p i f).length=n:=by rw[hn];exact U9 _ _
 have hNr:∀a:Nat,a<n->∀c∈(netR p i f).getD a [],nR p i f b.defs x a c\/HJ p i f b.defs x a=false:=fun a ha c hc=>by
  have hm:=(Uq fun t ht=>(GH h hj t ht).1).1 hc;obtain⟨t,ht,h1,h2⟩:=hm;cases hq:HJ p i f b.defs x a with
  |false=>exact .inr rfl
  |true=>exact .inl ⟨hq,by rw[<-h1,<-h2];exact ht⟩
 have hNi:∀a:Nat,a<n->∀c∈(netR p i f).getD a [],0<=c/\c<(n:Int):=fun a ha c hc=>by
  obtain⟨t,ht,_,rfl⟩:=(Uq fun t ht=>(GH h hj t ht).1).1 hc;have:=(GH h hj t ht).2;omega
 have hNc:∀a:Nat,((netR p i f).getD a []).length<=200000:=fun a=>by
  refine q8i (Bv _ _ a) ?_;unfold UT;rw[q7f];exact Gu h hj
 have hId:∀a:Int,0<a->a<(n:Int)-1->1<=idN p i f a/\(idN p i f a-1).toNat<(sheetOf p).l.length:=fun a h1 h2=>by
  unfold idN QH loI;rw[if_neg (by omega),if_neg (by omega)];omega
 obtain⟨net,hnet⟩ : ∃net,netR p i f=net:=⟨_,rfl⟩;rw[hnet]at hNl hNr hNi hNc⊢;generalize QQ p i f=w at hg1 hwn hP hW;repeat' ((first|refine q7p rfl ?_|refine aD ?_|refine aR ?_|(refine IdxK.at (k:=i) rfl hg1 rfl ?_)|refine x2m n hwn (by show 1*n<=140737488355328;omega) (by unfold maxLen;omega) ?_|refine x3e (fun x hx=>by rcases q7m.1 hx with rfl;rfl) rfl ?_);conv=>whnf)
 refine LoopK.inv QK (fun y:List Bool×List Int=>⟨[(0,.p (.ip b.cells)),(1,.p (.int .i64 i)),(2,.p (eMat net)),(3,.p (.str x)),(9,.p (.ip w.cells)),(10,.hd 0 0 n),(11,.hd 1 0 y.2.length)],[(1,.own 3 1 (y.2.map (.int .i64))),(0,.own 4 1 (y.1.map bv))]⟩)
  (fun y=>NedI p i f b.defs b.uses o x n y.1 y.2/\y.2.length+y.1.count false<=n+1) (fun y=>2*y.1.count false+y.2.length) (List.replicate n false,[0]) (Le.of_eq (by rw[x0l];rfl)) ⟨NedI.start n (by omega),by simp;omega⟩ ?_
 rintro⟨seen,todo⟩ ⟨hI,hc1⟩;simp only at hI hc1⊢;rcases List.eq_nil_or_concat todo with rfl|⟨st,a,rfl⟩
 ·have hz:(([]:List Int).length)=0:=rfl;conv=>whnf
  repeat' (first|(refine iM fun _=>?_;conv=>whnf)|(apply bD<;>intro _<;>first|omega|conv=>whnf))
  all_goals exact RetK.ff (hI.stop h hj)
 rw[List.concat_eq_append]at hI hc1⊢;have hstl:(st++[a]).length=st.length+1:=by simp
 have har:=hI.rng a (by simp);have e3:((st++[a]).map (AV.int .i64))[st.length]?=some (.int .i64 a):=by simp
 have hsl2:=hI.len;have hway:=hI.way a (hI.td a (by simp));have hPa:=hP a ⟨har.1,by omega⟩;have hcut:∀(sl:List (Nat×LV)),Le Tryz.f152.ntmps ⟨sl,[(1,.own 3 1 ((st++[a]).map (.int .i64))),(0,.own 4 1 (seen.map bv))]⟩ ⟨sl,[(1,.own 3 1 (st.map (.int .i64))),(0,.own 4 1 (seen.map bv))]⟩:=fun sl=>Le.cut (.cut ⟨[.int .i64 a],by simp⟩ (.same .nil));have hrow:((avI net).map AV.sl)[a.toNat]?=some (.sl ((net.getD a.toNat []).map (.int .i64))):=by
  have:a.toNat<net.length:=by rw[hNl];omega
  rw[q7h,q7g this];simp[avI,this]
 have hrl:((net.getD a.toNat []).map (AV.int .i64)).length=(net.getD a.toNat []).length:=q7f _;have hcs:a=(n:Int)-1\/(a=0/\¬a=(n:Int)-1)\/(0<a/\¬a=(n:Int)-1):=by omega
 rcases hcs with hE|⟨hz,hE⟩|⟨hpos,hE⟩
 ·-- the exit
  have hhit:hitN p i f b.uses o x a=inS o x:=by unfold hitN;rw[<-hn,x0b hE];rfl
  have hpas:HJ p i f b.defs x a=false:=by unfold HJ;rw[<-hn,x0b hE];rfl
  conv=>whnf
  repeat' (first|((first|(refine iM fun _=>?_)|refine q7p rfl ?_|refine wI ?_|refine q9x st.length (by omega) (by omega) ?_|refine q9t st.length 0 (.int .i64 a) (by omega) e3 ?_|refine SlK.mk 0 st.length rfl (by show((st++[a]).length:Int)-1=_;omega) (by omega) (by omega) ?_|(refine IdxK.at (k:=i) rfl hg2 rfl ?_)|refine cP hHo ?_);conv=>whnf)|(apply bD<;>intro _<;>first|omega|conv=>whnf)|(apply bB<;>intro _<;>conv=>whnf))
  ·exact RetK.tt ((DF h hj).2 ⟨a,hway,by rw[hhit];assumption⟩)
  ·exact⟨(seen,st),⟨hI.skip (by rw[hhit];assumption) hpas,by simp only;omega⟩,by simp only;omega,(hcut _).trans (lE)⟩
 ·-- the entry
  have hhit:hitN p i f b.uses o x a=false:=by unfold hitN;rw[<-hn,x0y hE,x0y (by omega)];rfl
  have hpas:HJ p i f b.defs x a=true:=by unfold HJ;rw[<-hn,x0y hE,x0y (by omega)];rfl
  conv=>whnf
  repeat' (first|((first|(refine iM fun _=>?_)|refine q7p rfl ?_|refine wI ?_|refine q9x st.length (by omega) (by omega) ?_|refine q9t st.length 0 (.int .i64 a) (by omega) e3 ?_|refine SlK.mk 0 st.length rfl (by show((st++[a]).length:Int)-1=_;omega) (by omega) (by omega) ?_|(refine IdxK.at (k:=a.toNat) (by omega) hrow rfl ?_));conv=>whnf)|(apply bD<;>intro _<;>first|omega|conv=>whnf))
  refine LoopK.inv QK (fun y:Nat×List Bool×List Int=>⟨[(0,.p (.ip b.cells)),(1,.p (.int .i64 i)),(2,.p (eMat net)),(3,.p (.str x)),(9,.p (.ip w.cells)),(10,.hd 0 0 n),(11,.hd 1 0 y.2.2.length),(87,.p (QA (net.getD a.toNat []))),(88,.p (.int .i64 ((net.getD a.toNat []).map (AV.int .i64)).length)),(89,.p (.int .i64 y.1))],[(1,.own 3 1 (y.2.2.map (.int .i64))),(0,.own 4 1 (y.2.1.map bv))]⟩)
   (fun y=>y.1<=(net.getD a.toNat []).length/\NedJ p i f b.defs b.uses o x n a y.1 y.2.1 y.2.2/\y.2.2.length+y.2.1.count false<=n/\2*y.2.1.count false+y.2.2.length<=2*seen.count false+st.length) (fun y=>(net.getD a.toNat []).length-y.1) (0,seen,st)
   ((hcut _).trans (Le.of_eq rfl)) ⟨q7c _,hI.open,by simp only;omega,q8z _⟩ ?_
  rintro⟨k,sn,td⟩ ⟨h1,hJ,h3,h4⟩;simp only at h1 hJ h3 h4⊢;rcases q7e k (net.getD a.toNat []).length with hk|hk;rotate_left 1
  ·conv=>whnf
   repeat' (apply bD<;>intro _<;>first|omega|conv=>whnf)
   all_goals exact⟨(sn,td),⟨hJ.shutN hnet h hj hk hhit,by simp only;omega⟩,by simp only;omega,lE⟩
  ·obtain⟨c,hc⟩ : ∃c,c=(net.getD a.toNat [])[k]:=⟨_,rfl⟩;have hcm:c∈net.getD a.toNat []:=by rw[hc];exact q7i hk
   have hcr:=hNi a.toNat (by omega) c hcm;have hcR:nR p i f b.defs x a c:=by
    rcases hNr a.toNat (by omega) c hcm with h5|h5
    ·rwa[x2x har.1]at h5
    ·rw[x2x har.1,hpas]at h5;cases h5
   have hsnl:=hJ.len;have e4:=Iq (l:=sn) (i:=c.toNat) (by omega);have e5:((net.getD a.toNat []).map (AV.int .i64))[k]?=some (.int .i64 c):=by rw[q7l,q7g hk,<-hc];rfl
   cases hs:sn.getD c.toNat false with
   | true=>
     rw[hs]at e4;conv=>whnf
     repeat' (first|((first|refine q7p rfl ?_|(refine iA fun _=>?_)|refine wI ?_|refine q9x c.toNat (by omega) (by omega) ?_|refine q9t c.toNat 0 .tt (by omega) e4 ?_);conv=>whnf)|(apply bD<;>intro _<;>first|omega|conv=>whnf))
     all_goals first
       |exact⟨(k+1,sn,td),⟨hk,hJ.oldN hnet hk (by rw[<-hc];exact hs),h3,h4⟩,by simp only;omega,Le.of_eq rfl⟩
   | false=>
     rw[hs]at e4;have hcs:=count_set (l:=sn) (k:=c.toNat) (by omega) hs;conv=>whnf
     repeat' (first|((first|refine q7p rfl ?_|refine aD ?_|refine bP ?_|(refine iA fun _=>?_)|refine wI ?_|refine q9x c.toNat (by omega) (by omega) ?_|refine q9t c.toNat 0 .ff (by omega) e4 ?_|refine x0r c.toNat 0 .ff .tt (by omega) e4 (q8z 1) rfl ?_|refine XX (by simp) (by simp;omega) ?_);conv=>whnf)|(apply bD<;>intro _<;>first|omega|conv=>whnf))
     all_goals first
       |exact⟨(k+1,sn.set c.toNat true,td++[c]),⟨hk,hJ.newN hnet hk hc hcr hcR,by simp only[q7b,q8p];omega,by simp only[q7b,q8p];omega⟩,by simp only;omega,Le.of_eq (by rw[<-hc];simp only[q9k,q7o,q7b];rfl)⟩
 ·-- a statement
  obtain⟨hid1,hid2⟩:=hId a hpos (by omega);have hgU:(b.uses.map eStrs)[(idN p i f a-1).toNat]?=some (eStrs (HV b.uses (idN p i f a))):=by
   unfold HV;rw[q7l,q7h,q7g (by omega)];rfl
  have hgD:(b.defs.map eStrs)[(idN p i f a-1).toNat]?=some (eStrs (HV b.defs (idN p i f a))):=by
   unfold HV;rw[q7l,q7h,q7g (by omega)];rfl
  have hrU:(HV b.uses (idN p i f a)).Pairwise ltT/\(HV b.uses (idN p i f a)).length<=1000000000:=by
   unfold HV;rw[q7h,q7g (by omega)];exact hUr _ (q7i _)
  have hrD:(HV b.defs (idN p i f a)).Pairwise ltT/\(HV b.defs (idN p i f a)).length<=1000000000:=by
   unfold HV;rw[q7h,q7g (by omega)];exact hDr _ (q7i _)
  have hHU:=MK _ x hrU.1 hrU.2;have hHD:=MK _ x hrD.1 hrD.2;have hhitB:hitN p i f b.uses o x a=inS (HV b.uses (idN p i f a)) x:=by unfold hitN;rw[<-hn,x0y hE,x0b hpos];rfl
  have hpasB:HJ p i f b.defs x a = !inS (HV b.defs (idN p i f a)) x:=by unfold HJ;rw[<-hn,x0y hE,x0b hpos];rfl
  generalize idN p i f a=id at*
  generalize HV b.uses id=lu at*
  generalize HV b.defs id=ld at*
  conv=>whnf
  repeat' (first|((first|(refine iM fun _=>?_)|refine q7p rfl ?_|refine wI ?_|refine q9x st.length (by omega) (by omega) ?_|refine q9t st.length 0 (.int .i64 a) (by omega) e3 ?_|refine SlK.mk 0 st.length rfl (by show((st++[a]).length:Int)-1=_;omega) (by omega) (by omega) ?_|refine cP hPa ?_|(refine IdxK.at (k:=(id-1).toNat) (by omega) hgU rfl ?_));conv=>whnf)|(apply bD<;>intro _<;>first|omega|conv=>whnf))
  refine CallK.pure hHU (.cons (Sub.refl _) (.cons (Sub.refl _) .nil)) ?_;rintro _ rfl;refine R1 (by kernel_rfl) ?_;refine Jy ?_;refine Cu ?_;refine CH (by kernel_rfl) ?_;refine Mw ⟨[(0,.p (.ip b.cells)),(1,.p (.int .i64 i)),(2,.p (eMat net)),(3,.p (.str x)),(9,.p (.ip w.cells)),(10,.hd 0 0 n),(11,.hd 1 0 st.length),(12,.p (.int .i64 a)),(13,.p (.int .i64 id)),(73,.p (.bool (inS lu x)))],[(1,.own 3 1 ((st++[a]).map (.int .i64))),(0,.own 4 1 (seen.map bv))]⟩ (fun K h=>h) ?_;cases hqu:inS lu x;rotate_left
  ·refine q0i rfl ?_;conv=>whnf
   skip
   all_goals exact RetK.tt ((DF h hj).2 ⟨a,hway,by rw[hhitB,hqu]⟩)
  refine q0e rfl ?_;conv=>whnf
  repeat' ((first|refine wI ?_|(refine IdxK.at (k:=(id-1).toNat) (by omega) hgD rfl ?_));conv=>whnf)
  refine CallK.pure hHD (.cons (Sub.refl _) (.cons (Sub.refl _) .nil)) ?_;rintro _ rfl;refine R1 (by kernel_rfl) ?_;refine Jy ?_;refine Cu ?_;refine CH (by kernel_rfl) ?_;refine Mw ⟨[(0,.p (.ip b.cells)),(1,.p (.int .i64 i)),(2,.p (eMat net)),(3,.p (.str x)),(9,.p (.ip w.cells)),(10,.hd 0 0 n),(11,.hd 1 0 st.length),(12,.p (.int .i64 a)),(83,.p (.bool (inS ld x)))],[(1,.own 3 1 ((st++[a]).map (.int .i64))),(0,.own 4 1 (seen.map bv))]⟩ (fun K h=>h) ?_;have hhit:hitN p i f b.uses o x a=false:=by rw[hhitB,hqu]
  cases hqd:inS ld x;rotate_left
  ·have hpas:HJ p i f b.defs x a=false:=by rw[hpasB,hqd];rfl
   refine q0i rfl ?_;conv=>whnf
   skip
   all_goals exact⟨(seen,st),⟨hI.skip hhit hpas,by simp only;omega⟩,by simp only;omega,(hcut _).trans (lE)⟩
  ·have hpas:HJ p i f b.defs x a=true:=by rw[hpasB,hqd];rfl
   refine q0e rfl ?_;conv=>whnf
   repeat' ((first|(refine iM fun _=>?_)|(refine IdxK.at (k:=a.toNat) (by omega) hrow rfl ?_));conv=>whnf)
   refine LoopK.inv QK (fun y:Nat×List Bool×List Int=>⟨[(0,.p (.ip b.cells)),(1,.p (.int .i64 i)),(2,.p (eMat net)),(3,.p (.str x)),(9,.p (.ip w.cells)),(10,.hd 0 0 n),(11,.hd 1 0 y.2.2.length),(87,.p (QA (net.getD a.toNat []))),(88,.p (.int .i64 ((net.getD a.toNat []).map (AV.int .i64)).length)),(89,.p (.int .i64 y.1))],[(1,.own 3 1 (y.2.2.map (.int .i64))),(0,.own 4 1 (y.2.1.map bv))]⟩)
    (fun y=>y.1<=(net.getD a.toNat []).length/\NedJ p i f b.defs b.uses o x n a y.1 y.2.1 y.2.2/\y.2.2.length+y.2.1.count false<=n/\2*y.2.1.count false+y.2.2.length<=2*seen.count false+st.length) (fun y=>(net.getD a.toNat []).length-y.1) (0,seen,st)
    ((hcut _).trans (Le.of_eq rfl)) ⟨q7c _,hI.open,by simp only;omega,q8z _⟩ ?_
   rintro⟨k,sn,td⟩ ⟨h1,hJ,h3,h4⟩;simp only at h1 hJ h3 h4⊢;rcases q7e k (net.getD a.toNat []).length with hk|hk;rotate_left 1
   ·conv=>whnf
    repeat' (apply bD<;>intro _<;>first|omega|conv=>whnf)
    all_goals exact⟨(sn,td),⟨hJ.shutN hnet h hj hk hhit,by simp only;omega⟩,by simp only;omega,lE⟩
   ·obtain⟨c,hc⟩ : ∃c,c=(net.getD a.toNat [])[k]:=⟨_,rfl⟩;have hcm:c∈net.getD a.toNat []:=by rw[hc];exact q7i hk
    have hcr:=hNi a.toNat (by omega) c hcm;have hcR:nR p i f b.defs x a c:=by
     rcases hNr a.toNat (by omega) c hcm with h5|h5
     ·rwa[x2x har.1]at h5
     ·rw[x2x har.1,hpas]at h5;cases h5
    have hsnl:=hJ.len;have e4:=Iq (l:=sn) (i:=c.toNat) (by omega);have e5:((net.getD a.toNat []).map (AV.int .i64))[k]?=some (.int .i64 c):=by rw[q7l,q7g hk,<-hc];rfl
    cases hs:sn.getD c.toNat false with
    | true=>
      rw[hs]at e4;conv=>whnf
      repeat' (first|((first|refine q7p rfl ?_|(refine iA fun _=>?_)|refine wI ?_|refine q9x c.toNat (by omega) (by omega) ?_|refine q9t c.toNat 0 .tt (by omega) e4 ?_);conv=>whnf)|(apply bD<;>intro _<;>first|omega|conv=>whnf))
      all_goals first
        |exact⟨(k+1,sn,td),⟨hk,hJ.oldN hnet hk (by rw[<-hc];exact hs),h3,h4⟩,by simp only;omega,Le.of_eq rfl⟩
    | false=>
      rw[hs]at e4;have hcs:=count_set (l:=sn) (k:=c.toNat) (by omega) hs;conv=>whnf
      repeat' (first|((first|refine q7p rfl ?_|refine aD ?_|refine bP ?_|(refine iA fun _=>?_)|refine wI ?_|refine q9x c.toNat (by omega) (by omega) ?_|refine q9t c.toNat 0 .ff (by omega) e4 ?_|refine x0r c.toNat 0 .ff .tt (by omega) e4 (q8z 1) rfl ?_|refine XX (by simp) (by simp;omega) ?_);conv=>whnf)|(apply bD<;>intro _<;>first|omega|conv=>whnf))
      all_goals first
        |exact⟨(k+1,sn.set c.toNat true,td++[c]),⟨hk,hJ.newN hnet hk hc hcr hcR,by simp only[q7b,q8p];omega,by simp only[q7b,q8p];omega⟩,by simp only;omega,Le.of_eq (by rw[<-hc];simp only[q9k,q7o,q7b];rfl)⟩
end Go.Ab
