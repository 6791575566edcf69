/- give: to which places each of some places' facts come. -/
import Derived.Test.YtmfnbgbblkhneaaGreatRchL17
import Derived.Test.YtmfnbgbblkhneaaGreatRchL18
set_option linter.unusedSimpArgs false
set_option linter.unusedVariables false
set_option maxRecDepth 100000
set_option maxHeartbeats 16000000
namespace Go.Ab
open Go.Proofs.Tryz
open Go.Proofs
def eN(r:List Int):AV:=if r=[]then .nils else QO r
def LD(m:Nat):List Int:=(List.range m).map Int.ofNat
def gnC(n:Nat)(at_:List Nat):Nat->List (List Int)
 |0=>List.replicate n []
 |k+1=>(gnC n at_ k).set (at_.getD k 0) [(k:Int)]
def klC(n:Nat)(at_:List Nat):Nat->List (List Int)
 |0=>List.replicate n []
 |k+1=>(klC n at_ k).set (at_.getD k 0) (LD at_.length)
theorem DK(n:Nat)(at_:List Nat):∀k,(gnC n at_ k).length=n
 |0=>by simp[gnC]
 |k+1=>by rw[gnC,x5e,DK n at_ k]
theorem DP(n:Nat)(at_:List Nat):∀k,(klC n at_ k).length=n
 |0=>by simp[klC]
 |k+1=>by rw[klC,x5e,DP n at_ k]
theorem V3(m:Nat):(LD m).length=m:=by unfold LD;simp
theorem P6(m:Nat):LD (m+1)=LD m++[(m:Int)]:=by unfold LD;rw[x7f,x3y];rfl
theorem Iu{m:Nat}{f:Int}(h:f∈LD m):0<=f/\f<m:=by
 unfold LD at h;obtain⟨x,hx,rfl⟩:=x3q.1 h;have:=x4y.1 hx;exact⟨x8w _,by show(x:Int)<m;omega⟩
theorem q8d{r:List Int}(h:r≠[]):eN r=QO r:=if_neg h
theorem LA:∀l:List (List Int),SubE (l.map eN) ((avI l).map .sl)
 |[]=>.nil
 | r::l=>by
   refine .cons ?_ (LA l);unfold eN;split
   ·rename_i h;subst h;exact SubL.cons Sub.nils SubL.nil
   ·exact SubL.cons (Sub.refl _) SubL.nil
theorem RD(n:Nat)(at_:List Nat):(gnC n at_ 0).map eN=List.replicate n .nils:=by rw[gnC,x6x];rfl
theorem T0(n:Nat)(at_:List Nat):(klC n at_ 0).map eN=List.replicate n .nils:=by rw[klC,x6x];rfl
theorem q0e(n:Nat)(at_:List Nat){q:Nat}(h:q<at_.length):((gnC n at_ q).map eN).set at_[q] (.sl [.int .i64 q])=(gnC n at_ (q+1)).map eN:=by
 rw[gnC,x4m,x2l,x2n h];rfl
theorem q1u(n:Nat)(at_:List Nat){q:Nat}(h:q<at_.length):((klC n at_ q).map eN).set at_[q] (QO (LD at_.length))=(klC n at_ (q+1)).map eN:=by
 rw[klC,x4m,x2l,x2n h,q8d (fun e=>by have:=V3 at_.length;rw[e]at this;simp at this;omega)];rfl
theorem IG(n:Nat)(at_:List Nat)(hm:at_.length<=5000):∀k,k<=at_.length->∀r∈gnC n at_ k,r.length<=5000/\∀f∈r,0<=f/\f<(at_.length:Nat)
 | 0,_,r,hr=>by
   rw[gnC]at hr;rw[(x8s.1 hr).2];exact⟨by simp,fun f hf=>by cases hf⟩
 | k+1,hk,r,hr=>by
   rw[gnC]at hr;rcases x6i hr with h|h
   ·exact IG n at_ hm k (by omega) r h
   ·subst h;exact⟨by simp,fun f hf=>by rw[x2a.1 hf];omega⟩
theorem O2(n:Nat)(at_:List Nat)(hm:at_.length<=5000):∀k,∀r∈klC n at_ k,r.length<=5000/\∀f∈r,0<=f/\f<(at_.length:Nat)
 | 0,r,hr=>by
   rw[klC]at hr;rw[(x8s.1 hr).2];exact⟨by simp,fun f hf=>by cases hf⟩
 | k+1,r,hr=>by
   rw[klC]at hr;rcases x6i hr with h|h
   ·exact O2 n at_ hm k r h
   ·subst h;exact⟨by rw[V3];exact hm,fun f hf=>Iu hf⟩
def ComR(n:Nat)(steps:List (Int×Int))(at_:List Nat)(r:AV):Prop:=∃inn:List (List Wd),(∀b:Int,0<=b->b<n->∀f,f/64<at_.length/64+1->(bitW (inn.getD b.toNat []) f=true↔SolP (QR n steps).1 ((gnC n at_ at_.length).map (HL (at_.length/64+1))) ((klC n at_ at_.length).map (HL (at_.length/64+1))) f b))/\inn.length=n/\r=eMat (inn.map fun row=>UO row at_.length)
theorem Ut(b:Book)(i:Nat)(w:Way)(hW:b.ways[i]?=some w)(n:Nat)(hn:n<=5000)(hwn:w.n=n)(steps:List (Int×Int))(hl:steps.length<=1000000)(hs:∀s∈steps,(0<=s.1/\s.1<n)/\0<=s.2/\s.2<n)(at_:List Nat)(hat:∀a∈at_,a<n)(hm:at_.length<=5000):SpecP prog 98 [.ip b.cells,.int .i64 i,.sl (avP steps),.sl (at_.map fun a=>.int .i64 (a:Nat))] (fun r=>ComR n steps at_ r):=by
 refine sB Xx func98 rfl call98 ?_;conv=>whnf
 have hg2:(b.ways.map fun w=>AV.ip w.cells)[i]?=some (.ip w.cells):=by rw[x2e,hW];rfl
 have ham:(at_.map fun a=>AV.int .i64 (a:Nat)).length=at_.length:=x2m _;repeat' (first|((first|(refine iM fun _=>?_)|refine dA ?_|refine x2t rfl ?_|refine aD ?_|refine aR ?_|refine bP ?_|(refine iA fun _=>?_)|refine IdxK.xs (by omega) ?_|refine QX (by omega) ?_|(refine ByteK.at (by omega) ?_)|refine wI ?_|(refine IdxK.at (k:=i) rfl hg2 rfl ?_)|refine x8v n (by omega) (by show 24*_<=140737488355328;omega) (by unfold maxLen;omega) ?_);conv=>whnf)|(apply bD<;>intro _<;>first|omega|conv=>whnf)|(apply bE<;>intro _<;>first|omega|conv=>whnf)|(apply bN<;>intro _<;>conv=>whnf)|(apply bB<;>intro _<;>conv=>whnf)|(refine x2t ?_ ?_<;>conv=>whnf))
 ·refine LoopK.inv QY (fun j:Nat=>⟨[(2,.p (.sl (avP steps))),(3,.p (.sl (at_.map fun a=>.int .i64 (a:Nat)))),(9,.p (.int .i64 n)),(10,.hd 0 0 n),(11,.hd 1 0 n),(12,.hd 2 0 ((LD j).map (AV.int .i64)).length),(33,.p (.int .i64 (at_.map fun a=>AV.int .i64 (a:Nat)).length)),(34,.p (.int .i64 j))],[(1,.own 29 1 (List.replicate n .nils)),(0,.own 29 1 (List.replicate n .nils)),(2,.own 3 1 ((LD j).map (.int .i64)))]⟩) (fun j=>j<=at_.length) (fun j=>at_.length-j) 0
   (Le.mk [(2,.own 3 1 [])] (by simp[Chunk.new0];rfl) (by simp) (by simp) (.r (.r (.cons (.of_eq (by rw[hwn];rfl)) (.r (.r (.cons (.nil x2r) (.r (.r .nil)))))))) (.cons rfl (.of_eq rfl) (.cons rfl (.of_eq rfl) (.new x2r .nil)))) (x3z _) ?_
  intro j hj;have hal:=V3 j;rcases x3v j at_.length with h1|h1
  ·have hst:=P6 j;generalize LD j=acc at*
   conv=>whnf
   repeat' (first|((first|(refine iM fun _=>?_)|refine dA ?_|refine x2t rfl ?_|refine aD ?_|refine aR ?_|refine bP ?_|(refine iA fun _=>?_)|refine IdxK.xs (by omega) ?_|refine QX (by omega) ?_|(refine ByteK.at (by omega) ?_)|refine wI ?_|refine XH (by simp) (by simp;omega) ?_);conv=>whnf)|(apply bD<;>intro _<;>first|omega|conv=>whnf)|(apply bE<;>intro _<;>first|omega|conv=>whnf)|(apply bN<;>intro _<;>conv=>whnf)|(apply bB<;>intro _<;>conv=>whnf))
   all_goals first
    |exact⟨j+1,h1,by omega,Le.of_eq (by rw[hst];simp only[x2s,x3y];rfl)⟩
  ·obtain rfl:j=at_.length:=by omega
   conv=>whnf
   repeat' (first|((first|(refine iM fun _=>?_)|refine dA ?_|refine x2t rfl ?_|refine aD ?_|refine aR ?_|refine bP ?_|(refine iA fun _=>?_)|refine IdxK.xs (by omega) ?_|refine QX (by omega) ?_|(refine ByteK.at (by omega) ?_)|refine wI ?_);conv=>whnf)|(apply bD<;>intro _<;>first|omega|conv=>whnf)|(apply bE<;>intro _<;>first|omega|conv=>whnf)|(apply bN<;>intro _<;>conv=>whnf)|(apply bB<;>intro _<;>conv=>whnf))
   refine LoopK.inv QY (fun q:Nat=>⟨[(2,.p (.sl (avP steps))),(3,.p (.sl (at_.map fun a=>.int .i64 (a:Nat)))),(9,.p (.int .i64 n)),(10,.hd 0 0 n),(11,.hd 1 0 n),(12,.p (QO (LD at_.length))),(42,.p (.sl (at_.map fun a=>.int .i64 (a:Nat)))),(43,.p (.int .i64 (at_.map fun a=>AV.int .i64 (a:Nat)).length)),(44,.p (.int .i64 q))],[(1,.own 29 1 ((klC n at_ q).map eN)),(0,.own 29 1 ((gnC n at_ q).map eN))]⟩) (fun q=>q<=at_.length) (fun q=>at_.length-q) 0
    (by
      obtain⟨s',rfl,hle⟩:=Le.row (N:=Tryz.f98.ntmps) (s:=⟨[(2,.p (.sl (avP steps))),(3,.p (.sl (at_.map fun a=>.int .i64 (a:Nat)))),(9,.p (.int .i64 n)),(10,.hd 0 0 n),(11,.hd 1 0 n),(12,.hd 2 0 ((LD at_.length).map (AV.int .i64)).length),(42,.p (.sl (at_.map fun a=>.int .i64 (a:Nat)))),(43,.p (.int .i64 (at_.map fun a=>AV.int .i64 (a:Nat)).length)),(44,.p (.int .i64 0))],[(1,.own 29 1 (List.replicate n .nils)),(0,.own 29 1 (List.replicate n .nils)),(2,.own 3 1 ((LD at_.length).map (.int .i64)))]⟩) (k:=2) (e:=3) (sz:=1) (es:=(LD at_.length).map (.int .i64)) (zs:=[12]) rfl
       (K:=fun s=>s=⟨[(2,.p (.sl (avP steps))),(3,.p (.sl (at_.map fun a=>.int .i64 (a:Nat)))),(9,.p (.int .i64 n)),(10,.hd 0 0 n),(11,.hd 1 0 n),(12,.p (QO (LD at_.length))),(42,.p (.sl (at_.map fun a=>.int .i64 (a:Nat)))),(43,.p (.int .i64 (at_.map fun a=>AV.int .i64 (a:Nat)).length)),(44,.p (.int .i64 0))],[(1,.own 29 1 (List.replicate n .nils)),(0,.own 29 1 (List.replicate n .nils))]⟩) ⟨rfl,rfl⟩
      exact hle.trans (Le.of_eq (by rw[T0,RD];rfl))) (x3z _) ?_
   intro q hq;have hgl:=DK n at_ q;have hkl:=DP n at_ q;rcases x3v q at_.length with h2|h2
   ·have hgs:=q0e n at_ h2;have hks:=q1u n at_ h2;have haq:=hat _ (x3w h2);obtain⟨a,hqa⟩ : ∃a,at_[q]=a:=⟨_,rfl⟩;rw[hqa]at hgs hks haq;generalize gnC n at_ q=gn at*
    generalize klC n at_ q=kl at*
    have eG:(gn.map eN)[a]?=some (eN (gn[a]'(by omega))):=by rw[x2e,x2n (by omega)];rfl
    have eK:(kl.map eN)[a]?=some (eN (kl[a]'(by omega))):=by rw[x2e,x2n (by omega)];rfl
    have hgm:(gn.map eN).length=n:=by rw[x2m,hgl]
    have hkm:(kl.map eN).length=n:=by rw[x2m,hkl]
    generalize gn[a]'(by omega)=o1 at eG;generalize kl[a]'(by omega)=o2 at eK;conv=>whnf
    repeat' (first|((first|(refine iM fun _=>?_)|refine dA ?_|refine x2t rfl ?_|refine aD ?_|refine aR ?_|refine bP ?_|(refine iA fun _=>?_)|refine IdxK.xs (by omega) ?_|refine QX (by omega) ?_|(refine ByteK.at (by omega) ?_)|refine wI ?_|refine x4j a (by rw[hqa]) (by omega) ?_|refine x5i a 0 (eN o1) (.sl [.int .i64 q]) (by omega) eG (x3g 1) (by unfold eN;split<;>rfl) ?_|refine x5i a 0 (eN o2) (QO (LD at_.length)) (by omega) eK (x3g 1) (by unfold eN;split<;>rfl) ?_);conv=>whnf)|(apply bD<;>intro _<;>first|omega|conv=>whnf)|(apply bE<;>intro _<;>first|omega|conv=>whnf)|(apply bN<;>intro _<;>conv=>whnf)|(apply bB<;>intro _<;>conv=>whnf))
    all_goals first
     |exact⟨q+1,h2,by omega,Le.of_eq (by rw[<-hgs,<-hks];rfl)⟩
   ·obtain rfl:q=at_.length:=by omega
    have hOf:=Tc n hn steps hl hs (gnC n at_ at_.length) (klC n at_ at_.length) hgl hkl at_.length hm (IG n at_ hm at_.length (x3g _)) (O2 n at_ hm at_.length);conv=>whnf
    repeat' (first|((first|(refine iM fun _=>?_)|refine dA ?_|refine x2t rfl ?_|refine aD ?_|refine aR ?_|refine bP ?_|(refine iA fun _=>?_)|refine IdxK.xs (by omega) ?_|refine QX (by omega) ?_|(refine ByteK.at (by omega) ?_)|refine wI ?_|(refine BK hOf (.cons (.p (Sub.refl _)) (.cons (.p (Sub.refl _)) (.cons (.sub (.hd rfl (by rw[x2m,DK])) (Sub.sl (LA _))) (.cons (.sub (.hd rfl (by rw[x2m,DP])) (Sub.sl (LA _))) (.cons (.p (Sub.int (by rw[ham]))) .nil))))) ?_;rintro _ ⟨inn,tm,hin1,hin2,rfl⟩));conv=>whnf)|(apply bD<;>intro _<;>first|omega|conv=>whnf)|(apply bE<;>intro _<;>first|omega|conv=>whnf)|(apply bN<;>intro _<;>conv=>whnf)|(apply bB<;>intro _<;>conv=>whnf))
    all_goals first
     |exact⟨_,.p (Sub.refl _),inn,hin1,hin2,rfl⟩
     |refine BK hOf (.cons (.p (Sub.refl _)) (.cons (.p (Sub.refl _)) (.cons (.sub (.hd rfl (by rw[x2m,DK])) (Sub.sl (LA _))) (.cons (.sub (.hd rfl (by rw[x2m,DP])) (Sub.sl (LA _))) (.cons (.p (Sub.int (by rw[ham]))) .nil))))) ?_
 ·refine LoopK.inv QY (fun j:Nat=>⟨[(2,.p (.sl (avP steps))),(3,.p (.sl (at_.map fun a=>.int .i64 (a:Nat)))),(9,.p (.int .i64 n)),(10,.hd 1 0 n),(11,.hd 0 0 n),(12,.hd 2 0 ((LD j).map (AV.int .i64)).length),(33,.p (.int .i64 (at_.map fun a=>AV.int .i64 (a:Nat)).length)),(34,.p (.int .i64 j))],[(1,.own 29 1 (List.replicate n .nils)),(0,.own 29 1 (List.replicate n .nils)),(2,.own 3 1 ((LD j).map (.int .i64)))]⟩) (fun j=>j<=at_.length) (fun j=>at_.length-j) 0
   (Le.mk [(2,.own 3 1 [])] (by simp[Chunk.new0];rfl) (by simp) (by simp) (.r (.r (.cons (.of_eq (by rw[hwn];rfl)) (.r (.r (.cons (.nil x2r) (.r (.r .nil)))))))) (.cons rfl (.of_eq rfl) (.cons rfl (.of_eq rfl) (.new x2r .nil)))) (x3z _) ?_
  intro j hj;have hal:=V3 j;rcases x3v j at_.length with h1|h1
  ·have hst:=P6 j;generalize LD j=acc at*
   conv=>whnf
   repeat' (first|((first|(refine iM fun _=>?_)|refine dA ?_|refine x2t rfl ?_|refine aD ?_|refine aR ?_|refine bP ?_|(refine iA fun _=>?_)|refine IdxK.xs (by omega) ?_|refine QX (by omega) ?_|(refine ByteK.at (by omega) ?_)|refine wI ?_|refine XH (by simp) (by simp;omega) ?_);conv=>whnf)|(apply bD<;>intro _<;>first|omega|conv=>whnf)|(apply bE<;>intro _<;>first|omega|conv=>whnf)|(apply bN<;>intro _<;>conv=>whnf)|(apply bB<;>intro _<;>conv=>whnf))
   all_goals first
    |exact⟨j+1,h1,by omega,Le.of_eq (by rw[hst];simp only[x2s,x3y];rfl)⟩
  ·obtain rfl:j=at_.length:=by omega
   conv=>whnf
   repeat' (first|((first|(refine iM fun _=>?_)|refine dA ?_|refine x2t rfl ?_|refine aD ?_|refine aR ?_|refine bP ?_|(refine iA fun _=>?_)|refine IdxK.xs (by omega) ?_|refine QX (by omega) ?_|(refine ByteK.at (by omega) ?_)|refine wI ?_);conv=>whnf)|(apply bD<;>intro _<;>first|omega|conv=>whnf)|(apply bE<;>intro _<;>first|omega|conv=>whnf)|(apply bN<;>intro _<;>conv=>whnf)|(apply bB<;>intro _<;>conv=>whnf))
   refine LoopK.inv QY (fun q:Nat=>⟨[(2,.p (.sl (avP steps))),(3,.p (.sl (at_.map fun a=>.int .i64 (a:Nat)))),(9,.p (.int .i64 n)),(10,.hd 1 0 n),(11,.hd 0 0 n),(12,.p (QO (LD at_.length))),(42,.p (.sl (at_.map fun a=>.int .i64 (a:Nat)))),(43,.p (.int .i64 (at_.map fun a=>AV.int .i64 (a:Nat)).length)),(44,.p (.int .i64 q))],[(1,.own 29 1 ((gnC n at_ q).map eN)),(0,.own 29 1 ((klC n at_ q).map eN))]⟩) (fun q=>q<=at_.length) (fun q=>at_.length-q) 0
    (by
      obtain⟨s',rfl,hle⟩:=Le.row (N:=Tryz.f98.ntmps) (s:=⟨[(2,.p (.sl (avP steps))),(3,.p (.sl (at_.map fun a=>.int .i64 (a:Nat)))),(9,.p (.int .i64 n)),(10,.hd 1 0 n),(11,.hd 0 0 n),(12,.hd 2 0 ((LD at_.length).map (AV.int .i64)).length),(42,.p (.sl (at_.map fun a=>.int .i64 (a:Nat)))),(43,.p (.int .i64 (at_.map fun a=>AV.int .i64 (a:Nat)).length)),(44,.p (.int .i64 0))],[(1,.own 29 1 (List.replicate n .nils)),(0,.own 29 1 (List.replicate n .nils)),(2,.own 3 1 ((LD at_.length).map (.int .i64)))]⟩) (k:=2) (e:=3) (sz:=1) (es:=(LD at_.length).map (.int .i64)) (zs:=[12]) rfl
       (K:=fun s=>s=⟨[(2,.p (.sl (avP steps))),(3,.p (.sl (at_.map fun a=>.int .i64 (a:Nat)))),(9,.p (.int .i64 n)),(10,.hd 1 0 n),(11,.hd 0 0 n),(12,.p (QO (LD at_.length))),(42,.p (.sl (at_.map fun a=>.int .i64 (a:Nat)))),(43,.p (.int .i64 (at_.map fun a=>AV.int .i64 (a:Nat)).length)),(44,.p (.int .i64 0))],[(1,.own 29 1 (List.replicate n .nils)),(0,.own 29 1 (List.replicate n .nils))]⟩) ⟨rfl,rfl⟩
      exact hle.trans (Le.of_eq (by rw[T0,RD];rfl))) (x3z _) ?_
   intro q hq;have hgl:=DK n at_ q;have hkl:=DP n at_ q;rcases x3v q at_.length with h2|h2
   ·have hgs:=q0e n at_ h2;have hks:=q1u n at_ h2;have haq:=hat _ (x3w h2);obtain⟨a,hqa⟩ : ∃a,at_[q]=a:=⟨_,rfl⟩;rw[hqa]at hgs hks haq;generalize gnC n at_ q=gn at*
    generalize klC n at_ q=kl at*
    have eG:(gn.map eN)[a]?=some (eN (gn[a]'(by omega))):=by rw[x2e,x2n (by omega)];rfl
    have eK:(kl.map eN)[a]?=some (eN (kl[a]'(by omega))):=by rw[x2e,x2n (by omega)];rfl
    have hgm:(gn.map eN).length=n:=by rw[x2m,hgl]
    have hkm:(kl.map eN).length=n:=by rw[x2m,hkl]
    generalize gn[a]'(by omega)=o1 at eG;generalize kl[a]'(by omega)=o2 at eK;conv=>whnf
    repeat' (first|((first|(refine iM fun _=>?_)|refine dA ?_|refine x2t rfl ?_|refine aD ?_|refine aR ?_|refine bP ?_|(refine iA fun _=>?_)|refine IdxK.xs (by omega) ?_|refine QX (by omega) ?_|(refine ByteK.at (by omega) ?_)|refine wI ?_|refine x4j a (by rw[hqa]) (by omega) ?_|refine x5i a 0 (eN o1) (.sl [.int .i64 q]) (by omega) eG (x3g 1) (by unfold eN;split<;>rfl) ?_|refine x5i a 0 (eN o2) (QO (LD at_.length)) (by omega) eK (x3g 1) (by unfold eN;split<;>rfl) ?_);conv=>whnf)|(apply bD<;>intro _<;>first|omega|conv=>whnf)|(apply bE<;>intro _<;>first|omega|conv=>whnf)|(apply bN<;>intro _<;>conv=>whnf)|(apply bB<;>intro _<;>conv=>whnf))
    all_goals first
     |exact⟨q+1,h2,by omega,Le.of_eq (by rw[<-hgs,<-hks];rfl)⟩
   ·obtain rfl:q=at_.length:=by omega
    have hOf:=Tc n hn steps hl hs (gnC n at_ at_.length) (klC n at_ at_.length) hgl hkl at_.length hm (IG n at_ hm at_.length (x3g _)) (O2 n at_ hm at_.length);conv=>whnf
    repeat' (first|((first|(refine iM fun _=>?_)|refine dA ?_|refine x2t rfl ?_|refine aD ?_|refine aR ?_|refine bP ?_|(refine iA fun _=>?_)|refine IdxK.xs (by omega) ?_|refine QX (by omega) ?_|(refine ByteK.at (by omega) ?_)|refine wI ?_|(refine BK hOf (.cons (.p (Sub.refl _)) (.cons (.p (Sub.refl _)) (.cons (.sub (.hd rfl (by rw[x2m,DK])) (Sub.sl (LA _))) (.cons (.sub (.hd rfl (by rw[x2m,DP])) (Sub.sl (LA _))) (.cons (.p (Sub.int (by rw[ham]))) .nil))))) ?_;rintro _ ⟨inn,tm,hin1,hin2,rfl⟩));conv=>whnf)|(apply bD<;>intro _<;>first|omega|conv=>whnf)|(apply bE<;>intro _<;>first|omega|conv=>whnf)|(apply bN<;>intro _<;>conv=>whnf)|(apply bB<;>intro _<;>conv=>whnf))
    all_goals first
     |exact⟨_,.p (Sub.refl _),inn,hin1,hin2,rfl⟩
     |refine BK hOf (.cons (.p (Sub.refl _)) (.cons (.p (Sub.refl _)) (.cons (.sub (.hd rfl (by rw[x2m,DK])) (Sub.sl (LA _))) (.cons (.sub (.hd rfl (by rw[x2m,DP])) (Sub.sl (LA _))) (.cons (.p (Sub.int (by rw[ham]))) .nil))))) ?_
end Go.Ab
