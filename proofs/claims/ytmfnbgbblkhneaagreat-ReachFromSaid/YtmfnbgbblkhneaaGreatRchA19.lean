/- give: to which places each of some places' facts come. -/
import Derived.Test.YtmfnbgbblkhneaaGreatRchA17
import Derived.Test.YtmfnbgbblkhneaaGreatRchA18
set_option linter.unusedSimpArgs false
set_option linter.unusedVariables false
set_option maxRecDepth 100000
set_option maxHeartbeats 16000000
namespace Go.Ab
open Go.Proofs.Tryz
open Go.Proofs
def eN(r:List Int):AV:=if r=[]then .nils else QA r
def NN(m:Nat):List Int:=(List.range m).map Int.ofNat
def gnC(n:Nat)(at_:List Nat):Nat->List (List Int)
 |0=>List.replicate n []
 |k+1=>(gnC n at_ k).set (at_.getD k 0) [(k:Int)]
def klC(n:Nat)(at_:List Nat):Nat->List (List Int)
 |0=>List.replicate n []
 |k+1=>(klC n at_ k).set (at_.getD k 0) (NN at_.length)
theorem FX(n:Nat)(at_:List Nat):∀k,(gnC n at_ k).length=n
 |0=>by simp[gnC]
 |k+1=>by rw[gnC,x0d,FX n at_ k]
theorem FJ(n:Nat)(at_:List Nat):∀k,(klC n at_ k).length=n
 |0=>by simp[klC]
 |k+1=>by rw[klC,x0d,FJ n at_ k]
theorem Zb(m:Nat):(NN m).length=m:=by unfold NN;simp
theorem D3(m:Nat):NN (m+1)=NN m++[(m:Int)]:=by unfold NN;rw[x1e,q7o];rfl
theorem An{m:Nat}{f:Int}(h:f∈NN m):0<=f/\f<m:=by
 unfold NN at h;obtain⟨x,hx,rfl⟩:=q7s.1 h;have:=q9q.1 hx;exact⟨x2n _,by show(x:Int)<m;omega⟩
theorem q3d{r:List Int}(h:r≠[]):eN r=QA r:=if_neg h
theorem MQ:∀l:List (List Int),SubE (l.map eN) ((avI l).map .sl)
 |[]=>.nil
 | r::l=>by
   refine .cons ?_ (MQ l);unfold eN;split
   ·rename_i h;subst h;exact SubL.cons Sub.nils SubL.nil
   ·exact SubL.cons (Sub.refl _) SubL.nil
theorem Mc(n:Nat)(at_:List Nat):(gnC n at_ 0).map eN=List.replicate n .nils:=by rw[gnC,x0l];rfl
theorem L9(n:Nat)(at_:List Nat):(klC n at_ 0).map eN=List.replicate n .nils:=by rw[klC,x0l];rfl
theorem Ij(n:Nat)(at_:List Nat){q:Nat}(h:q<at_.length):((gnC n at_ q).map eN).set at_[q] (.sl [.int .i64 q])=(gnC n at_ (q+1)).map eN:=by
 rw[gnC,q9k,q7h,q7g h];rfl
theorem Im(n:Nat)(at_:List Nat){q:Nat}(h:q<at_.length):((klC n at_ q).map eN).set at_[q] (QA (NN at_.length))=(klC n at_ (q+1)).map eN:=by
 rw[klC,q9k,q7h,q7g h,q3d (fun e=>by have:=Zb at_.length;rw[e]at this;simp at this;omega)];rfl
theorem AT(n:Nat)(at_:List Nat)(hm:at_.length<=5000):∀k,k<=at_.length->∀r∈gnC n at_ k,r.length<=5000/\∀f∈r,0<=f/\f<(at_.length:Nat)
 | 0,_,r,hr=>by
   rw[gnC]at hr;rw[(x3k.1 hr).2];exact⟨by simp,fun f hf=>by cases hf⟩
 | k+1,hk,r,hr=>by
   rw[gnC]at hr;rcases x1j hr with h|h
   ·exact AT n at_ hm k (by omega) r h
   ·subst h;exact⟨by simp,fun f hf=>by rw[q7m.1 hf];omega⟩
theorem E6(n:Nat)(at_:List Nat)(hm:at_.length<=5000):∀k,∀r∈klC n at_ k,r.length<=5000/\∀f∈r,0<=f/\f<(at_.length:Nat)
 | 0,r,hr=>by
   rw[klC]at hr;rw[(x3k.1 hr).2];exact⟨by simp,fun f hf=>by cases hf⟩
 | k+1,r,hr=>by
   rw[klC]at hr;rcases x1j hr with h|h
   ·exact E6 n at_ hm k r h
   ·subst h;exact⟨by rw[Zb];exact hm,fun f hf=>An hf⟩
def ComR(n:Nat)(steps:List (Int×Int))(at_:List Nat)(r:AV):Prop:=∃inn:List (List Wd),(∀b:Int,0<=b->b<n->∀f,f/64<at_.length/64+1->(bitW (inn.getD b.toNat []) f=true↔SolP (QC n steps).1 ((gnC n at_ at_.length).map (GD (at_.length/64+1))) ((klC n at_ at_.length).map (GD (at_.length/64+1))) f b))/\inn.length=n/\r=eMat (inn.map fun row=>UL row at_.length)
theorem Vy(b:Book)(i:Nat)(w:Way)(hW:b.ways[i]?=some w)(n:Nat)(hn:n<=5000)(hwn:w.n=n)(steps:List (Int×Int))(hl:steps.length<=1000000)(hs:∀s∈steps,(0<=s.1/\s.1<n)/\0<=s.2/\s.2<n)(at_:List Nat)(hat:∀a∈at_,a<n)(hm:at_.length<=5000):SpecP prog 98 [.ip b.cells,.int .i64 i,.sl (avP steps),.sl (at_.map fun a=>.int .i64 (a:Nat))] (fun r=>ComR n steps at_ r):=by
 refine sB LE func98 rfl call98 ?_;conv=>whnf
 have hg2:(b.ways.map fun w=>AV.ip w.cells)[i]?=some (.ip w.cells):=by rw[q7l,hW];rfl
 have ham:(at_.map fun a=>AV.int .i64 (a:Nat)).length=at_.length:=q7f _;repeat' (first|((first|(refine iM fun _=>?_)|refine dA ?_|refine q7p rfl ?_|refine aD ?_|refine aR ?_|refine bP ?_|(refine iA fun _=>?_)|refine IdxK.xs (by omega) ?_|refine QX (by omega) ?_|(refine ByteK.at (by omega) ?_)|refine wI ?_|(refine IdxK.at (k:=i) rfl hg2 rfl ?_)|refine x2m n (by omega) (by show 24*_<=140737488355328;omega) (by unfold maxLen;omega) ?_);conv=>whnf)|(apply bD<;>intro _<;>first|omega|conv=>whnf)|(apply bE<;>intro _<;>first|omega|conv=>whnf)|(apply bN<;>intro _<;>conv=>whnf)|(apply bB<;>intro _<;>conv=>whnf)|(refine q7p ?_ ?_<;>conv=>whnf))
 ·refine LoopK.inv QK (fun j:Nat=>⟨[(2,.p (.sl (avP steps))),(3,.p (.sl (at_.map fun a=>.int .i64 (a:Nat)))),(9,.p (.int .i64 n)),(10,.hd 0 0 n),(11,.hd 1 0 n),(12,.hd 2 0 ((NN j).map (AV.int .i64)).length),(33,.p (.int .i64 (at_.map fun a=>AV.int .i64 (a:Nat)).length)),(34,.p (.int .i64 j))],[(1,.own 29 1 (List.replicate n .nils)),(0,.own 29 1 (List.replicate n .nils)),(2,.own 3 1 ((NN j).map (.int .i64)))]⟩) (fun j=>j<=at_.length) (fun j=>at_.length-j) 0
   (Le.mk [(2,.own 3 1 [])] (by simp[Chunk.new0];rfl) (by simp) (by simp) (.r (.r (.cons (.of_eq (by rw[hwn];rfl)) (.r (.r (.cons (.nil q7d) (.r (.r .nil)))))))) (.cons rfl (.of_eq rfl) (.cons rfl (.of_eq rfl) (.new q7d .nil)))) (q7c _) ?_
  intro j hj;have hal:=Zb j;rcases q7e j at_.length with h1|h1
  ·have hst:=D3 j;generalize NN j=acc at*
   conv=>whnf
   repeat' (first|((first|(refine iM fun _=>?_)|refine dA ?_|refine q7p rfl ?_|refine aD ?_|refine aR ?_|refine bP ?_|(refine iA fun _=>?_)|refine IdxK.xs (by omega) ?_|refine QX (by omega) ?_|(refine ByteK.at (by omega) ?_)|refine wI ?_|refine XX (by simp) (by simp;omega) ?_);conv=>whnf)|(apply bD<;>intro _<;>first|omega|conv=>whnf)|(apply bE<;>intro _<;>first|omega|conv=>whnf)|(apply bN<;>intro _<;>conv=>whnf)|(apply bB<;>intro _<;>conv=>whnf))
   all_goals first
    |exact⟨j+1,h1,by omega,Le.of_eq (by rw[hst];simp only[q7b,q7o];rfl)⟩
  ·obtain rfl:j=at_.length:=by omega
   conv=>whnf
   repeat' (first|((first|(refine iM fun _=>?_)|refine dA ?_|refine q7p rfl ?_|refine aD ?_|refine aR ?_|refine bP ?_|(refine iA fun _=>?_)|refine IdxK.xs (by omega) ?_|refine QX (by omega) ?_|(refine ByteK.at (by omega) ?_)|refine wI ?_);conv=>whnf)|(apply bD<;>intro _<;>first|omega|conv=>whnf)|(apply bE<;>intro _<;>first|omega|conv=>whnf)|(apply bN<;>intro _<;>conv=>whnf)|(apply bB<;>intro _<;>conv=>whnf))
   refine LoopK.inv QK (fun q:Nat=>⟨[(2,.p (.sl (avP steps))),(3,.p (.sl (at_.map fun a=>.int .i64 (a:Nat)))),(9,.p (.int .i64 n)),(10,.hd 0 0 n),(11,.hd 1 0 n),(12,.p (QA (NN at_.length))),(42,.p (.sl (at_.map fun a=>.int .i64 (a:Nat)))),(43,.p (.int .i64 (at_.map fun a=>AV.int .i64 (a:Nat)).length)),(44,.p (.int .i64 q))],[(1,.own 29 1 ((klC n at_ q).map eN)),(0,.own 29 1 ((gnC n at_ q).map eN))]⟩) (fun q=>q<=at_.length) (fun q=>at_.length-q) 0
    (by
      obtain⟨s',rfl,hle⟩:=Le.row (N:=Tryz.f98.ntmps) (s:=⟨[(2,.p (.sl (avP steps))),(3,.p (.sl (at_.map fun a=>.int .i64 (a:Nat)))),(9,.p (.int .i64 n)),(10,.hd 0 0 n),(11,.hd 1 0 n),(12,.hd 2 0 ((NN at_.length).map (AV.int .i64)).length),(42,.p (.sl (at_.map fun a=>.int .i64 (a:Nat)))),(43,.p (.int .i64 (at_.map fun a=>AV.int .i64 (a:Nat)).length)),(44,.p (.int .i64 0))],[(1,.own 29 1 (List.replicate n .nils)),(0,.own 29 1 (List.replicate n .nils)),(2,.own 3 1 ((NN at_.length).map (.int .i64)))]⟩) (k:=2) (e:=3) (sz:=1) (es:=(NN at_.length).map (.int .i64)) (zs:=[12]) rfl
       (K:=fun s=>s=⟨[(2,.p (.sl (avP steps))),(3,.p (.sl (at_.map fun a=>.int .i64 (a:Nat)))),(9,.p (.int .i64 n)),(10,.hd 0 0 n),(11,.hd 1 0 n),(12,.p (QA (NN at_.length))),(42,.p (.sl (at_.map fun a=>.int .i64 (a:Nat)))),(43,.p (.int .i64 (at_.map fun a=>AV.int .i64 (a:Nat)).length)),(44,.p (.int .i64 0))],[(1,.own 29 1 (List.replicate n .nils)),(0,.own 29 1 (List.replicate n .nils))]⟩) ⟨rfl,rfl⟩
      exact hle.trans (Le.of_eq (by rw[L9,Mc];rfl))) (q7c _) ?_
   intro q hq;have hgl:=FX n at_ q;have hkl:=FJ n at_ q;rcases q7e q at_.length with h2|h2
   ·have hgs:=Ij n at_ h2;have hks:=Im n at_ h2;have haq:=hat _ (q7i h2);obtain⟨a,hqa⟩ : ∃a,at_[q]=a:=⟨_,rfl⟩;rw[hqa]at hgs hks haq;generalize gnC n at_ q=gn at*
    generalize klC n at_ q=kl at*
    have eG:(gn.map eN)[a]?=some (eN (gn[a]'(by omega))):=by rw[q7l,q7g (by omega)];rfl
    have eK:(kl.map eN)[a]?=some (eN (kl[a]'(by omega))):=by rw[q7l,q7g (by omega)];rfl
    have hgm:(gn.map eN).length=n:=by rw[q7f,hgl]
    have hkm:(kl.map eN).length=n:=by rw[q7f,hkl]
    generalize gn[a]'(by omega)=o1 at eG;generalize kl[a]'(by omega)=o2 at eK;conv=>whnf
    repeat' (first|((first|(refine iM fun _=>?_)|refine dA ?_|refine q7p rfl ?_|refine aD ?_|refine aR ?_|refine bP ?_|(refine iA fun _=>?_)|refine IdxK.xs (by omega) ?_|refine QX (by omega) ?_|(refine ByteK.at (by omega) ?_)|refine wI ?_|refine q9x a (by rw[hqa]) (by omega) ?_|refine x0r a 0 (eN o1) (.sl [.int .i64 q]) (by omega) eG (q8z 1) (by unfold eN;split<;>rfl) ?_|refine x0r a 0 (eN o2) (QA (NN at_.length)) (by omega) eK (q8z 1) (by unfold eN;split<;>rfl) ?_);conv=>whnf)|(apply bD<;>intro _<;>first|omega|conv=>whnf)|(apply bE<;>intro _<;>first|omega|conv=>whnf)|(apply bN<;>intro _<;>conv=>whnf)|(apply bB<;>intro _<;>conv=>whnf))
    all_goals first
     |exact⟨q+1,h2,by omega,Le.of_eq (by rw[<-hgs,<-hks];rfl)⟩
   ·obtain rfl:q=at_.length:=by omega
    have hOf:=R5 n hn steps hl hs (gnC n at_ at_.length) (klC n at_ at_.length) hgl hkl at_.length hm (AT n at_ hm at_.length (q8z _)) (E6 n at_ hm at_.length);conv=>whnf
    repeat' (first|((first|(refine iM fun _=>?_)|refine dA ?_|refine q7p rfl ?_|refine aD ?_|refine aR ?_|refine bP ?_|(refine iA fun _=>?_)|refine IdxK.xs (by omega) ?_|refine QX (by omega) ?_|(refine ByteK.at (by omega) ?_)|refine wI ?_|(refine KY hOf (.cons (.p (Sub.refl _)) (.cons (.p (Sub.refl _)) (.cons (.sub (.hd rfl (by rw[q7f,FX])) (Sub.sl (MQ _))) (.cons (.sub (.hd rfl (by rw[q7f,FJ])) (Sub.sl (MQ _))) (.cons (.p (Sub.int (by rw[ham]))) .nil))))) ?_;rintro _ ⟨inn,tm,hin1,hin2,rfl⟩));conv=>whnf)|(apply bD<;>intro _<;>first|omega|conv=>whnf)|(apply bE<;>intro _<;>first|omega|conv=>whnf)|(apply bN<;>intro _<;>conv=>whnf)|(apply bB<;>intro _<;>conv=>whnf))
    all_goals first
     |exact⟨_,.p (Sub.refl _),inn,hin1,hin2,rfl⟩
     |refine KY hOf (.cons (.p (Sub.refl _)) (.cons (.p (Sub.refl _)) (.cons (.sub (.hd rfl (by rw[q7f,FX])) (Sub.sl (MQ _))) (.cons (.sub (.hd rfl (by rw[q7f,FJ])) (Sub.sl (MQ _))) (.cons (.p (Sub.int (by rw[ham]))) .nil))))) ?_
 ·refine LoopK.inv QK (fun j:Nat=>⟨[(2,.p (.sl (avP steps))),(3,.p (.sl (at_.map fun a=>.int .i64 (a:Nat)))),(9,.p (.int .i64 n)),(10,.hd 1 0 n),(11,.hd 0 0 n),(12,.hd 2 0 ((NN j).map (AV.int .i64)).length),(33,.p (.int .i64 (at_.map fun a=>AV.int .i64 (a:Nat)).length)),(34,.p (.int .i64 j))],[(1,.own 29 1 (List.replicate n .nils)),(0,.own 29 1 (List.replicate n .nils)),(2,.own 3 1 ((NN j).map (.int .i64)))]⟩) (fun j=>j<=at_.length) (fun j=>at_.length-j) 0
   (Le.mk [(2,.own 3 1 [])] (by simp[Chunk.new0];rfl) (by simp) (by simp) (.r (.r (.cons (.of_eq (by rw[hwn];rfl)) (.r (.r (.cons (.nil q7d) (.r (.r .nil)))))))) (.cons rfl (.of_eq rfl) (.cons rfl (.of_eq rfl) (.new q7d .nil)))) (q7c _) ?_
  intro j hj;have hal:=Zb j;rcases q7e j at_.length with h1|h1
  ·have hst:=D3 j;generalize NN j=acc at*
   conv=>whnf
   repeat' (first|((first|(refine iM fun _=>?_)|refine dA ?_|refine q7p rfl ?_|refine aD ?_|refine aR ?_|refine bP ?_|(refine iA fun _=>?_)|refine IdxK.xs (by omega) ?_|refine QX (by omega) ?_|(refine ByteK.at (by omega) ?_)|refine wI ?_|refine XX (by simp) (by simp;omega) ?_);conv=>whnf)|(apply bD<;>intro _<;>first|omega|conv=>whnf)|(apply bE<;>intro _<;>first|omega|conv=>whnf)|(apply bN<;>intro _<;>conv=>whnf)|(apply bB<;>intro _<;>conv=>whnf))
   all_goals first
    |exact⟨j+1,h1,by omega,Le.of_eq (by rw[hst];simp only[q7b,q7o];rfl)⟩
  ·obtain rfl:j=at_.length:=by omega
   conv=>whnf
   repeat' (first|((first|(refine iM fun _=>?_)|refine dA ?_|refine q7p rfl ?_|refine aD ?_|refine aR ?_|refine bP ?_|(refine iA fun _=>?_)|refine IdxK.xs (by omega) ?_|refine QX (by omega) ?_|(refine ByteK.at (by omega) ?_)|refine wI ?_);conv=>whnf)|(apply bD<;>intro _<;>first|omega|conv=>whnf)|(apply bE<;>intro _<;>first|omega|conv=>whnf)|(apply bN<;>intro _<;>conv=>whnf)|(apply bB<;>intro _<;>conv=>whnf))
   refine LoopK.inv QK (fun q:Nat=>⟨[(2,.p (.sl (avP steps))),(3,.p (.sl (at_.map fun a=>.int .i64 (a:Nat)))),(9,.p (.int .i64 n)),(10,.hd 1 0 n),(11,.hd 0 0 n),(12,.p (QA (NN at_.length))),(42,.p (.sl (at_.map fun a=>.int .i64 (a:Nat)))),(43,.p (.int .i64 (at_.map fun a=>AV.int .i64 (a:Nat)).length)),(44,.p (.int .i64 q))],[(1,.own 29 1 ((gnC n at_ q).map eN)),(0,.own 29 1 ((klC n at_ q).map eN))]⟩) (fun q=>q<=at_.length) (fun q=>at_.length-q) 0
    (by
      obtain⟨s',rfl,hle⟩:=Le.row (N:=Tryz.f98.ntmps) (s:=⟨[(2,.p (.sl (avP steps))),(3,.p (.sl (at_.map fun a=>.int .i64 (a:Nat)))),(9,.p (.int .i64 n)),(10,.hd 1 0 n),(11,.hd 0 0 n),(12,.hd 2 0 ((NN at_.length).map (AV.int .i64)).length),(42,.p (.sl (at_.map fun a=>.int .i64 (a:Nat)))),(43,.p (.int .i64 (at_.map fun a=>AV.int .i64 (a:Nat)).length)),(44,.p (.int .i64 0))],[(1,.own 29 1 (List.replicate n .nils)),(0,.own 29 1 (List.replicate n .nils)),(2,.own 3 1 ((NN at_.length).map (.int .i64)))]⟩) (k:=2) (e:=3) (sz:=1) (es:=(NN at_.length).map (.int .i64)) (zs:=[12]) rfl
       (K:=fun s=>s=⟨[(2,.p (.sl (avP steps))),(3,.p (.sl (at_.map fun a=>.int .i64 (a:Nat)))),(9,.p (.int .i64 n)),(10,.hd 1 0 n),(11,.hd 0 0 n),(12,.p (QA (NN at_.length))),(42,.p (.sl (at_.map fun a=>.int .i64 (a:Nat)))),(43,.p (.int .i64 (at_.map fun a=>AV.int .i64 (a:Nat)).length)),(44,.p (.int .i64 0))],[(1,.own 29 1 (List.replicate n .nils)),(0,.own 29 1 (List.replicate n .nils))]⟩) ⟨rfl,rfl⟩
      exact hle.trans (Le.of_eq (by rw[L9,Mc];rfl))) (q7c _) ?_
   intro q hq;have hgl:=FX n at_ q;have hkl:=FJ n at_ q;rcases q7e q at_.length with h2|h2
   ·have hgs:=Ij n at_ h2;have hks:=Im n at_ h2;have haq:=hat _ (q7i h2);obtain⟨a,hqa⟩ : ∃a,at_[q]=a:=⟨_,rfl⟩;rw[hqa]at hgs hks haq;generalize gnC n at_ q=gn at*
    generalize klC n at_ q=kl at*
    have eG:(gn.map eN)[a]?=some (eN (gn[a]'(by omega))):=by rw[q7l,q7g (by omega)];rfl
    have eK:(kl.map eN)[a]?=some (eN (kl[a]'(by omega))):=by rw[q7l,q7g (by omega)];rfl
    have hgm:(gn.map eN).length=n:=by rw[q7f,hgl]
    have hkm:(kl.map eN).length=n:=by rw[q7f,hkl]
    generalize gn[a]'(by omega)=o1 at eG;generalize kl[a]'(by omega)=o2 at eK;conv=>whnf
    repeat' (first|((first|(refine iM fun _=>?_)|refine dA ?_|refine q7p rfl ?_|refine aD ?_|refine aR ?_|refine bP ?_|(refine iA fun _=>?_)|refine IdxK.xs (by omega) ?_|refine QX (by omega) ?_|(refine ByteK.at (by omega) ?_)|refine wI ?_|refine q9x a (by rw[hqa]) (by omega) ?_|refine x0r a 0 (eN o1) (.sl [.int .i64 q]) (by omega) eG (q8z 1) (by unfold eN;split<;>rfl) ?_|refine x0r a 0 (eN o2) (QA (NN at_.length)) (by omega) eK (q8z 1) (by unfold eN;split<;>rfl) ?_);conv=>whnf)|(apply bD<;>intro _<;>first|omega|conv=>whnf)|(apply bE<;>intro _<;>first|omega|conv=>whnf)|(apply bN<;>intro _<;>conv=>whnf)|(apply bB<;>intro _<;>conv=>whnf))
    all_goals first
     |exact⟨q+1,h2,by omega,Le.of_eq (by rw[<-hgs,<-hks];rfl)⟩
   ·obtain rfl:q=at_.length:=by omega
    have hOf:=R5 n hn steps hl hs (gnC n at_ at_.length) (klC n at_ at_.length) hgl hkl at_.length hm (AT n at_ hm at_.length (q8z _)) (E6 n at_ hm at_.length);conv=>whnf
    repeat' (first|((first|(refine iM fun _=>?_)|refine dA ?_|refine q7p rfl ?_|refine aD ?_|refine aR ?_|refine bP ?_|(refine iA fun _=>?_)|refine IdxK.xs (by omega) ?_|refine QX (by omega) ?_|(refine ByteK.at (by omega) ?_)|refine wI ?_|(refine KY hOf (.cons (.p (Sub.refl _)) (.cons (.p (Sub.refl _)) (.cons (.sub (.hd rfl (by rw[q7f,FX])) (Sub.sl (MQ _))) (.cons (.sub (.hd rfl (by rw[q7f,FJ])) (Sub.sl (MQ _))) (.cons (.p (Sub.int (by rw[ham]))) .nil))))) ?_;rintro _ ⟨inn,tm,hin1,hin2,rfl⟩));conv=>whnf)|(apply bD<;>intro _<;>first|omega|conv=>whnf)|(apply bE<;>intro _<;>first|omega|conv=>whnf)|(apply bN<;>intro _<;>conv=>whnf)|(apply bB<;>intro _<;>conv=>whnf))
    all_goals first
     |exact⟨_,.p (Sub.refl _),inn,hin1,hin2,rfl⟩
     |refine KY hOf (.cons (.p (Sub.refl _)) (.cons (.p (Sub.refl _)) (.cons (.sub (.hd rfl (by rw[q7f,FX])) (Sub.sl (MQ _))) (.cons (.sub (.hd rfl (by rw[q7f,FJ])) (Sub.sl (MQ _))) (.cons (.p (Sub.int (by rw[ham]))) .nil))))) ?_
end Go.Ab
