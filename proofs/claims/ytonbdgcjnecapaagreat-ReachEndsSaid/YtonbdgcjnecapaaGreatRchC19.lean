/- give: to which places each of some places' facts come. -/
import Derived.Test.YtonbdgcjnecapaaGreatRchC17
import Derived.Test.YtonbdgcjnecapaaGreatRchC18
set_option linter.all false
set_option maxRecDepth 100000
set_option maxHeartbeats 16000000
namespace Go.Ab
open Go.Proofs.Tryz
open Go.Proofs
def eN(r:List Int):AV:=if r=[]then .nils else QI r
def LK(m:Nat):List Int:=(List.range m).map Int.ofNat
def gnC(n:Nat)(at_:List Nat):Nat->List (List Int)
 |0=>List.replicate n []
 |k+1=>(gnC n at_ k).set (at_.getD k 0) [(k:Int)]
def klC(n:Nat)(at_:List Nat):Nat->List (List Int)
 |0=>List.replicate n []
 |k+1=>(klC n at_ k).set (at_.getD k 0) (LK at_.length)
theorem DZ(n:Nat)(at_:List Nat):∀k,(gnC n at_ k).length=n
 |0=>by simp[gnC]
 |k+1=>by rw[gnC,x3g,DZ n at_ k]
theorem DK(n:Nat)(at_:List Nat):∀k,(klC n at_ k).length=n
 |0=>by simp[klC]
 |k+1=>by rw[klC,x3g,DK n at_ k]
def V3(m:Nat):(LK m).length=m:=by unfold LK;simp
def Bt(m:Nat):LK (m+1)=LK m++[(m:Int)]:=by unfold LK;rw[x4c,x0c];rfl
def EK{m:Nat}{f:Int}(h:f∈LK m):0<=f/\f<m:=by
 unfold LK at h;obtain⟨x,i,rfl⟩:=x0n.1 h;have:=x1a.1 i;exact⟨x5l _,by show(x:Int)<m;omega⟩
def q6k{r:List Int}(h:r≠[]):eN r=QI r:=if_neg h
theorem LT:∀l:List (List Int),SubE (l.map eN) ((avI l).map .sl)
 |[]=>.nil
 | r::l=>by
   refine .cons ?_ (LT l);unfold eN;split
   .rename_i h;subst h;exact SubL.cons Sub.nils SubL.nil
   .exact SubL.cons (Sub.refl _) SubL.nil
def Rt(n:Nat)(at_:List Nat):(gnC n at_ 0).map eN=List.replicate n .nils:=by rw[gnC,x3b];rfl
def RK(n:Nat)(at_:List Nat):(klC n at_ 0).map eN=List.replicate n .nils:=by rw[klC,x3b];rfl
def OV(n:Nat)(at_:List Nat){q:Nat}(h:q<at_.length):((gnC n at_ q).map eN).set at_[q] (.sl [.int .i64 q])=(gnC n at_ (q+1)).map eN:=by
 rw[gnC,x2y,x0y,x0u h];rfl
def OH(n:Nat)(at_:List Nat){q:Nat}(h:q<at_.length):((klC n at_ q).map eN).set at_[q] (QI (LK at_.length))=(klC n at_ (q+1)).map eN:=by
 rw[klC,x2y,x0y,x0u h,q6k (fun e=>by have:=V3 at_.length;rw[e]at this;simp at this;omega)];rfl
theorem I9(n:Nat)(at_:List Nat)(j:at_.length<=5000):∀k,k<=at_.length->∀r∈gnC n at_ k,r.length<=5000/\∀f∈r,0<=f/\f<(at_.length:Nat)
 | 0,_,r,hr=>by
   rw[gnC]at hr;rw[(x6j.1 hr).2];exact⟨by simp,fun f i=>by cases i⟩
 | k+1,hk,r,hr=>by
   rw[gnC]at hr;rcases x4j hr with h|h
   .exact I9 n at_ j k (by omega) r h
   .subst h;exact⟨by simp,fun f i=>by rw[x0b.1 i];omega⟩
theorem Il(n:Nat)(at_:List Nat)(j:at_.length<=5000):∀k,∀r∈klC n at_ k,r.length<=5000/\∀f∈r,0<=f/\f<(at_.length:Nat)
 | 0,r,hr=>by
   rw[klC]at hr;rw[(x6j.1 hr).2];exact⟨by simp,fun f i=>by cases i⟩
 | k+1,r,hr=>by
   rw[klC]at hr;rcases x4j hr with h|h
   .exact Il n at_ j k r h
   .subst h;exact⟨by rw[V3];exact j,fun f i=>EK i⟩
def ComR(n:Nat)(steps:List (Int×Int))(at_:List Nat)(r:AV):Prop:=∃R:List (List Wd),(∀b:Int,0<=b->b<n->∀f,f/64<at_.length/64+1->(bitW (R.getD b.toNat []) f=true↔SolP (QS n steps).1 ((gnC n at_ at_.length).map (HK (at_.length/64+1))) ((klC n at_ at_.length).map (HK (at_.length/64+1))) f b))/\R.length=n/\r=eMat (R.map fun row=>US row at_.length)
def Um(b:Book)(i:Nat)(w:Way)(O:b.ways[i]?=some w)(n:Nat)(L:n<=5000)(E:w.n=n)(steps:List (Int×Int))(J:steps.length<=1000000)(M:∀s∈steps,(0<=s.1/\s.1<n)/\0<=s.2/\s.2<n)(at_:List Nat)(D:∀a∈at_,a<n)(g:at_.length<=5000):SpecP prog 113 [.ip b.cells,.int .i64 i,.sl (avP steps),.sl (at_.map fun a=>.int .i64 (a:Nat))] (fun r=>ComR n steps at_ r):=by
 refine sB X8 func113 rfl call113 ?_;conv=>whnf
 have G:(b.ways.map fun w=>AV.ip w.cells)[i]?=some (.ip w.cells):=by rw[x0d,O];rfl
 have z:(at_.map fun a=>AV.int .i64 (a:Nat)).length=at_.length:=x0j _;repeat' (first|((first|(refine iM fun _=>?_)|refine dA ?_|refine x0h rfl ?_|refine aD ?_|refine aR ?_|refine bP ?_|(refine iA fun _=>?_)|refine IdxK.xs (by omega) ?_|refine QX (by omega) ?_|(refine ByteK.at (by omega) ?_)|refine wI ?_|(refine IdxK.at (k:=i) rfl G rfl ?_)|refine x5r n (by omega) (by show 24*_<=140737488355328;omega) (by unfold maxLen;omega) ?_);conv=>whnf)|(apply bD<;>intro _<;>first|omega|conv=>whnf)|(apply bE<;>intro _<;>first|omega|conv=>whnf)|(apply bN<;>intro _<;>conv=>whnf)|(apply bB<;>intro _<;>conv=>whnf)|(refine x0h ?_ ?_<;>conv=>whnf))
 .refine LoopK.inv QK (fun j:Nat=>⟨[(2,.p (.sl (avP steps))),(3,.p (.sl (at_.map fun a=>.int .i64 (a:Nat)))),(9,.p (.int .i64 n)),(10,.hd 0 0 n),(11,.hd 1 0 n),(12,.hd 2 0 ((LK j).map (AV.int .i64)).length),(33,.p (.int .i64 (at_.map fun a=>AV.int .i64 (a:Nat)).length)),(34,.p (.int .i64 j))],[(1,.own 54 1 (List.replicate n .nils)),(0,.own 54 1 (List.replicate n .nils)),(2,.own 3 1 ((LK j).map (.int .i64)))]⟩) (fun j=>j<=at_.length) (fun j=>at_.length-j) 0
   (Le.mk [(2,.own 3 1 [])] (by simp[Chunk.new0];rfl) (by simp) (by simp) (.r (.r (.cons (.of_eq (by rw[E];rfl)) (.r (.r (.cons (.nil x0k) (.r (.r .nil)))))))) (.cons rfl (.of_eq rfl) (.cons rfl (.of_eq rfl) (.new x0k .nil)))) (x0l _) ?_
  intro j P;have F:=V3 j;rcases x0t j at_.length with C|C
  .have f:=Bt j;generalize LK j=acc at*
   conv=>whnf
   repeat' (first|((first|(refine iM fun _=>?_)|refine dA ?_|refine x0h rfl ?_|refine aD ?_|refine aR ?_|refine bP ?_|(refine iA fun _=>?_)|refine IdxK.xs (by omega) ?_|refine QX (by omega) ?_|(refine ByteK.at (by omega) ?_)|refine wI ?_|refine XU (by simp) (by simp;omega) ?_);conv=>whnf)|(apply bD<;>intro _<;>first|omega|conv=>whnf)|(apply bE<;>intro _<;>first|omega|conv=>whnf)|(apply bN<;>intro _<;>conv=>whnf)|(apply bB<;>intro _<;>conv=>whnf))
   all_goals first
    |exact⟨j+1,C,by omega,Le.of_eq (by rw[f];simp only[x0g,x0c];rfl)⟩
  .obtain rfl:j=at_.length:=by omega
   conv=>whnf
   repeat' (first|((first|(refine iM fun _=>?_)|refine dA ?_|refine x0h rfl ?_|refine aD ?_|refine aR ?_|refine bP ?_|(refine iA fun _=>?_)|refine IdxK.xs (by omega) ?_|refine QX (by omega) ?_|(refine ByteK.at (by omega) ?_)|refine wI ?_);conv=>whnf)|(apply bD<;>intro _<;>first|omega|conv=>whnf)|(apply bE<;>intro _<;>first|omega|conv=>whnf)|(apply bN<;>intro _<;>conv=>whnf)|(apply bB<;>intro _<;>conv=>whnf))
   refine LoopK.inv QK (fun q:Nat=>⟨[(2,.p (.sl (avP steps))),(3,.p (.sl (at_.map fun a=>.int .i64 (a:Nat)))),(9,.p (.int .i64 n)),(10,.hd 0 0 n),(11,.hd 1 0 n),(12,.p (QI (LK at_.length))),(42,.p (.sl (at_.map fun a=>.int .i64 (a:Nat)))),(43,.p (.int .i64 (at_.map fun a=>AV.int .i64 (a:Nat)).length)),(44,.p (.int .i64 q))],[(1,.own 54 1 ((klC n at_ q).map eN)),(0,.own 54 1 ((gnC n at_ q).map eN))]⟩) (fun q=>q<=at_.length) (fun q=>at_.length-q) 0
    (by
      obtain⟨s',rfl,d⟩:=Le.row (N:=Tryz.f113.ntmps) (s:=⟨[(2,.p (.sl (avP steps))),(3,.p (.sl (at_.map fun a=>.int .i64 (a:Nat)))),(9,.p (.int .i64 n)),(10,.hd 0 0 n),(11,.hd 1 0 n),(12,.hd 2 0 ((LK at_.length).map (AV.int .i64)).length),(42,.p (.sl (at_.map fun a=>.int .i64 (a:Nat)))),(43,.p (.int .i64 (at_.map fun a=>AV.int .i64 (a:Nat)).length)),(44,.p (.int .i64 0))],[(1,.own 54 1 (List.replicate n .nils)),(0,.own 54 1 (List.replicate n .nils)),(2,.own 3 1 ((LK at_.length).map (.int .i64)))]⟩) (k:=2) (e:=3) (sz:=1) (es:=(LK at_.length).map (.int .i64)) (zs:=[12]) rfl
       (K:=fun s=>s=⟨[(2,.p (.sl (avP steps))),(3,.p (.sl (at_.map fun a=>.int .i64 (a:Nat)))),(9,.p (.int .i64 n)),(10,.hd 0 0 n),(11,.hd 1 0 n),(12,.p (QI (LK at_.length))),(42,.p (.sl (at_.map fun a=>.int .i64 (a:Nat)))),(43,.p (.int .i64 (at_.map fun a=>AV.int .i64 (a:Nat)).length)),(44,.p (.int .i64 0))],[(1,.own 54 1 (List.replicate n .nils)),(0,.own 54 1 (List.replicate n .nils))]⟩) ⟨rfl,rfl⟩
      exact d.trans (Le.of_eq (by rw[RK,Rt];rfl))) (x0l _) ?_
   intro q Q;have m:=DZ n at_ q;have v:=DK n at_ q;rcases x0t q at_.length with h|h
   .have o:=OV n at_ h;have x:=OH n at_ h;have c:=D _ (x0s h);obtain⟨a,y⟩ : ∃a,at_[q]=a:=⟨_,rfl⟩;rw[y]at o x c;generalize gnC n at_ q=gn at*
    generalize klC n at_ q=kl at*
    have A:(gn.map eN)[a]?=some (eN (gn[a]'(by omega))):=by rw[x0d,x0u (by omega)];rfl
    have B:(kl.map eN)[a]?=some (eN (kl[a]'(by omega))):=by rw[x0d,x0u (by omega)];rfl
    have H:(gn.map eN).length=n:=by rw[x0j,m]
    have I:(kl.map eN).length=n:=by rw[x0j,v]
    generalize gn[a]'(by omega)=o1 at A;generalize kl[a]'(by omega)=o2 at B;conv=>whnf
    repeat' (first|((first|(refine iM fun _=>?_)|refine dA ?_|refine x0h rfl ?_|refine aD ?_|refine aR ?_|refine bP ?_|(refine iA fun _=>?_)|refine IdxK.xs (by omega) ?_|refine QX (by omega) ?_|(refine ByteK.at (by omega) ?_)|refine wI ?_|refine x1i a (by rw[y]) (by omega) ?_|refine x3p a 0 (eN o1) (.sl [.int .i64 q]) (by omega) A (x0o 1) (by unfold eN;split<;>rfl) ?_|refine x3p a 0 (eN o2) (QI (LK at_.length)) (by omega) B (x0o 1) (by unfold eN;split<;>rfl) ?_);conv=>whnf)|(apply bD<;>intro _<;>first|omega|conv=>whnf)|(apply bE<;>intro _<;>first|omega|conv=>whnf)|(apply bN<;>intro _<;>conv=>whnf)|(apply bB<;>intro _<;>conv=>whnf))
    all_goals first
     |exact⟨q+1,h,by omega,Le.of_eq (by rw[<-o,<-x];rfl)⟩
   .obtain rfl:q=at_.length:=by omega
    have l:=Tx n L steps J M (gnC n at_ at_.length) (klC n at_ at_.length) m v at_.length g (I9 n at_ g at_.length (x0o _)) (Il n at_ g at_.length);conv=>whnf
    repeat' (first|((first|(refine iM fun _=>?_)|refine dA ?_|refine x0h rfl ?_|refine aD ?_|refine aR ?_|refine bP ?_|(refine iA fun _=>?_)|refine IdxK.xs (by omega) ?_|refine QX (by omega) ?_|(refine ByteK.at (by omega) ?_)|refine wI ?_|(refine DA l (.cons (.p (Sub.refl _)) (.cons (.p (Sub.refl _)) (.cons (.sub (.hd rfl (by rw[x0j,DZ])) (Sub.sl (LT _))) (.cons (.sub (.hd rfl (by rw[x0j,DK])) (Sub.sl (LT _))) (.cons (.p (Sub.int (by rw[z]))) .nil))))) ?_;rintro _ ⟨R,T,t,u,rfl⟩));conv=>whnf)|(apply bD<;>intro _<;>first|omega|conv=>whnf)|(apply bE<;>intro _<;>first|omega|conv=>whnf)|(apply bN<;>intro _<;>conv=>whnf)|(apply bB<;>intro _<;>conv=>whnf))
    all_goals first
     |exact⟨_,.p (Sub.refl _),R,t,u,rfl⟩
     |refine DA l (.cons (.p (Sub.refl _)) (.cons (.p (Sub.refl _)) (.cons (.sub (.hd rfl (by rw[x0j,DZ])) (Sub.sl (LT _))) (.cons (.sub (.hd rfl (by rw[x0j,DK])) (Sub.sl (LT _))) (.cons (.p (Sub.int (by rw[z]))) .nil))))) ?_
 .refine LoopK.inv QK (fun j:Nat=>⟨[(2,.p (.sl (avP steps))),(3,.p (.sl (at_.map fun a=>.int .i64 (a:Nat)))),(9,.p (.int .i64 n)),(10,.hd 1 0 n),(11,.hd 0 0 n),(12,.hd 2 0 ((LK j).map (AV.int .i64)).length),(33,.p (.int .i64 (at_.map fun a=>AV.int .i64 (a:Nat)).length)),(34,.p (.int .i64 j))],[(1,.own 54 1 (List.replicate n .nils)),(0,.own 54 1 (List.replicate n .nils)),(2,.own 3 1 ((LK j).map (.int .i64)))]⟩) (fun j=>j<=at_.length) (fun j=>at_.length-j) 0
   (Le.mk [(2,.own 3 1 [])] (by simp[Chunk.new0];rfl) (by simp) (by simp) (.r (.r (.cons (.of_eq (by rw[E];rfl)) (.r (.r (.cons (.nil x0k) (.r (.r .nil)))))))) (.cons rfl (.of_eq rfl) (.cons rfl (.of_eq rfl) (.new x0k .nil)))) (x0l _) ?_
  intro j P;have F:=V3 j;rcases x0t j at_.length with C|C
  .have f:=Bt j;generalize LK j=acc at*
   conv=>whnf
   repeat' (first|((first|(refine iM fun _=>?_)|refine dA ?_|refine x0h rfl ?_|refine aD ?_|refine aR ?_|refine bP ?_|(refine iA fun _=>?_)|refine IdxK.xs (by omega) ?_|refine QX (by omega) ?_|(refine ByteK.at (by omega) ?_)|refine wI ?_|refine XU (by simp) (by simp;omega) ?_);conv=>whnf)|(apply bD<;>intro _<;>first|omega|conv=>whnf)|(apply bE<;>intro _<;>first|omega|conv=>whnf)|(apply bN<;>intro _<;>conv=>whnf)|(apply bB<;>intro _<;>conv=>whnf))
   all_goals first
    |exact⟨j+1,C,by omega,Le.of_eq (by rw[f];simp only[x0g,x0c];rfl)⟩
  .obtain rfl:j=at_.length:=by omega
   conv=>whnf
   repeat' (first|((first|(refine iM fun _=>?_)|refine dA ?_|refine x0h rfl ?_|refine aD ?_|refine aR ?_|refine bP ?_|(refine iA fun _=>?_)|refine IdxK.xs (by omega) ?_|refine QX (by omega) ?_|(refine ByteK.at (by omega) ?_)|refine wI ?_);conv=>whnf)|(apply bD<;>intro _<;>first|omega|conv=>whnf)|(apply bE<;>intro _<;>first|omega|conv=>whnf)|(apply bN<;>intro _<;>conv=>whnf)|(apply bB<;>intro _<;>conv=>whnf))
   refine LoopK.inv QK (fun q:Nat=>⟨[(2,.p (.sl (avP steps))),(3,.p (.sl (at_.map fun a=>.int .i64 (a:Nat)))),(9,.p (.int .i64 n)),(10,.hd 1 0 n),(11,.hd 0 0 n),(12,.p (QI (LK at_.length))),(42,.p (.sl (at_.map fun a=>.int .i64 (a:Nat)))),(43,.p (.int .i64 (at_.map fun a=>AV.int .i64 (a:Nat)).length)),(44,.p (.int .i64 q))],[(1,.own 54 1 ((gnC n at_ q).map eN)),(0,.own 54 1 ((klC n at_ q).map eN))]⟩) (fun q=>q<=at_.length) (fun q=>at_.length-q) 0
    (by
      obtain⟨s',rfl,d⟩:=Le.row (N:=Tryz.f113.ntmps) (s:=⟨[(2,.p (.sl (avP steps))),(3,.p (.sl (at_.map fun a=>.int .i64 (a:Nat)))),(9,.p (.int .i64 n)),(10,.hd 1 0 n),(11,.hd 0 0 n),(12,.hd 2 0 ((LK at_.length).map (AV.int .i64)).length),(42,.p (.sl (at_.map fun a=>.int .i64 (a:Nat)))),(43,.p (.int .i64 (at_.map fun a=>AV.int .i64 (a:Nat)).length)),(44,.p (.int .i64 0))],[(1,.own 54 1 (List.replicate n .nils)),(0,.own 54 1 (List.replicate n .nils)),(2,.own 3 1 ((LK at_.length).map (.int .i64)))]⟩) (k:=2) (e:=3) (sz:=1) (es:=(LK at_.length).map (.int .i64)) (zs:=[12]) rfl
       (K:=fun s=>s=⟨[(2,.p (.sl (avP steps))),(3,.p (.sl (at_.map fun a=>.int .i64 (a:Nat)))),(9,.p (.int .i64 n)),(10,.hd 1 0 n),(11,.hd 0 0 n),(12,.p (QI (LK at_.length))),(42,.p (.sl (at_.map fun a=>.int .i64 (a:Nat)))),(43,.p (.int .i64 (at_.map fun a=>AV.int .i64 (a:Nat)).length)),(44,.p (.int .i64 0))],[(1,.own 54 1 (List.replicate n .nils)),(0,.own 54 1 (List.replicate n .nils))]⟩) ⟨rfl,rfl⟩
      exact d.trans (Le.of_eq (by rw[RK,Rt];rfl))) (x0l _) ?_
   intro q Q;have m:=DZ n at_ q;have v:=DK n at_ q;rcases x0t q at_.length with h|h
   .have o:=OV n at_ h;have x:=OH n at_ h;have c:=D _ (x0s h);obtain⟨a,y⟩ : ∃a,at_[q]=a:=⟨_,rfl⟩;rw[y]at o x c;generalize gnC n at_ q=gn at*
    generalize klC n at_ q=kl at*
    have A:(gn.map eN)[a]?=some (eN (gn[a]'(by omega))):=by rw[x0d,x0u (by omega)];rfl
    have B:(kl.map eN)[a]?=some (eN (kl[a]'(by omega))):=by rw[x0d,x0u (by omega)];rfl
    have H:(gn.map eN).length=n:=by rw[x0j,m]
    have I:(kl.map eN).length=n:=by rw[x0j,v]
    generalize gn[a]'(by omega)=o1 at A;generalize kl[a]'(by omega)=o2 at B;conv=>whnf
    repeat' (first|((first|(refine iM fun _=>?_)|refine dA ?_|refine x0h rfl ?_|refine aD ?_|refine aR ?_|refine bP ?_|(refine iA fun _=>?_)|refine IdxK.xs (by omega) ?_|refine QX (by omega) ?_|(refine ByteK.at (by omega) ?_)|refine wI ?_|refine x1i a (by rw[y]) (by omega) ?_|refine x3p a 0 (eN o1) (.sl [.int .i64 q]) (by omega) A (x0o 1) (by unfold eN;split<;>rfl) ?_|refine x3p a 0 (eN o2) (QI (LK at_.length)) (by omega) B (x0o 1) (by unfold eN;split<;>rfl) ?_);conv=>whnf)|(apply bD<;>intro _<;>first|omega|conv=>whnf)|(apply bE<;>intro _<;>first|omega|conv=>whnf)|(apply bN<;>intro _<;>conv=>whnf)|(apply bB<;>intro _<;>conv=>whnf))
    all_goals first
     |exact⟨q+1,h,by omega,Le.of_eq (by rw[<-o,<-x];rfl)⟩
   .obtain rfl:q=at_.length:=by omega
    have l:=Tx n L steps J M (gnC n at_ at_.length) (klC n at_ at_.length) m v at_.length g (I9 n at_ g at_.length (x0o _)) (Il n at_ g at_.length);conv=>whnf
    repeat' (first|((first|(refine iM fun _=>?_)|refine dA ?_|refine x0h rfl ?_|refine aD ?_|refine aR ?_|refine bP ?_|(refine iA fun _=>?_)|refine IdxK.xs (by omega) ?_|refine QX (by omega) ?_|(refine ByteK.at (by omega) ?_)|refine wI ?_|(refine DA l (.cons (.p (Sub.refl _)) (.cons (.p (Sub.refl _)) (.cons (.sub (.hd rfl (by rw[x0j,DZ])) (Sub.sl (LT _))) (.cons (.sub (.hd rfl (by rw[x0j,DK])) (Sub.sl (LT _))) (.cons (.p (Sub.int (by rw[z]))) .nil))))) ?_;rintro _ ⟨R,T,t,u,rfl⟩));conv=>whnf)|(apply bD<;>intro _<;>first|omega|conv=>whnf)|(apply bE<;>intro _<;>first|omega|conv=>whnf)|(apply bN<;>intro _<;>conv=>whnf)|(apply bB<;>intro _<;>conv=>whnf))
    all_goals first
     |exact⟨_,.p (Sub.refl _),R,t,u,rfl⟩
     |refine DA l (.cons (.p (Sub.refl _)) (.cons (.p (Sub.refl _)) (.cons (.sub (.hd rfl (by rw[x0j,DZ])) (Sub.sl (LT _))) (.cons (.sub (.hd rfl (by rw[x0j,DK])) (Sub.sl (LT _))) (.cons (.p (Sub.int (by rw[z]))) .nil))))) ?_
end Go.Ab
