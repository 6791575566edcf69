/- give: to which places each of some places' facts come. -/
import Derived.Test.YtgljdhjopolmcaaGreatRcA22
set_option linter.all false
set_option maxRecDepth 100000
set_option maxHeartbeats 16000000
namespace Go.Ab
open Go.Proofs.Tryz
open Go.Proofs
def eN(r:List Int):AV:=if r=[]then .nils else QG r
def Wg(m:Nat):List Int:=(List.range m).map Int.ofNat
def gnC(n:Nat)(at_:List Nat):Nat->List (List Int)
 |0=>List.replicate n []
 |k+1=>(gnC n at_ k).set (at_.getD k 0) [(k:Int)]
def klC(n:Nat)(at_:List Nat):Nat->List (List Int)
 |0=>List.replicate n []
 |k+1=>(klC n at_ k).set (at_.getD k 0) (Wg at_.length)
theorem MS(n:Nat)(at_:List Nat):∀k,(gnC n at_ k).length=n
 |0=>by simp[gnC]
 |k+1=>by rw[gnC,z3e,MS n at_ k]
theorem MO(n:Nat)(at_:List Nat):∀k,(klC n at_ k).length=n
 |0=>by simp[klC]
 |k+1=>by rw[klC,z3e,MO n at_ k]
def Kl(m:Nat):(Wg m).length=m:=by unfold Wg;simp
def RB(m:Nat):Wg (m+1)=Wg m++[(m:Int)]:=by unfold Wg;rw[z5m,z1v];rfl
def q3w{m:Nat}{f:Int}(h:f∈Wg m):0<=f/\f<m:=by
 unfold Wg at h;obtain⟨x,i,rfl⟩:=z1z.1 h;have:=z2h.1 i;exact⟨z6r _,by show(x:Int)<m;omega⟩
def x6u{r:List Int}(h:r≠[]):eN r=QG r:=if_neg h
theorem Wa:∀l:List (List Int),SubE (l.map eN) ((avI l).map .sl)
 |[]=>.nil
 | r::l=>by
   refine .cons ?_ (Wa l);unfold eN;split
   .rename_i h;subst h;exact SubL.cons Sub.nils SubL.nil
   .exact SubL.cons (Sub.refl _) SubL.nil
def CE(n:Nat)(at_:List Nat):(gnC n at_ 0).map eN=List.replicate n .nils:=by rw[gnC,z4y];rfl
def A9(n:Nat)(at_:List Nat):(klC n at_ 0).map eN=List.replicate n .nils:=by rw[klC,z4y];rfl
def q8x(n:Nat)(at_:List Nat){q:Nat}(h:q<at_.length):((gnC n at_ q).map eN).set at_[q] (.sl [.int .i64 q])=(gnC n at_ (q+1)).map eN:=by
 rw[gnC,z3w,z0a,z0c h];rfl
def q8g(n:Nat)(at_:List Nat){q:Nat}(h:q<at_.length):((klC n at_ q).map eN).set at_[q] (QG (Wg at_.length))=(klC n at_ (q+1)).map eN:=by
 rw[klC,z3w,z0a,z0c h,x6u (fun e=>by have:=Kl at_.length;rw[e]at this;simp at this;omega)];rfl
theorem q4j(n:Nat)(at_:List Nat)(j:at_.length<=5000):∀k,k<=at_.length->∀r∈gnC n at_ k,r.length<=5000/\∀f∈r,0<=f/\f<(at_.length:Nat)
 | 0,_,r,hr=>by
   rw[gnC]at hr;rw[(z7p.1 hr).2];exact⟨by simp,fun f i=>by cases i⟩
 | k+1,hk,r,hr=>by
   rw[gnC]at hr;rcases z4t hr with h|h
   .exact q4j n at_ j k (by omega) r h
   .subst h;exact⟨by simp,fun f i=>by rw[z0i.1 i];omega⟩
theorem q5v(n:Nat)(at_:List Nat)(j:at_.length<=5000):∀k,∀r∈klC n at_ k,r.length<=5000/\∀f∈r,0<=f/\f<(at_.length:Nat)
 | 0,r,hr=>by
   rw[klC]at hr;rw[(z7p.1 hr).2];exact⟨by simp,fun f i=>by cases i⟩
 | k+1,r,hr=>by
   rw[klC]at hr;rcases z4t hr with h|h
   .exact q5v n at_ j k r h
   .subst h;exact⟨by rw[Kl];exact j,fun f i=>q3w i⟩
def ComR(n:Nat)(steps:List (Int×Int))(at_:List Nat)(r:AV):Prop:=∃O:List (List Wd),(∀b:Int,0<=b->b<n->∀f,f/64<at_.length/64+1->(bitW (O.getD b.toNat []) f=true↔SolP (QE n steps).1 ((gnC n at_ at_.length).map (PN (at_.length/64+1))) ((klC n at_ at_.length).map (PN (at_.length/64+1))) f b))/\O.length=n/\r=eMat (O.map fun row=>KF row at_.length)
def Fz(b:Book)(i:Nat)(w:Way)(P:b.ways[i]?=some w)(n:Nat)(L:n<=5000)(E:w.n=n)(steps:List (Int×Int))(J:steps.length<=1000000)(M:∀s∈steps,(0<=s.1/\s.1<n)/\0<=s.2/\s.2<n)(at_:List Nat)(D:∀a∈at_,a<n)(g:at_.length<=5000):SpecP prog 89 [.ip b.cells,.int .i64 i,.sl (avP steps),.sl (at_.map fun a=>.int .i64 (a:Nat))] (fun r=>ComR n steps at_ r):=by
 refine sC Us func89 ?_;conv=>whnf
 have G:(b.ways.map fun w=>AV.ip w.cells)[i]?=some (.ip w.cells):=by rw[z1u,P];rfl
 have z:(at_.map fun a=>AV.int .i64 (a:Nat)).length=at_.length:=z0s _;repeat' ((first|(refine iM fun _=>?_)|refine dA ?_|refine aR ?_|refine iT G ?_|refine z6t n (by omega) (by show 24*_<=140737488355328;omega) (by unfold maxLen;omega) ?_|refine z1s ?_ ?_)<;>conv=>whnf)
 .refine lJ (fun j:Nat=>⟨[(2,.p (.sl (avP steps))),(3,.p (.sl (at_.map fun a=>.int .i64 (a:Nat)))),(9,.j n),(10,.hd 0 0 n),(11,.hd 1 0 n),(12,.hd 2 0 ((Wg j).map (AV.int .i64)).length),(33,.p (.int .i64 (at_.map fun a=>AV.int .i64 (a:Nat)).length)),(34,.j j)],[(1,.own 54 1 (List.replicate n .nils)),(0,.own 54 1 (List.replicate n .nils)),(2,.own 3 1 ((Wg j).map (.int .i64)))]⟩) (fun j=>j<=at_.length) (fun j=>at_.length-j) 0 (lM [(2,.own 3 1 [])] (hsl:=.r (.r (.cons (.of_eq (by rw[E];rfl)) (.r (.r (.cons (.nil z1j) (.r (.r .nil)))))))) (hH:=.cons rfl (.of_eq rfl) (.cons rfl (.of_eq rfl) (.new z1j .nil)))) (z1q _) ?_;intro j Q;have F:=Kl j;rcases z1w j at_.length with C|C
  .have f:=RB j;generalize Wg j=acc at*
   conv=>whnf
   repeat' ((first|refine gX ?_|refine pI ?_|(apply bD<;>intro _<;>try omega))<;>conv=>whnf)
   all_goals first
    |exact⟨j+1,C,by omega,Le.of_eq (by rw[f];simp only[z0e,z1v];rfl)⟩
  .obtain rfl:j=at_.length:=by omega
   conv=>whnf
   repeat' ((first|(refine iM fun _=>?_)|(apply bD<;>intro _<;>try omega))<;>conv=>whnf)
   refine lJ (fun q:Nat=>⟨[(2,.p (.sl (avP steps))),(3,.p (.sl (at_.map fun a=>.int .i64 (a:Nat)))),(9,.j n),(10,.hd 0 0 n),(11,.hd 1 0 n),(12,.p (QG (Wg at_.length))),(42,.p (.sl (at_.map fun a=>.int .i64 (a:Nat)))),(43,.p (.int .i64 (at_.map fun a=>AV.int .i64 (a:Nat)).length)),(44,.j q)],[(1,.own 54 1 ((klC n at_ q).map eN)),(0,.own 54 1 ((gnC n at_ q).map eN))]⟩) (fun q=>q<=at_.length) (fun q=>at_.length-q) 0 (by
     obtain⟨s',rfl,d⟩:=Le.row (N:=Tryz.f89.ntmps) (s:=⟨[(2,.p (.sl (avP steps))),(3,.p (.sl (at_.map fun a=>.int .i64 (a:Nat)))),(9,.j n),(10,.hd 0 0 n),(11,.hd 1 0 n),(12,.hd 2 0 ((Wg at_.length).map (AV.int .i64)).length),(42,.p (.sl (at_.map fun a=>.int .i64 (a:Nat)))),(43,.p (.int .i64 (at_.map fun a=>AV.int .i64 (a:Nat)).length)),(44,.j 0)],[(1,.own 54 1 (List.replicate n .nils)),(0,.own 54 1 (List.replicate n .nils)),(2,.own 3 1 ((Wg at_.length).map (.int .i64)))]⟩) (k:=2) (e:=3) (sz:=1) (es:=(Wg at_.length).map (.int .i64)) (zs:=[12]) rfl
      (K:=fun s=>s=⟨[(2,.p (.sl (avP steps))),(3,.p (.sl (at_.map fun a=>.int .i64 (a:Nat)))),(9,.j n),(10,.hd 0 0 n),(11,.hd 1 0 n),(12,.p (QG (Wg at_.length))),(42,.p (.sl (at_.map fun a=>.int .i64 (a:Nat)))),(43,.p (.int .i64 (at_.map fun a=>AV.int .i64 (a:Nat)).length)),(44,.j 0)],[(1,.own 54 1 (List.replicate n .nils)),(0,.own 54 1 (List.replicate n .nils))]⟩) ⟨rfl,rfl⟩
     exact d.trans (Le.of_eq (by rw[A9,CE];rfl))) (z1q _) ?_
   intro q R;have m:=MS n at_ q;have v:=MO n at_ q;rcases z1w q at_.length with h|h
   .have o:=q8x n at_ h;have x:=q8g n at_ h;have c:=D _ (z1h h);obtain⟨a,y⟩ : ∃a,at_[q]=a:=⟨_,rfl⟩;rw[y]at o x c;generalize gnC n at_ q=gn at*
    generalize klC n at_ q=kl at*
    have A:(gn.map eN)[a]?=some (eN (gn[a]'(by omega))):=by rw[z1u,z0c (by omega)];rfl
    have B:(kl.map eN)[a]?=some (eN (kl[a]'(by omega))):=by rw[z1u,z0c (by omega)];rfl
    have H:(gn.map eN).length=n:=by rw[z0s,m]
    have I:(kl.map eN).length=n:=by rw[z0s,v]
    generalize gn[a]'(by omega)=o1 at A;generalize kl[a]'(by omega)=o2 at B;conv=>whnf
    repeat' ((first|(refine gX ?_;intros)|refine z4u a (by rw[y]) (by omega) ?_|refine z6g a 0 (eN o1) (.sl [.int .i64 q]) (by omega) A (z1l 1) (by unfold eN;split<;>rfl) ?_|refine z6g a 0 (eN o2) (QG (Wg at_.length)) (by omega) B (z1l 1) (by unfold eN;split<;>rfl) ?_|(apply bD<;>intro _<;>try omega))<;>conv=>whnf)
    all_goals first
     |exact⟨q+1,h,by omega,Le.of_eq (by rw[<-o,<-x];rfl)⟩
   .obtain rfl:q=at_.length:=by omega
    have l:=AJ n L steps J M (gnC n at_ at_.length) (klC n at_ at_.length) m v at_.length g (q4j n at_ g at_.length (z1l _)) (q5v n at_ g at_.length);conv=>whnf
    repeat' ((first|(refine gX ?_;intros)|(refine XG l (.cons (.p (Sub.refl _)) (.cons (.p (Sub.refl _)) (.cons (.sub (.hd rfl (by rw[z0s,MS])) (Sub.sl (Wa _))) (.cons (.sub (.hd rfl (by rw[z0s,MO])) (Sub.sl (Wa _))) (.cons (.p (Sub.int (by rw[z]))) .nil))))) ?_;rintro _ ⟨O,T,t,u,rfl⟩)|(apply bD<;>intro _<;>try omega))<;>conv=>whnf)
    all_goals first
     |exact⟨_,.p (Sub.refl _),O,t,u,rfl⟩
     |refine XG l (.cons (.p (Sub.refl _)) (.cons (.p (Sub.refl _)) (.cons (.sub (.hd rfl (by rw[z0s,MS])) (Sub.sl (Wa _))) (.cons (.sub (.hd rfl (by rw[z0s,MO])) (Sub.sl (Wa _))) (.cons (.p (Sub.int (by rw[z]))) .nil))))) ?_
 .refine lJ (fun j:Nat=>⟨[(2,.p (.sl (avP steps))),(3,.p (.sl (at_.map fun a=>.int .i64 (a:Nat)))),(9,.j n),(10,.hd 1 0 n),(11,.hd 0 0 n),(12,.hd 2 0 ((Wg j).map (AV.int .i64)).length),(33,.p (.int .i64 (at_.map fun a=>AV.int .i64 (a:Nat)).length)),(34,.j j)],[(1,.own 54 1 (List.replicate n .nils)),(0,.own 54 1 (List.replicate n .nils)),(2,.own 3 1 ((Wg j).map (.int .i64)))]⟩) (fun j=>j<=at_.length) (fun j=>at_.length-j) 0 (lM [(2,.own 3 1 [])] (hsl:=.r (.r (.cons (.of_eq (by rw[E];rfl)) (.r (.r (.cons (.nil z1j) (.r (.r .nil)))))))) (hH:=.cons rfl (.of_eq rfl) (.cons rfl (.of_eq rfl) (.new z1j .nil)))) (z1q _) ?_;intro j Q;have F:=Kl j;rcases z1w j at_.length with C|C
  .have f:=RB j;generalize Wg j=acc at*
   conv=>whnf
   repeat' ((first|refine gX ?_|refine pI ?_|(apply bD<;>intro _<;>try omega))<;>conv=>whnf)
   all_goals first
    |exact⟨j+1,C,by omega,Le.of_eq (by rw[f];simp only[z0e,z1v];rfl)⟩
  .obtain rfl:j=at_.length:=by omega
   conv=>whnf
   repeat' ((first|(refine iM fun _=>?_)|(apply bD<;>intro _<;>try omega))<;>conv=>whnf)
   refine lJ (fun q:Nat=>⟨[(2,.p (.sl (avP steps))),(3,.p (.sl (at_.map fun a=>.int .i64 (a:Nat)))),(9,.j n),(10,.hd 1 0 n),(11,.hd 0 0 n),(12,.p (QG (Wg at_.length))),(42,.p (.sl (at_.map fun a=>.int .i64 (a:Nat)))),(43,.p (.int .i64 (at_.map fun a=>AV.int .i64 (a:Nat)).length)),(44,.j q)],[(1,.own 54 1 ((gnC n at_ q).map eN)),(0,.own 54 1 ((klC n at_ q).map eN))]⟩) (fun q=>q<=at_.length) (fun q=>at_.length-q) 0 (by
     obtain⟨s',rfl,d⟩:=Le.row (N:=Tryz.f89.ntmps) (s:=⟨[(2,.p (.sl (avP steps))),(3,.p (.sl (at_.map fun a=>.int .i64 (a:Nat)))),(9,.j n),(10,.hd 1 0 n),(11,.hd 0 0 n),(12,.hd 2 0 ((Wg at_.length).map (AV.int .i64)).length),(42,.p (.sl (at_.map fun a=>.int .i64 (a:Nat)))),(43,.p (.int .i64 (at_.map fun a=>AV.int .i64 (a:Nat)).length)),(44,.j 0)],[(1,.own 54 1 (List.replicate n .nils)),(0,.own 54 1 (List.replicate n .nils)),(2,.own 3 1 ((Wg at_.length).map (.int .i64)))]⟩) (k:=2) (e:=3) (sz:=1) (es:=(Wg at_.length).map (.int .i64)) (zs:=[12]) rfl
      (K:=fun s=>s=⟨[(2,.p (.sl (avP steps))),(3,.p (.sl (at_.map fun a=>.int .i64 (a:Nat)))),(9,.j n),(10,.hd 1 0 n),(11,.hd 0 0 n),(12,.p (QG (Wg at_.length))),(42,.p (.sl (at_.map fun a=>.int .i64 (a:Nat)))),(43,.p (.int .i64 (at_.map fun a=>AV.int .i64 (a:Nat)).length)),(44,.j 0)],[(1,.own 54 1 (List.replicate n .nils)),(0,.own 54 1 (List.replicate n .nils))]⟩) ⟨rfl,rfl⟩
     exact d.trans (Le.of_eq (by rw[A9,CE];rfl))) (z1q _) ?_
   intro q R;have m:=MS n at_ q;have v:=MO n at_ q;rcases z1w q at_.length with h|h
   .have o:=q8x n at_ h;have x:=q8g n at_ h;have c:=D _ (z1h h);obtain⟨a,y⟩ : ∃a,at_[q]=a:=⟨_,rfl⟩;rw[y]at o x c;generalize gnC n at_ q=gn at*
    generalize klC n at_ q=kl at*
    have A:(gn.map eN)[a]?=some (eN (gn[a]'(by omega))):=by rw[z1u,z0c (by omega)];rfl
    have B:(kl.map eN)[a]?=some (eN (kl[a]'(by omega))):=by rw[z1u,z0c (by omega)];rfl
    have H:(gn.map eN).length=n:=by rw[z0s,m]
    have I:(kl.map eN).length=n:=by rw[z0s,v]
    generalize gn[a]'(by omega)=o1 at A;generalize kl[a]'(by omega)=o2 at B;conv=>whnf
    repeat' ((first|(refine gX ?_;intros)|refine z4u a (by rw[y]) (by omega) ?_|refine z6g a 0 (eN o1) (.sl [.int .i64 q]) (by omega) A (z1l 1) (by unfold eN;split<;>rfl) ?_|refine z6g a 0 (eN o2) (QG (Wg at_.length)) (by omega) B (z1l 1) (by unfold eN;split<;>rfl) ?_|(apply bD<;>intro _<;>try omega))<;>conv=>whnf)
    all_goals first
     |exact⟨q+1,h,by omega,Le.of_eq (by rw[<-o,<-x];rfl)⟩
   .obtain rfl:q=at_.length:=by omega
    have l:=AJ n L steps J M (gnC n at_ at_.length) (klC n at_ at_.length) m v at_.length g (q4j n at_ g at_.length (z1l _)) (q5v n at_ g at_.length);conv=>whnf
    repeat' ((first|(refine gX ?_;intros)|(refine XG l (.cons (.p (Sub.refl _)) (.cons (.p (Sub.refl _)) (.cons (.sub (.hd rfl (by rw[z0s,MS])) (Sub.sl (Wa _))) (.cons (.sub (.hd rfl (by rw[z0s,MO])) (Sub.sl (Wa _))) (.cons (.p (Sub.int (by rw[z]))) .nil))))) ?_;rintro _ ⟨O,T,t,u,rfl⟩)|(apply bD<;>intro _<;>try omega))<;>conv=>whnf)
    all_goals first
     |exact⟨_,.p (Sub.refl _),O,t,u,rfl⟩
     |refine XG l (.cons (.p (Sub.refl _)) (.cons (.p (Sub.refl _)) (.cons (.sub (.hd rfl (by rw[z0s,MS])) (Sub.sl (Wa _))) (.cons (.sub (.hd rfl (by rw[z0s,MO])) (Sub.sl (Wa _))) (.cons (.p (Sub.int (by rw[z]))) .nil))))) ?_
end Go.Ab
