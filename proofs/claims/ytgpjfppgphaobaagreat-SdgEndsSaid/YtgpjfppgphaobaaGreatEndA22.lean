/- give: all flows of a procedure. -/
import Derived.Test.YtgpjfppgphaobaaGreatEndA21
set_option linter.all false
set_option maxRecDepth 100000
set_option maxHeartbeats 16000000
open List (reverse_cons)
open Nat (blt)
namespace Go.Ab
open Go.Proofs.Tryz
open Go.Proofs
variable {D I O U:List (List Str)}{K:St->Prop}{N k:Nat}{P:Program}{f:Pr}{info:Info}{net:List (List Int)}{o:List Str}{seen:List Bool}{todo:List Int}
def atN(G:Nat->List Str)(n:Nat)(h:Str):List Nat:=((prsG G n).filter fun x=>decide (x.1=h)).map Prod.snd
def q1a(G:Nat->List Str)(n:Nat)(h:Str):Str×AV:=(h,.sl ((atN G n h).map fun a=>.int .i64 (a:Nat)))
noncomputable def outN(G T:Nat->List Str)(h:Nat->Int)(n:Nat)(steps:List (Int×Int))(i:Str):List Fl:=(List.range n).flatMap fun c=>((comC n steps (atN G n i)).getD c []).flatMap fun f=>if inS (T c) i=true then [⟨h ((atN G n i).getD f.toNat 0),h c,i⟩]else []
structure FlB(b:Book)(i:Nat)(w:Way)(n:Nat)(L:List Step)(steps:List (Int×Int))(G T:Nat->List Str)(plc:Nat->Int):Prop where
 hW:b.ways[i]?=some w
 hn:n<=5000
 hwn:w.n=n
 dat:aP 127 [.ip w.cells] (eSteps L)
 prs:aP 125 [.ip w.cells,eSteps L] (.sl (avP steps))
 giv:aH 128 [.p (.ip b.cells),.j i] [] (.tup [.ext 0 .map,.p (.int .i64 (prsG G n).length)]) [(0,.ext (.mapr 3 1 (mapG (prsG G n)) none))]
 tak:∀c,c<n->aP 129 [.ip b.cells,.int .i64 i,.int .i64 c] (eStrs (T c))
 com:∀at_:List Nat,(∀a∈at_,a<n)->at_.length<=5000->aP 130 [.ip b.cells,.int .i64 i,.sl (avP steps),.sl (at_.map fun a=>.int .i64 (a:Nat))] (eMat (comC n steps at_))
 place:∀c,c<n->aP 47 [.ip w.cells,.int .i64 c] (.int .i64 (plc c))
 srt:∀c,(T c).Pairwise ltT/\(T c).length<=1000000
 ok:∀s∈((mapG (prsG G n)).map Prod.fst).flatMap (outN G T plc n steps),okFl s
 cnt:(((mapG (prsG G n)).map Prod.fst).flatMap (outN G T plc n steps)).length<=1000000000
 atl:∀nm,(atN G n nm).length<=5000
 key:∀y:Str,y∈(mapG (prsG G n)).map Prod.fst->y.length<=maxLen
theorem OpK.le{s s':St}{o:Oper}(l:Le N s s')(h:OpK P N s' o K):OpK P N s o K:=⟨fun σ β a w u Q=>by
 obtain⟨σ1,β1,q,i⟩:=l σ β a w u;exact Oper.wp_mono (fun x w' ⟨σ',β',v,r,m,t⟩=>⟨σ',β',v,r,m,i.trans t⟩) (h.1 σ1 β1 a w q Q)⟩
def tkA(T:Nat->List Str)(n c:Nat):List AV:=((List.range c).map fun q=>eStrs (T q))++List.replicate (n-c) .nils
def q1w(T:Nat->List Str)(n:Nat):tkA T n 0=List.replicate n .nils:=by unfold tkA;simp
theorem q8z(T:Nat->List Str){n c:Nat}(h:c<=n):(tkA T n c).length=n:=by unfold tkA;simp;omega
theorem q8w(T:Nat->List Str){n c:Nat}(h:c<n):(tkA T n c).set c (eStrs (T c))=tkA T n (c+1):=by
 unfold tkA;rw[x7k _ _ (by simp),x3a,x6l,x8w,show n-c=(n-(c+1))+1 by omega,x8v,x7m,x8x,x4d,x4r];rfl
theorem q8x(T:Nat->List Str){n c:Nat}(h:c<n):(tkA T n c)[c]?=some .nils:=by
 unfold tkA;rw[x5t (by simp),x3a,x6l,x8w,x5v];simp;omega
def AC(T:Nat->List Str)(h:Nat->Int)(n:Nat)(at_:List Nat)(C:List (List Int))(i:Str):List Fl:=(List.range n).flatMap fun c=>(C.getD c []).flatMap fun f=>if inS (T c) i=true then [⟨h (at_.getD f.toNat 0),h c,i⟩]else []
def Pi(T:Nat->List Str)(h:Nat->Int)(q:Nat)(at_:List Nat)(C:List (List Int))(i:Str):AC T h (q+1) at_ C i=AC T h q at_ C i++(C.getD q []).flatMap fun f=>if inS (T q) i=true then [⟨h (at_.getD f.toNat 0),h q,i⟩]else []:=by
 unfold AC;rw[x8x,x6m];simp
theorem q4e(T:Nat->List Str)(i:Nat->Int){q c:Nat}(h:q<=c)(at_:List Nat)(C:List (List Int))(m:Str):(AC T i q at_ C m).length<=(AC T i c at_ C m).length:=by
 induction c with
 | zero=>
   obtain rfl:q=0:=by omega
   exact x4m _
 | succ c n=>
   rcases x4f c q with l|l
   ·obtain rfl:q=c+1:=by omega
    exact x4m _
   ·rw[Pi,x3o];have:=n l;omega
def Kw{G:Nat->List Str}{n:Nat}{m:Str}{a:Nat}(h:a∈atN G n m):a<n:=by
 unfold atN prsG at h;obtain⟨x,i,rfl⟩:=x4y.1 h;obtain⟨b,l,i⟩:=x4a.1 (x5h.1 i).1;obtain⟨s,_,rfl⟩:=x4y.1 i;exact x5a.1 l
def J5{l:List (Str×List AV)}{k:Str}{v:List AV}:(PP l k v).map Prod.fst=if k∈l.map Prod.fst then l.map Prod.fst else l.map Prod.fst++[k]:=by
 induction l with
 |nil=>rw[PP];rfl
 | cons x r n=>
   rw[PP];by_cases h:k=x.1
   .rw [if_pos h,x4o,x4o,if_pos (by rw[h];exact x4z)]
   .rw [if_neg h,x4o,x4o,n];by_cases i:k∈r.map Prod.fst
    .rw [if_pos i,if_pos (x4x _ i)]
    .rw [if_neg i,if_neg (by rw[x4v];rintro(m|m);exact h m;exact i m)];rfl
def AW(l:List (Str×Nat)):((mapG l).map Prod.fst).Nodup:=by
 have key:∀l:List (Str×Nat),((mapG l.reverse).map Prod.fst).Nodup:=fun l=>by
  induction l with
  |nil=>exact z1w
  | cons x r i=>
    rw[reverse_cons,DH];unfold N4;rw[J5];split
    .exact i
    .rename_i h;rw[x7u];exact⟨i,by simp,fun a ha b m e=>h (by rw[<-x4w.1 m,<-e];exact ha)⟩
 have:=key l.reverse
 rwa[z0r]at this
def OQ{l:List (Str×List AV)}(i:(l.map Prod.fst).Nodup){y:Str×List AV}(h:y∈l):Dd l y.1=y.2:=by
 induction l with
 |nil=>cases h
 | cons x r m=>
   rw[x4o,x6q]at i;unfold Dd M4;rw[x9o];rcases x4v.1 h with rfl|h
   .simp
   .have:¬y.1=x.1:=fun e=>i.1 (by rw[<-e];exact x7g h);rw[x5r this];exact m i.2 h
def q6e(G:Nat->List Str)(n:Nat):(mapG (prsG G n)).map (fun y=>(y.1,AV.sl y.2))=((mapG (prsG G n)).map Prod.fst).map (q1a G n):=by
 rw[x8t];refine x9s fun y h=>?_;have:=OQ (AW (prsG G n)) h;rw[T5]at this;show(y.1,AV.sl y.2)=(y.1,AV.sl ((atN G n y.1).map fun a=>.int .i64 (a:Nat)));rw[<-this];unfold atN;rw[x8t];rfl
theorem Kd{α:Type}:∀(l:List α)(k:Nat)(h:k<l.length),(l[k]::l.eraseIdx k).Perm l
 |x::r,0,_=>by rw[List.eraseIdx_cons_zero];exact .refl _
 | x::r,k+1,h=>by
   rw[List.eraseIdx_cons_succ,List.getElem_cons_succ];exact(List.Perm.swap _ _ _).trans (.cons _ (Kd r k (by simpa using h)))
theorem Bd{α β:Type}(f:α->β):∀(l:List α)(k:Nat),(l.map f).eraseIdx k=(l.eraseIdx k).map f
 |[],_=>rfl
 |_::_,0=>rfl
 |x::r,k+1=>by rw[x4o,List.eraseIdx_cons_succ,List.eraseIdx_cons_succ,x4o,Bd f r k]
theorem Uk(b:Book)(i:Nat)(w:Way)(n:Nat)(L:List Step)(steps:List (Int×Int))(G T:Nat->List Str)(l:Nat->Int)(F:FlB b i w n L steps G T l):aP 74 [.ip b.cells,.int .i64 i] (.sl ((GL (((mapG (prsG G n)).map Prod.fst).flatMap (outN G T l n steps))).map C9)):=by
 refine sC Qt func74 ?_;conv=>whnf
 obtain⟨hW,hn,hwn,hD,hP,hGv,hT,hC,hPl,hSr,hOk,hCn,hAt,Y⟩:=F;have hky:∀y∈(mapG (prsG G n)).map (fun y=>(y.1,AV.sl y.2)),y.1.length<=maxLen:=fun y hy=>by
  obtain⟨z,hz,rfl⟩:=x4y.1 hy;exact Y z.1 (x7g hz)
 have hg2:(b.ways.map fun w=>AV.ip w.cells)[i]?=some (.ip w.cells):=by rw[x4q,hW];rfl
 repeat' ((first|(refine iM fun _=>?_)|refine aR ?_|refine iT hg2 ?_|refine x8a n (by omega) (by show 24*_<=140737488355328;omega) (by unfold maxLen;omega) ?_|refine cP hD ?_|refine cP hP ?_|(refine cH [] 0 hGv ?_ (hH:=x6z)))<;>conv=>whnf)
 refine lJ (fun c:Nat=>⟨[(0,.p (.ip b.cells)),(1,.j i),(5,.p (.ip w.cells)),(6,.p .nils),(7,.p (.sl (avP steps))),(8,.ext 0 .map),(10,.hd 1 0 n),(41,.j n),(42,.j c)],[(1,.own 22 1 (tkA T n c)),(0,.ext (.mapr 3 1 (mapG (prsG G n)) none))]⟩) (fun c=>c<=n) (fun c=>n-c) 0 (Le.of_eq (by rw[q1w];rfl)) (x4j _) ?_;intro c hc;have htl:=q8z T hc;rcases x4f c n with h1|h1
 ·have hTc:=hT c h1;have hst:=q8w T h1;have eT:=q8x T h1;generalize tkA T n c=tk at*
  conv=>whnf
  repeat' ((first|refine gX ?_|refine iO c ?_|refine cP hTc ?_|refine sO (eStrs (T c)) eT ?_|(apply bD<;>intro _<;>try omega))<;>conv=>whnf)
  all_goals first
   |exact⟨c+1,h1,by omega,Le.of_eq (by rw[<-hst];rfl)⟩
 ·obtain rfl:c=n:=by omega
  conv=>whnf
  repeat' ((first|refine OpK.le (Ck 0 rfl rfl rfl rfl rfl) (OpK.range XM rfl rfl rfl rfl rfl rfl ?_)|(apply bD<;>intro _<;>try omega))<;>conv=>whnf)
  have htk:tkA T c c=(List.range c).map fun q=>eStrs (T q):=by unfold tkA;simp
  rw[q6e];generalize hks:(mapG (prsG G c)).map Prod.fst=keys at*
  refine lJ (fun x:List Str×Option Str×List Fl=>⟨[(0,.p (.ip b.cells)),(1,.j i),(5,.p (.ip w.cells)),(6,.hd 2 0 x.2.2.length),(7,.p (.sl (avP steps))),(10,.p (.sl ((List.range c).map fun q=>eStrs (T q)))),(54,.ext 0 .iter)],[(0,.ext (.iter (x.1.map (q1a G c)) (x.2.1.map (q1a G c)))),(2,.own 141 3 (x.2.2.map C9))]⟩) (fun x=>∃d,(d++x.1).Perm keys/\x.2.2=d.flatMap (outN G T l c steps)) (fun x=>x.1.length) (keys,none,[]) (by
    obtain⟨s',rfl,hle⟩:=Le.row (N:=Tryz.f74.ntmps) (s:=⟨[(0,.p (.ip b.cells)),(1,.j i),(5,.p (.ip w.cells)),(6,.p .nils),(7,.p (.sl (avP steps))),(10,.hd 1 0 ((List.range c).map fun q=>eStrs (T q)).length),(54,.ext 0 .iter)],[(1,.own 22 1 ((List.range c).map fun q=>eStrs (T q))),(0,.ext (.iter (keys.map (q1a G c)) none))]⟩) (k:=1) (e:=22) (sz:=1) (es:=(List.range c).map fun q=>eStrs (T q)) (zs:=[10]) rfl
     (K:=fun s=>s=⟨[(0,.p (.ip b.cells)),(1,.j i),(5,.p (.ip w.cells)),(6,.p .nils),(7,.p (.sl (avP steps))),(10,.p (.sl ((List.range c).map fun q=>eStrs (T q)))),(54,.ext 0 .iter)],[(0,.ext (.iter (keys.map (q1a G c)) none))]⟩) ⟨rfl,rfl⟩
    refine Le.trans (Le.of_eq (by rw[htk];simp)) (hle.trans ?_);exact lM [(2,.own 141 3 [])]) ⟨[],by simp,rfl⟩ ?_
  rintro⟨t,cur,u⟩ ⟨d,H,R⟩;simp only at H R⊢;conv=>whnf
  repeat' ((refine OpK.next rfl rfl rfl (fun y hy=>by obtain⟨z,hz,rfl⟩:=x4y.1 hy;exact Y z (H.subset (x6f _ hz))) (fun hnil=>?_) (fun jj hjj=>?_))<;>conv=>whnf)
  ·obtain rfl:t=[]:=z0i.1 hnil;rw[x5m]at H;have M:u.Perm (keys.flatMap (outN G T l c steps)):=by rw[R];exact H.flatMap_right _
   have hSo:=Ys u (fun s hs=>hOk s (M.subset hs)) (by have:=M.length_eq;omega);have hsl:=EQ M fun s hs=>hOk s (M.subset hs);refine cJ [(1000,2)] 0 hSo ?_;rintro l' H' ⟨rfl,rfl⟩;rw[hsl];conv=>whnf
   skip
   all_goals first
    |exact⟨_,.hd rfl (by rw[<-hsl,x3a,SC]),rfl⟩
  ·have hjr:jj<t.length:=by simpa using hjj
   rw[Bd,x8i];have hp2:(d++[t[jj]]++t.eraseIdx jj).Perm keys:=by
    refine List.Perm.trans ?_ H;rw[x4r];exact List.Perm.append_left _ (Kd t jj hjr)
   have hle2:(t.eraseIdx jj).length<t.length:=by rw[List.length_eraseIdx,if_pos hjr];omega
   generalize t[jj]=nm at*
   generalize t.eraseIdx jj=rest2 at*
   have hnk:=Y nm (hp2.subset (by simp));have hCo:=hC (atN G c nm) (fun a ha=>Kw ha) (hAt nm);have Z:=IG c steps (atN G c nm);have hcr:=fun r hr=>Wh (n:=c) (steps:=steps) (at_:=atN G c nm) (r:=r) hr;have hal:=hAt nm;have hon:outN G T l c steps nm=AC T l c (atN G c nm) (comC c steps (atN G c nm)) nm:=rfl;have v:(d.flatMap (outN G T l c steps)).length+(outN G T l c steps nm).length<=1000000000:=by
    have h5:=(hp2.flatMap_right (outN G T l c steps)).length_eq;simp only[x6m,x6d,List.flatMap_nil,x5m,x3o]at h5;omega
   unfold q1a;conv=>whnf
   repeat' ((first|(refine iM fun _=>?_)|refine OpK.entry rfl rfl rfl hnk ?_|refine cP hCo ?_)<;>conv=>whnf)
   rw[hon]at v;rw[<-R]at v;have B:outN G T l c steps nm=AC T l c (atN G c nm) (comC c steps (atN G c nm)) nm:=hon;obtain⟨m,A⟩ : ∃m,m=atN G c nm:=⟨_,rfl⟩;obtain⟨C,hCC⟩ : ∃C,C=comC c steps m:=⟨_,rfl⟩;have hatl:∀a∈m,a<c:=fun a ha=>Kw (A▸ha);rw[<-A]at B v Z hcr hal⊢;rw[<-hCC]at B v Z hcr⊢;have hCm:((avI C).map AV.sl).length=c:=by unfold avI;rw[x3a,x3a,Z]
   obtain⟨ch,hch⟩ : ∃ch:XC,ch=.iter (rest2.map (q1a G c)) (some (q1a G c nm)):=⟨_,rfl⟩;refine lJ (fun q:Nat=>⟨[(0,.p (.ip b.cells)),(1,.j i),(5,.p (.ip w.cells)),(6,.hd 2 0 (u++AC T l q m C nm).length),(7,.p (.sl (avP steps))),(10,.p (.sl ((List.range c).map fun q=>eStrs (T q)))),(12,.p (.str nm)),(13,.p (.sl (m.map fun a=>.int .i64 (a:Nat)))),(54,.ext 0 .iter),(64,.p (eMat C)),(65,.p (.int .i64 ((avI C).map AV.sl).length)),(66,.j q)],[(0,.ext ch),(2,.own 141 3 ((u++AC T l q m C nm).map C9))]⟩) (fun q=>q<=c) (fun q=>c-q) 0 (Le.of_eq (by rw[hch,A];simp[AC];exact⟨rfl,fun _ _=>rfl,rfl⟩)) (x4j _) ?_;intro q hq;rcases x4f q c with E|E
   ·have Q:=Pi T l q m C nm;have hqC:q<C.length:=by omega
    have hrow:=hcr _ (x4h hqC);have eC:((avI C).map AV.sl)[q]?=some (XQ C[q]):=by unfold avI;rw[x4q,x4q,x3e hqC];rfl
    have hge:C.getD q []=C[q]:=by rw[x3i,x3e hqC];rfl
    rw[hge]at Q;have hle3:=q4e T l (Nat.succ_le_of_lt E) m C nm;conv=>whnf
    repeat' ((first|(refine gX ?_;intros)|(apply bD<;>intro _<;>try omega))<;>conv=>whnf)
    have hav:∀h,(avI C)[q]'h=C[q].map (.int .i64):=fun h=>by
     have h2:=eC;rw[x4q,x3e h]at h2;have h3:AV.sl (avI C)[q]=.sl (C[q].map (.int .i64)):=x8z h2;exact AV.sl.inj h3
    simp only[hav];generalize C[q]=row at*
    have hrm:(row.map (AV.int .i64)).length=row.length:=x3a _;have hHs:=BL (T q) nm (hSr q).1 (by have:=(hSr q).2;omega);have eTk:((List.range c).map fun q=>eStrs (T q))[q]?=some (eStrs (T q)):=by rw[x4q,x7z E];rfl
    have hPq:=hPl q E;obtain⟨g,hgf⟩ : ∃g:Int->List Fl,g=fun f=>if inS (T q) nm=true then [⟨l (m.getD f.toNat 0),l q,nm⟩]else []:=⟨_,rfl⟩;rw[<-hgf]at Q;rw[Q,x3o]at hle3;generalize AC T l q m C nm=o at*
    refine lJ (fun z:Nat=>⟨[(0,.p (.ip b.cells)),(1,.j i),(5,.p (.ip w.cells)),(6,.hd 2 0 (u++o++(row.take z).flatMap g).length),(7,.p (.sl (avP steps))),(10,.p (.sl ((List.range c).map fun q=>eStrs (T q)))),(12,.p (.str nm)),(13,.p (.sl (m.map fun a=>.int .i64 (a:Nat)))),(14,.j q),(54,.ext 0 .iter),(64,.p (eMat C)),(65,.p (.int .i64 ((avI C).map AV.sl).length)),(66,.j q),(71,.p (XQ row)),(72,.p (.int .i64 (row.map (AV.int .i64)).length)),(73,.j z)],[(0,.ext ch),(2,.own 141 3 ((u++o++(row.take z).flatMap g).map C9))]⟩) (fun z=>z<=row.length) (fun z=>row.length-z) 0 (Le.of_eq (by simp;exact⟨rfl,rfl⟩)) (x4j _) ?_;intro z hz;have hzl:((row.take z).flatMap g).length<=(row.flatMap g).length:=by
     conv=>rhs;rw[<-z0b z row,x6m,x3o]
     omega
    have hall:(u++o++(row.take z).flatMap g).length<=1000000000:=by rw[x3o,x3o];omega
    rcases x4f z row.length with J|J
    ·have V:u++o++(row.take (z+1)).flatMap g=(u++o++(row.take z).flatMap g)++g row[z]:=by rw[x4k J,x6m,x4r,x4r,x4r];simp
     have hfr:=hrow.2 _ (x4h J);obtain⟨fz,hfz⟩ : ∃fz:Nat,row[z]=fz:=⟨row[z].toNat,by omega⟩;rw[hfz]at hfr V;have hfl:fz<m.length:=by omega
     have hgz:g (fz:Int)=if inS (T q) nm=true then [⟨l m[fz],l q,nm⟩]else []:=by rw[hgf];simp only[x5u,x3i,x3e hfl,x5b]
     have eAt:(m.map fun a=>AV.int .i64 (a:Nat))[fz]?=some (.int .i64 (m[fz]:Nat)):=by rw[x4q,x3e hfl];rfl
     have hPa:=hPl _ (hatl _ (x4h hfl));rw[hgz]at V;generalize m[fz]=az at*
     generalize(u++o++(row.take z).flatMap g)=oo at*
     have hom:(oo.map C9).length=oo.length:=x3a _;cases hin:inS (T q) nm;all_goals
      rw[hin]at hHs V;conv=>whnf
      repeat' ((first|(refine gX ?_;intros)|refine iT eTk ?_|refine IdxK.at (k:=fz) hfz eAt rfl ?_|refine cP hHs ?_|refine cP hPa ?_|refine cP hPq ?_|refine pA 1 32 hom.symm ?_|((first|apply bD|apply bB)<;>intro _<;>try omega))<;>conv=>whnf)
      all_goals first
       |contradiction
       |exact⟨z+1,J,by omega,Le.of_eq (by rw[V];simp<;>exact⟨rfl,rfl⟩)⟩
    ·rw[x4b J,x4r,<-Q];conv=>whnf
     repeat' ((first|refine wI ?_|(apply bD<;>intro _<;>try omega))<;>conv=>whnf)
     all_goals first
      |exact nX (q+1) E
   ·have hqe:q=c:=by omega
    rw[hqe,<-B];conv=>whnf
    repeat' (apply bD<;>intro _<;>first|omega|conv=>whnf)
    all_goals first
     |exact⟨(rest2,some nm,u++outN G T l c steps nm),⟨d++[nm],hp2,by simp only;rw[x6m,<-R];simp⟩,hle2,lE (hH:=.cons rfl (.of_eq (by rw[hch];rfl)) (.cons rfl (.refl _) .nil))⟩
theorem Uw{α β:Type}(f:α->List β)(k:Nat):∀l:List α,(∀x∈l,(f x).length<=k)->(l.flatMap f).length<=l.length*k
 |[],_=>by simp
 | x::r,h=>by
   have m:=h x x4z;have n:=Uw f k r fun y i=>h y (x4x _ i);rw[x6d,x3o,x5g,x6r];omega
def OS{l:List Str}(m:l.Nodup)(n:Str)(a:Nat):((l.map fun s=>(s,a)).filter fun x=>decide (x.1=n)).map Prod.snd=if n∈l then [a]else []:=by
 induction l with
 |nil=>rfl
 | cons x r t=>
   rw[x6q]at m;rw[x4o,x9v];by_cases h:x=n
   .subst h;rw[if_pos (by simp),x4o,t m.2,if_neg m.1,if_pos x4z]
   .rw [if_neg (by simpa using h),t m.2];by_cases i:n∈r
    .rw [if_pos i,if_pos (x4x _ i)]
    .rw [if_neg i,if_neg (by rw[x4v];rintro(q|q);exact h q.symm;exact i q)]
theorem Rg{G:Nat->List Str}(l:∀a,(G a).Nodup)(i:Str):∀n,atN G n i=(List.range n).filter fun a=>decide (i∈G a)
 |0=>rfl
 | n+1=>by
   have m:=Rg l i n;unfold atN at m⊢;rw[Yh,x6y,x4d,m,OS (l n),x8x,x6y];congr 1;by_cases h:i∈G n
   .rw [if_pos h];simp[h]
   .rw [if_neg h];simp[h]
theorem Od(l:List (Str×Nat)):((mapG l).map Prod.fst).length<=l.length:=by
 have key:∀l:List (Str×Nat),((mapG l.reverse).map Prod.fst).length<=l.length:=fun l=>by
  induction l with
  |nil=>exact x4m _
  | cons x r h=>
    rw[reverse_cons,DH];unfold N4;rw[J5];split
    ·rw[x5g];omega
    ·simp only[x3o,x5g,x8c];omega
 have:=key l.reverse
 rwa[z0r,List.length_reverse]at this
def Ob(l:List (Str×Nat)){k:Str}(h:k∈(mapG l).map Prod.fst):∃a,(k,a)∈l:=by
 have key:∀l:List (Str×Nat),k∈(mapG l.reverse).map Prod.fst->∃a,(k,a)∈l:=fun l=>by
  induction l with
  |nil=>intro h;cases h
  | cons x r i=>
    rw[reverse_cons,DH];unfold N4;rw[J5];intro h;have:k∈(mapG r.reverse).map Prod.fst\/k=x.1:=by
     split at h
     .exact .inl h
     .rcases x4g.1 h with h|h
      .exact .inl h
      .exact .inr (x4w.1 h)
    rcases this with h|h
    .obtain ⟨a,ha⟩:=i h;exact⟨a,x4x _ ha⟩
    .exact ⟨x.2,by rw[h];exact x4z⟩
 obtain⟨a,ha⟩:=key l.reverse (by rwa[z0r]);exact⟨a,List.mem_reverse.1 ha⟩
def E0{G:Nat->List Str}{n:Nat}{k:Str}{a:Nat}(h:(k,a)∈prsG G n):a<n/\k∈G a:=by
 unfold prsG at h;obtain⟨b,i,q⟩:=x4a.1 h;obtain⟨s,m,l⟩:=x4y.1 q;cases l;exact⟨x5a.1 i,m⟩
def OM(G T:Nat->List Str)(i:Nat->Int)(n:Nat)(steps:List (Int×Int))(h:Str):(outN G T i n steps h).length<=n*(atN G n h).length:=by
 unfold outN;refine x5y (Uw _ (atN G n h).length _ fun c m=>?_) (by rw[x6l];exact x4m _);refine x5y (Uw _ 1 _ fun f _=>by split<;>simp) ?_;rw[x9f,x3i];cases l:(comC n steps (atN G n h))[c]?with
 |none=>simp
 |some r=>exact(Wh (x4p l)).1
def q7c{G:Nat->List Str}(h:∀a,(G a).length<=k)(n:Nat):(prsG G n).length<=n*k:=by
 unfold prsG;refine x5y (Uw _ k _ fun a _=>by rw[x3a];exact h a) (by rw[x6l];exact x4m _)
theorem A2{G T:Nat->List Str}{h:Nat->Int}{n:Nat}{steps:List (Int×Int)}(i:n<=202)(t:∀a,(G a).length<=34)(hnd:∀a,(G a).Nodup):(((mapG (prsG G n)).map Prod.fst).flatMap (outN G T h n steps)).length<=1000000000:=by
 have m:=Od (prsG G n);have q:=q7c t n;have u:=Uw (outN G T h n steps) (202*202) ((mapG (prsG G n)).map Prod.fst) fun l _=>by
  refine x5y (OM G T h n steps l) ?_;have r:(atN G n l).length<=n:=by
   rw[Rg hnd];exact x5y (x6p _ _) (by simp)
  exact z0n i (x5y r i)
 have s:((mapG (prsG G n)).map Prod.fst).length<=202*34:=x5y m (x5y q (x5l _ i));have v:((mapG (prsG G n)).map Prod.fst).length*(202*202)<=(202*34)*(202*202):=x5l _ s;omega
def LH{L:List (List Str)}{Q:List Str->Prop}(l:Q [])(h:∀o∈L,Q o)(i:Nat):Q (L.getD i []):=by
 rw[x3i];cases m:L[i]?with
 |none=>exact l
 |some o=>exact h o (x4p m)
def Bo{p:Pg}{i:Nat}{I:List Str}(h:∀d∈D,d.Pairwise ltT)(a:Nat):(Iu p i f D I a).Pairwise ltT:=by
 unfold Iu;split
 .exact ZM _
 split
 .exact .nil
 cases(QQ p i f).live.getD a false with
 |false=>exact .nil
 |true=>exact LH .nil h _
def EY{p:Pg}{i:Nat}{O:List Str}(h:∀d∈U,d.Pairwise ltT)(a:Nat):(q1x p i f U O a).Pairwise ltT:=by
 unfold q1x;split
 .exact ZM _
 split
 .exact .nil
 cases(QQ p i f).live.getD a false with
 |false=>exact .nil
 |true=>exact LH .nil h _
theorem RY{p:Pg}{i:Nat}{I:List Str}(h:∀d∈D,d.length<=34)(m:I.length<=25)(n:f.B.length<=8)(a:Nat):(Iu p i f D I a).length<=34:=by
 unfold Iu;split
 ·refine x5y (YM _) ?_;rw[x3o,x3a];omega
 split
 ·simp
 cases(QQ p i f).live.getD a false with
 |false=>simp
 |true=>exact LH (Q:=fun l=>l.length<=34) (by simp) h _
def On{p:Pg}{n:Str}(h:Y6 p f n≠0):n∈p.F\/n∈Lg f:=by
 unfold Y6 at h;unfold Lg;cases m:f.B.find? (fun a=>a.name==n)with
 | some a=>
   refine .inr (x5c _ (x4y.2 ⟨a,x8h m,by simpa using x9j m⟩))
 | none=>
   rw[m]at h;cases r:f.zd.any (fun s=>n==s)with
   | true=>
     obtain⟨s,i,l⟩:=x6s.1 r;exact .inr (x6f _ (by rw[eq_of_beq l];exact i))
   | false=>
     cases q:p.F.any (fun s=>n==s)with
     | true=>
       obtain⟨s,i,l⟩:=x6s.1 q;exact .inl (by rw[eq_of_beq l];exact i)
     |false=>exact absurd (by simp only[r,q];rfl) h
def LF{p:Pg}(h:QL p=true){n:Str}(l:n∈p.F):isName n=true:=by
 have i:=(QB h).1;unfold BC at i;simp only[x4n]at i;exact x6w.1 i.1.2 n l
def BE{p:Pg}(h:QL p=true)(q:f∈p.A){n:Str}(i:n∈Lg f):isName n=true:=by
 obtain⟨_,_,_,l,_,m⟩:=GH.1 (Lw (QB h).1 q);rcases x4g.1 i with i|i
 .obtain ⟨a,ha,rfl⟩:=x4y.1 i;exact x6w.1 m a ha
 .exact x6w.1 l n i
section
variable {p:Pg}{j:Nat}{f:Pr}
def Ym(h:QL p=true)(m:f∈p.A){t:S}(s:t∈flL f.body){n:Str}(r:n∈ZP t):isName n=true:=by
 have l:=DS (QB h).2.1 m s;unfold KY at l;rw[x4n]at l;have q:=x6w.1 l.1 n r;rcases On (by simpa using q)with i|i
 .exact LF h i
 .exact BE h m i
end
section
variable {a b:Str}{p:Pg}{j:Nat}{f:Pr}
end
section
variable {a b:Str}{p:Pg}{j:Nat}{f:Pr}
end
theorem count_set{l:List Bool}{k:Nat}(i:k<l.length)(h:l.getD k false=false):(l.set k true).count false+1=l.count false:=by
 rw[x3i,x3e i]at h;have m:l[k]=false:=h;have n:0<l.count false:=List.count_pos_iff.2 (m▸x4h i);rw[List.count_set i,m];simp;omega
theorem NedJ.shutN{p:Pg}{i:Nat}{x:Str}{n:Nat}{a:Int}(t:netR p i f=net)(h:QL p=true)(q:p.A[i]?=some f)(m:NedJ p i f D U o x n a k seen todo)(r:(net.getD a.toNat []).length<=k)(l:hitN p i f U o x a=false):NedI p i f D U o x n seen todo:=by
 subst t;exact m.shut h q r l
theorem NedJ.oldN{p:Pg}{i:Nat}{x:Str}{n:Nat}{a:Int}(q:netR p i f=net)(l:NedJ p i f D U o x n a k seen todo)(m:k<(net.getD a.toNat []).length)(r:seen.getD ((net.getD a.toNat [])[k]).toNat false=true):NedJ p i f D U o x n a (k+1) seen todo:=by
 subst q;exact l.old m r
theorem NedJ.newN{p:Pg}{i:Nat}{x:Str}{n:Nat}{a:Int}(t:netR p i f=net)(l:NedJ p i f D U o x n a k seen todo)(r:k<(net.getD a.toNat []).length){c:Int}(q:c=(net.getD a.toNat [])[k])(u:0<=c/\c<(n:Int))(m:nR p i f D x a c):NedJ p i f D U o x n a (k+1) (seen.set c.toNat true) (todo++[c]):=by
 subst t;exact l.new r q u m
def Kc{s:St}(h:K s):ZK s K:=by
 rw[VA];exact h
def Ew{T:Tab}{ops:Array Oper}{s:St}(h:K s):run P T N ops [] s K:=h
def EF{id:Nat}{s:St}(i:info.frz id=[])(h:Kj (info.keep id) s K):Nn info id s K:=by
 unfold Nn;rw[i];show Kj (info.keep id) s fun s=>ZK s K;have e:(fun s=>ZK s K)=K:=funext fun s=>VA s K;rw[e];exact h
def Rf{ks:List Nat}{s:St}(s':St)(h:∀K:St->Prop,K s'->Kj ks s K)(i:K s'):Kj ks s K:=h K i
def Tp{sl:List (Nat×LV)}{d:Nat}{v:LV}{K:List (Nat×LV)->Prop}(i:blt d N=true)(h:K (M6 sl d v)):setD N sl (some d) v K:=by
 show(bif blt d N then q4i sl d v K else False);rw[i,x4s,Yf];exact h
def q6r{T:Tab}{c:Operand}{a b:Code}{K:Exit->St->Prop}{s:St}(h:QD s.sl c=.p (.bool false))(i:W P T N info b K s):W P T N info (.cond c a b) K s:=by
 unfold W;rw[h];exact Br.ff i
def q6t{T:Tab}{c:Operand}{a b:Code}{K:Exit->St->Prop}{s:St}(h:QD s.sl c=.p (.bool true))(ha:W P T N info a K s):W P T N info (.cond c a b) K s:=by
 unfold W;rw[h];exact Br.tt ha
theorem Ub(b:Book)(p:Pg)(h:QL p=true)(i:Nat)(f:Pr)(G:p.A[i]?=some f)(hW:b.ways[i]?=some (QQ p i f))(o:List Str)(hO:b.za[i]?=some o)(ho:o.Pairwise ltT)(hol:o.length<=1000000000)(hDl:b.M.length=(sheetOf p).l.length)(hUl:b.zb.length=(sheetOf p).l.length)(hDr:∀d∈b.M,d.Pairwise ltT/\d.length<=1000000000)(hUr:∀d∈b.zb,d.Pairwise ltT/\d.length<=1000000000)(x:Str):aP 166 [.ip b.cells,.int .i64 i,eMat (netR p i f),.str x] (.bool (Cq p i f b.M b.zb o x)):=by
 refine sC Qi func166 ?_;conv=>whnf
 obtain⟨n,V⟩ : ∃n,n=QJ f.body+2:=⟨_,rfl⟩;have hcn:=(XF h).2.2;obtain⟨_,_,_,hsl,hsp⟩:=QU p;obtain⟨_,_,hle,_⟩:=hsp i f G;have hn200:n<=202:=by omega
 have hg1:(b.ways.map fun w=>AV.ip w.cells)[i]?=some (.ip (QQ p i f).cells):=by rw[x4q,hW];rfl
 have hg2:(b.za.map eStrs)[i]?=some (eStrs o):=by rw[x4q,hO];rfl
 have R:(QQ p i f).n=n:=by rw[V];rfl
 have hHo:=BL o x ho hol;have hP:∀a:Int,0<=a/\a<=5000->aP 47 [.ip (QQ p i f).cells,.int .i64 a] (.int .i64 (idN p i f a)):=fun a ha=>ZC (QQ p i f) f G (by show cntP p.A<=1000;omega) ⟨by rw[R];omega,by rw[R];omega⟩ a ha;have hNl:(netR p i f).length=n:=by rw[V];exact DD _ _
 have hNr:∀a:Nat,a<n->∀c∈(netR p i f).getD a [],nR p i f b.M x a c\/Q0 p i f b.M x a=false:=fun a ha c u=>by
  have hm:=(GD fun t ht=>(HF h G t ht).1).1 u;obtain⟨t,ht,h1,h2⟩:=hm;cases hq:Q0 p i f b.M x a with
  |false=>exact .inr rfl
  |true=>exact .inl ⟨hq,by rw[<-h1,<-h2];exact ht⟩
 have hNi:∀a:Nat,a<n->∀c∈(netR p i f).getD a [],0<=c/\c<(n:Int):=fun a ha c u=>by
  obtain⟨t,ht,_,rfl⟩:=(GD fun t ht=>(HF h G t ht).1).1 u;have:=(HF h G t ht).2;omega
 have hNc:∀a:Nat,((netR p i f).getD a []).length<=200000:=fun a=>by
  refine x5y (LA _ _ a) ?_;unfold KC;rw[x3a];exact Ht h G
 have hId:∀a:Int,0<a->a<(n:Int)-1->1<=idN p i f a/\(idN p i f a-1).toNat<(sheetOf p).l.length:=fun a h1 h2=>by
  unfold idN QF loI;rw[if_neg (by omega),if_neg (by omega)];omega
 obtain⟨net,q⟩ : ∃net,netR p i f=net:=⟨_,rfl⟩;rw[q]at hNl hNr hNi hNc⊢;generalize QQ p i f=w at hg1 R hP hW;repeat' ((first|refine x4e rfl ?_|refine aD ?_|refine aR ?_|refine iT hg1 ?_|refine x8a n R (by show 1*n<=140737488355328;omega) (by unfold maxLen;omega) ?_|refine x9p (fun x hx=>by rcases x4w.1 hx with rfl;rfl) rfl ?_)<;>conv=>whnf)
 refine lJ (fun y:List Bool×List Int=>⟨[(0,.p (.ip b.cells)),(1,.j i),(2,.p (eMat net)),(3,.p (.str x)),(9,.p (.ip w.cells)),(10,.hd 0 0 n),(11,.hd 1 0 y.2.length)],[(1,.own 3 1 (y.2.map (.int .i64))),(0,.own 4 1 (y.1.map bv))]⟩) (fun y=>NedI p i f b.M b.zb o x n y.1 y.2/\y.2.length+y.1.count false<=n+1) (fun y=>2*y.1.count false+y.2.length) (List.replicate n false,[0]) (Le.of_eq (by rw[x7h];rfl)) ⟨NedI.start n (by omega),by simp;omega⟩ ?_;rintro⟨seen,todo⟩ ⟨g,hc1⟩;simp only at g hc1⊢;rcases List.eq_nil_or_concat todo with rfl|⟨st,a,rfl⟩
 ·have hz:(([]:List Int).length)=0:=rfl;conv=>whnf
  repeat' ((first|(refine iM fun _=>?_)|(apply bD<;>intro _<;>try omega))<;>conv=>whnf)
  all_goals exact RetK.ff (g.stop h G)
 rw[List.concat_eq_append]at g hc1⊢;have hstl:(st++[a]).length=st.length+1:=by simp
 have C:=g.rng a (by simp);have e3:((st++[a]).map (AV.int .i64))[st.length]?=some (.int .i64 a):=by simp
 have hsl2:=g.len;have Z:=g.way a (g.td a (by simp));have hPa:=hP a ⟨C.1,by omega⟩;have v:∀(sl:List (Nat×LV)),Le Tryz.f166.ntmps ⟨sl,[(1,.own 3 1 ((st++[a]).map (.int .i64))),(0,.own 4 1 (seen.map bv))]⟩ ⟨sl,[(1,.own 3 1 (st.map (.int .i64))),(0,.own 4 1 (seen.map bv))]⟩:=fun sl=>Le.cut (.cut ⟨[.int .i64 a],by simp⟩ (.same .nil));have Y:((avI net).map AV.sl)[a.toNat]?=some (.sl ((net.getD a.toNat []).map (.int .i64))):=by
  have:a.toNat<net.length:=by rw[hNl];omega
  rw[x3i,x3e this];simp[avI,this]
 have hrl:((net.getD a.toNat []).map (AV.int .i64)).length=(net.getD a.toNat []).length:=x3a _;have hcs:a=(n:Int)-1\/(a=0/\¬a=(n:Int)-1)\/(0<a/\¬a=(n:Int)-1):=by omega
 rcases hcs with T|⟨hz,T⟩|⟨J,T⟩
 ·-- the exit
  have m:hitN p i f b.zb o x a=inS o x:=by unfold hitN;rw[<-V,x5n T];rfl
  have r:Q0 p i f b.M x a=false:=by unfold Q0;rw[<-V,x5n T];rfl
  conv=>whnf
  repeat' ((first|(refine iM fun _=>?_)|refine x4e rfl ?_|refine wI ?_|refine iO st.length ?_|refine lO e3 ?_|refine x9r 0 st.length rfl (by show((st++[a]).length:Int)-1=_;omega) (by omega) (by omega) ?_|refine iT hg2 ?_|refine cP hHo ?_|((first|apply bD|apply bB)<;>intro _<;>try omega))<;>conv=>whnf)
  ·exact RetK.tt ((LS h G).2 ⟨a,Z,by rw[m];assumption⟩)
  ·exact⟨(seen,st),⟨g.skip (by rw[m];assumption) r,by simp only;omega⟩,by simp only;omega,(v _).trans (lE)⟩
 ·-- the entry
  have m:hitN p i f b.zb o x a=false:=by unfold hitN;rw[<-V,x5r T,x5r (by omega)];rfl
  have r:Q0 p i f b.M x a=true:=by unfold Q0;rw[<-V,x5r T,x5r (by omega)];rfl
  conv=>whnf
  repeat' ((first|(refine iM fun _=>?_)|refine x4e rfl ?_|refine wI ?_|refine iO st.length ?_|refine lO e3 ?_|refine x9r 0 st.length rfl (by show((st++[a]).length:Int)-1=_;omega) (by omega) (by omega) ?_|refine iT Y ?_|(apply bD<;>intro _<;>try omega))<;>conv=>whnf)
  refine lJ (fun y:Nat×List Bool×List Int=>⟨[(0,.p (.ip b.cells)),(1,.j i),(2,.p (eMat net)),(3,.p (.str x)),(9,.p (.ip w.cells)),(10,.hd 0 0 n),(11,.hd 1 0 y.2.2.length),(87,.p (XQ (net.getD a.toNat []))),(88,.p (.int .i64 ((net.getD a.toNat []).map (AV.int .i64)).length)),(89,.j y.1)],[(1,.own 3 1 (y.2.2.map (.int .i64))),(0,.own 4 1 (y.2.1.map bv))]⟩) (fun y=>y.1<=(net.getD a.toNat []).length/\NedJ p i f b.M b.zb o x n a y.1 y.2.1 y.2.2/\y.2.2.length+y.2.1.count false<=n/\2*y.2.1.count false+y.2.2.length<=2*seen.count false+st.length) (fun y=>(net.getD a.toNat []).length-y.1) (0,seen,st) ((v _).trans (Le.of_eq rfl)) ⟨x4j _,g.open,by simp only;omega,x4m _⟩ ?_;rintro⟨k,z,td⟩ ⟨h1,B,h3,h4⟩;simp only at h1 B h3 h4⊢;rcases x4f k (net.getD a.toNat []).length with s|s;rotate_left 1
  ·conv=>whnf
   repeat' (apply bD<;>intro _<;>first|omega|conv=>whnf)
   all_goals exact⟨(z,td),⟨B.shutN q h G s m,by simp only;omega⟩,by simp only;omega,lE⟩
  ·obtain⟨c,u⟩ : ∃c,c=(net.getD a.toNat [])[k]:=⟨_,rfl⟩;have E:c∈net.getD a.toNat []:=by rw[u];exact x4h s
   have hcr:=hNi a.toNat (by omega) c E;have hcR:nR p i f b.M x a c:=by
    rcases hNr a.toNat (by omega) c E with L|L
    ·rwa[x8f C.1]at L
    ·rw[x8f C.1,r]at L;cases L
   have hsnl:=B.len;have e:=q1r (l:=z) (i:=c.toNat) (by omega);have e5:((net.getD a.toNat []).map (AV.int .i64))[k]?=some (.int .i64 c):=by rw[x4q,x3e s,<-u];rfl
   cases Q:z.getD c.toNat false with
   | true=>
     rw[Q]at e;conv=>whnf
     repeat' ((first|(refine gX ?_;intros)|refine iO c.toNat ?_|refine lO e ?_|(apply bD<;>intro _<;>try omega))<;>conv=>whnf)
     all_goals first
       |exact nX (k+1,z,td) ⟨s,B.oldN q s (by rw[<-u];exact Q),h3,h4⟩
   | false=>
     rw[Q]at e;have hcs:=count_set (l:=z) (k:=c.toNat) (by omega) Q;conv=>whnf
     repeat' ((first|(refine gX ?_;intros)|refine iO c.toNat ?_|refine lO e ?_|refine sO .tt e ?_|refine pI ?_|(apply bD<;>intro _<;>try omega))<;>conv=>whnf)
     all_goals first
       |exact⟨(k+1,z.set c.toNat true,td++[c]),⟨s,B.newN q s u hcr hcR,by simp only[x3o,x4i];omega,by simp only[x3o,x4i];omega⟩,by simp only;omega,Le.of_eq (by rw[<-u];simp only[x5d,x4d,x3o];rfl)⟩
 ·-- a statement
  obtain⟨hid1,hid2⟩:=hId a J (by omega);have hgU:(b.zb.map eStrs)[(idN p i f a-1).toNat]?=some (eStrs (LW b.zb (idN p i f a))):=by
   unfold LW;rw[x4q,x3i,x3e (by omega)];rfl
  have hgD:(b.M.map eStrs)[(idN p i f a-1).toNat]?=some (eStrs (LW b.M (idN p i f a))):=by
   unfold LW;rw[x4q,x3i,x3e (by omega)];rfl
  have hrU:(LW b.zb (idN p i f a)).Pairwise ltT/\(LW b.zb (idN p i f a)).length<=1000000000:=by
   unfold LW;rw[x3i,x3e (by omega)];exact hUr _ (x4h _)
  have hrD:(LW b.M (idN p i f a)).Pairwise ltT/\(LW b.M (idN p i f a)).length<=1000000000:=by
   unfold LW;rw[x3i,x3e (by omega)];exact hDr _ (x4h _)
  have hHU:=BL _ x hrU.1 hrU.2;have hHD:=BL _ x hrD.1 hrD.2;have F:hitN p i f b.zb o x a=inS (LW b.zb (idN p i f a)) x:=by unfold hitN;rw[<-V,x5r T,x5n J];rfl
  have H:Q0 p i f b.M x a = !inS (LW b.M (idN p i f a)) x:=by unfold Q0;rw[<-V,x5r T,x5n J];rfl
  generalize idN p i f a=id at*
  generalize LW b.zb id=lu at*
  generalize LW b.M id=ld at*
  conv=>whnf
  repeat' ((first|(refine iM fun _=>?_)|refine x4e rfl ?_|refine wI ?_|refine iO st.length ?_|refine lO e3 ?_|refine x9r 0 st.length rfl (by show((st++[a]).length:Int)-1=_;omega) (by omega) (by omega) ?_|refine cP hPa ?_|refine iT hgU ?_|(apply bD<;>intro _<;>try omega))<;>conv=>whnf)
  refine CallK.pure hHU (.cons (Sub.refl _) (.cons (Sub.refl _) .nil)) ?_;rintro _ rfl;refine Tp (by kernel_rfl) ?_;refine Kc ?_;refine Ew ?_;refine EF (by kernel_rfl) ?_;refine Rf ⟨[(0,.p (.ip b.cells)),(1,.j i),(2,.p (eMat net)),(3,.p (.str x)),(9,.p (.ip w.cells)),(10,.hd 0 0 n),(11,.hd 1 0 st.length),(12,.j a),(13,.j id),(73,.p (.bool (inS lu x)))],[(1,.own 3 1 ((st++[a]).map (.int .i64))),(0,.own 4 1 (seen.map bv))]⟩ (fun K h=>h) ?_;cases hqu:inS lu x;rotate_left
  ·refine q6t rfl ?_;conv=>whnf
   skip
   all_goals exact RetK.tt ((LS h G).2 ⟨a,Z,by rw[F,hqu]⟩)
  refine q6r rfl ?_;conv=>whnf
  repeat' ((first|refine wI ?_|refine iT hgD ?_)<;>conv=>whnf)
  refine CallK.pure hHD (.cons (Sub.refl _) (.cons (Sub.refl _) .nil)) ?_;rintro _ rfl;refine Tp (by kernel_rfl) ?_;refine Kc ?_;refine Ew ?_;refine EF (by kernel_rfl) ?_;refine Rf ⟨[(0,.p (.ip b.cells)),(1,.j i),(2,.p (eMat net)),(3,.p (.str x)),(9,.p (.ip w.cells)),(10,.hd 0 0 n),(11,.hd 1 0 st.length),(12,.j a),(83,.p (.bool (inS ld x)))],[(1,.own 3 1 ((st++[a]).map (.int .i64))),(0,.own 4 1 (seen.map bv))]⟩ (fun K h=>h) ?_;have m:hitN p i f b.zb o x a=false:=by rw[F,hqu]
  cases hqd:inS ld x;rotate_left
  ·have r:Q0 p i f b.M x a=false:=by rw[H,hqd];rfl
   refine q6t rfl ?_;conv=>whnf
   skip
   all_goals exact⟨(seen,st),⟨g.skip m r,by simp only;omega⟩,by simp only;omega,(v _).trans (lE)⟩
  ·have r:Q0 p i f b.M x a=true:=by rw[H,hqd];rfl
   refine q6r rfl ?_;conv=>whnf
   repeat' ((first|(refine iM fun _=>?_)|refine iT Y ?_)<;>conv=>whnf)
   refine lJ (fun y:Nat×List Bool×List Int=>⟨[(0,.p (.ip b.cells)),(1,.j i),(2,.p (eMat net)),(3,.p (.str x)),(9,.p (.ip w.cells)),(10,.hd 0 0 n),(11,.hd 1 0 y.2.2.length),(87,.p (XQ (net.getD a.toNat []))),(88,.p (.int .i64 ((net.getD a.toNat []).map (AV.int .i64)).length)),(89,.j y.1)],[(1,.own 3 1 (y.2.2.map (.int .i64))),(0,.own 4 1 (y.2.1.map bv))]⟩) (fun y=>y.1<=(net.getD a.toNat []).length/\NedJ p i f b.M b.zb o x n a y.1 y.2.1 y.2.2/\y.2.2.length+y.2.1.count false<=n/\2*y.2.1.count false+y.2.2.length<=2*seen.count false+st.length) (fun y=>(net.getD a.toNat []).length-y.1) (0,seen,st) ((v _).trans (Le.of_eq rfl)) ⟨x4j _,g.open,by simp only;omega,x4m _⟩ ?_;rintro⟨k,z,td⟩ ⟨h1,B,h3,h4⟩;simp only at h1 B h3 h4⊢;rcases x4f k (net.getD a.toNat []).length with s|s;rotate_left 1
   ·conv=>whnf
    repeat' (apply bD<;>intro _<;>first|omega|conv=>whnf)
    all_goals exact⟨(z,td),⟨B.shutN q h G s m,by simp only;omega⟩,by simp only;omega,lE⟩
   ·obtain⟨c,u⟩ : ∃c,c=(net.getD a.toNat [])[k]:=⟨_,rfl⟩;have E:c∈net.getD a.toNat []:=by rw[u];exact x4h s
    have hcr:=hNi a.toNat (by omega) c E;have hcR:nR p i f b.M x a c:=by
     rcases hNr a.toNat (by omega) c E with L|L
     ·rwa[x8f C.1]at L
     ·rw[x8f C.1,r]at L;cases L
    have hsnl:=B.len;have e:=q1r (l:=z) (i:=c.toNat) (by omega);have e5:((net.getD a.toNat []).map (AV.int .i64))[k]?=some (.int .i64 c):=by rw[x4q,x3e s,<-u];rfl
    cases Q:z.getD c.toNat false with
    | true=>
      rw[Q]at e;conv=>whnf
      repeat' ((first|(refine gX ?_;intros)|refine iO c.toNat ?_|refine lO e ?_|(apply bD<;>intro _<;>try omega))<;>conv=>whnf)
      all_goals first
        |exact nX (k+1,z,td) ⟨s,B.oldN q s (by rw[<-u];exact Q),h3,h4⟩
    | false=>
      rw[Q]at e;have hcs:=count_set (l:=z) (k:=c.toNat) (by omega) Q;conv=>whnf
      repeat' ((first|(refine gX ?_;intros)|refine iO c.toNat ?_|refine lO e ?_|refine sO .tt e ?_|refine pI ?_|(apply bD<;>intro _<;>try omega))<;>conv=>whnf)
      all_goals first
        |exact⟨(k+1,z.set c.toNat true,td++[c]),⟨s,B.newN q s u hcr hcR,by simp only[x3o,x4i];omega,by simp only[x3o,x4i];omega⟩,by simp only;omega,Le.of_eq (by rw[<-u];simp only[x5d,x4d,x3o];rfl)⟩
inductive SlR(g:Nat->Option Nat)(sl:List (Nat×LV)):List (Nat×LV)->Prop
 |nil:SlR g sl []
 |cons {i:Nat} {l:LV} {r:List (Nat×LV)} (h:LSub ((getS sl i).ren g) l) (hr:SlR g sl r):SlR g sl ((i,l)::r)
theorem SlR.r{g:Nat->Option Nat}{sl:List (Nat×LV)}{i:Nat}{r:List (Nat×LV)}(h:SlR g sl r):SlR g sl ((i,(getS sl i).ren g)::r):=.cons (.refl _) h
theorem SlR.get{g:Nat->Option Nat}{sl m:List (Nat×LV)}(h:SlR g sl m)(i:Nat):LSub ((getS sl i).ren g) (getS m i)\/getS m i=.p .any:=by
 induction h with
 |nil=>exact .inr rfl
 | @cons j l r h u t=>
   simp only[getS];by_cases q:j=i
   .subst q;exact .inl (by simpa using h)
   .have:(j==i)=false:=by simp[q]
    simpa[this]using t
def Ch{s s':St}(π:Nat->Nat)(x:∀k,π (π k)=k)(v:∀j,1000<=j->j<2000->π j=j)(hsl:SlR (fun k=>some (π k)) s.sl s'.sl)(hH:∀j c,(j,c)∈s'.H->∃r,(π j,r)∈s.H/\CSub (r.ren fun k=>some (π k)) c)(hnd:(s'.H.map (·.1)).Nodup):Le N s s':=fun σ β a w q=>by
 have A:∀k j,(fun k=>some (π k)) k=some j->(fun j=>β (π j)) j=β k:=fun k j C=>by
  cases C;show β (π (π k))=β k;rw[x]
 have l:∀j∈s'.H.map (·.1),π j∈s.H.map (·.1):=fun j m=>by
  obtain⟨⟨y,c⟩,F,rfl⟩:=x4y.1 m;obtain⟨r,n,_⟩:=hH y c F;exact x4y.2 ⟨_,n,rfl⟩
 refine⟨σ,fun j=>β (π j),⟨q.size,q.defers,fun i=>?_,q.heap.mem,fun j c m=>?_,hnd,fun j m i u b t=>q.heap.apart (π j) (l j m) i u b t,fun j m y g i i' u e b t d=>?_⟩,Mem.le_refl σ,Frm.refl _ _,fun b z n=>absurd z n,fun b ⟨j,m,i,u,t⟩=>.inl ⟨π j,l j m,i,u,t⟩,fun k z n=>?_⟩
 .rcases hsl.get i with h|h
  .exact h.rep ((q.E i).ren A)
  .rw [h];exact .p (.any _)
 .obtain ⟨r,n,B⟩:=hH j c m;exact B _ _ _ _ ((q.heap.chunks (π j) r n).ren (j:=j) A (by show some (π (π j))=some j;rw[x]))
 .have:=q.heap.inj (π j) (l j m) (π y) (l y g) i i' u e b t d;rw[<-x j,this,x]
 .show β (π k)=β k;rw[v k z n]
theorem JG(l:List Str)(q:l.length<=1000000000):aH 104 [.hd 1000 0 l.length] [(1000,.own 9 1 (l.map .str))] (.p (eStrs (VK l))) []:=by
 have h:=Un l q;refine⟨h.go,fun σ β w y d g A=>(h.ok σ β w y d g A).mono fun F w' C=>?_⟩;obtain⟨r,u,σ',β',H',B,⟨rfl,rfl⟩,x,v,n⟩:=C;generalize VK l=m at*
 obtain⟨s',rfl,c⟩:=Le.row (N:=1) (s:=⟨[(0,.hd 1000 0 m.length)],[(1000,.own 9 1 (m.map .str))]⟩) (k:=1000) (e:=9) (sz:=1) (es:=m.map .str) (zs:=[0]) rfl (K:=fun s=>s=⟨[(0,.p (eStrs m))],[]⟩)
  ⟨(x3a _).symm,rfl⟩
 obtain⟨σ2,β2,t,z⟩:=c σ' β' {tmps:=#[u],defers:=[]} w' ⟨rfl,rfl,fun i=>by
  match i with
  |0=>simpa[getS]using x
  |i+1=>exact .p (by simpa[getS]using Rep.any _),v⟩
 exact⟨.p (eStrs m),u,σ2,β2,[],B,⟨rfl,rfl⟩,by simpa[getS]using t.E 0,t.heap,n.trans z⟩
def Lu(p:Pg)(h i l:LV)(n:Nat):Chunk:=.obj 121 [.p (.ip (sheetOf p).cells),h,i,l,.hd 0 0 n,.hd 1 0 n]
def YS(L:List (List Str)):Chunk:=.own 22 1 (L.map eStrs)
def Gk(p:Pg)(k:Nat):Chunk:=.own 97 1 (((wysB p).take k).map fun w=>.ip w.cells)
theorem CT(n:Nat):ElS (List.replicate n (AV.ofV (.slice none 0 0))) ((List.replicate n ([]:List Str)).map eStrs):=by
 refine⟨by simp,fun m x h=>?_⟩;rw[x7h,x5v]at h;rw[x5v];split at h
 ·cases h;rw[if_pos (by assumption)];refine⟨_,rfl,rfl,fun j c i=>?_⟩
  match j,i with
  |0,i=>cases i;exact⟨_,rfl,Sub.nils⟩
 ·cases h
def q7n{a:AV}{p:Pg}{n:Nat}:
  Le N ⟨[(1,.p a),(3,.ptr 2 0)],[(2,.obj 121 [.p (.ip (sheetOf p).cells),.p (AV.ofS (.slice none 0 0)),.p (AV.ofS (.slice none 0 0)),.p (AV.ofS (.slice none 0 0)),.hd 0 0 n,.hd 1 0 n]),(1,.own 22 1 (List.replicate n (AV.ofV (.slice none 0 0)))),(0,.own 22 1 (List.replicate n (AV.ofV (.slice none 0 0))))]⟩
   ⟨[(1,.p a),(3,.ptr 2 0)],[(3,Gk p 0),(2,Lu p (.hd 3 0 0) (.p .nils) (.p .nils) n),(1,YS (List.replicate n [])),(0,YS (List.replicate n []))]⟩:=by
 refine Le.trans (Le.Z (.same (.Z (CT n) (.Z (CT n) .nil)))) ?_;exact Le.mk [(3,Gk p 0)] (by simp[Chunk.new0,Gk];rfl) (by simp) (by simp) (.r (.r .nil)) (.new x4z (.cons rfl (.obj (.r (.cons (.nil x4z) (.r (.r (.r (.r .nil))))))) (.cons rfl (.refl _) (.cons rfl (.refl _) .nil))))
def q9i(k:Nat):Nat:=if k=0 then 1 else if k=1 then 0 else k
theorem q9t{a:AV}{p:Pg}{n:Nat}:
  Le N ⟨[(1,.p a),(3,.ptr 2 0)],[(2,.obj 121 [.p (.ip (sheetOf p).cells),.p (AV.ofS (.slice none 0 0)),.p (AV.ofS (.slice none 0 0)),.p (AV.ofS (.slice none 0 0)),.hd 1 0 n,.hd 0 0 n]),(1,.own 22 1 (List.replicate n (AV.ofV (.slice none 0 0)))),(0,.own 22 1 (List.replicate n (AV.ofV (.slice none 0 0))))]⟩
   ⟨[(1,.p a),(3,.ptr 2 0)],[(3,Gk p 0),(2,Lu p (.hd 3 0 0) (.p .nils) (.p .nils) n),(1,YS (List.replicate n [])),(0,YS (List.replicate n []))]⟩:=by
 refine Le.trans ?_ q7n;refine Ch q9i (fun k=>by unfold q9i;split<;>(try split)<;>simp_all) (fun j l m=>by unfold q9i;rw[if_neg (by omega),if_neg (by omega)]) (.r (.r .nil)) (fun j c h=>?_) (by simp);rcases x4v.1 h with i|h
 ·cases i;exact⟨_,x4z,CSub.refl _⟩
 rcases x4v.1 h with i|h
 ·cases i;exact⟨_,x4x _ (x4x _ x4z),CSub.refl _⟩
 rcases x4v.1 h with i|h
 ·cases i;exact⟨_,x4x _ x4z,CSub.refl _⟩
 ·cases h
theorem EO{W:List (List Str)}(h:k<W.length)(i:W.length=O.length):((W.take k++O.drop k).map eStrs).set k (eStrs W[k])=(W.take (k+1)++O.drop (k+1)).map eStrs:=by
 rw[<-x5d,x7k _ _ (by rw[x5z];omega),x5z,show k-min k W.length=0 by omega,x5j (by omega),x7m,x4k h,x4r];rfl
theorem q2c{W:List (List Str)}(h:k<O.length)(i:W.length=O.length):((W.take k++O.drop k).map eStrs)[k]?=some (eStrs O[k]):=by
 rw[x4q,x5t (by rw[x5z];omega),x5z,show k-min k W.length=0 by omega,x5o,x8d,x3e h];rfl
theorem EI{W:List (List Str)}(h:k<=O.length)(i:W.length=O.length):((W.take k++O.drop k).map eStrs).length=O.length:=by
 rw[x3a,x3o,x5z,x6c];omega
def q2a{W:List (List Str)}(m:k<W.length)(i:k<O.length):decide (W.take (k+1)=O.take (k+1))=(decide (W.take k=O.take k)&&decide (W[k]=O[k])):=by
 rw[x4k m,x4k i,<-Bool.decide_and];refine decide_eq_decide.2 ⟨fun h=>?_,fun h=>by rw[h.1,h.2]⟩;have l:=List.append_inj' h rfl;exact⟨l.1,by simpa using l.2⟩
theorem TU{p:Pg}(i:QL p=true)(h:OkI p I){t:S}(q:t∈VH p):(Qf (bkI p I) t).length<=1000000000:=by
 have r:=TV t;unfold Qf;split
 ·rename_i m;have l:=(FM i q m).2;have u:=XP I0 t.args;have v:t.args.length*1048577<=8*1048577:=x5l _ l;have n:=h.len25 i (caI (bkI p I).s.p t).toNat;have w:(inAt (bkI p I) t).length<=25:=n;simp only[x3o];omega
 ·omega
def Ot{g:FuncId}{args:List LV}{i:Option Nat}{s:St}{avs:List AV}{L:List Str}{nil:Prop}(k:Nat)(r:WY k s=true)(n:SpecH P g (avs.map .p) [] (OneRow (Jg L) nil))(ha:FrzL s.H args avs)(m:nil->setD N s.sl i (.p .nils) fun sl=>K ⟨sl,s.H⟩)(h:setD N s.sl i (.hd k 0 L.length) fun sl=>K ⟨sl,(k,.own 9 1 (L.map .str))::s.H⟩):CallK P N g args i s K:=
 VL k r n ha m fun q e sz es l=>by
  obtain⟨rfl,rfl,rfl⟩:=l;rw[x3a];exact h
def q7w{H:Heap}{p:Pg}{m q r:LV}{n:Nat}(y:getH H 2=some (Lu p m q r n))(s:Frz H m (.sl ((wysB p).map fun w=>.ip w.cells)))(t:Frz H q (.sl (D.map eStrs)))(u:Frz H r (.sl (U.map eStrs)))(v:Frz H (.hd 0 0 n) (.sl (I.map eStrs)))(x:Frz H (.hd 1 0 n) (.sl (O.map eStrs))):Frz H (.ptr 2 0) (.ip (Book.cells ⟨sheetOf p,wysB p,D,U,I,O⟩)):=
 Frz.ptr (off:=0) (cs:=Book.cells ⟨sheetOf p,wysB p,D,U,I,O⟩) y rfl fun j l c h i=>by
  match j,h,i with
  |0,h,i=>cases h;cases i;exact .p (Sub.refl _)
  |1,h,i=>cases h;cases i;exact s
  |2,h,i=>cases h;cases i;exact t
  |3,h,i=>cases h;cases i;exact u
  |4,h,i=>cases h;cases i;exact v
  |5,h,i=>cases h;cases i;exact x
  |j+6,h,_=>cases h
def Qq{p:Pg}:Gk p p.A.length=.own 97 1 ((wysB p).map fun w=>.ip w.cells):=by
 unfold Gk;rw[x4b (by unfold wysB;rw[x3a,x6l];exact x4m _)]
def Qb{p:Pg}:p.A.length=((wysB p).map fun w=>AV.ip w.cells).length:=by
 unfold wysB;rw[x3a,x3a,x6l]
def N7{L:List (List Str)}(h:k<L.length)(i:L[k]=o):YS (L.take (k+1))=.own 22 1 ((L.take k).map eStrs++[eStrs o]):=by
 unfold YS;rw[x4k h,x4d,i];rfl
def ND:Code->List Code
 |.seq a b=>ND a++ND b
 |.cond _ a b=>ND a++ND b
 |.block _ b=>ND b
 |.loop b=>b::ND b
 |_=>[]
noncomputable def x2e(k:Nat):Code:=(ND (Tryz.f63.body.getD .skip)).getD k .skip
theorem q4m{p:Pg}(J:QL p=true){R:List (List Str)}(H:OkO p O)(M:D.length=(sheetOf p).l.length)(e:U.length=(sheetOf p).l.length)(hd:∀d∈D,d.Pairwise ltT/\d.length<=1000000000)(hu:∀d∈U,d.Pairwise ltT/\d.length<=1000000000)(hIn:I.length=p.A.length)(hRn:R.length=p.A.length)(hR:∀(k:Nat)(h:k<p.A.length)(h':k<R.length),R[k]=VK (RD p k p.A[k] D U (O.getD k []))){K:Exit->St->Prop}(hK:∀(m:Bool)(s:St),m=(!decide (R=I))->Le Tryz.f63.ntmps s ⟨[(1,.p (.ip p.cells)),(3,.ptr 2 0),(10,.p (.bool m))],[(5,YS U),(4,YS D),(3,Gk p p.A.length),(2,Lu p (.hd 3 0 p.A.length) (.hd 4 0 D.length) (.hd 5 0 U.length) p.A.length),(1,YS O),(0,YS R)]⟩->K (.exit 12) s):
  LoopK prog tab Tryz.f63.ntmps K7 (x2e 6) K ⟨[(1,.p (.ip p.cells)),(3,.ptr 2 0),(10,.p .ff),(147,.p (.int .i64 (p.A.map fun f=>AV.agg f.cells).length)),(148,.j 0)],[(5,YS U),(4,YS D),(3,Gk p p.A.length),(2,Lu p (.hd 3 0 p.A.length) (.hd 4 0 D.length) (.hd 5 0 (sheetOf p).l.length) p.A.length),(1,YS O),(0,YS I)]⟩:=by
 obtain⟨hg,hpl,hcn⟩:=XF J;have hpm:(p.A.map fun f=>AV.agg f.cells).length=p.A.length:=x3a _;have y:R.length=I.length:=by omega
 have hOn:=H.len;have Y:p.A.length=(O.map eStrs).length:=by rw[x3a,H.len]
 have Q:D.length=(D.map eStrs).length:=by rw[x3a]
 refine lJ (fun x:Nat×Bool=>⟨[(1,.p (.ip p.cells)),(3,.ptr 2 0),(10,.p (.bool x.2)),(147,.p (.int .i64 (p.A.map fun f=>AV.agg f.cells).length)),(148,.j x.1)],[(5,YS U),(4,YS D),(3,Gk p p.A.length),(2,Lu p (.hd 3 0 p.A.length) (.hd 4 0 D.length) (.hd 5 0 (sheetOf p).l.length) p.A.length),(1,YS O),(0,YS (R.take x.1++I.drop x.1))]⟩) (fun x=>x.1<=p.A.length/\x.2 = !decide (R.take x.1=I.take x.1)) (fun x=>p.A.length-x.1) (0,false) (lE (hsl:=.r (.r (.cons (.p (Sub.ff rfl)) (.r (.r .nil)))))) ⟨x4j _,rfl⟩ ?_;rintro⟨k,m⟩ ⟨hk1,t⟩;simp only at hk1 t⊢;rcases x4f k p.A.length with n|n;rotate_left 1
 ·obtain rfl:k=p.A.length:=by omega
  rw[x4b (by omega),x4b (by omega)]at t;rw[x4b (by omega),x4l (by omega),x5m];conv=>whnf
  repeat' (apply bD<;>intro _<;>first|omega|conv=>whnf)
  exact hK m _ t (lE (hH:=.cons rfl (.refl _) (.cons rfl (.refl _) (.cons rfl (.refl _) (.cons rfl (.of_eq (by rw[e])) (.cons rfl (.refl _) (.cons rfl (.refl _) .nil)))))))
 ·have z:p.A[k]?=some p.A[k]:=by simp
  have hpk:=VJ z;obtain⟨o,L⟩ : ∃o,O.getD k []=o:=⟨_,rfl⟩;have V:O[k]?=some o:=by rw[<-L,x3i,x3e (by omega)];rfl
  have u:o.Pairwise ltT:=by rw[<-L];exact DX H.rise k
  have hol25:o.length<=25:=by rw[<-L];exact H.len25 J k
  have G:(wysB p)[k]?=some (QQ p k p.A[k]):=by rw[NO n,hpk]
  have hN:=fun x=>Ub ⟨sheetOf p,wysB p,D,U,(R).take k++I.drop k,O⟩ p J k p.A[k] z G o V u (by omega) M e hd hu x;have B:=F7 ⟨sheetOf p,wysB p,D,U,(R).take k++I.drop k,O⟩ p rfl J k p.A[k] z G o hN;have v:(R)[k]'(by omega)=VK (RD p k p.A[k] D U o):=by
   rw[hR k n (by omega),L]
  have hol:(RD p k p.A[k] D U o).length<=1000000000:=by
   have h1:(RD p k p.A[k] D U o).length<=(p.F++[JE]).length:=x6p _ _;rw[x3o,x4i]at h1;omega
  have C:SpecH prog 109 ([AV.ip (Book.cells ⟨sheetOf p,wysB p,D,U,(R).take k++I.drop k,O⟩),.int .i64 k].map .p) [] (OneRow (Jg (RD p k p.A[k] D U o)) False):=B;have q:=EO (W:=R) (O:=I) (k:=k) (by omega) y;have g:=q2c (W:=R) (O:=I) (k:=k) (by omega) y;have hln:=EI (W:=R) (O:=I) (k:=k) (by omega) y;have i:=q2a (W:=R) (O:=I) (k:=k) (by omega) (by omega);have w:=WN ((R)[k]'(by omega)) (I[k]'(by omega));rw[v]at w q i;have T:(sheetOf p).l.length=(U.map eStrs).length:=by rw[x3a];omega
  have c:p.A.length=(((R).take k++I.drop k).map eStrs).length:=by rw[hln];omega
  clear B v hN;generalize RD p k p.A[k] D U o=ol at*
  generalize hdq:decide (VK ol=I[k])=dq at w i;have Z:decide ((R).take k=I.take k) = !m:=by rw[t,Bool.not_not]
  rw[Z]at i;cases m<;>cases dq;all_goals
   conv=>whnf
   repeat' ((first|refine gX ?_|refine iO k ?_|refine lO g ?_|refine cP w ?_|refine sO (eStrs (VK ol)) g ?_|((first|apply bD|apply bB)<;>intro _<;>try omega)|refine Ot 6 rfl C (.cons (q7w rfl (.hd (x6h some Qq) Qb) (.hd rfl Q) (.hd rfl T) (.hd rfl c) (.hd rfl Y)) (.cons (.p (Sub.refl _)) .nil)) (fun E=>E.elim) ?_|(refine cH [(1000,6)] 0 (JG ol hol) ?_))<;>conv=>whnf)
  all_goals first
   |exact absurd (show false=true by assumption) (by decide)
   |exact absurd (show true=false by assumption) (by decide)
   |exact⟨(k+1,true),⟨n,by simp only;rw[i];rfl⟩,by simp only;omega,lE (hsl:=.r (.r (.cons (.p (Sub.tt rfl)) (.r (.r .nil))))) (hH:=.cons rfl (.refl _) (.cons rfl (.refl _) (.cons rfl (.refl _) (.cons rfl (.refl _) (.cons rfl (.refl _) (.cons rfl (.of_eq (x6h (Chunk.own 22 1) q)) .nil))))))⟩
   |exact⟨(k+1,true),⟨n,by simp only;rw[i];rfl⟩,by simp only;omega,lE (hH:=.cons rfl (.refl _) (.cons rfl (.refl _) (.cons rfl (.refl _) (.cons rfl (.refl _) (.cons rfl (.refl _) (.cons rfl (.of_eq (x6h (Chunk.own 22 1) q)) .nil))))))⟩
   |exact⟨(k+1,false),⟨n,by simp only;rw[i];rfl⟩,by simp only;omega,lE (hH:=.cons rfl (.refl _) (.cons rfl (.refl _) (.cons rfl (.refl _) (.cons rfl (.refl _) (.cons rfl (.refl _) (.cons rfl (.of_eq (x6h (Chunk.own 22 1) q)) .nil))))))⟩
   |exact⟨(k+1,false),⟨n,by simp only;rw[i];rfl⟩,by simp only;omega,lE (hsl:=.r (.r (.cons (.p (Sub.ff rfl)) (.r (.r .nil))))) (hH:=.cons rfl (.refl _) (.cons rfl (.refl _) (.cons rfl (.refl _) (.cons rfl (.refl _) (.cons rfl (.refl _) (.cons rfl (.of_eq (x6h (Chunk.own 22 1) q)) .nil))))))⟩
def q7l{p:Pg}(h:k<p.A.length)(i:k<(niB p D U O).length):(niB p D U O)[k]=VK (RD p k p.A[k] D U (O.getD k [])):=by
 have l:k<((List.range p.A.length).map (niA p D U O)).length:=i;show((List.range p.A.length).map (niA p D U O))[k]'l=_;rw[x8i,z0q];unfold niA;rw[VJ (x3e h)]
def q7a{p:Pg}:∀(k:Nat)(h:k<p.A.length)(i:k<(rdI p D O I).length),(rdI p D O I)[k]=VK (RD p k p.A[k] D (usB p I) (O.getD k [])):=fun _ h i=>q7l h i
end Go.Ab
