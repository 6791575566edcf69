/- way: the traps, walked. -/
import Derived.Test.YtgpjfppgphaobaaGreatProJ15
set_option linter.all false
set_option maxRecDepth 100000
set_option maxHeartbeats 16000000
namespace Go.Ab
open Go.Proofs.Tryz
open Go.Proofs
variable {N N' a b:Nat}{sl:List (Nat×LV)}
theorem Po(w:Way)(f:Pr)(n:Nat)(L:w.n=n)(Q:w.p.A[w.j]?=some f)(P:cntP w.p.A<=1000)(hn:n<=5000)(hn2:2<=n)(v:w.real.length<=1000000)(hr:∀t∈prsW w f,(0<=t.1/\t.1<n)/\0<=t.2/\t.2<n):aP 225 [.ip w.cells] (eMat (trapsW w f)):=by
 refine sC Yy func225 ?_;conv=>whnf
 have d:=KW n (prsW w f);have s:UR w f=Wq n (QA n (prsW w f)).1:=by unfold UR;rw[L];rfl
 have J:trapsW w f=Wn (QB w.p w.j w.n) (UR w f) (P3 n (UR w f) (prsW w f)) n:=by unfold trapsW;rw[s,BP,L];rfl
 have u:∀k,k<n->0<=(UR w f).getD k 0/\(UR w f).getD k 0<n:=fun k hk=>by rw[s];exact ST d.1 hk
 have g:(UR w f).length=n:=by rw[s,BP]
 have c:=W1 n hn (QA n (prsW w f)) d.1 d.2 (A0 n (prsW w f));rw[<-s]at c;rw[J];clear J s d;generalize UR w f=part at u g c⊢;have ha0:=u 0 (by omega);have ha1:=u (n-1) (by omega);have G:=Ml (l:=part) (i:=0) (by omega);have H:=Ml (l:=part) (i:=n-1) (by omega);have e0:(List.replicate n AV.ff)[(part.getD 0 0).toNat]?=some .ff:=by rw[x9l,if_pos (by omega)]
 have e1:((List.replicate n AV.ff).set (part.getD 0 0).toNat .tt)[(part.getD (n-1) 0).toNat]?=some (bv (((List.replicate n false).set (part.getD 0 0).toNat true).getD (part.getD (n-1) 0).toNat false)):=by
  have:(List.replicate n AV.ff).set (part.getD 0 0).toNat .tt=((List.replicate n false).set (part.getD 0 0).toNat true).map bv:=by
   rw[z0q,z1i];rfl
  rw[this];exact q6q (by rw[z0m,z0g];omega)
 have hplm:(part.map (AV.int .i64)).length=n:=by rw[x8g,g]
 repeat' ((first|(refine iM fun _=>?_)|refine dA ?_|refine x9g rfl ?_|refine aR ?_|refine wI ?_|refine cP (N0 w f n L Q P hn w.real v) ?_|refine cP c ?_|refine z3k n L (by show 1*n<=140737488355328;omega) (by unfold maxLen;omega) ?_|refine iT G ?_|refine iT H ?_|refine z1x (part.getD 0 0).toNat (by omega) (by omega) ?_|refine z1x (part.getD (n-1) 0).toNat (by omega) (by omega) ?_|refine z3v (part.getD 0 0).toNat 0 .ff .tt (show(0+(part.getD 0 0).toNat)*1=(part.getD 0 0).toNat*1+0 by omega) e0 (x9z 1) rfl ?_|refine cP (WO w f Q P (by omega) w.real v) ?_ (ha:=.cons (Sub.refl _) (.cons (Sub.refl _) .nil))|(refine z3v (part.getD (n-1) 0).toNat 0 _ .tt (show(0+(part.getD (n-1) 0).toNat)*1=(part.getD (n-1) 0).toNat*1+0 by omega) e1 (x9z 1) (by cases((List.replicate n false).set (part.getD 0 0).toNat true).getD (part.getD (n-1) 0).toNat false<;>rfl) ?_))<;>conv=>whnf)
 have hprl:(prsW w f).length<=1000000:=by unfold prsW;rw[x8g];exact v
 have hpl2:(avP (prsW w f)).length=(prsW w f).length:=by simp[avP]
 refine lJ (fun x:Nat×List Bool=>⟨[(0,.p (.ip w.cells)),(3,.p (QE part)),(4,.hd 0 0 n),(43,.p (.sl (avP (prsW w f)))),(44,.p (.int .i64 (avP (prsW w f)).length)),(45,.j x.1)],[(0,.own 4 1 (x.2.map bv))]⟩) (fun x=>x.1<=(prsW w f).length/\x.2=((prsW w f).take x.1).foldl (W9 part) (Hy n part)) (fun x=>(prsW w f).length-x.1) (0,Hy n part) (lE (hH:=.cons rfl (.of_eq (by unfold Hy;rw[z0q,z0q,z1i];rfl)) .nil)) ⟨x8m _,rfl⟩ ?_;rintro⟨m,o⟩ ⟨h1,C⟩;simp only at h1 C⊢;have hol:o.length=n:=by rw[C];exact O0 n part _
 rcases x8a m (prsW w f).length with E|E
 ·obtain⟨⟨h3,h4⟩,h5,h6⟩:=hr _ (x8o E);have h7:=u (prsW w f)[m].1.toNat (by omega);have h8:=u (prsW w f)[m].2.toNat (by omega);have e2:=Ml (l:=part) (i:=(prsW w f)[m].1.toNat) (by omega);have B:=Ml (l:=part) (i:=(prsW w f)[m].2.toNat) (by omega);have e4:=q6q (l:=o) (i:=(part.getD (prsW w f)[m].1.toNat 0).toNat) (by omega);have R:(avP (prsW w f))[m]?=some (.agg [.int .i64 (prsW w f)[m].1,.int .i64 (prsW w f)[m].2]):=by simp[avP,E]
  have e5:((prsW w f).take (m+1)).foldl (W9 part) (Hy n part)=W9 part o (prsW w f)[m]:=by rw[x8c E,z2h,<-C];rfl
  conv=>whnf
  repeat' ((first|refine dA ?_|refine x9g rfl ?_|refine wI ?_|refine iT R ?_|refine z1x 0 rfl (by decide) ?_|refine z1x 1 rfl (by decide) ?_|refine iT e2 ?_|refine iT B ?_|refine z1x (part.getD (prsW w f)[m].1.toNat 0).toNat (by omega) (by omega) ?_|refine z3v (part.getD (prsW w f)[m].1.toNat 0).toNat 0 _ .tt (by omega) e4 (x9z 1) (by cases o.getD (part.getD (prsW w f)[m].1.toNat 0).toNat false<;>rfl) ?_|((first|apply bD|apply bE)<;>intro _<;>try omega))<;>conv=>whnf)
  all_goals first
   | (have e:part.getD (prsW w f)[m].1.toNat 0=part.getD (prsW w f)[m].2.toNat 0:=by assumption
      exact nX (m+1,o) ⟨by simp only;omega,by simp only;rw[e5];unfold W9;rw[if_pos e]⟩)
   | (have e:¬part.getD (prsW w f)[m].1.toNat 0=part.getD (prsW w f)[m].2.toNat 0:=by assumption
      exact⟨(m+1,o.set (part.getD (prsW w f)[m].1.toNat 0).toNat true),⟨by simp only;omega,by simp only;rw[e5];unfold W9;rw[if_neg e]⟩,by simp only;omega,Le.of_eq (by simp only[z0q];rfl)⟩)
 ·rw [x9q E]at C;have F:P3 n part (prsW w f)=o:=C.symm;rw[F];clear F C e0 e1 G H c;conv=>whnf
  repeat' ((first|(refine iM fun _=>?_)|(apply bD<;>intro _<;>try omega))<;>conv=>whnf)
  refine lJ (fun q:Nat=>⟨[(0,.p (.ip w.cells)),(3,.p (QE part)),(4,.hd 0 0 n),(7,.hd 1 0 (Wn (QB w.p w.j w.n) part o q).length),(69,.p (.int .i64 (part.map (AV.int .i64)).length)),(70,.j q)],[(0,.own 4 1 (o.map bv)),(1,.own 56 1 ((avI (Wn (QB w.p w.j w.n) part o q)).map AV.sl))]⟩) (fun q=>q<=n) (fun q=>n-q) 0 (lM [(1,.own 56 1 [])]) (x8m _) ?_;intro q hqn;have M:=Rg (QB w.p w.j w.n) part o q;rcases x8a q n with e|e
  ·have e2:=Ml (l:=part) (i:=q) (by omega);have B:=q6q (l:=o) (i:=q) (by omega);have r:=AM (QB w.p w.j w.n) part o q;generalize Wn (QB w.p w.j w.n) part o q=acc at M r⊢;have hpe:part[q]=part.getD q 0:=by rw[x8f,x8h];rfl
   cases K:o.getD q false with
   | true=>
     rw[K]at B;have I:¬Gv part o q=true:=by unfold Gv;rw[K];simp
     rw[if_neg I]at r;conv=>whnf
     repeat' ((first|(refine gX ?_;intros)|refine iO q ?_|refine lO B ?_|((first|apply bD|apply bE)<;>intro _<;>try omega))<;>conv=>whnf)
     all_goals exact⟨q+1,e,by omega,Le.of_eq (by rw[r];rfl)⟩
   | false=>
     rw[K]at B;conv=>whnf
     repeat' ((first|(refine gX ?_;intros)|refine iO q ?_|refine lO B ?_|((first|apply bD|apply bE)<;>intro _<;>try omega))<;>conv=>whnf)
     all_goals try
      have T:¬part.getD q 0=(q:Int):=by omega
      have I:¬Gv part o q=true:=fun h=>by
       unfold Gv at h;rw[x9w,z2k]at h;exact T h.1
      rw[if_neg I]at r;exact⟨q+1,e,by omega,Le.of_eq (by rw[r];rfl)⟩
     have U:part.getD q 0=(q:Int):=by omega
     have I:Gv part o q=true:=by unfold Gv;rw[K,U];simp
     rw[if_pos I,g]at r;refine lJ (fun z:Nat=>⟨[(0,.p (.ip w.cells)),(3,.p (QE part)),(4,.hd 0 0 n),(7,.hd 1 0 acc.length),(8,.j q),(9,.hd 2 0 (BO (QB w.p w.j w.n) part q z).length),(69,.p (.int .i64 (part.map (AV.int .i64)).length)),(70,.j q),(86,.p (.int .i64 (part.map (AV.int .i64)).length)),(87,.j z)],[(0,.own 4 1 (o.map bv)),(1,.own 56 1 ((avI acc).map AV.sl)),(2,.own 3 1 ((BO (QB w.p w.j w.n) part q z).map (.int .i64)))]⟩) (fun z=>z<=n) (fun z=>n-z) 0 (lM [(2,.own 3 1 [])]) (x8m _) ?_;intro z hzn;have O:=Rh (QB w.p w.j w.n) part q z;rcases x8a z n with Z|Z
     ·have e4:=Ml (l:=part) (i:=z) (by omega);have y:=AL (QB w.p w.j w.n) part q z;generalize BO (QB w.p w.j w.n) part q z=l at O y⊢;conv=>whnf
      repeat' ((first|(refine gX ?_;intros)|refine cP (ZB w f Q P (by omega) z (by omega)) ?_ (ha:=.cons (Sub.refl _) (.cons (Sub.refl _) .nil))|refine pI ?_|(apply bD<;>intro _<;>try omega))<;>conv=>whnf)
      have V:part[z]=part.getD z 0:=by rw[x8f,x8h];rfl
      ·rw[if_pos (by omega)]at y;exact⟨z+1,Z,by omega,Le.of_eq (by rw[y,x8d,x8i];rfl)⟩
      ·have V:part[z]=part.getD z 0:=by rw[x8f,x8h];rfl
       rw[if_neg (by omega)]at y;exact⟨z+1,Z,by omega,Le.of_eq (by rw[y];rfl)⟩
     ·have hze:z=n:=by omega
      subst hze;conv=>whnf
      repeat' (apply bD<;>intro _<;>first|omega|conv=>whnf)
      have D:(BO (QB w.p w.j w.n) part q z).length=((BO (QB w.p w.j w.n) part q z).map (AV.int .i64)).length:=by simp
      refine OpK.frz XD [[9,104]] ?_;conv=>whnf
      refine LenK.mk D ?_;conv=>whnf
      refine LenK.mk D ?_;conv=>whnf
      repeat' ((first|refine gX ?_|refine pA 1 24 (by simp[avI]) ?_)<;>conv=>whnf)
      exact⟨q+1,e,by omega,Le.of_eq (by rw[r];simp only[avI,x8d,x8i];rfl)⟩
  ·have Y:q=n:=by omega
   subst Y;conv=>whnf
   repeat' (apply bD<;>intro _<;>first|omega|conv=>whnf)
   exact⟨_,.hd rfl (by simp[avI]),rfl⟩
def vOf(p:Pg)(id:Int):List Step:=match AD p id with
 |some s=>if s.kind=10 then [⟨id,-1,3⟩]else []
 |none=>[]
def WW(w:Way)(f:Pr):List Step:=(trapsW w f).flatMap fun l=>l.flatMap (vOf w.p)
def x0w(p:Pg)(id:Int):(vOf p id).length<=1:=by
 unfold vOf;split
 .split<;>simp
 .simp
theorem ZV{α β:Type}{g:α->List β}{c:Nat}:∀(l:List α),(∀x∈l,(g x).length<=c)->(l.flatMap g).length<=l.length*c
 |[],_=>by simp
 | a::r,h=>by
   have j:=h a x8p;have k:=ZV r fun x i=>h x (x8b _ i);rw[z0e,x8d,x9s,z1u];omega
theorem Gp(w:Way)(f:Pr)(n:Nat)(Y:w.n=n)(O:w.p.A[w.j]?=some f)(M:cntP w.p.A<=1000)(R:n<=5000)(C:2<=n)(z:w.real.length<=1000000)(T:∀t∈prsW w f,(0<=t.1/\t.1<n)/\0<=t.2/\t.2<n)(D:(trapsW w f).length<=5000)(d:∀l∈trapsW w f,l.length<=5000/\∀id∈l,1<=id/\id<=(sheetOf w.p).l.length):
  aH 175 [.p (.ip w.cells)] [] (.hd 0 0 (WW w f).length) [(0,.own 225 3 (avS (WW w f)))]:=by
 refine sK Zb func175 ?_;conv=>whnf
 repeat' ((first|(refine iM fun _=>?_)|refine cP (Po w f n Y O M R C z T) ?_)<;>conv=>whnf)
 unfold WW;generalize trapsW w f=ts at D d⊢;have Q:((avI ts).map AV.sl).length=ts.length:=by simp[avI]
 refine lJ (fun x:Nat×List Step=>⟨[(0,.p (.ip w.cells)),(3,.hd 0 0 x.2.length),(9,.p (eMat ts)),(10,.p (.int .i64 ((avI ts).map AV.sl).length)),(11,.j x.1)],[(0,.own 225 3 (avS x.2))]⟩) (fun x=>x.1<=ts.length/\x.2.length<=x.1*5000/\x.2++(ts.drop x.1).flatMap (fun l=>l.flatMap (vOf w.p))=ts.flatMap fun l=>l.flatMap (vOf w.p)) (fun x=>ts.length-x.1) (0,[]) (lM [(0,.own 225 3 [])]) ⟨x8m _,by simp,rfl⟩ ?_;rintro⟨m,e⟩ ⟨I,J,q⟩;simp only at I J q⊢;rcases x8a m ts.length with r|r;rotate_left 1
 ·rw[x9v r,List.flatMap_nil,x9c]at q;conv=>whnf
  repeat' (apply bD<;>intro _<;>first|omega|conv=>whnf)
  exact⟨_,x9j _,by rw[q],by rw[q]⟩
 obtain⟨B,y⟩:=d _ (x8o r);have G:((avI ts).map AV.sl)[m]?=some (.sl (ts[m].map (.int .i64))):=by simp[avI,r]
 rw[YR r]at q;conv=>whnf
 repeat' ((first|(refine gX ?_;intros)|(apply bD<;>intro _<;>try omega))<;>conv=>whnf)
 have g:(avI ts)[m]'(by simp[avI];exact r)=ts[m].map (.int .i64):=by simp[avI]
 rw[g];generalize ts[m]=l at B y q⊢;have P:(l.map (AV.int .i64)).length=l.length:=x8g _;generalize H:(ts.flatMap fun l=>l.flatMap (vOf w.p))=tot at q⊢;refine lI (fun x:Nat×List Step=>⟨[(0,.p (.ip w.cells)),(3,.hd 0 0 x.2.length),(9,.p (eMat ts)),(10,.p (.int .i64 ((avI ts).map AV.sl).length)),(11,.j m),(15,.p (QE l)),(16,.p (.int .i64 (l.map (AV.int .i64)).length)),(17,.j x.1)],[(0,.own 225 3 (avS x.2))]⟩) (fun x=>x.1<=l.length/\x.2.length<=m*5000+x.1/\x.2++((l.drop x.1).flatMap (vOf w.p)++(ts.drop (m+1)).flatMap (fun l=>l.flatMap (vOf w.p)))=tot) (fun x=>l.length-x.1) (0,e) ⟨x8m _,by simp only;omega,q⟩ ?_;rintro⟨k,h⟩ ⟨K,L,o⟩;simp only at K L o⊢;rcases x8a k l.length with v|v;rotate_left 1
 ·rw[x9v v]at o;conv=>whnf
  repeat' ((first|refine wI ?_|(apply bD<;>intro _<;>try omega))<;>conv=>whnf)
  exact nX (m+1,h) ⟨r,by simp only;omega,by simpa using o⟩
 obtain⟨Z,h8⟩:=y _ (x8o v);obtain⟨_,_,_,hsl,_⟩:=QU w.p;have c:(l[k]-1).toNat<(sheetOf w.p).l.length:=by omega
 have U:∃u:Item,((sheetOf w.p).l.map fun i=>AV.agg i.cells)[(l[k]-1).toNat]?=some (.agg u.cells)/\AD w.p l[k]=some u.s:=⟨_,by rw[x8n,x8h c];rfl,by unfold AD;rw[x8h c];rfl⟩;obtain⟨u,E,F⟩:=U;rw[YR v]at o;have V:vOf w.p l[k]=if u.s.kind=10 then [⟨l[k],-1,3⟩]else []:=by unfold vOf;rw[F]
 rw[V]at o;conv=>whnf
 repeat' ((first|(refine gX ?_;intros)|refine iT E ?_|refine pA 1 24 (by simp[avS]) ?_|(apply bD<;>intro _<;>try omega))<;>conv=>whnf)
 ·rw[if_pos (by assumption)]at o;exact⟨(k+1,h++[⟨l[k],-1,3⟩]),⟨v,by simp;omega,by simpa using o⟩,by simp only;omega,Le.of_eq (by simp only[avS,x8d,x8i];rfl)⟩
 ·rw[if_neg (by assumption)]at o;exact nX (k+1,h) ⟨v,by simp only;omega,by simpa using o⟩
def fOf(h:Item):List Step:=if h.s.kind=7\/h.s.kind=8\/h.s.kind=9\/h.s.kind=10 then [⟨h.s.id,h.next,2⟩]else []
structure WayT(w:Way)(f:Pr)(n:Nat):Prop where
 hw:w.n=n
 hj:w.p.A[w.j]?=some f
 hc:cntP w.p.A<=1000
 hn:n<=5000
 hn2:2<=n
 hlen:w.real.length<=1000000
 hr:∀t∈prsW w f,(0<=t.1/\t.1<n)/\0<=t.2/\t.2<n
 htl:(trapsW w f).length<=5000
 hti:∀l∈trapsW w f,l.length<=5000/\∀id∈l,1<=id/\id<=(sheetOf w.p).l.length
 hok:∀s∈w.real,okSt s
 hfk:∀it∈itsOf w.p w.j f,∀s∈fOf it,okSt s
def x0v{p:Pg}{id:Int}{s:Step}(h:s∈vOf p id):s=⟨id,-1,3⟩:=by
 unfold vOf at h;split at h
 .split at h
  .simpa using h
  .simp at h
 .simp at h
theorem WayT.virt_ok{w:Way}{f:Pr}{n:Nat}(h:WayT w f n):∀s∈WW w f,okSt s:=fun s i=>by
 unfold WW at i;obtain⟨l,m,i⟩:=x9m.1 i;obtain⟨id,j,i⟩:=x9m.1 i;obtain⟨_,_,_,hsl,_⟩:=QU w.p;have o:=(h.hti l m).2 id j;have q:=h.hc;rw[x0v i];exact⟨by show id≠_;omega,by show(-1:Int)≠_;decide⟩
theorem WayT.virt_len{w:Way}{f:Pr}{n:Nat}(h:WayT w f n):(WW w f).length<=25000000:=by
 have m:=ZV (g:=fun l=>l.flatMap (vOf w.p)) (c:=5000) (trapsW w f) fun l j=>by
  have i:=ZV (g:=vOf w.p) (c:=1) l fun id _=>x0w w.p id;have o:=(h.hti l j).1;omega
 have i:=h.htl;unfold WW;omega
def Ql(w:Way)(f:Pr):List Step:=VD (WW w f++w.real)
def Yt(w:Way)(f:Pr):List Step:=WW w f++w.real++[⟨0,-1,2⟩]++(itsOf w.p w.j f).flatMap fOf
def CM(w:Way)(f:Pr):List Step:=VD (Yt w f)
def q7i(h:Item):(fOf h).length<=1:=by
 unfold fOf;split<;>simp
theorem Ve(w:Way)(f:Pr)(n:Nat)(h:WayT w f n):aP 127 [.ip w.cells] (eSteps (Ql w f)):=by
 refine sC H4 func127 ?_;conv=>whnf
 have o:=h.hlen;have q:=h.virt_len;have k:=h.virt_ok;repeat' ((first|refine dA ?_|refine aD ?_|(refine cH [] 0 (Gp w f n h.hw h.hj h.hc h.hn h.hn2 h.hlen h.hr h.htl h.hti) ?_ (hH:=z0r)))<;>conv=>whnf)
 have j:(w.real.map fun s=>AV.agg s.cells).length=w.real.length:=x8g _;have m:(avS (WW w f)).length=(WW w f).length:=by simp[avS]
 refine AppK.mk m.symm rfl (by rw[j];show((WW w f).length+w.real.length)*24<=140737488355328;omega) (by rw[j];show(WW w f).length+w.real.length<=9223372036854775807;omega) (fun x r=>by obtain⟨s,_,rfl⟩:=x8s.1 r;exact⟨rfl,rfl⟩) ?_;conv=>whnf
 have i:avS (WW w f)++(w.real.map fun s=>AV.agg s.cells)=avS (WW w f++w.real):=by simp[avS]
 have l:(WW w f).length+(w.real.map fun s=>AV.agg s.cells).length=(WW w f++w.real).length:=by simp
 rw[i,l];repeat' ((refine cH rH1 0 (J9 (WW w f++w.real) (fun s p=>(x8e.1 p).elim (k s) (h.hok s)) (by rw[x8d];omega)) ?_)<;>conv=>whnf)
 exact⟨_,.hd rfl (by simp[avS]),rfl⟩
theorem Gd(w:Way)(f:Pr)(n:Nat)(h:WayT w f n):aP 126 [.ip w.cells] (eSteps (CM w f)):=by
 refine sC Di func126 ?_;conv=>whnf
 have c:=h.hlen;have H:=h.virt_len;have y:=h.virt_ok;have D:=h.hc;have u:itL w.j 0 (-1) 0 (QC w.p.A w.j) f.body=itsOf w.p w.j f:=rfl;repeat' ((first|refine dA ?_|refine aD ?_|(refine cH [] 0 (Gp w f n h.hw h.hj h.hc h.hn h.hn2 h.hlen h.hr h.htl h.hti) ?_ (hH:=z0r)))<;>conv=>whnf)
 have z:(w.real.map fun s=>AV.agg s.cells).length=w.real.length:=x8g _;have g:(avS (WW w f)).length=(WW w f).length:=by simp[avS]
 refine AppK.mk g.symm rfl (by rw[z];show((WW w f).length+w.real.length)*24<=140737488355328;omega) (by rw[z];show(WW w f).length+w.real.length<=9223372036854775807;omega) (fun x O=>by obtain⟨s,_,rfl⟩:=x8s.1 O;exact⟨rfl,rfl⟩) ?_;conv=>whnf
 have q:avS (WW w f)++(w.real.map fun s=>AV.agg s.cells)=avS (WW w f++w.real):=by simp[avS]
 have d:(WW w f).length+(w.real.map fun s=>AV.agg s.cells).length=(WW w f++w.real).length:=by simp
 rw[q,d];have C:(WW w f++w.real).length<=26000000:=by rw[x8d];omega
 have r:∀s∈WW w f++w.real++[⟨0,-1,2⟩],okSt s:=fun s k=>by
  rcases x8e.1 k with k|k
  ·exact(x8e.1 k).elim (y s) (h.hok s)
  ·rw[x8l.1 k];exact⟨by decide,by decide⟩
 have v:Yt w f=WW w f++w.real++[⟨0,-1,2⟩]++(itsOf w.p w.j f).flatMap fOf:=rfl;unfold CM;rw[v];clear v q d z g y H c;generalize WW w f++w.real=base at C r⊢;repeat' ((first|(refine gX ?_;intros)|refine dA ?_|refine cP (B3 w.p h.hj D) ?_|refine pA 1 24 (by simp[avS]) ?_)<;>conv=>whnf)
 rw[u];have E:(itsOf w.p w.j f).length<=1000:=by
  obtain⟨_,_,_,hsl,G⟩:=QU w.p;obtain⟨_,_,M,_⟩:=G w.j f h.hj;rw[<-u,XO];omega
 have t:=h.hfk;generalize itsOf w.p w.j f=its at E t⊢;have L:=WY its;refine lJ (fun x:Nat×List Step=>⟨[(3,.hd 0 0 x.2.length),(25,.p (ZE its)),(26,.p (.int .i64 (its.map fun i=>AV.agg i.cells).length)),(27,.j x.1)],[(0,.own 225 3 (avS x.2))]⟩) (fun x=>x.1<=its.length/\x.2.length<=base.length+1+x.1/\x.2++(its.drop x.1).flatMap fOf=base++[⟨0,-1,2⟩]++its.flatMap fOf) (fun x=>its.length-x.1) (0,base++[⟨0,-1,2⟩]) (Le.of_eq (by simp only[avS,x8d,x8i];rfl)) ⟨x8m _,by simp,rfl⟩ ?_;rintro⟨m,l⟩ ⟨I,J,o⟩;simp only at I J o⊢;rcases x8a m its.length with e|e;rotate_left 1
 ·rw[x9v e,List.flatMap_nil,x9c]at o;have F:∀s∈l,okSt s:=fun s k=>by
   rw[o]at k;rcases x8e.1 k with k|k
   ·exact r s k
   ·obtain⟨P,K,k⟩:=x9m.1 k;exact t P K s k
  rw[<-o];conv=>whnf
  repeat' ((first|(apply bD<;>intro _<;>try omega)|(refine cH rH1 0 (J9 l F (by omega)) ?_))<;>conv=>whnf)
  exact⟨_,.hd rfl (by simp[avS]),rfl⟩
 rw[YR e]at o;have B:fOf its[m]=if its[m].s.kind=7\/its[m].s.kind=8\/its[m].s.kind=9\/its[m].s.kind=10 then [⟨its[m].s.id,its[m].next,2⟩]else []:=rfl;conv=>whnf
 repeat' ((first|(refine gX ?_;intros)|refine pA 1 24 (by simp[avS]) ?_|(apply bD<;>intro _<;>try omega))<;>conv=>whnf)
 all_goals first
  | (rw[if_pos (by omega)]at B
     rw[B]at o;exact⟨(m+1,l++[⟨its[m].s.id,its[m].next,2⟩]),⟨e,by simp;omega,by simpa using o⟩,by simp only;omega,Le.of_eq (by simp only[avS,x8d,x8i];rfl)⟩)
  | (rw[if_neg (by omega)]at B
     rw[B]at o;exact nX (m+1,l) ⟨e,by simp only;omega,by simpa using o⟩)
def ElS(es es':List AV):Prop:=es'.length=es.length/\∀(m:Nat)(x':AV),es'[m]?=some x'->∃x,es[m]?=some x/\x'.cells.length=x.cells.length/\∀(j:Nat)(c':AV),x'.cells[j]?=some c'->∃c,x.cells[j]?=some c/\Sub c c'
theorem ElS.refl(es:List AV):ElS es es:=⟨rfl,fun _ j h=>⟨j,h,rfl,fun _ c' i=>⟨c',i,Sub.refl _⟩⟩⟩
inductive SubH:Heap->Heap->Prop
 |nil:SubH [] []
 |same {c:Nat×Chunk} {H H':Heap} (h:SubH H H'):SubH (c::H) (c::H')
 |V {k:Nat} {e:TypeId} {sz:Nat} {es es':List AV} {H H':Heap} (hp:ElS es es') (h:SubH H H'):SubH ((k,.own e sz es)::H) ((k,.own e sz es')::H')
theorem SubH.get{H H':Heap}(h:SubH H H'):H'.map (·.1)=H.map (·.1)/\∀j c',(j,c')∈H'->(j,c')∈H\/∃e sz es es',(j,Chunk.own e sz es)∈H/\c'=.own e sz es'/\ElS es es':=by
 induction h with
 |nil=>exact⟨rfl,by simp⟩
 | same h m=>
   refine⟨by simp[m.1],fun j c' i=>?_⟩;rcases x8r.1 i with rfl|i
   .exact .inl x8p
   .rcases m.2 j c' i with l|⟨e,sz,es,es',l,o⟩
    .exact .inl (x8b _ l)
    .exact .inr ⟨e,sz,es,es',x8b _ l,o⟩
 | @V k e sz es es' H H' q h m=>
   refine⟨by simp[m.1],fun j c' i=>?_⟩;rcases x8r.1 i with i|i
   .cases i;exact .inr ⟨e,sz,es,es',x8p,rfl,q⟩
   .rcases m.2 j c' i with l|⟨e,sz,es,es',l,o⟩
    .exact .inl (x8b _ l)
    .exact .inr ⟨e,sz,es,es',x8b _ l,o⟩
theorem Le.V{N:Nat}{sl:List (Nat×LV)}{H H':Heap}(h:SubH H H'):Le N ⟨sl,H⟩ ⟨sl,H'⟩:=fun σ β a w l=>by
 obtain⟨t,f⟩:=h.get;refine⟨σ,β,⟨l.size,l.defers,l.E,⟨l.heap.mem,fun j c' o=>?_,by show(H'.map (·.1)).Nodup;rw[t];exact l.heap.nodup,fun j o=>l.heap.apart j (by rw[<-t];exact o),fun j o Q g=>l.heap.inj j (by rw[<-t];exact o) Q (by rw[<-t];exact g)⟩⟩,Mem.le_refl σ,Frm.refl _ w,fun b J q=>absurd J q,fun b ⟨j,o,r⟩=>.inl ⟨j,by rw[<-t];exact o,r⟩,fun _ _ _=>rfl⟩;rcases f j c' o with q|⟨e,sz,es,es',q,rfl,v⟩
 .exact l.heap.chunks j c' q
 .rcases l.heap.chunks j _ q with⟨y,z⟩|⟨i,vs,y,z,K,L,M,O,A⟩
  .refine .inl ⟨y,?_⟩;have:=v.1;rw[z]at this;exact z0n this
  .refine .inr ⟨i,vs,y,z,K,L,by rw[v.1];exact M,O,fun m R P=>?_⟩;obtain⟨x,g1,B,C⟩:=v.2 m R P;refine⟨by rw[B];exact(A m x g1).1,fun j c' f=>?_⟩;obtain⟨c,D,F⟩:=C j c' f;obtain⟨u,G,I⟩:=(A m x g1).2 j c D;exact⟨u,G,F _ _ I⟩
theorem Rel.layI{σ:Mem}{β:Lab}{s s':St}{a:Act}{w:World}(t:Rel N σ β s a w){k:Nat}{i:BInfo}(G:β k=some i)(L:k∈s.H.map (·.1))(y:∀b,i.has b->∃c e u,w.heap[b]?=some (.cells c e u))(hsl:∀τ:Mem,σ.le τ->(∀b c e u,i.has b->w.heap[b]?=some (.cells c e u)->τ b=some c)->∀j v,RepL σ β (getS s.sl j) v->RepL τ β (getS s'.sl j) v)(B:∀τ:Mem,σ.le τ->∀j c',(j,c')∈s'.H->j≠k/\∃c,(j,c)∈s.H/\(c.holds σ β w j->c'.holds τ β w j))(hnd:(s'.H.map (·.1)).Nodup):
  ∃σ' β',Rel N σ' β' s' a w/\Later σ β s.H w σ' β' s'.H w:=by
 let τ:Mem:=fun b=>@ite _ (i.has b) (Classical.propDecidable _) (match w.heap[b]?with
  |some (.cells c _ _)=>some c
  |_=>none) (σ b)
 have x:∀b c e u,i.has b->w.heap[b]?=some (.cells c e u)->τ b=some c:=fun b c e u l D=>by
  show @ite _ (i.has b) (Classical.propDecidable _) _ _=_;rw[if_pos l,D]
 have o:∀b,¬i.has b->τ b=σ b:=fun b l=>by
  show @ite _ (i.has b) (Classical.propDecidable _) _ _=_;rw[if_neg l]
 have r:σ.le τ:=fun b c l=>by
  rw[o b]
  .exact l
  .intro I;rw[(t.heap.apart k L i G b I).1]at l;cases l
 have m:∀j∈s'.H.map (·.1),j≠k/\j∈s.H.map (·.1):=fun j q=>by
  obtain⟨⟨F,c'⟩,R,rfl⟩:=x8s.1 q;obtain⟨g,c,z,_⟩:=B τ r F c' R;exact⟨g,x8s.2 ⟨_,z,rfl⟩⟩
 refine⟨τ,β,⟨t.size,t.defers,fun j=>hsl τ r x j _ (t.E j),⟨fun b c l=>?_,fun j c' q=>?_,hnd,fun j q M C b l=>?_,fun j q F J=>t.heap.inj j (m j q).2 F (m F J).2⟩⟩,r,Frm.refl _ _,fun b l A=>.inl ?_,fun b ⟨j,q,K⟩=>.inl ⟨j,(m j q).2,K⟩,fun _ _ _=>rfl⟩
 .by_cases f:i.has b
  .obtain ⟨O,e,u,D⟩:=y b f;rw[x b O e u f D]at l;cases l;exact⟨_,_,D⟩
  .rw [o b f]at l;exact t.heap.mem b c l
 .obtain ⟨_,c,z,P⟩:=B τ r j c' q;exact P (t.heap.chunks j c z)
 .have g:=m j q;have z:=t.heap.apart j g.2 M C b l;refine⟨?_,z.2⟩;rw[o b fun Q=>g.1 (t.heap.inj j g.2 k L M i C G b l Q)];exact z.1
 .by_cases f:i.has b
  .exact ⟨k,L,i,G,f⟩
  .rw [o b f]at A;exact absurd l A
theorem TM{y:List (Nat×LV)}{H H':Heap}{k:Nat}{e e2:TypeId}{sz:Nat}{rows:List (List AV)}(hg:getH H k=some (.ext (.mat e e2 sz rows [])))(hsl:∀i,getS y i=(getS sl i).kill k\/(getS sl i=.hd k 0 rows.length/\getS y i=.p (.sl (rows.map .sl))))(h:(H'.map (·.1)).Sublist (H.map (·.1)))(hH:∀j c',(j,c')∈H'->j≠k/\(j,c')∈H/\c'.kill k=c'):Le N ⟨sl,H⟩ ⟨y,H'⟩:=fun σ β a w s=>by
 have L:=QN hg;rcases s.heap.chunks k _ (QH hg)with⟨R,Y⟩|⟨i,vs,T,h1,h2,h3,h4,h5,h6,h7,h8⟩
 ·refine⟨σ,β,⟨s.size,s.defers,fun j=>?_,⟨s.heap.mem,fun j c' l=>?_,h.nodup s.heap.nodup,fun j l=>s.heap.apart j (h.subset l),fun j l j' U=>s.heap.inj j (h.subset l) j' (h.subset U)⟩⟩,Mem.le_refl σ,Frm.refl _ _,fun _ h0 h1=>absurd h0 h1,fun b ⟨j,l,r⟩=>.inl ⟨j,h.subset l,r⟩,fun _ _ _=>rfl⟩
  ·show RepL σ β (getS y j) _;have t:=s.E j;rcases hsl j with D|⟨g1,B⟩
   ·rw[D];exact t.kill k
   ·rw[B];have t:RepL σ β (getS sl j) _:=t;rw[g1]at t;rcases t.hdI with⟨_,_,_,D⟩|⟨i,_,L,_⟩
    ·rw[D,Y];exact .p .nilsl
    ·rw[R]at L;cases L
  ·exact s.heap.chunks j c' (hH j c' l).2.1
 ·have I:∀(b c A:Nat),i.subs[A]?=some (some (b,c))->∃ws,w.heap[b]?=some (.cells ws e2 (0,0)):=fun b c A J=>by
   have ha:A<rows.length:=by rw[<-h6];exact(x8t.1 J).1
   rcases(h8 A _ (x8h ha)).2 (by simp)with⟨d,_⟩|⟨b',c',ws,d,_,K,_⟩
   ·rw[J]at d;cases d
   ·rw[J]at d;cases d;exact⟨ws,K⟩
  refine s.layI T L (fun b Q=>?_) (fun τ z hτ j v t=>?_) (fun τ z j c' l=>?_) (h.nodup s.heap.nodup)
  ·rcases Q with rfl|⟨c,Q⟩
   ·exact⟨_,_,_,h2⟩
   ·obtain⟨A,P,J⟩:=z0l.1 Q;obtain⟨ws,hw⟩:=I b c A (by rw[x8h P,J]);exact⟨_,_,_,hw⟩
  ·show RepL τ β (getS y j) v;have t:RepL σ β (getS sl j) v:=t;rcases hsl j with D|⟨g1,B⟩
   ·rw[D];exact(t.kill k).mono z
   ·rw [B];rw[g1]at t;rcases t.hdI with⟨q,_⟩|⟨i',oo,q,hl,M,rfl⟩
    ·rw[T]at q;cases q
    ·rw [T]at q;cases q;have V:oo=0:=by
      rcases M with M|M
      ·simpa using M
      ·omega
     subst V;have g:∀(m:Nat)(x:AV),(rows.map AV.sl)[m]?=some x->∃row,rows[m]?=some row/\x=.sl row:=fun m x n=>by
      rw[x8n]at n;cases hq:rows[m]?with
      |none=>rw[hq]at n;cases n
      |some row=>rw[hq]at n;cases n;exact⟨row,rfl,rfl⟩
     have o:∀(m:Nat)(row:List AV),rows[m]?=some row->∃u,vs[m]?=some u/\Rep τ (.sl row) u:=fun m row hm=>by
      rcases(h8 m row hm).2 (by simp)with⟨d,rfl,K⟩|⟨b,c,ws,d,q2,K,q4,q5,q6,Z⟩
      ·exact⟨_,K,.nilsl⟩
      ·refine⟨_,q2,.sl row b 0 c sz ws (fun m j=>(ws[m*sz+j]?).getD undef) (hτ b ws _ _ (.inr ⟨c,x9x d⟩) K) q5 q6 (fun m x n=>(Z m x n).1) (fun m x j c' n l=>?_) fun m x j c' n l=>?_⟩
       ·obtain⟨u,r4,_⟩:=(Z m x n).2 j c' l;simp[r4]
       ·obtain⟨u,r4,r5⟩:=(Z m x n).2 j c' l;simpa[r4]using r5.mono z
     have F:Rep τ (.sl (rows.map .sl)) (.slice (some ⟨i.blk,0,none⟩) (rows.map AV.sl).length i.cap):=by
      refine .sl (rows.map .sl) i.blk 0 i.cap 1 vs (fun m j=>(vs[m*1+j]?).getD undef) (hτ _ _ _ _ i.has_blk h2) (by simpa using h4) h5 (fun m x n=>?_) (fun m x j c' n l=>?_) fun m x j c' n l=>?_
      ·obtain⟨row,_,rfl⟩:=g m x n;rfl
      ·obtain⟨row,C,rfl⟩:=g m x n;obtain⟨u,O,g5⟩:=o m row C;have f:j=0:=by
        have:=(x8t.1 l).1;simpa[AV.cells]using this
       subst f;simp[O]
      ·obtain⟨row,C,rfl⟩:=g m x n;obtain⟨u,O,g5⟩:=o m row C;have f:j=0:=by
        have:=(x8t.1 l).1;simpa[AV.cells]using this
       subst f;cases l;simpa[O]using g5
     have:RepL τ β (.p (.sl (rows.map .sl))) (.slice (some ⟨i.blk,0,none⟩) (rows.map AV.sl).length i.cap):=.p F;simpa using this
  ·obtain⟨g1,B,C⟩:=hH j c' l;refine⟨g1,c',B,fun G=>?_⟩;have:=(G.kill k).mono z fun _ _ _ _=>rfl
   rwa[C]at this
def Ev{H1 s:Heap}{k:Nat}{e e2:TypeId}{sz:Nat}{rows rows':List (List AV)}{l:List Nat}(v:rows'.length=rows.length)(Y:∀(a:Nat)(n:List AV),rows'[a]?=some n->∃row,rows[a]?=some row/\ElS row n):
  Le N ⟨sl,H1++(k,.ext (.mat e e2 sz rows l))::s⟩ ⟨sl,H1++(k,.ext (.mat e e2 sz rows' l))::s⟩:=fun σ β a w h=>by
 have t:(H1++(k,Chunk.ext (.mat e e2 sz rows' l))::s).map (·.1)=(H1++(k,Chunk.ext (.mat e e2 sz rows l))::s).map (·.1):=by simp
 refine⟨σ,β,⟨h.size,h.defers,h.E,⟨h.heap.mem,fun j c' q=>?_,by show((H1++(k,Chunk.ext (.mat e e2 sz rows' l))::s).map (·.1)).Nodup;rw[t];exact h.heap.nodup,fun j q=>h.heap.apart j (by rw[<-t];exact q),fun j q j' d=>h.heap.inj j (by rw[<-t];exact q) j' (by rw[<-t];exact d)⟩⟩,Mem.le_refl σ,Frm.refl _ w,fun b L o=>absurd L o,fun b ⟨j,q,r⟩=>.inl ⟨j,by rw[<-t];exact q,r⟩,fun _ _ _=>rfl⟩;rcases x8e.1 q with o|o
 .exact h.heap.chunks j c' (x8e.2 (.inl o))
 rcases x8r.1 o with M|o;rotate_left 1
 .exact h.heap.chunks j c' (x8e.2 (.inr (x8b _ o)))
 cases M;rcases h.heap.chunks k _ (x8e.2 (.inr x8p))with⟨g1,y⟩|⟨i,vs,U,g1,y,F,G,H,I,J,K⟩
 .refine .inl ⟨g1,?_⟩;rw[y]at v;exact z0n v
 .refine .inr ⟨i,vs,U,g1,y,F,by rw[v];exact G,H,by rw[v];exact I,J,fun A n ha=>?_⟩;obtain⟨row,O,z,P⟩:=Y A n ha;obtain⟨Q,R⟩:=K A row O;refine⟨Q,fun V=>?_⟩;rcases R V with⟨f,rfl,g⟩|⟨b,c,ws,f,q2,g,q4,q5,q6,B⟩
  .exact .inl ⟨f,z0n z,g⟩
  .refine .inr ⟨b,c,ws,f,by rw[z];exact q2,g,q4,by rw[z];exact q5,q6,fun m x' Z=>?_⟩;obtain⟨x,C,r2,r3⟩:=P m x' Z;refine⟨by rw[r2];exact(B m x C).1,fun p c' T=>?_⟩;obtain⟨D,r4,r5⟩:=r3 p c' T;obtain⟨u,r6,r7⟩:=(B m x C).2 p D r4;exact⟨u,r6,r5 _ _ r7⟩
def nxE(rows:List (List Int))(t:Int×Int):List (List Int):=rows.set t.1.toNat (rows.getD t.1.toNat []++[t.2])
def YQ(n:Nat)(l:List (Int×Int)):List (List Int):=l.foldl nxE (List.replicate n [])
def WL(w:Way)(f:Pr):List (Int×Int):=(CM w f).map (ixP w.p w.j f w.n)
def IC(rows:List (List Int))(t:Int×Int):(nxE rows t).length=rows.length:=z0m
theorem Mx:∀(l:List (Int×Int))(rows:List (List Int)),(l.foldl nxE rows).length=rows.length
 |[],_=>rfl
 |t::r,rows=>by rw[z1n,Mx r,IC]
def BH(n:Nat)(l:List (Int×Int)):(YQ n l).length=n:=by
 unfold YQ;rw[Mx,z0g]
theorem Mq:∀(l:List (Int×Int))(rows:List (List Int))(a:Nat),((l.foldl nxE rows).getD a []).length<=(rows.getD a []).length+l.length
 |[],_,_=>x9z _
 | t::r,rows,a=>by
   rw[z1n];have j:=Mq r (nxE rows t) a;have k:((nxE rows t).getD a []).length<=(rows.getD a []).length+1:=by
    unfold nxE;simp only[x8f,z3i];by_cases h:t.1.toNat=a
    ·subst h;by_cases i:t.1.toNat<rows.length
     ·simp[i]
     ·simp[i]
    ·simp[h]
   rw[x9s];omega
theorem Xz(n:Nat)(l:List (Int×Int))(a:Nat):((YQ n l).getD a []).length<=l.length:=by
 have:=Mq l (List.replicate n []) a;have e:((List.replicate n ([]:List Int)).getD a []).length=0:=by
  rw[x8f,x9l];split<;>rfl
 unfold YQ;omega
theorem Sh{n:Nat}:∀(l:List (Int×Int)),(∀t∈l,(0<=t.1/\t.1<n)/\0<=t.2/\t.2<n)->∀(rows:List (List Int)),(∀r∈rows,∀x∈r,0<=x/\x<n)->∀r∈l.foldl nxE rows,∀x∈r,0<=x/\x<(n:Int)
 |[],_,rows,hr=>hr
 | t::l,hl,rows,hr=>by
   rw[z1n];refine Sh l (fun u k=>hl u (x8b _ k)) _ fun r i x h=>?_;unfold nxE at i;rcases z1d i with i|rfl
   .exact hr r i x h
   .rcases x8e.1 h with h|h
    .rw [x8f]at h;cases j:rows[t.1.toNat]?with
     |none=>rw[j]at h;cases h
     |some r=>rw[j]at h;exact hr r (x9x j) x h
    .rcases x8l.1 h with rfl;exact(hl t x8p).2
def q3p(n:Nat)(l:List (Int×Int))(h:∀t∈l,(0<=t.1/\t.1<n)/\0<=t.2/\t.2<n):∀r∈YQ n l,∀x∈r,0<=x/\x<(n:Int):=
 Sh l h _ fun r j x i=>by rw[z0s j]at i;cases i
def EI(n a:Nat):List (List Bool):=((List.range n).map (filRow n)).take a++List.replicate (n-a) []
def Sv(n a b:Nat):List Bool:=(filRow n a).take b++List.replicate (n-b) false
theorem q2w{n:Nat}(h:b<=n):(Sv n a b).length=n:=by
 unfold Sv;have:=PJ n a;simp;omega
theorem q2v{n:Nat}(h:b<n):((Sv n a b).map bv).set b (bv (decide (a<n-1)||decide (a=b)))=(Sv n a (b+1)).map bv:=by
 rw[<-z0q];congr 1;unfold Sv;have j:((filRow n a).take b).length=b:=by have:=PJ n a;simp;omega
 have i:(filRow n a)[b]?=some (decide (a<n-1)||decide (a=b)):=by unfold filRow;simp[h]
 rw[z1s _ _ (by omega),j,z2n,show n-b=(n-(b+1))+1 by omega,z2m,z2y,List.take_add_one,i,x9u];rfl
def q2z(n a:Nat):Sv n a n=filRow n a:=by
 unfold Sv;rw[z2n,x9q (by rw[PJ];exact x9z _)];simp
theorem Sub.bv{b x:Bool}(h:b=x):Sub (.bool b) (bv x):=fun _ _ i=>by
 subst h;cases b<;>cases i<;>constructor
theorem ElS.set{es:List AV}{c c':AV}(r:c.cells=[c])(l:c'.cells=[c'])(h:Sub c c'):ElS (es.set b c) (es.set b c'):=by
 refine⟨by rw[z0m,z0m],fun m u o=>?_⟩;by_cases q:b=m
 .subst q;have t:b<es.length:=by have:=(x8t.1 o).1;simpa using this
  rw[x9a t]at o;cases o;refine⟨c,by rw[x9a t],by rw[r,l];rfl,fun j d i=>?_⟩;rw[l]at i
  match j,i with
  |0,i=>cases i;exact⟨c,by rw[r];rfl,h⟩
  |j+1,i=>simp at i
 .rw [z0z q]at o;exact⟨u,by rw[z0z q];exact o,rfl,fun j d i=>⟨d,i,Sub.refl _⟩⟩
def x7k{R:List (List AV)}{r n:List AV}(h:ElS r n):∀(k:Nat)(i:List AV),(R.set a n)[k]?=some i->∃row,(R.set a r)[k]?=some row/\ElS row i:=fun k i j=>by
 by_cases l:a=k
 .subst l;have m:a<R.length:=by have:=(x8t.1 j).1;simpa using this
  rw[x9a m]at j;cases j;exact⟨r,x9a m,h⟩
 .rw [z0z l]at j;exact⟨i,by rw[z0z l];exact j,ElS.refl _⟩
theorem q2q{n:Nat}(h:a<=n):(EI n a).length=n:=by
 unfold EI;simp;omega
theorem q2x{n:Nat}(h:a<n):(EI n a).set a (filRow n a)=EI n (a+1):=by
 unfold EI;have j:(((List.range n).map (filRow n)).take a).length=a:=by simp;omega
 have i:((List.range n).map (filRow n))[a]?=some (filRow n a):=by simp[h]
 rw[z1s _ _ (by omega),j,z2n,show n-a=(n-(a+1))+1 by omega,z2m,z2y,List.take_add_one,i,x9u];rfl
inductive SlRel(P:LV->LV->Prop):List (Nat×LV)->List (Nat×LV)->Prop
 |nil:SlRel P [] []
 |cons {j:Nat} {l l':LV} {r r':List (Nat×LV)} (h:P l l') (hr:SlRel P r r'):SlRel P ((j,l)::r) ((j,l')::r')
theorem SlRel.get{P:LV->LV->Prop}(o:P (.p .any) (.p .any)){m:List (Nat×LV)}(h:SlRel P sl m)(i:Nat):P (getS sl i) (getS m i):=by
 induction h with
 |nil=>exact o
 | @cons j l l' r u h t q=>
   simp only[getS];cases j==i with
   |true=>exact h
   |false=>exact q
def Aq(w:Way)(n:Nat)(nx:List (List Int))(t:nx.length=n)(m o:AV):
  Le N' ⟨[(0,.p (.ip w.cells)),(3,.hd 0 0 n),(6,.hd 1 0 n),(46,.p m),(47,.p o)],[(1,.own 101 1 (List.replicate n .nils)),(0,.ext (.mat 56 3 1 (avI nx) []))]⟩
   ⟨[(0,.p (.ip w.cells)),(3,.p (eMat nx)),(6,.hd 1 0 n),(46,.p m),(47,.p o)],[(1,.ext (.mat 101 4 1 (List.replicate n []) []))]⟩:=by
 have q:=JB (N:=N') (sl:=[(0,.p (.ip w.cells)),(3,.hd 0 0 n),(6,.hd 1 0 n),(46,.p m),(47,.p o)]) (H:=[(1,.own 101 1 (List.replicate n .nils)),(0,.ext (.mat 56 3 1 (avI nx) []))])
  (H':=[(1,.ext (.mat 101 4 1 (List.replicate (List.replicate n AV.nils).length []) [])),(0,.ext (.mat 56 3 1 (avI nx) []))])
  1 4 1 (e:=101) (es:=List.replicate n .nils) rfl (fun x u=>z0s u) rfl rfl rfl rfl (by simp[KK])
 rw[z0g]at q;have s:(avI nx).length=n:=by unfold avI;rw[x8g,t]
 refine q.trans (TM (k:=0) (e:=56) (e2:=3) (sz:=1) (rows:=avI nx) rfl (fun i=>?_) (by show [1].Sublist [1,0];decide) fun j c' r=>?_)
 .refine SlRel.get (P:=fun l l'=>l'=l.kill 0\/(l=.hd 0 0 (avI nx).length/\l'=.p (.sl ((avI nx).map .sl)))) (.inl rfl) ?_ i;exact .cons (.inl rfl) (.cons (.inr ⟨by rw[s],rfl⟩) (.cons (.inl rfl) (.cons (.inl rfl) (.cons (.inl rfl) .nil))))
 .rcases x8l.1 r with h;cases h;exact⟨by decide,x8p,rfl⟩
def q1o(n:Nat):EI n n=(List.range n).map (filRow n):=by
 unfold EI;rw[z2n,x9q (by simp)];simp
def Mo(n:Nat)(h:(sl.all fun x=>x.2.xfree 0)=true):
  Le N' ⟨sl,[(0,.own 56 1 (List.replicate n .nils))]⟩ ⟨sl,[(0,.ext (.mat 56 3 1 (List.replicate n []) []))]⟩:=by
 have i:=JB (N:=N') (sl:=sl) (H:=[(0,.own 56 1 (List.replicate n .nils))])
  (H':=[(0,.ext (.mat 56 3 1 (List.replicate (List.replicate n AV.nils).length []) []))])
  0 3 1 (e:=56) (es:=List.replicate n .nils) rfl (fun x j=>z0s j) rfl h rfl rfl (by simp[KK])
 simpa using i
theorem Hh(w:Way)(f:Pr)(n:Nat)(h:WayT w f n)(hp:∀t∈WL w f,(0<=t.1/\t.1<n)/\0<=t.2/\t.2<n)(G:(CM w f).length<=1000000):SpecP prog 124 [.ip w.cells] (fun r=>∃fm:List (List Bool),FollowP n (YQ n (WL w f)) fm/\r=.sl ((bmI fm).map .sl)):=by
 refine sC U4 func124 ?_;conv=>whnf
 have hwn:=h.hw;have hn5:=h.hn;have hn2:=h.hn2;have hA:=Gd w f n h;have hP:=WO w f h.hj h.hc (by omega) (CM w f) G;have hpl:(avP (WL w f)).length=(WL w f).length:=by unfold avP;rw[x8g]
 have hpl2:(WL w f).length<=1000000:=by unfold WL;rw[x8g];exact G
 have hPe:(CM w f).map (ixP w.p w.j f w.n)=WL w f:=rfl;rw[hPe]at hP;repeat' ((first|(refine gX ?_;intros)|refine z3k n (by omega) (by show 24*_<=140737488355328;omega) (by unfold maxLen;omega) ?_|refine cP hA ?_|refine cP hP ?_)<;>conv=>whnf)
 refine lJ (fun j:Nat=>⟨[(0,.p (.ip w.cells)),(3,.hd 0 0 n),(20,.p (.sl (avP (WL w f)))),(21,.p (.int .i64 (avP (WL w f)).length)),(22,.j j)],[(0,.ext (.mat 56 3 1 (avI (YQ n ((WL w f).take j))) []))]⟩) (fun j=>j<=(WL w f).length) (fun j=>(WL w f).length-j) 0 (by
   refine Le.trans (Mo n rfl) ?_;exact lE (hH:=.cons rfl (.of_eq (by simp[avI,YQ])) .nil)) (x8m _) ?_
 intro j h2;rcases x8a j (WL w f).length with P|P
 ·have L:(avP (WL w f))[j]?=some (.agg [.int .i64 (WL w f)[j].1,.int .i64 (WL w f)[j].2]):=by simp[avP,P]
  obtain⟨⟨Q,q2⟩,q3,q4⟩:=hp _ (x8o P);have s:YQ n ((WL w f).take (j+1))=nxE (YQ n ((WL w f).take j)) (WL w f)[j]:=by
   unfold YQ;rw[x8c P,z2h];rfl
  have q:=BH n ((WL w f).take j);have v:=Xz n ((WL w f).take j) (WL w f)[j].1.toNat;generalize(WL w f)[j]=t at L Q q2 q3 q4 s v;generalize YQ n ((WL w f).take j)=rows at s q v⊢;obtain⟨a,ha⟩ : ∃a:Nat,t.1=a:=⟨t.1.toNat,by omega⟩;have K:a<rows.length:=by omega
  have l:(avI rows)[a]?=some (rows[a].map (.int .i64)):=by unfold avI;rw[x8n,x8h K];rfl
  have hput:(avI rows).set a (rows[a].map (.int .i64)++[.int .i64 t.2])=avI (nxE rows t):=by
   unfold nxE avI;rw[ha,z0x,x8f,x8h K,x9i,z0q,x8i];rfl
  have hcl:rows[a].length<=1000000:=by
   rw[ha,z0x,x8f,x8h K,x9i,x9n]at v;omega
  rw[ha]at L;conv=>whnf
  repeat' ((first|refine x9g rfl ?_|refine aD ?_|refine wI ?_|refine DrawK.of XD mixed (.cons 0 false (.cons 1 false (.cons 2 false (.cons 3 false (.cons 4 false (.cons 5 false (.cons 6 false (.cons 8 false (.cons 9 false (.alo 7 (.cons 10 true (.cons 11 true (.cons 12 true (.cons 13 true .nil)))))))))))))) (by kernel_rfl) ?_|refine iT L ?_|refine z1x 0 rfl (by decide) ?_|refine z1x 1 rfl (by decide) ?_|refine iO a ?_|refine z3d a _ (by omega) l (by simp) ?_|refine z4x (fun x u=>by rcases x8l.1 u with rfl;rfl) rfl ?_|refine OpK.focus XD 33 0 a 2 rfl rfl l (by simp) rfl rfl ?_|refine LA rfl (by rw[x8g];omega) ?_|(refine ZA XD rfl rfl rfl rfl rfl rfl rfl rfl rfl (by decide) a [] (by omega) (by unfold avI;rw[x8g];omega) (by simp) ⟨by simp,by simp,by simp⟩ ?_)|(apply bD<;>intro _<;>try omega))<;>conv=>whnf)
  all_goals exact⟨j+1,P,by omega,Le.of_eq (by rw[s,<-hput];rfl)⟩
 ·conv=>whnf
  repeat' ((first|(refine gX ?_;intros)|refine z3k n (by omega) (by show 24*_<=140737488355328;omega) (by unfold maxLen;omega) ?_|(apply bD<;>intro _<;>try omega))<;>conv=>whnf)
  have hje:(WL w f).take j=WL w f:=x9q P;rw[hje];have U:=BH n (WL w f);have T:=q3p n (WL w f) hp;have R:=Xz n (WL w f);generalize YQ n (WL w f)=nx at U T R⊢;refine lJ (fun a:Nat=>⟨[(0,.p (.ip w.cells)),(3,.p (eMat nx)),(6,.hd 1 0 n),(46,.j n),(47,.j a)],[(1,.ext (.mat 101 4 1 (bmI (EI n a)) []))]⟩) (fun a=>a<=n) (fun a=>n-a) 0 (by
    refine Le.trans (Aq w n nx U _ _) ?_;exact lE (hH:=.cons rfl (.of_eq (by simp[bmI,EI])) .nil)) (x8m _) ?_
  intro a h3;rcases x8a a n with ha|ha
  ·have hfl:=q2q (n:=n) h3;have I:=q2x (n:=n) ha;generalize EI n a=rows at hfl I⊢;have q:(bmI rows).length=n:=by unfold bmI;rw[x8g,hfl]
   conv=>whnf
   repeat' ((first|refine gX ?_|refine z3k n (by omega) (by show 1*_<=140737488355328;omega) (by unfold maxLen;omega) ?_|refine z1x a rfl ha ?_|refine ZA XD rfl rfl rfl rfl rfl rfl rfl rfl rfl (by decide) a [] (by omega) (by omega) (by simp) ⟨by simp,by simp,by simp⟩ ?_|refine z3d a (List.replicate n .ff) (by omega) (by rw[x9a (by omega)];rfl) (by simp) ?_|(apply bD<;>intro _<;>try omega))<;>conv=>whnf)
   refine lJ (fun b:Nat=>⟨[(0,.p (.ip w.cells)),(3,.p (eMat nx)),(6,.hd 1 0 n),(7,.j a),(46,.j n),(47,.j a),(62,.j n),(63,.j b)],[(1,.ext (.mat 101 4 1 ((bmI rows).set a ((Sv n a b).map bv)) []))]⟩) (fun b=>b<=n) (fun b=>n-b) 0 (Le.of_eq (by rw[z0g,show(Sv n a 0).map bv=List.replicate n .ff by unfold Sv;simp[bv]];rfl)) (x8m _) ?_;intro b h4;rcases x8a b n with hb|hb
   ·have d:=q2v (n:=n) (a:=a) hb;have htl:=q2w (n:=n) (a:=a) h4;have l:((bmI rows).set a ((Sv n a b).map bv))[a]?=some ((Sv n a b).map bv):=x9a (by omega);have hrln:((Sv n a b).map bv).length=n:=by rw[x8g,htl]
    generalize(Sv n a b).map bv=row at d l hrln⊢;conv=>whnf
    repeat' ((first|refine dA ?_|refine gX ?_|refine Wr.eq (m:=(n:Int)-1) (by omega) (by omega) (by omega) ?_|refine z1x a rfl ha ?_|refine z3d a row (by omega) l (by simp) ?_|refine iO b ?_|refine TL XD rfl rfl rfl rfl rfl rfl rfl rfl rfl l (by simp) (by omega) ?_|(apply bD<;>intro _<;>try omega))<;>conv=>whnf)
    have e1:∀c,((bmI rows).set a row).set a (row.set (b*1) c)=(bmI rows).set a (row.set b c):=fun c=>by rw[List.set_set,z4w]
    ·have u:(decide (a<n-1)||decide (a=b))=true:=by rw[x9e (by omega)];rfl
     rw[u]at d;exact⟨b+1,by omega,by omega,Le.of_eq (by rw[e1,<-d];rfl)⟩
    ·have u:(decide (a<n-1)||decide (a=b))=((a:Int)==b):=by
      rw[x9o (by omega),Bool.false_or];by_cases Z:a=b
      ·subst Z;simp
      ·have:¬(a:Int)=b:=by omega
       rw[x9o Z,z4n.2 this]
     have e1:∀c,((bmI rows).set a row).set a (row.set (b*1) c)=(bmI rows).set a (row.set b c):=fun c=>by rw[List.set_set,z4w]
     rw[u]at d;refine⟨b+1,by omega,by omega,?_⟩;rw[e1];exact((Ev (H1:=[]) (rows':=(bmI rows).set a (row.set b (bv ((a:Int)==b)))) (by rw[z0m,z0m]) (x7k (ElS.set rfl (Qd _) (Sub.bv rfl)))).trans (Le.of_eq (by rw[d];rfl)))
   ·have hbe:b=n:=by omega
    subst hbe;rw[q2z];have hbm:(bmI rows).set a ((filRow b a).map bv)=bmI (EI b (a+1)):=by
     rw[<-I];unfold bmI;rw[z0q]
    rw[hbm];conv=>whnf
    repeat' ((first|refine wI ?_|(apply bD<;>intro _<;>try omega))<;>conv=>whnf)
    exact nX (a+1) (by omega)
  ·have B:a=n:=by omega
   rw[B,q1o];have hS:=FolI.start hn2 nx;have hnx:∀a,∀x∈nx.getD a [],0<=x/\x<(n:Int):=fun a x u=>by
    rw[x8f]at u;cases H:nx[a]?with
    |none=>rw[H]at u;cases u
    |some r=>rw[H]at u;exact T r (x9x H) x u
   generalize(List.range n).map (filRow n)=fm0 at hS⊢;clear h3 ha B a;conv=>whnf
   repeat' (apply bD<;>intro _<;>first|omega|conv=>whnf)
   refine lI (fun x:List (List Bool)×Bool=>⟨[(0,.p (.ip w.cells)),(3,.p (eMat nx)),(6,.hd 1 0 n),(9,.p (bv x.2))],[(1,.ext (.mat 101 4 1 (bmI x.1) []))]⟩) (fun x=>FolI n nx x.1/\(x.2=false->∀a,a<n-1->x.1.getD a []=rowF n nx x.1 a)) (fun x=>2*S6 x.1+x.2.toNat) (fm0,true) ⟨hS,fun h=>by cases h⟩ ?_;rintro⟨fm,D⟩ ⟨hI,E⟩;simp only at hI E⊢;cases D with
   | false=>
     have hbl:n=(bmI fm).length:=by unfold bmI;rw[x8g,hI.len]
     conv=>whnf
     skip
     exact⟨_,.mat rfl hbl,fm,⟨hI,E rfl⟩,rfl⟩
   | true=>
     conv=>whnf
     repeat' (refine Wr.eq (m:=(n:Int)-2) (by omega) (by omega) (by omega) ?_;conv=>whnf)
     refine lI (fun y:List (List Bool)×Bool×Int=>⟨[(0,.p (.ip w.cells)),(3,.p (eMat nx)),(6,.hd 1 0 n),(9,.p (bv y.2.1)),(10,.j y.2.2)],[(1,.ext (.mat 101 4 1 (bmI y.1) []))]⟩) (fun y=>FolI n nx y.1/\(-1<=y.2.2/\y.2.2<=(n:Int)-2)/\(y.2.1=false->y.1=fm/\∀o:Nat,y.2.2<o->o<n-1->fm.getD o []=rowF n nx fm o)/\(y.2.1=true->S6 y.1<S6 fm)) (fun y=>(y.2.2+1).toNat) (fm,false,(n:Int)-2) ⟨hI,⟨by simp only;omega,by simp only;omega⟩,fun _=>⟨rfl,fun o J h2=>by simp only at J;omega⟩,fun h=>by cases h⟩ ?_;rintro⟨k,t,a⟩ ⟨g,⟨ha1,ha2⟩,hf,hl⟩;simp only at g ha1 ha2 hf hl⊢;rcases Int.lt_or_le a 0 with ha0|ha0
     ·have B:a = -1:=by omega
      subst B;have fin:∃x:List (List Bool)×Bool,x=(k,t)/\2*S6 x.1+x.2.toNat<2*S6 fm+1:=⟨_,rfl,by
       cases t with
       |true=>have:=hl rfl;simp only[z5n];omega
       |false=>rw[(hf rfl).1];simp⟩
      obtain⟨x,rfl,hm⟩:=fin;conv=>whnf
      repeat' (apply bD<;>intro _<;>first|omega|conv=>whnf)
      refine⟨(k,t),⟨g,fun O a ha=>?_⟩,hm,lE⟩;simp only at O⊢;obtain⟨Q,q2⟩:=hf O;rw[Q];exact q2 a (by omega) ha
     ·obtain⟨i,rfl⟩ : ∃i:Nat,a=i:=⟨a.toNat,by omega⟩;have hin:i<n-1:=by omega
      have F:i<nx.length:=by omega
      have e:i<k.length:=by rw[g.len];omega
      have V:((avI nx).map AV.sl)[i]?=some (.sl (nx[i].map (.int .i64))):=by unfold avI;rw[z2c,x8n,x8h F];rfl
      have M:nx.getD i []=nx[i]:=by rw[x8f,x8h F];rfl
      have hgg:k.getD i []=k[i]:=by rw[x8f,x8h e];rfl
      have hcl:nx[i].length<=1000000:=by have:=R i;rw[M]at this;omega
      have Y:=AA k nx[i] n g.len hn5 g.rows hcl (fun x u=>hnx i x (by rw[M];exact u));have hse:((XN k nx[i] n).map bv)[i]?=some (bv (GR k nx[i] i)):=by unfold XN;rw[z2c,x8n,z2w (by omega)];rfl
      have s:((XN k nx[i] n).map bv).set i (bv true)=(rowF n nx k i).map bv:=by
       unfold rowF;rw[M,z0q]
      have C:(bmI k)[i]?=some (k[i].map bv):=by unfold bmI;rw[x8n,x8h e];rfl
      have hgl:(k[i].map bv).length=n:=by rw[x8g];exact g.rows _ (x8o e)
      have q:((rowF n nx k i).map bv).length=n:=by rw[x8g,Y1]
      have hbl:(bmI k).length=n:=by unfold bmI;rw[x8g,g.len]
      have A:=FB (rowF n nx k i) k[i];by_cases H:rowF n nx k i=k[i]
      ·rw[x9e H]at A;have fin:∃y:List (List Bool)×Bool×Int,y=(k,t,(i:Int)-1)/\(FolI n nx y.1/\(-1<=y.2.2/\y.2.2<=(n:Int)-2)/\(y.2.1=false->y.1=fm/\∀o:Nat,y.2.2<o->o<n-1->fm.getD o []=rowF n nx fm o)/\(y.2.1=true->S6 y.1<S6 fm)):=⟨_,rfl,g,⟨by simp only;omega,by simp only;omega⟩,fun O=>by
        obtain⟨Q,q2⟩:=hf O;refine⟨Q,fun o J h2=>?_⟩;simp only at J;by_cases he:o=i
        ·subst he;subst Q;rw[hgg,H]
        ·exact q2 o (by omega) h2,hl⟩
       obtain⟨y,rfl,z⟩:=fin;conv=>whnf
       repeat' ((first|refine x9g rfl ?_|refine iT V ?_|refine iO i ?_|refine z3v i 0 _ (bv true) (by show(0+i)*1=i*1+0;omega) hse (x9z _) (by rw[Qd,Qd];rfl) ?_|refine z3d i _ (by omega) C (by simp) ?_|(apply bD<;>intro _<;>try omega)|(refine cH rH6 5 Y ?_))<;>conv=>whnf)
       rw[s];repeat' ((first|refine x9g rfl ?_|refine Wr.eq (m:=(i:Int)-1) (by omega) (by omega) (by omega) ?_|refine iO i ?_|refine ZA XD rfl rfl rfl rfl rfl rfl rfl rfl rfl (by decide) i [] (by omega) (by omega) q.symm ⟨by simp,by simp,by simp⟩ ?_|(apply bN<;>intro _)|(refine QR A (.cons (.hd rfl q.symm) (.cons (.row rfl C (by simp)) .nil)) (by rintro _ rfl;rfl) ?_;rintro _ rfl))<;>conv=>whnf)
       all_goals first
        |exact⟨_,z,by simp only;omega,lE⟩
        |(exfalso;simp_all;done)
      ·rw[x9o H]at A;have hsb:(bmI k).set i ((rowF n nx k i).map bv)=bmI (k.set i (rowF n nx k i)):=by unfold bmI;rw[z0q]
       have hne:rowF n nx k i≠k.getD i []:=by rw[hgg];exact H
       have fin:∃y:List (List Bool)×Bool×Int,y=(k.set i (rowF n nx k i),true,(i:Int)-1)/\(FolI n nx y.1/\(-1<=y.2.2/\y.2.2<=(n:Int)-2)/\(y.2.1=false->y.1=fm/\∀o:Nat,y.2.2<o->o<n-1->fm.getD o []=rowF n nx fm o)/\(y.2.1=true->S6 y.1<S6 fm)):=⟨_,rfl,g.step hnx hin,⟨by simp only;omega,by simp only;omega⟩,fun O=>by(simp only at O;cases O),fun _=>by
        have J:=g.less hin hne;cases t with
        |true=>exact Nat.lt_trans J (hl rfl)
        |false=>rw[(hf rfl).1]at J⊢;exact J⟩
       obtain⟨y,rfl,z⟩:=fin;conv=>whnf
       repeat' ((first|refine x9g rfl ?_|refine iT V ?_|refine iO i ?_|refine z3v i 0 _ (bv true) (by show(0+i)*1=i*1+0;omega) hse (x9z _) (by rw[Qd,Qd];rfl) ?_|refine z3d i _ (by omega) C (by simp) ?_|(apply bD<;>intro _<;>try omega)|(refine cH rH6 5 Y ?_))<;>conv=>whnf)
       rw[s];repeat' ((first|refine x9g rfl ?_|refine Wr.eq (m:=(i:Int)-1) (by omega) (by omega) (by omega) ?_|refine iO i ?_|refine ZA XD rfl rfl rfl rfl rfl rfl rfl rfl rfl (by decide) i [] (by omega) (by omega) q.symm ⟨by simp,by simp,by simp⟩ ?_|(apply bN<;>intro _)|(refine QR A (.cons (.hd rfl q.symm) (.cons (.row rfl C (by simp)) .nil)) (by rintro _ rfl;rfl) ?_;rintro _ rfl))<;>conv=>whnf)
       all_goals first
        |exact⟨_,z,by simp only;omega,lE (hH:=.cons rfl (.of_eq (by rw[hsb])) .nil)⟩
        |(exfalso;simp_all;done)
def q1r(fm:List (List Bool))(t:Int×Int)(b:Nat):Bool:=bitF fm t.2.toNat b&&(decide (t.1=b) || !bitF fm t.1.toNat b)
def mkM(n:Nat)(fm:List (List Bool))(l:List (Int×Int))(a b:Nat):Bool:=(decide (1<=b)&&decide (b<n-1))&&l.any fun t=>decide (t.1=a)&&q1r fm t b
structure DimB(n:Nat)(M:List (List Bool)):Prop where
 len:M.length=n
 rows:∀r∈M,r.length=n
theorem DimB.row{n:Nat}{M:List (List Bool)}(h:DimB n M){a:Nat}(ha:a<n):(bmI M)[a]?=some ((M.getD a []).map bv)/\((M.getD a []).map bv).length=n:=by
 have i:a<M.length:=by rw[h.len];exact ha
 have e:M.getD a []=M[a]:=by rw[x8f,x8h i];rfl
 rw[e];refine⟨by unfold bmI;rw[x8n,x8h i];rfl,?_⟩;rw[x8g];exact h.rows _ (x8o i)
theorem DimB.bit{n:Nat}{M:List (List Bool)}(h:DimB n M)(ha:a<n)(o:b<n):((M.getD a []).map bv)[b]?=some (bv (bitF M a b)):=by
 obtain⟨_,m⟩:=h.row ha;have j:b<(M.getD a []).length:=by rw[x8g]at m;omega
 rw[x8n,x8h j];unfold bitF;rw[x8f (l:=M.getD a []) (i:=b),x8h j];rfl
theorem DimB.set{n:Nat}{M:List (List Bool)}(h:DimB n M)(ha:a<n)(q:b<n):DimB n (M.set a ((M.getD a []).set b true))/\(bmI M).set a (((M.getD a []).map bv).set b .tt)=bmI (M.set a ((M.getD a []).set b true))/\∀x y,x<n->y<n->bitF (M.set a ((M.getD a []).set b true)) x y=if x=a/\y=b then true else bitF M x y:=by
 have l:a<M.length:=by rw[h.len];exact ha
 obtain⟨_,o⟩:=h.row ha;rw[x8g]at o;refine⟨⟨by rw[z0m];exact h.len,fun r m=>?_⟩,?_,fun x y t u=>?_⟩
 ·rcases z1d m with m|rfl
  ·exact h.rows r m
  ·rw[z0m];exact o
 ·unfold bmI;rw[z0q,z0q];rfl
 ·rw[B9 l];by_cases i:x=a
  ·subst i;rw[if_pos rfl,x8f];by_cases j:y=b
   ·subst j;rw[if_pos ⟨rfl,rfl⟩,x9a (by omega)];rfl
   ·rw[if_neg (fun h=>j h.2),z0z (z2x j),<-x8f];rfl
  ·rw[if_neg i,if_neg (fun h=>i h.1)]
def O4(h:Int->Int)(M:List (List Bool))(n a:Nat):List (Int×Int):=(List.range a).flatMap fun(x:Nat)=>((List.range n).filter fun y=>bitF M x y).map fun(y:Nat)=>(h x,h y)
def E5(h:Int->Int)(M:List (List Bool))(a b:Nat):List (Int×Int):=((List.range b).filter fun y=>bitF M a y).map fun(y:Nat)=>(h a,h y)
def Ly(h:Int->Int)(M:List (List Bool))(n a:Nat):O4 h M n (a+1)=O4 h M n a++E5 h M a n:=by
 unfold O4 E5;rw[z2p,z1q];simp
def O6(i:Int->Int)(M:List (List Bool))(a b:Nat):E5 i M a (b+1)=E5 i M a b++(if bitF M a b then [(i a,i b)]else []):=by
 unfold E5;rw[z2p,z0b,x8i];congr 1;cases h:bitF M a b<;>simp[h]
def SL(h:Int->Int)(M:List (List Bool))(a b:Nat):(E5 h M a b).length<=b:=by
 unfold E5;rw[x8g];exact x9r (z0i _ _) (by simp)
theorem q3o(h:Int->Int)(M:List (List Bool))(n a:Nat):(O4 h M n a).length<=a*n:=by
 induction a with
 |zero=>unfold O4;simp
 | succ a i=>
   have:=SL h M a n;rw[Ly,x8d,z1u,z5a];omega
def zR(n a:Nat):List (List Bool):=List.replicate a (List.replicate n false)++List.replicate (n-a) []
theorem x2r{n:Nat}(h:a<=n):(zR n a).length=n:=by unfold zR;simp;omega
theorem x2t{n:Nat}(h:a<n):(bmI (zR n a)).set a (List.replicate n .ff)=bmI (zR n (a+1)):=by
 have e:(zR n a).set a (List.replicate n false)=zR n (a+1):=by
  unfold zR;rw[z1s _ _ (by simp),z0g,z2n,show n-a=(n-(a+1))+1 by omega,z2m,z2y,List.replicate_succ',x9u];rfl
 rw[<-e];unfold bmI;rw[z0q];congr 1;simp[bv]
def x2l(n:Nat):DimB n (zR n n)/\∀a b,bitF (zR n n) a b=false:=by
 have e:zR n n=List.replicate n (List.replicate n false):=by unfold zR;simp
 rw[e];refine⟨⟨by simp,fun r h=>by rw[z0s h];simp⟩,fun a b=>?_⟩;unfold bitF;simp only[x8f,x9l];split
 .simp only[x9i,x9l];split<;>rfl
 .rfl
def Ax(n:Nat)(h:(sl.all fun x=>x.2.xfree 0)=true):
  Le N' ⟨sl,[(0,.own 101 1 (List.replicate n .nils))]⟩ ⟨sl,[(0,.ext (.mat 101 4 1 (List.replicate n []) []))]⟩:=by
 have i:=JB (N:=N') (sl:=sl) (H:=[(0,.own 101 1 (List.replicate n .nils))])
  (H':=[(0,.ext (.mat 101 4 1 (List.replicate (List.replicate n AV.nils).length []) []))])
  0 4 1 (e:=101) (es:=List.replicate n .nils) rfl (fun x j=>z0s j) rfl h rfl rfl (by simp[KK])
 simpa using i
theorem Gb(w:Way)(f:Pr)(n:Nat)(h:WayT w f n)(hp:∀t∈WL w f,(0<=t.1/\t.1<n)/\0<=t.2/\t.2<n)(s:(CM w f).length<=1000000):SpecP prog 72 [.ip w.cells] (fun r=>∃fm M:List (List Bool),FollowP n (YQ n (WL w f)) fm/\DimB n M/\(∀a b,a<n->b<n->bitF M a b=mkM n fm (WL w f) a b)/\r=.sl (avP (O4 (QB w.p w.j w.n) M n n))):=by
 refine sC Zd func72 ?_;conv=>whnf
 have hwn:=h.hw;have hn5:=h.hn;have hn2:=h.hn2;have hF:=Hh w f n h hp s;have hA:=Gd w f n h;have hP:=WO w f h.hj h.hc (by omega) (CM w f) s;have hpl:(avP (WL w f)).length=(WL w f).length:=by unfold avP;rw[x8g]
 have hpl2:(WL w f).length<=1000000:=by unfold WL;rw[x8g];exact s
 have hPe:(CM w f).map (ixP w.p w.j f w.n)=WL w f:=rfl;rw[hPe]at hP;repeat' ((first|(refine gX ?_;intros)|(refine CallK.pure hF (.cons (Sub.refl _) .nil) ?_;rintro _ ⟨fm,B,rfl⟩)|refine z3k n (by omega) (by show 24*_<=140737488355328;omega) (by unfold maxLen;omega) ?_)<;>conv=>whnf)
 have v:DimB n fm:=⟨B.inv.len,B.inv.rows⟩;refine lJ (fun a:Nat=>⟨[(0,.p (.ip w.cells)),(3,.p (.sl ((bmI fm).map .sl))),(4,.hd 0 0 n),(21,.j n),(22,.j a)],[(0,.ext (.mat 101 4 1 (bmI (zR n a)) []))]⟩) (fun a=>a<=n) (fun a=>n-a) 0 (by
   refine Le.trans (Ax n rfl) ?_;exact lE (hH:=.cons rfl (.of_eq (by simp[bmI,zR])) .nil)) (x8m _) ?_
 intro a h3;rcases x8a a n with ha|ha
 ·have hzl:=x2r (n:=n) h3;have hzs:=x2t (n:=n) ha;have O:(bmI (zR n a)).length=n:=by unfold bmI;rw[x8g,hzl]
  generalize bmI (zR n a)=rows at hzs O⊢;conv=>whnf
  repeat' ((first|refine gX ?_|refine z3k n (by omega) (by show 1*_<=140737488355328;omega) (by unfold maxLen;omega) ?_|refine z1x a rfl ha ?_|refine ZA XD rfl rfl rfl rfl rfl rfl rfl rfl rfl (by decide) a [] (by omega) (by omega) (by simp) ⟨by simp,by simp,by simp⟩ ?_|(apply bD<;>intro _<;>try omega))<;>conv=>whnf)
  exact⟨a+1,by omega,by omega,Le.of_eq (by rw[<-hzs];rfl)⟩
 have d:a=n:=by omega
 rw[d];clear h3 ha d a;obtain⟨hz1,hz2⟩:=x2l n;generalize zR n n=M0 at hz1 hz2⊢;conv=>whnf
 repeat' ((first|(refine iM fun _=>?_)|refine cP hA ?_|refine cP hP ?_|(apply bD<;>intro _<;>try omega))<;>conv=>whnf)
 refine lI (fun x:Nat×List (List Bool)=>⟨[(0,.p (.ip w.cells)),(3,.p (.sl ((bmI fm).map .sl))),(4,.hd 0 0 n),(37,.p (.sl (avP (WL w f)))),(38,.p (.int .i64 (avP (WL w f)).length)),(39,.j x.1)],[(0,.ext (.mat 101 4 1 (bmI x.2) []))]⟩) (fun x=>x.1<=(WL w f).length/\DimB n x.2/\∀a b,a<n->b<n->bitF x.2 a b=mkM n fm ((WL w f).take x.1) a b) (fun x=>(WL w f).length-x.1) (0,M0) ⟨x8m _,hz1,fun a b _ _=>by simp only[hz2];unfold mkM;simp⟩ ?_;rintro⟨j,M⟩ ⟨h2,H,hB⟩;simp only at h2 H hB⊢;rcases x8a j (WL w f).length with T|T
 ·have F:(avP (WL w f))[j]?=some (.agg [.int .i64 (WL w f)[j].1,.int .i64 (WL w f)[j].2]):=by simp[avP,T]
  obtain⟨⟨q1,q2⟩,q3,q4⟩:=hp _ (x8o T);have U:∀a b,mkM n fm ((WL w f).take (j+1)) a b=(mkM n fm ((WL w f).take j) a b||((decide (1<=b)&&decide (b<n-1))&&(decide ((WL w f)[j].1=a)&&q1r fm (WL w f)[j] b))):=fun a b=>by
   unfold mkM;rw[x8c T,List.any_append];simp only[List.any_cons,List.any_nil,Bool.or_false];cases(decide (1<=b)&&decide (b<n-1))<;>simp
  generalize(WL w f)[j]=t at F q1 q2 q3 q4 U;obtain⟨a,ha⟩ : ∃a:Nat,t.1=a:=⟨t.1.toNat,by omega⟩;obtain⟨c,hc⟩ : ∃c:Nat,t.2=c:=⟨t.2.toNat,by omega⟩;have q:a<n:=by omega
  have P:c<n:=by omega
  rw[ha,hc]at F;have Q:∀b,q1r fm t b=(bitF fm c b&&(decide (a=b) || !bitF fm a b)):=fun b=>by
   unfold q1r;rw[ha,hc,z0x,z0x];congr 2;by_cases e:a=b
   ·subst e;simp
   ·rw[x9o e,x9o (by omega)]
  conv=>whnf
  repeat' ((first|refine x9g rfl ?_|refine iT F ?_|refine z1x 0 rfl (by decide) ?_|(apply bD<;>intro _<;>try omega))<;>conv=>whnf)
  refine lI (fun y:Nat×List (List Bool)=>⟨[(0,.p (.ip w.cells)),(3,.p (.sl ((bmI fm).map .sl))),(4,.hd 0 0 n),(7,.p (.ip [.int .i64 a,.int .i64 c])),(8,.j a),(9,.j y.1),(37,.p (.sl (avP (WL w f)))),(38,.p (.int .i64 (avP (WL w f)).length)),(39,.j j)],[(0,.ext (.mat 101 4 1 (bmI y.2) []))]⟩) (fun y=>(1<=y.1/\y.1<=n-1)/\DimB n y.2/\∀k i,k<n->i<n->bitF y.2 k i=(mkM n fm ((WL w f).take j) k i||((decide (1<=i)&&decide (i<y.1))&&(decide (t.1=k)&&q1r fm t i)))) (fun y=>n-y.1) (1,M) ⟨⟨x9z _,by simp only;omega⟩,H,fun k i h1 h2=>by
    simp only;rw[hB k i h1 h2];cases Y:(decide (1<=i)&&decide (i<1))with
    |true=>simp at Y;omega
    |false=>simp⟩ ?_
  rintro⟨b,L⟩ ⟨⟨h4,h5⟩,I,z⟩;simp only at h4 h5 I z⊢;rcases x8a b (n-1)with hb|hb
  ·have D:b<n:=by omega
   obtain⟨r1,r2⟩:=v.row P;obtain⟨s1,s2⟩:=v.row q;obtain⟨g,u2⟩:=I.row q;have A:=v.bit P D;have e2:=v.bit q D;obtain⟨d1,d2,d3⟩:=I.set q D;have hr1:((bmI fm).map AV.sl)[c]?=some (.sl ((fm.getD c []).map bv)):=by rw[x8n,r1];rfl
   have hr2:((bmI fm).map AV.sl)[a]?=some (.sl ((fm.getD a []).map bv)):=by rw[x8n,s1];rfl
   have no:q1r fm t b=false->∀k i,k<n->i<n->bitF L k i=(mkM n fm ((WL w f).take j) k i||((decide (1<=i)&&decide (i<b+1))&&(decide (t.1=k)&&q1r fm t i))):=fun Y k i g1 G=>by
    rw[z k i g1 G];by_cases e:i=b
    ·subst e;simp[Y]
    ·have:decide (i<b+1)=decide (i<b):=by by_cases E:i<b<;>simp[E]<;>omega
     rw[this]
   have yes:q1r fm t b=true->∀k i,k<n->i<n->bitF (L.set a ((L.getD a []).set b true)) k i=(mkM n fm ((WL w f).take j) k i||((decide (1<=i)&&decide (i<b+1))&&(decide (t.1=k)&&q1r fm t i))):=fun Y k i g1 G=>by
    rw[d3 k i g1 G];by_cases e:k=a/\i=b
    ·rw[if_pos e,e.1,e.2,Y,x9e h4,x9e (by omega:b<b+1),x9e ha];simp
    ·rw[if_neg e,z k i g1 G];by_cases ea:k=a
     ·have eb:¬i=b:=fun hh=>e ⟨ea,hh⟩;have:decide (i<b+1)=decide (i<b):=by by_cases E:i<b<;>simp[E]<;>omega
      rw[this]
     ·have:decide (t.1=(k:Int))=false:=x9o (by omega);rw[this];simp
   have l:=Q b;generalize bitF fm c b=v1 at A l;generalize bitF fm a b=v2 at e2 l;cases v1<;>cases v2 <;>
   conv=>whnf
   repeat' ((first|refine x9g rfl ?_|refine Wr.eq (m:=(n:Int)-1) (by omega) (by omega) (by omega) ?_|refine wI ?_|refine z1x 1 rfl (by decide) ?_|refine iT hr1 ?_|refine iT hr2 ?_|refine iT A ?_|refine iT e2 ?_|refine z1x a rfl q ?_|refine z3d a _ (by omega) g (by simp) ?_|refine iO b ?_|refine TL XD rfl rfl rfl rfl rfl rfl rfl rfl rfl g (by simp) (by omega) ?_|(apply bD<;>intro _<;>try omega))<;>conv=>whnf)
   all_goals first
    |exact nX (b+1,L) ⟨⟨by simp only;omega,by simp only;omega⟩,I,no (by first|(rw[l];rfl)|(rw[l];have o:¬a=b:=(by omega);rw[x9o o];rfl))⟩
    |exact⟨(b+1,L.set a ((L.getD a []).set b true)),⟨⟨by simp only;omega,by simp only;omega⟩,d1,yes (by first|(rw[l];have o:a=b:=(by omega);rw[x9e o];rfl)|(rw[l];have o:¬a=b:=(by omega);rw[x9o o];rfl))⟩,by simp only;omega,Le.of_eq (by rw[z4w];simp only;rw[<-d2];rfl)⟩
  ·have C:b=n-1:=by omega
   subst C;have R:∀a b,a<n->b<n->bitF L a b=mkM n fm ((WL w f).take (j+1)) a b:=fun k i g1 G=>by rw[z k i g1 G,U]
   conv=>whnf
   repeat' ((first|refine Wr.eq (m:=(n:Int)-1) (by omega) (by omega) (by omega) ?_|refine wI ?_|(apply bD<;>intro _<;>try omega))<;>conv=>whnf)
   all_goals first
    |exact⟨(j+1,L),⟨by simp only;omega,I,R⟩,by simp only;omega,lE⟩
    |(exfalso;omega)
 ·have hje:(WL w f).take j=WL w f:=x9q T;rw[hje]at hB;have O:(bmI M).length=n:=by unfold bmI;rw[x8g,H.len]
  generalize V:QB w.p w.j w.n=plc;conv=>whnf
  repeat' (apply bD<;>intro _<;>first|omega|conv=>whnf)
  refine lJ (fun a:Nat=>⟨[(0,.p (.ip w.cells)),(4,.hd 0 0 n),(10,.hd 1 0 (O4 plc M n a).length),(85,.j n),(86,.j a)],[(0,.ext (.mat 101 4 1 (bmI M) [])),(1,.own 136 2 (avP (O4 plc M n a)))]⟩) (fun a=>a<=n) (fun a=>n-a) 0 (lM [(1,.own 136 2 [])]) (x8m _) ?_;intro a h3;rcases x8a a n with ha|ha
  ·obtain⟨g,u2⟩:=H.row ha;have hol:=q3o plc M n a;have hol2:a*n<=5000*5000:=z5u (by omega) hn5;have Z:=Ly plc M n a;generalize O4 plc M n a=acc at hol Z⊢;conv=>whnf
   repeat' ((first|refine x9g rfl ?_|refine z1x a rfl ha ?_|refine z3d a _ (by omega) g (by simp) ?_|(apply bD<;>intro _<;>try omega))<;>conv=>whnf)
   refine lJ (fun b:Nat=>⟨[(0,.p (.ip w.cells)),(4,.hd 0 0 n),(10,.hd 1 0 (acc++E5 plc M a b).length),(11,.j a),(85,.j n),(86,.j a),(93,.j n),(94,.j b)],[(0,.ext (.mat 101 4 1 (bmI M) [])),(1,.own 136 2 (avP (acc++E5 plc M a b)))]⟩) (fun b=>b<=n) (fun b=>n-b) 0 (Le.of_eq (by rw[u2,show acc++E5 plc M a 0=acc by unfold E5;simp];rfl)) (x8m _) ?_;intro b h4;rcases x8a b n with hb|hb
   ·have A:=H.bit ha hb;have u:=O6 plc M a b;have hrl:=SL plc M a b;generalize E5 plc M a b=acc2 at u hrl⊢;have hal:(avP (acc++acc2)).length=(acc++acc2).length:=by unfold avP;rw[x8g]
    have hal2:(acc++acc2).length<=25005000:=by rw[x8d];omega
    have J:=ZB w f h.hj h.hc (by omega) a (by omega);have K:=ZB w f h.hj h.hc (by omega) b (by omega);rw[V]at J K;cases hv:bitF M a b with
    | true=>
      rw[hv]at A;rw[hv,if_pos rfl]at u;conv=>whnf
      repeat' ((first|refine gX ?_|refine z1x a rfl ha ?_|refine z3d a _ (by omega) g (by simp) ?_|refine iO b ?_|refine RLd.mk _ b 0 _ g (by simp) (by omega) A ?_|refine cP J ?_|refine cP K ?_|refine pA 1 16 hal.symm ?_|(apply bD<;>intro _<;>try omega))<;>conv=>whnf)
      all_goals first
       |exact⟨b+1,by omega,by omega,Le.of_eq (by rw[u,<-x9u];simp only[avP,x8d,x8i];rfl)⟩
       |(exfalso;simp_all;done)
    | false=>
      rw[hv]at A;rw[hv,if_neg (by decide),x9c]at u;conv=>whnf
      repeat' ((first|refine gX ?_|refine z1x a rfl ha ?_|refine z3d a _ (by omega) g (by simp) ?_|refine iO b ?_|refine RLd.mk _ b 0 _ g (by simp) (by omega) A ?_|(apply bD<;>intro _<;>try omega))<;>conv=>whnf)
      all_goals first
       |exact⟨b+1,by omega,by omega,Le.of_eq (by rw[u];rfl)⟩
       |(exfalso;simp_all;done)
   ·have C:b=n:=by omega
    subst C;rw[<-Z];conv=>whnf
    repeat' ((first|refine wI ?_|(apply bD<;>intro _<;>try omega))<;>conv=>whnf)
    exact nX (a+1) (by omega)
  ·have d:a=n:=by omega
   subst d;conv=>whnf
   repeat' (apply bD<;>intro _<;>first|omega|conv=>whnf)
   exact⟨_,.hd rfl (by unfold avP;rw[x8g]),fm,M,B,H,hB,rfl⟩
theorem C6{p:Pg}(h:QL p=true){j:Nat}{f:Pr}(o:p.A[j]?=some f){k:Nat}{m:Item}(r:QC p.A j<=k)(u:k<QC p.A j+QY f.body)(q:(sheetOf p).l[k]?=some m):m.s.id=(k:Int)+1:=by
 obtain⟨t,_,i,n⟩:=Pp h o (a:=(k:Int)+1) (by omega) (by omega);unfold AD at i;rw[show((k:Int)+1-1).toNat=k by omega,q]at i;cases i;exact n
theorem Lw{n:Nat}{part:List Int}(q:∀k,k<n->0<=part.getD k 0/\part.getD k 0<n){i:Nat}(s:i<n):∀(l:List (Int×Int)){o:List Bool},o.length=n->(∀t∈l,0<=t.1/\t.1<n)->
  ((l.foldl (W9 part) o).getD i false=true↔o.getD i false=true\/∃t∈l,part.getD t.1.toNat 0≠part.getD t.2.toNat 0/\part.getD t.1.toNat 0=i)
 |[],o,_,_=>by simp
 | t::r,o,ho,hr=>by
   rw [z1n,Lw q s r (by rw[Lu];exact ho) fun u j=>hr u (x8b _ j)];have v:=hr t x8p;have w:=q t.1.toNat (by omega);have key:(W9 part o t).getD i false=true↔o.getD i false=true\/(part.getD t.1.toNat 0≠part.getD t.2.toNat 0/\part.getD t.1.toNat 0=i):=by
    unfold W9;split
    ·rename_i p;constructor
     ·exact .inl
     ·rintro(h|⟨h,_⟩)
      ·exact h
      ·exact absurd p h
    ·rename_i p;rw[WJ (by omega)];split
     ·rename_i h;constructor
      ·intro _;exact .inr ⟨p,by omega⟩
      ·intro _;rfl
     ·rename_i h;constructor
      ·exact .inl
      ·rintro(m|⟨_,m⟩)
       ·exact m
       ·exact absurd (by omega) h
   rw[key,z5t];constructor
   ·rintro(h|⟨h,m⟩|⟨u,j,h⟩)
    ·exact .inl h
    ·exact .inr ⟨t,x8p,h,m⟩
    ·exact .inr ⟨u,x8b _ j,h⟩
   ·rintro(h|⟨u,j,h⟩)
    ·exact .inl h
    ·rcases x8r.1 j with rfl|j
     ·exact .inr (.inl h)
     ·exact .inr (.inr ⟨u,j,h⟩)
theorem q3c{n:Nat}{part:List Int}(o:0<n)(j:∀k,k<n->0<=part.getD k 0/\part.getD k 0<n){i:Nat}(m:i<n){l:List (Int×Int)}(p:∀t∈l,0<=t.1/\t.1<n):
  (P3 n part l).getD i false=true↔part.getD 0 0=i\/part.getD (n-1) 0=i\/∃t∈l,part.getD t.1.toNat 0≠part.getD t.2.toNat 0/\part.getD t.1.toNat 0=i:=by
 have q:=j 0 o;have r:=j (n-1) (by omega);unfold P3;rw[Lw j m l (by simp[Hy]) p];have key:(Hy n part).getD i false=true↔part.getD 0 0=i\/part.getD (n-1) 0=i:=by
  unfold Hy;rw[WJ (by rw[z0m,z0g];omega),WJ (by rw[z0g];omega)];split
  ·exact⟨fun _=>.inr (by omega),fun _=>rfl⟩
  ·split
   ·exact⟨fun _=>.inl (by omega),fun _=>rfl⟩
   ·have:(List.replicate n false).getD i false=false:=by
     rw[x8f,x9l];split<;>rfl
    rw[this];constructor
    ·intro h;cases h
    ·rintro(h|h)<;>omega
 rw[key,z5t]
end Go.Ab
