/- The reference's programs that may be: just those that the program's own reading lets stand. -/
import Derived.Test.YtmfnbgbblkhneaaGreatRchL8
import Derived.Test.YtmfnbgbblkhneaaGreatRchL9
import Derived.Test.YtmfnbgbblkhneaaGreatRchL14
import Derived.Test.YtmfnbgbblkhneaaGreatRchL15
import Derived.Test.YtmfnbgbblkhneaaGreatRchL17
import Derived.Test.YtmfnbgbblkhneaaGreatRchL18
import Derived.Test.YtmfnbgbblkhneaaGreatRchL20
set_option linter.unusedSimpArgs false
set_option linter.unusedVariables false
set_option maxRecDepth 100000
set_option maxHeartbeats 16000000
open List (length)
namespace Go.Ab
open Go.Proofs.Tryz
open Go.Proofs
variable {I' O':List (List Str)}{l:List Bool}
theorem DM{p:Pg}(h:YL p=true->False):YL p=false:=by
 cases hq:YL p with
 |false=>rfl
 |true=>exact(h hq).elim
theorem MF(p:Pg):SpecP prog 57 [.agg p.cells] (fun r=>r=.bool (YL p)):=by
 refine sB LX func57 rfl call57 ?_;conv=>whnf
 have hgl:(p.globals.map AV.str).length=p.globals.length:=x2m _;have hpl:(p.procs.map fun f=>AV.agg f.cells).length=p.procs.length:=x2m _;repeat' (first|((first|(refine iM fun _=>?_)|refine cP (UV _) ?_);conv=>whnf)|(apply bD<;>intro _<;>first|omega|conv=>whnf)|(apply bN<;>intro _<;>conv=>whnf))
 all_goals first
  | (refine RetK.ff (DM fun h=>?_)
     have F:=JL h;have F1:=F.gl;have F2:=F.pl;have F3:=F.gn;first
      |omega
      |(simp_all;done))
  |skip
 have G1:p.globals.length<=16:=by omega
 have G2:p.procs.length<=16:=by omega
 have G3:namesB p.globals=true:=by assumption
 refine LoopK.inv QY (fun j:Nat=>⟨[(1,.p (.ip p.cells)),(26,.p (.sl (p.procs.map fun f=>.agg f.cells))),(27,.p (.int .i64 (p.procs.map fun f=>AV.agg f.cells).length)),(28,.p (.int .i64 j))],[]⟩) (fun j=>j<=p.procs.length/\∀m (hm:m<p.procs.length),m<j->JX p.procs[m]=true) (fun j=>p.procs.length-j) 0 (Le.of_eq rfl) ⟨x3z _,fun m hm h=>absurd h (Nat.not_lt_zero _)⟩ ?_;rintro j ⟨h2,G4⟩;rcases x3v j p.procs.length with hj|hj
 ·have hpm:(p.procs[j].params.map fun a=>AV.agg a.cells).length=p.procs[j].params.length:=x2m _;have hvs:(p.procs[j].vars.map AV.str).length=p.procs[j].vars.length:=x2m _;conv=>whnf
  repeat' (first|((first|(refine iM fun _=>?_)|refine cP (UV _) ?_|refine cP (XP _) ?_|refine x2t rfl ?_|(refine iA fun _=>?_));conv=>whnf)|(apply bD<;>intro _<;>first|omega|conv=>whnf)|(apply bN<;>intro _<;>conv=>whnf))
  all_goals first
   | (refine RetK.ff (DM fun h=>?_)
      obtain⟨F1,F2,F3,F4,F5,F6⟩:=(JL h).pr _ (x3w hj);first
       |omega
       |(simp_all;done))
   |skip
  have G5:(p.procs[j].params.all fun a=>isName a.name)=true->JX p.procs[j]=true:=fun g=>WC.2 ⟨by omega,by omega,by assumption,by assumption,by assumption,g⟩;refine LoopK.inv QY (fun k:Nat=>⟨[(1,.p (.ip p.cells)),(26,.p (.sl (p.procs.map fun f=>.agg f.cells))),(27,.p (.int .i64 (p.procs.map fun f=>AV.agg f.cells).length)),(28,.p (.int .i64 j)),(61,.p (.sl (p.procs[j].params.map fun a=>.agg a.cells))),(62,.p (.int .i64 (p.procs[j].params.map fun a=>AV.agg a.cells).length)),(63,.p (.int .i64 k))],[]⟩) (fun k=>k<=p.procs[j].params.length/\(p.procs[j].params.drop k).all (fun a=>isName a.name)=p.procs[j].params.all fun a=>isName a.name) (fun k=>p.procs[j].params.length-k) 0 (Le.of_eq rfl) ⟨x3z _,rfl⟩ ?_;rintro k ⟨h3,h4⟩;rcases x3v k p.procs[j].params.length with hk|hk
  ·conv=>whnf
   repeat' (first|((first|refine cP (XP _) ?_|refine x2t rfl ?_|(refine iA fun _=>?_)|refine wI ?_);conv=>whnf)|(apply bD<;>intro _<;>first|omega|conv=>whnf)|(apply bN<;>intro _<;>conv=>whnf))
   ·exact⟨k+1,⟨hk,by rw[<-h4,HW (p:=fun a:Param=>isName a.name) hk (by assumption)]⟩,by omega,Le.of_eq rfl⟩
   ·refine RetK.ff (DM fun h=>?_);have h5:=x4d.1 ((JL h).pr _ (x3w hj)).2.2.2.2.2 _ (x3w hk);simp_all
  ·rw[HZ hk]at h4;have G6:=G5 h4.symm;conv=>whnf
   repeat' (first|(refine wI ?_;conv=>whnf)|(apply bD<;>intro _<;>first|omega|conv=>whnf))
   refine⟨j+1,⟨hj,fun m hm hmj=>?_⟩,by omega,Le.of_eq rfl⟩;rcases x3v m j with h5|h5
   ·exact G4 m hm h5
   ·obtain rfl:m=j:=by omega
    exact G6
 ·have G5:∀f∈p.procs,JX f=true:=fun f hf=>by
   obtain⟨m,hm,rfl⟩:=x4t.1 hf;exact G4 m hm (by omega)
  conv=>whnf
  have hrl:=M5 (allR p);repeat' (first|((first|(refine iM fun _=>?_)|refine cP (We _) ?_);conv=>whnf)|(apply bD<;>intro _<;>first|omega|conv=>whnf))
  ·refine RetK.ff (DM fun h=>?_);have:=(JL h).len;omega
  have G6:(allR p).length<=200:=by omega
  refine LoopK.inv QY (fun k:Nat=>⟨[(7,.p (q7i (allR p))),(79,.p (.int .i64 ((allR p).map fun i=>AV.agg i.cells).length)),(80,.p (.int .i64 k))],[]⟩) (fun k=>k<=(allR p).length/\∀(m:Nat)(x:RI),m<k->(allR p)[m]?=some x->x.s.id=(m:Int)+1/\x.deep<=12/\oneOk x.s=true) (fun k=>(allR p).length-k) 0 (Le.of_eq rfl) ⟨x3z _,fun m x h=>absurd h (Nat.not_lt_zero _)⟩ ?_;rintro k ⟨h3,G7⟩;rcases x3v k (allR p).length with hk|hk
  ·conv=>whnf
   have F:=fun h:YL p=true=>(JL h).its k _ (x2n hk);repeat' (first|((first|(refine iA fun _=>?_)|refine wI ?_|refine cP (MB (allR p)[k].s) ?_);conv=>whnf)|(apply bD<;>intro _<;>first|omega|conv=>whnf)|(apply bE<;>intro _<;>first|omega|conv=>whnf)|(apply bN<;>intro _<;>conv=>whnf))
   all_goals first
    | (refine⟨k+1,⟨hk,fun m x hm hx=>?_⟩,by omega,Le.of_eq rfl⟩
       rcases x3v m k with h5|h5
       ·exact G7 m x h5 hx
       ·obtain rfl:m=k:=by omega
        rw[x2n hk]at hx;obtain rfl:=x5j hx;exact⟨by omega,by omega,by assumption⟩)
    | (refine RetK.ff (DM fun h=>?_)
       obtain⟨F1,F2,F3⟩:=F h;first
        |omega
        | (simp_all
           done))
  ·conv=>whnf
   repeat' (apply bD<;>intro _<;>first|omega|conv=>whnf)
   exact RetK.tt (q6l G1 G2 G3 G5 G6 fun m x hx=>G7 m x (by have:=(x2o.1 hx).1;omega) hx)
def procM(p:Pg)(n:Str):Pr×Bool:=bif YL p then AC p n else(Pr0,false)
theorem PP(p:Pg)(n:Str):SpecP prog 23 [.agg p.cells,.str n] (fun r=>r=.tup [.agg (procM p n).1.cells,.bool (procM p n).2]):=by
 refine sB NG func23 rfl call23 ?_;conv=>whnf
 have hpl:(p.procs.map fun f=>AV.agg f.cells).length=p.procs.length:=x2m _;repeat' (first|((first|(refine iM fun _=>?_)|refine cP (MF _) ?_|refine x2t rfl ?_);conv=>whnf)|(apply bB<;>intro _<;>conv=>whnf))
 ·have hM:procM p n=AC p n:=by unfold procM;rw[show YL p=true by assumption];rfl
  rw[hM];refine LoopK.inv QY (fun j:Nat=>⟨[(1,.p (.str n)),(4,.ptr 1 0),(11,.p (.sl (p.procs.map fun f=>.agg f.cells))),(12,.p (.int .i64 (p.procs.map fun f=>AV.agg f.cells).length)),(13,.p (.int .i64 j))],[(1,.obj 45 [.p (.str []),.p .nils,.p .nils,.p .nils,.p .nils])]⟩) (fun j=>j<=p.procs.length/\(p.procs.drop j).find? (fun f=>f.name==n)=p.procs.find? fun f=>f.name==n) (fun j=>p.procs.length-j) 0 (Le.of_eq rfl) ⟨x3z _,rfl⟩ ?_;rintro j ⟨h2,h3⟩;rcases x3v j p.procs.length with hj|hj
  ·rw[QF hj,x7m]at h3;conv=>whnf
   repeat' (first|((first|refine x2t rfl ?_|(refine iA fun _=>?_)|refine wI ?_);conv=>whnf)|(apply bD<;>intro _<;>first|omega|conv=>whnf)|(apply bB<;>intro _<;>conv=>whnf))
   ·have hn:(p.procs[j].name==n)=true:=by assumption
    rw[hn]at h3;exact⟨_,.p (Sub.tup (SubL.cons (Sub.refl _) (SubL.cons (Sub.tt rfl) SubL.nil))),by unfold AC;rw[<-h3];first|done|rfl⟩
   ·have hn:(p.procs[j].name==n)=false:=by assumption
    rw[hn]at h3;exact⟨j+1,⟨hj,h3⟩,by omega,Le.of_eq rfl⟩
  ·rw[x3b hj,List.find?_nil]at h3;conv=>whnf
   repeat' (first|(refine x2t rfl ?_;conv=>whnf)|(apply bD<;>intro _<;>first|omega|conv=>whnf))
   exact⟨_,.p (Sub.tup (SubL.cons Ei (SubL.cons (Sub.ff rfl) SubL.nil))),by unfold AC;rw[<-h3];first|done|rfl⟩
 ·have hM:procM p n=(Pr0,false):=by unfold procM;rw[show YL p=false by assumption];rfl
  rw[hM];exact⟨_,.p (Sub.tup (SubL.cons Ei (SubL.cons (Sub.ff rfl) SubL.nil))),rfl⟩
theorem AS{p:Pg}{n:Str}{k:Nat}{f:Pr}(hw:EA p n=some (QQ p k f))(hk:p.procs[k]?=some f):QE p=true/\procM p n=(f,true):=by
 obtain⟨k',f',hk',he,hc,_,hfi⟩:=Jj hw;have hk2:(QQ p k f).j=(QQ p k' f').j:=by rw[he]
 have hk3:k=k':=hk2;subst hk3;rw[hk]at hk';obtain rfl:=x5j hk';refine⟨hc,?_⟩;unfold procM AC;rw[(QK hc).1,hfi];rfl
section
variable {p:Pg}{j:Nat}{f:Pr}{n:Str}
end
theorem TG{p:Pg}(h:QE p=true){f:Pr}(hf:f∈p.procs):∃k,p.procs[k]?=some f/\EA p f.name=some (QQ p k f):=by
 cases hw:EA p f.name with
 | none=>
   exfalso;unfold EA at hw;rw[h,x3p]at hw;cases hq:p.procs.find? (fun g=>g.name==f.name)with
   | none=>
     have:=x6q.1 hq _ hf;simp at this
   |some g=>rw[hq]at hw;cases hw
 | some w=>
   obtain⟨k,g,hkj,rfl,_,hgn,_⟩:=Jj hw;have he:g=f:=Yn (Yg h) g (x3k hkj) f hf hgn;subst he;exact⟨k,hkj,rfl⟩
theorem OX{p:Pg}(h:QE p=true){id:Int}(hid:id∈q8q p 0):∃k f t,p.procs[k]?=some f/\t∈flL f.body/\t.id=id/\EA p (Uu p id).2.1=some (QQ p k f):=by
 have hm:=(QK h).1;unfold q8q at hid;obtain⟨x,hx,rfl⟩:=x3q.1 hid;have hx:=(x4w.1 hx).1;rw[F7 hm]at hx;obtain⟨g,hg,hxg⟩:=x3c.1 hx;rw[<-LI hm hg]at hxg;unfold Uu;cases hr:Pd p x.s.id with
 | none=>
   exfalso;unfold Pd at hr;have h1:=x7v.1 hr g hg;unfold CV at h1;rw[x8i,x6q]at h1;exact h1 x hxg (by simp)
 | some y=>
   obtain⟨y,nm⟩:=y;unfold Pd at hr;obtain⟨f,hf,h1⟩:=x7t hr;unfold CV at h1;rw[x7r]at h1;obtain⟨z,h2,h3⟩:=h1;obtain rfl:z=y:=x5u Prod.fst h3;have hnm:f.name=nm:=x5u Prod.snd h3;obtain⟨k,hk,hw⟩:=TG h hf;refine⟨k,f,z.s,hk,q2t h hk (x5n h2),by simpa using x6n h2,?_⟩;show EA p nm=_;rw[<-hnm];exact hw
theorem Pb{p:Pg}(h:QE p=true){id:Int}(h1:1<=id)(h2:id<=(sheetOf p).l.length):∃k f it,p.procs[k]?=some f/\it∈itsOf p k f/\it.s.id=id/\EA p (Uu p id).2.1=some (QQ p k f)/\(Uu p id).2.2=true/\x1v p id=(it.next,true):=by
 obtain⟨_,_,_,hlen,_⟩:=QJ p;obtain⟨j,f,hj,h3,h4⟩:=Ty p.procs (id-1).toNat (by omega);obtain⟨it,h5,h6⟩:=DE hj h3 h4;have h7:=Tl h hj h3 h4 h5;have h8:it.s.id=id:=by omega
 have hm:=(QK h).1;obtain⟨x,hx,hxs⟩:=IU (Wc h6);have hid:id∈q8q p 0:=by
  unfold q8q;refine x3q.2 ⟨x,x4w.2 ⟨?_,rfl⟩,by rw[hxs,h8]⟩;rw[F7 hm];exact x3c.2 ⟨f,x3k hj,hx⟩
 obtain⟨k,g,t,hk,ht,hti,hw⟩:=OX h hid;have hb:=ZI hm hk ht;have hbl:QB p.procs k+cntL g.body<=(sheetOf p).l.length:=by
  obtain⟨_,_,_,_,hsp⟩:=QJ p;have:=(hsp k g hk).2.2.1;omega
 obtain⟨it2,h9,h10⟩:=DE hk (k:=(id-1).toNat) (by omega) (by omega);rw[h5]at h9;obtain rfl:=x5j h9;refine⟨k,g,it,hk,h10,h8,hw,?_,?_⟩
 ·cases ho:(Uu p id).2.2 with
  |true=>rfl
  | false=>
    exfalso;unfold Uu at ho;cases hr:Pd p id with
    |some y=>rw[hr]at ho;cases ho
    | none=>
      unfold Pd at hr;have h11:=x7v.1 hr f (x3k hj);unfold CV at h11;rw[x8i,x6q]at h11;rw[LI hm (x3k hj)]at h11;exact h11 x hx (by rw[hxs,h8];simp)
 ·unfold x1v;rw[h,h5,x5g h1,x5g h2];rfl
section
variable {p:Pg}{j:Nat}{f:Pr}
end
section
variable {p:Pg}{j:Nat}{f:Pr}
theorem q6v{x:RI}(hx:x∈flatU f):x.s∈flL f.body:=by
 rw[<-show(flatU f).map RI.s=flL f.body from N0 1 0 false f.body];exact x3q.2 ⟨x,hx,rfl⟩
end
theorem q6i{p:Pg}(h:Fit p){f:Pr}(hf:f∈p.procs):∀t∈flL f.body,okC t:=fun t ht=>by
 have h1:=h.pr hf;unfold wPr at h1;have h2:=Pp _ _ ht;have h3:=Mn t;have h4:=BO t.labels;have h5:=BV t.args;refine⟨by omega,by omega,by omega,fun a ha=>?_⟩;have key:∀(l:List Arg),a∈l->wX a.x<=BW l:=fun l=>by
  induction l with
  |nil=>intro h;cases h
  | cons b r ih=>
    intro h;rw[BW];rcases x2i.1 h with rfl|h
    ·omega
    ·have:=ih h;omega
 have:=key _ ha;omega
theorem q4d{p:Pg}(h:Fit p)(hc:QE p=true):p.procs.length<=1000/\p.globals.length<=1000000/\∀f∈p.procs,f.vars.length<=1000000/\f.fin.length<=1000000/\f.params.length<=1000000/\cntL f.body<=1000000/\∀t∈flL f.body,okC t:=by
 obtain⟨h1,h2,h3⟩:=XJ hc;refine⟨by omega,by omega,fun f hf=>?_⟩;have h4:=h.pr hf;unfold wPr at h4;have h5:=BO f.vars;have h6:=BO f.fin;have h7:=TK f.params;have h8:=Py f.body;exact⟨by omega,by omega,by omega,by omega,q6i h hf⟩
def bkO(p:Pg)(O:List (List Str)):Book:=⟨sheetOf p,[],[],[],[],O⟩
def prA(p:Pg)(i:Nat):Pr:=p.procs.getD i Pr0
theorem Ya{p:Pg}{i:Nat}(h:i<p.procs.length):p.procs[i]?=some (prA p i):=by
 unfold prA;rw[x2l,x2n h];rfl
theorem FV{p:Pg}{i:Nat}{f:Pr}(h:p.procs[i]?=some f):prA p i=f:=by
 unfold prA;rw[x2l,h];rfl
def dfB(p:Pg)(O:List (List Str)):List (List Str):=(sheetOf p).l.map fun it=>WE (MN (bkO p O) it.s)
def otA(p:Pg)(D:List (List Str))(i:Nat):List Str:=WE (Ms p i (prA p i) D (itsOf p i (prA p i)))
def otB(p:Pg)(D:List (List Str)):List (List Str):=(List.range p.procs.length).map (otA p D)
def rdO(p:Pg)(O:List (List Str)):List (List Str):=otB p (dfB p O)
def itO(p:Pg):Nat->List (List Str)
 |0=>List.replicate p.procs.length []
 |k+1=>rdO p (itO p k)
theorem UT{l:List Str}(h:l.Pairwise ltT):l.Nodup:=List.Pairwise.imp (S:=fun a b=>a≠b) (fun {a b} (h1:ltT a b)=>fun(h2:a=b)=>ltT.irr b (by rw[h2]at h1;exact h1)) h
theorem JA(l:List Str):(WE l).length<=l.length:=HS (UT (ZB l)) fun s hs=>XO.1 hs
structure OkO(p:Pg)(O:List (List Str)):Prop where
 len:O.length=p.procs.length
 rise:∀o∈O,o.Pairwise ltT
 sub:∀i,i<p.procs.length->∀n∈O.getD i [],outB p (prA p i) n=true
theorem Q2{O:List (List Str)}(h:∀o∈O,o.Pairwise ltT)(i:Nat):(O.getD i []).Pairwise ltT:=by
 rw[x2l];rcases x3v i O.length with h1|h1
 ·rw[x2n h1];exact h _ (x3w h1)
 ·rw[x4a h1];exact .nil
theorem BF{p:Pg}{n:Str}:comB p n=true↔n=KI\/n∈p.globals:=by
 unfold comB;simp only[x6p,x6d,x4o,exists_eq_right']
theorem Om{p:Pg}{f:Pr}{n:Str}:outB p f n=true↔(n=KI\/n∈p.globals)\/(⟨n,true⟩:Param)∈f.params:=by
 unfold outB;rw[x6p,BF,x3i]
theorem Gd{p:Pg}(h:QE p=true)(i:Nat):(prA p i).params.length<=8:=by
 rcases x3v i p.procs.length with h1|h1
 ·exact(WC.1 (R0 (QK h).1 (x3k (Ya h1)))).1
 ·unfold prA;rw[x2l,x4a h1];decide
theorem OkO.len25{p:Pg}{O:List (List Str)}(hc:QE p=true)(h:OkO p O)(i:Nat):(O.getD i []).length<=25:=by
 rcases x3v i p.procs.length with h1|h1
 ·have h2:=HS (m:=KI::p.globals++(prA p i).params.map Param.name) (UT (Q2 h.rise i)) fun n hn=>by
   rcases Om.1 (h.sub i h1 n hn)with(rfl|h3)|h3
   ·exact x4h _ x2r
   ·exact x4h _ (x2c _ h3)
   ·exact x4f _ (x3q.2 ⟨_,h3,rfl⟩)
  have h3:=Gd hc i;have h4:=(XJ hc).1;rw[x2s,x4q,x2m]at h2;omega
 ·rw[x2l,x4a (by rw[h.len];exact h1)];exact x3z _
theorem Fw{p:Pg}(h:QE p=true){t:S}(ht:t∈VN p)(h4:t.kind=4):∃k,k<p.procs.length/\caI p t=(k:Nat)/\caP p t=prA p k/\(prA p k).name=t.proc/\(prA p k).params.map Param.ref=t.args.map Arg.ref:=by
 obtain⟨_,hs,ha,_⟩:=QK h;have hf:=(U4 hs).1 ha t ht h4;unfold FB at hf;rw[x3h]at hf;have hf2:=hf.2;cases hq:p.procs.find? (fun f=>f.name==t.proc)with
 |none=>rw[hq]at hf2;cases hf2
 | some f=>
   rw[hq]at hf2;have hn:t.proc∈procsN p:=x3q.2 ⟨f,x5n hq,by simpa using x6n hq⟩;obtain⟨k,hk,h1,_,h3,h5⟩:=Lb hn;rw[hq]at h3;have hkf:p.procs[k]=f:=(x5j h3).symm;have hp:prA p k=f:=by rw[<-hkf];exact FV (x2n hk)
   have hci:caI p t=(k:Nat):=h1;refine⟨k,hk,hci,?_,?_,?_⟩
   ·unfold caP;rw[hci];rfl
   ·rw[hp,<-hkf];exact h5
   ·rw[hp];unfold SH at hf2;exact x9x hf2
theorem LN{p:Pg}(h:QE p=true){t:S}(ht:t∈VN p)(h4:t.kind=4):t.args.length=(caP p t).params.length/\t.args.length<=8:=by
 obtain⟨k,_,_,h2,_,h3⟩:=Fw h ht h4;have h5:=x5u length h3;rw[x2m,x2m]at h5;have:=Gd h k;rw[h2];omega
theorem OkO.call{p:Pg}{O:List (List Str)}(hc:QE p=true)(h:OkO p O){b:Book}(hs:b.s=sheetOf p)(ho:b.outs=O){t:S}(ht:t∈VN p)(h4:t.kind=4):CallOk b t:=by
 obtain⟨k,hk,h1,h2,_⟩:=Fw hc ht h4;obtain⟨h5,h6⟩:=LN hc ht h4;have e:b.s.p=p:=by rw[hs];exact(QJ p).1
 have hO:caO b t=O.getD (caI p t).toNat []:=by unfold caO;rw[e,ho]
 refine⟨by rw[e];omega,by rw[e];omega,by rw[e,ho,h.len];exact x3g _,?_,?_,by rw[e];omega,by omega⟩
 ·rw[hO];exact Q2 h.rise _
 ·rw[hO];have:=h.len25 hc (caI p t).toNat;omega
theorem Ce{p:Pg}{O:List (List Str)}{b:Book}(hs:b.s=sheetOf p)(ho:b.outs=O)(t:S):MN b t=MN (bkO p O) t:=by
 unfold MN caO bkO;rw[hs,ho]
theorem V5{p:Pg}{O:List (List Str)}(hc:QE p=true)(h:OkO p O){t:S}(ht:t∈VN p):(MN (bkO p O) t).length<=34:=by
 unfold MN
 (repeat' split)<;>try (simp;done)
 rename_i h4;have hr:=Tb t (caP p t) (caO (bkO p O) t) t.args.length;have h6:=(LN hc ht h4).2;have h7:=h.len25 hc (caI p t).toNat;have h8:((caO (bkO p O) t).filter (comB p)).length<=(O.getD (caI p t).toNat []).length:=x5y _ _;show((if t.name=[]then []else [t.name])++AI t (caP p t) (caO (bkO p O) t) t.args.length++(caO (bkO p O) t).filter (comB p)).length<=34;rw[x2s,x2s];have h9:(if t.name=[]then []else [t.name]).length<=1:=by split<;>simp
 omega
theorem Fh(p:Pg)(O:List (List Str)):(dfB p O).length=(sheetOf p).l.length:=x2m _
def leO(O O':List (List Str)):Prop:=∀i n,n∈O.getD i []->n∈O'.getD i []
theorem Dk{t:S}{f:Pr}{O:List Str}{n:Str}:n∈AI t f O t.args.length ↔ ∃x∈(t.args.zip f.params).take t.args.length,(x.1.ref=true/\x.2.name∈O)/\x.1.name=n:=by
 unfold AI q8w;simp only[x3q,x4w,x3h,WP,and_assoc]
theorem Ci{p:Pg}{O:List (List Str)}(h:leO O O'){t:S}{n:Str}(hn:n∈MN (bkO p O) t):n∈MN (bkO p O') t:=by
 unfold MN at hn⊢
 (repeat' split at hn)
 ·rw[if_pos (by assumption)];exact hn
 ·rw[if_neg (by assumption),if_pos (by assumption)];exact hn
 ·rw[if_neg (by assumption),if_neg (by assumption),if_pos (by assumption)];exact hn
 ·rw[if_neg (by assumption),if_neg (by assumption),if_neg (by assumption),if_pos (by assumption)];unfold q2y at hn⊢;rcases x3x.1 hn with hn|hn
  ·rcases x3x.1 hn with hn|hn
   ·exact x4h _ (x4h _ hn)
   ·refine x4h _ (x4f _ ?_);obtain⟨x,h1,⟨h2,h3⟩,h4⟩:=Dk.1 hn;exact Dk.2 ⟨x,h1,⟨h2,h _ _ h3⟩,h4⟩
  ·obtain⟨h1,h2⟩:=x4w.1 hn;exact x4f _ (x4w.2 ⟨h _ _ h1,h2⟩)
 ·cases hn
theorem KJ{α β:Type}{f:α->List β}{l:List α}{i:Nat}{n:β}:n∈(l.map f).getD i [] ↔ ∃x,l[i]?=some x/\n∈f x:=by
 rw[x2l,x2e];cases l[i]?with
 |none=>simp
 |some x=>simp
theorem Ii{p:Pg}{O:List (List Str)}(h:leO O O'):leO (dfB p O) (dfB p O'):=fun i n hn=>by
 obtain⟨it,h1,h2⟩:=KJ.1 hn;exact KJ.2 ⟨it,h1,XO.2 (Ci h (XO.1 h2))⟩
def lvB(p:Pg)(i:Nat)(id:Int):Bool:=(QQ p i (prA p i)).live.getD (ixI p i (prA p i) id).toNat false
theorem Ol{p:Pg}{i:Nat}{D:List (List Str)}{n:Str}:n∈Ms p i (prA p i) D (itsOf p i (prA p i)) ↔ ∃it∈itsOf p i (prA p i),lvB p i it.s.id=true/\n∈FD D it.s.id/\outB p (prA p i) n=true:=by
 unfold Ms;rw[x3c];refine exists_congr fun it=>and_congr_right fun _=>?_;unfold q7q lvB;cases(QQ p i (prA p i)).live.getD (ixI p i (prA p i) it.s.id).toNat false with
 |false=>simp
 |true=>simp[x4w]
theorem R5{p:Pg}{D:List (List Str)}{i:Nat}(hi:i<p.procs.length){n:Str}:n∈(otB p D).getD i [] ↔ ∃it∈itsOf p i (prA p i),lvB p i it.s.id=true/\n∈FD D it.s.id/\outB p (prA p i) n=true:=by
 unfold otB;rw[KJ,<-Ol];constructor
 ·rintro⟨x,h1,h2⟩;rw[x7u hi]at h1;cases h1;exact XO.1 h2
 ·exact fun h=>⟨i,x7u hi,XO.2 h⟩
theorem On{p:Pg}{D D':List (List Str)}(h:leO D D'):leO (otB p D) (otB p D'):=fun i n hn=>by
 rcases x3v i p.procs.length with hi|hi
 ·obtain⟨it,h1,h2,h3,h4⟩:=(R5 hi).1 hn;exact(R5 hi).2 ⟨it,h1,h2,h _ _ h3,h4⟩
 ·obtain⟨x,h1,_⟩:=KJ.1 hn;rw[x4a (by simpa using hi)]at h1;cases h1
theorem OV{p:Pg}{O:List (List Str)}(h:leO O O'):leO (rdO p O) (rdO p O'):=On (Ii h)
theorem q1q(p:Pg):∀k,leO (itO p k) (itO p (k+1))
 | 0=>fun i n hn=>by
   unfold itO at hn;rw[x2l,x3o]at hn;split at hn<;>cases hn
 |k+1=>OV (q1q p k)
theorem q1f(p:Pg)(D:List (List Str)):OkO p (otB p D):=by
 refine⟨by unfold otB;rw[x2m,x5a],fun o ho=>?_,fun i hi n hn=>?_⟩
 ·obtain⟨i,_,rfl⟩:=x3q.1 ho;exact ZB _
 ·obtain⟨it,_,_,_,h⟩:=(R5 hi).1 hn;exact h
theorem Y6(p:Pg):∀k,OkO p (itO p k)
 | 0=>by
   refine⟨by unfold itO;rw[x5x],fun o ho=>?_,fun i hi n hn=>?_⟩
   ·rw[x6j ho];exact .nil
   ·unfold itO at hn;rw[x2l,x3o]at hn;split at hn<;>cases hn
 |k+1=>q1f p _
def tot(O:List (List Str)):Nat:=(O.map length).sum
theorem O4{a b:List Str}{O:List (List Str)}(h:leO (a::O) (b::O')):(∀n∈a,n∈b)/\leO O O':=⟨fun n hn=>h 0 n hn,fun i n hn=>h (i+1) n hn⟩
theorem q0q{a b:List Str}(ha:a.Pairwise ltT)(hb:b.Pairwise ltT)(hs:∀n∈a,n∈b)(hl:b.length<=a.length):a=b:=by
 refine Dg ltT.irr ltT.trans ha hb fun s=>⟨hs s,fun h=>?_⟩;refine x5p fun hn=>?_;have:=HS (l:=s::a) (m:=b) (x4r.2 ⟨hn,UT ha⟩) fun n h'=>by
  rcases x2i.1 h' with rfl|h'
  ·exact h
  ·exact hs n h'
 rw[x4q]at this;omega
theorem EW:∀{O O':List (List Str)},O.length=O'.length->(∀o∈O,o.Pairwise ltT)->(∀o∈O',o.Pairwise ltT)->leO O O'->tot O<=tot O'/\(tot O'<=tot O->O=O')
 |[],[],_,_,_,_=>⟨x3g _,fun _=>rfl⟩
 |[],_::_,h,_,_,_=>by cases h
 |_::_,[],h,_,_,_=>by cases h
 | a::O,b::O',hl,h1,h2,h=>by
   obtain⟨h3,h4⟩:=O4 h;obtain⟨h5,h6⟩:=EW (O:=O) (O':=O') (by simpa using hl) (fun o ho=>h1 o (x2c _ ho)) (fun o ho=>h2 o (x2c _ ho)) h4;have ha:=h1 a x2r;have hb:=h2 b x2r;have h7:=HS (UT ha) h3;have e:∀(x:List Str)(l:List (List Str)),tot (x::l)=x.length+tot l:=fun x l=>by unfold tot;rw[x3l,x8r]
   rw[e,e];exact⟨by omega,fun h8=>by rw[q0q ha hb h3 (by omega),h6 (by omega)]⟩
theorem Da:∀{O:List (List Str)},(∀o∈O,o.length<=25)->tot O<=25*O.length
 |[],_=>x3g _
 | a::O,h=>by
   have h1:=Da (O:=O) fun o ho=>h o (x2c _ ho);have h2:=h a x2r;have e:tot (a::O)=a.length+tot O:=by unfold tot;rw[x3l,x8r]
   rw[e,x4q];omega
theorem OkO.tot{p:Pg}{O:List (List Str)}(hc:QE p=true)(h:OkO p O):Go.Ab.tot O<=400:=by
 have h1:=Da (O:=O) fun o ho=>by
  obtain⟨i,hi,rfl⟩:=x4t.1 ho;have:=h.len25 hc i
  rwa[x2l,x2n hi]at this
 have h2:=(XJ hc).2.1;rw[h.len]at h1;omega
theorem RC{p:Pg}{k:Nat}(h:itO p (k+1)≠itO p k):Go.Ab.tot (itO p k)<Go.Ab.tot (itO p (k+1)):=by
 obtain⟨h1,h2⟩:=EW (O:=itO p k) (O':=itO p (k+1)) (by rw[(Y6 p k).len,(Y6 p (k+1)).len]) (Y6 p k).rise (Y6 p (k+1)).rise (q1q p k);rcases x3v (Go.Ab.tot (itO p k)) (Go.Ab.tot (itO p (k+1)))with h3|h3
 ·exact h3
 ·exact absurd (h2 h3).symm h
section
variable (p:Pg)(i:Nat)(f:Pr)(D U:List (List Str))(o:List Str)(x:Str)
def idN(a:Int):Int:=QP p i (cntL f.body+2:Nat) a
def hitN(a:Int):Bool:=bif decide (a=(cntL f.body+2:Nat)-1)then inS o x else bif decide (0<a)then inS (FD U (idN p i f a)) x else false
def GT(a:Int):Bool:=bif decide (a=(cntL f.body+2:Nat)-1)then false else bif decide (0<a)then !inS (FD D (idN p i f a)) x else true
def netR(p:Pg)(i:Nat)(f:Pr):List (List Int):=Qk (cntL f.body+2) (UL (QQ p i f) f)
def q8o:List (Int×Int):=(UL (QQ p i f) f).filter fun t=>GT p i f D x t.1
def C5:Bool:=(FZ 0 (ZP (QR (cntL f.body+2) (q8o p i f D x)).1 [0])).any (hitN p i f U o x)
end
section
variable {p:Pg}{i:Nat}{f:Pr}{D U:List (List Str)}{o:List Str}{x:Str}
def nR(p:Pg)(i:Nat)(f:Pr)(D:List (List Str))(x:Str)(a b:Int):Prop:=GT p i f D x a=true/\(a,b)∈UL (QQ p i f) f
theorem BS(h:QE p=true)(hj:p.procs[i]?=some f):C5 p i f D U o x=true ↔ ∃a,Rch (nR p i f D x) 0 a/\hitN p i f U o x a=true:=by
 unfold C5;rw[x4o];refine exists_congr fun a=>and_congr_left fun _=>?_;rw[Y1 (by omega)];have e:∀a b,((a,b)∈q8o p i f D x/\ZF (cntL f.body+2) b=true)↔nR p i f D x a b:=fun a b=>by
  unfold q8o nR;rw[x4w];constructor
  ·exact fun h1=>⟨h1.1.2,h1.1.1⟩
  ·intro h1;have h2:=(HN h hj _ h1.2).2;exact⟨⟨h1.2,h1.1⟩,by unfold ZF;simp;omega⟩
 exact⟨fun h1=>h1.mono fun a b h2=>(e a b).1 h2,fun h1=>h1.mono fun a b h2=>(e a b).2 h2⟩
theorem R3(h:QE p=true)(hj:p.procs[i]?=some f){S:Int->Prop}(h0:S 0)(h1:∀a,S a->hitN p i f U o x a=false)(h2:∀a b,S a->nR p i f D x a b->S b):C5 p i f D U o x=false:=by
 cases hq:C5 p i f D U o x with
 |false=>rfl
 | true=>
   obtain⟨a,h3,h4⟩:=(BS h hj).1 hq;rw[h1 a (Rch.closed h2 h0 h3)]at h4;cases h4
structure NedI(p:Pg)(i:Nat)(f:Pr)(D U:List (List Str))(o:List Str)(x:Str)(n:Nat)(seen:List Bool)(todo:List Int):Prop where
 len:seen.length=n
 rng:∀a∈todo,0<=a/\a<(n:Int)
 way:∀a:Int,(a=0\/seen.getD a.toNat false=true/\0<=a)->Rch (nR p i f D x) 0 a
 td:∀a∈todo,a=0\/seen.getD a.toNat false=true/\0<=a
 done:∀a:Int,(a=0\/seen.getD a.toNat false=true/\0<=a)->a∉todo->hitN p i f U o x a=false/\∀b,nR p i f D x a b->seen.getD b.toNat false=true
structure NedJ(p:Pg)(i:Nat)(f:Pr)(D U:List (List Str))(o:List Str)(x:Str)(n:Nat)(a:Int)(k:Nat)(seen:List Bool)(todo:List Int):Prop where
 len:seen.length=n
 rng:∀a∈todo,0<=a/\a<(n:Int)
 way:∀a:Int,(a=0\/seen.getD a.toNat false=true/\0<=a)->Rch (nR p i f D x) 0 a
 td:∀a∈todo,a=0\/seen.getD a.toNat false=true/\0<=a
 me:Rch (nR p i f D x) 0 a
 done:∀b:Int,(b=0\/seen.getD b.toNat false=true/\0<=b)->b∉todo->b≠a->hitN p i f U o x b=false/\∀c,nR p i f D x b c->seen.getD c.toNat false=true
 row:∀c∈((netR p i f).getD a.toNat []).take k,seen.getD c.toNat false=true
theorem q4u{k j:Nat}(h:(l.set k true).getD j false=true):j=k\/l.getD j false=true:=by
 rcases Nat.decEq j k with hne|rfl
 ·right
  rwa[x2l,x5h (x6o hne),<-x2l]at h
 ·exact .inl rfl
theorem Lf{k j:Nat}(h:l.getD j false=true):(l.set k true).getD j false=true:=by
 rcases Nat.decEq j k with hne|rfl
 ·rwa[x2l,x5h (x6o hne),<-x2l]
 ·have hl:j<l.length:=by
   rcases x3v j l.length with h1|h1
   ·exact h1
   ·rw[x2l,x4a h1]at h;cases h
  rw[x2l,x5w hl];rfl
theorem q1n{k:Nat}(h:k<l.length):(l.set k true).getD k false=true:=by
 rw[x2l,x5w h];rfl
variable {n:Nat}{seen:List Bool}{todo:List Int}{a:Int}
theorem NedI.start(n:Nat)(hn:0<n):NedI p i f D U o x n (List.replicate n false) [0]:=by
 have hno:∀k:Nat,(List.replicate n false).getD k false=true->False:=fun k h=>by
  rw[x2l,x3o]at h;split at h<;>cases h
 refine⟨x5x,fun a ha=>by rw[x2a.1 ha];omega,fun a ha=>?_,fun a ha=>.inl (x2a.1 ha),fun a ha hn=>?_⟩
 ·rcases ha with rfl|⟨h,_⟩
  ·exact .refl
  ·exact(hno _ h).elim
 ·rcases ha with rfl|⟨h,_⟩
  ·exact absurd (x2a.2 rfl) hn
  ·exact(hno _ h).elim
theorem NedI.stop(h:QE p=true)(hj:p.procs[i]?=some f)(hI:NedI p i f D U o x n seen []):C5 p i f D U o x=false:=by
 refine R3 h hj (S:=fun a=>a=0\/seen.getD a.toNat false=true/\0<=a) (.inl rfl) (fun a ha=>(hI.done a ha (by simp)).1) fun a b ha hb=>?_;have h1:=(hI.done a ha (by simp)).2 b hb;have h2:=(HN h hj _ hb.2).2;exact .inr ⟨h1,h2.1⟩
theorem NedI.skip(hI:NedI p i f D U o x n seen (todo++[a]))(h1:hitN p i f U o x a=false)(h2:GT p i f D x a=false):NedI p i f D U o x n seen todo:=by
 refine⟨hI.len,fun b hb=>hI.rng b (x4h _ hb),hI.way,fun b hb=>hI.td b (x4h _ hb),fun b hb hn=>?_⟩;by_cases he:b=a
 ·subst he;exact⟨h1,fun c hc=>by rw[hc.1]at h2;cases h2⟩
 ·exact hI.done b hb fun hm=>(x3x.1 hm).elim hn fun hm=>he (x2a.1 hm)
theorem NedI.open(hI:NedI p i f D U o x n seen (todo++[a])):NedJ p i f D U o x n a 0 seen todo:=
 ⟨hI.len,fun b hb=>hI.rng b (x4h _ hb),hI.way,fun b hb=>hI.td b (x4h _ hb),hI.way a (hI.td a (x4f _ (x2a.2 rfl))),
   fun b hb hn he=>hI.done b hb fun hm=>(x3x.1 hm).elim hn fun hm=>he (x2a.1 hm),fun c hc=>by rw[x9y]at hc;cases hc⟩
theorem NedJ.shut(h:QE p=true)(hj:p.procs[i]?=some f){k:Nat}(hJ:NedJ p i f D U o x n a k seen todo)(hk:((netR p i f).getD a.toNat []).length<=k)(h1:hitN p i f U o x a=false):NedI p i f D U o x n seen todo:=by
 refine⟨hJ.len,hJ.rng,hJ.way,hJ.td,fun b hb hm=>?_⟩;by_cases he:b=a
 ·subst he;refine⟨h1,fun c hc=>hJ.row c ?_⟩;rw[x3f hk];exact(Yb fun t ht=>(HN h hj t ht).1).2 ⟨(b,c),hc.2,by have:=(HN h hj _ hc.2).1;simp only at this⊢;omega,rfl⟩
 ·exact hJ.done b hb hm he
theorem NedJ.old{k:Nat}(hJ:NedJ p i f D U o x n a k seen todo)(hk:k<((netR p i f).getD a.toNat []).length)(hs:seen.getD (((netR p i f).getD a.toNat [])[k]).toNat false=true):NedJ p i f D U o x n a (k+1) seen todo:=by
 refine⟨hJ.len,hJ.rng,hJ.way,hJ.td,hJ.me,hJ.done,fun c hc=>?_⟩;rcases(HB hk).1 hc with h1|rfl
 ·exact hJ.row c h1
 ·exact hs
theorem NedJ.new{k:Nat}(hJ:NedJ p i f D U o x n a k seen todo)(hk:k<((netR p i f).getD a.toNat []).length){c:Int}(hc:c=((netR p i f).getD a.toNat [])[k])(hr:0<=c/\c<(n:Int))(hR:nR p i f D x a c):NedJ p i f D U o x n a (k+1) (seen.set c.toNat true) (todo++[c]):=by
 have hl:c.toNat<seen.length:=by rw[hJ.len];omega
 have hold:∀b:Int,(b=0\/(seen.set c.toNat true).getD b.toNat false=true/\0<=b)->b=c\/(b=0\/seen.getD b.toNat false=true/\0<=b):=fun b hb=>by
  rcases hb with h1|⟨h1,h2⟩
  ·exact .inr (.inl h1)
  ·rcases q4u h1 with h3|h3
   ·exact .inl (by omega)
   ·exact .inr (.inr ⟨h3,h2⟩)
 refine⟨by rw[x5e];exact hJ.len,fun b hb=>?_,fun b hb=>?_,fun b hb=>?_,hJ.me,fun b hb hm he=>?_,fun b hb=>?_⟩
 ·rcases x3x.1 hb with h1|h1
  ·exact hJ.rng b h1
  ·rw[x2a.1 h1];exact hr
 ·rcases hold b hb with rfl|h1
  ·exact .tail hJ.me hR
  ·exact hJ.way b h1
 ·rcases x3x.1 hb with h1|h1
  ·rcases hJ.td b h1 with h2|h2
   ·exact .inl h2
   ·exact .inr ⟨Lf h2.1,h2.2⟩
  ·rw[x2a.1 h1];exact .inr ⟨q1n hl,hr.1⟩
 ·rcases hold b hb with rfl|h1
  ·exact absurd (x4f _ (x2a.2 rfl)) hm
  ·obtain⟨h2,h3⟩:=hJ.done b h1 (fun h=>hm (x4h _ h)) he;exact⟨h2,fun d hd=>Lf (h3 d hd)⟩
 ·rcases(HB hk).1 hb with h1|h1
  ·exact Lf (hJ.row b h1)
  ·rw[h1,<-hc];exact q1n hl
end
def RL(p:Pg)(i:Nat)(f:Pr)(D U:List (List Str))(o:List Str):List Str:=(p.globals++[KI]).filter (C5 p i f D U o)
theorem fzL{N:Nat}{a b c d e:AV}{L:List Str}{n:Nat}(hn:n=(L.map AV.str).length):
  Le N ⟨[(0,.p a),(1,.p b),(5,.p .nils),(6,.p c),(27,.hd 0 0 n),(28,.p d),(29,.p e)],[(0,.own 9 1 (L.map .str))]⟩ ⟨[(0,.p a),(1,.p b),(5,.hd 0 0 0),(6,.p c),(27,.p (eStrs L)),(28,.p d),(29,.p e)],[(0,.own 9 1 [])]⟩:=by
 subst hn;obtain⟨s',rfl,hle⟩:=Le.row (N:=N) (s:=⟨[(0,.p a),(1,.p b),(5,.p .nils),(6,.p c),(27,.hd 0 0 (L.map AV.str).length),(28,.p d),(29,.p e)],[(0,.own 9 1 (L.map .str))]⟩) (k:=0) (e:=9) (sz:=1) (es:=L.map .str) (zs:=[27]) rfl
  (K:=fun s=>s=⟨[(0,.p a),(1,.p b),(5,.p .nils),(6,.p c),(27,.p (eStrs L)),(28,.p d),(29,.p e)],[]⟩) ⟨rfl,rfl⟩
 exact hle.trans (Le.mk [(0,.own 9 1 [])] (by simp[Chunk.new0];rfl) (by simp) (by simp) (.r (.r (.cons (.nil x2r) (.r (.r (.r (.r .nil))))))) (.new x2r .nil))
theorem Ft(b:Book)(p:Pg)(hp:b.s=sheetOf p)(h:QE p=true)(i:Nat)(f:Pr)(hj:p.procs[i]?=some f)(hW:b.ways[i]?=some (QQ p i f))(o:List Str)(hN:∀x,SpecP prog 152 [.ip b.cells,.int .i64 i,eMat (netR p i f),.str x] (fun r=>r=.bool (C5 p i f b.defs b.uses o x))):SpecH prog 91 [.p (.ip b.cells),.p (.int .i64 i)] [] (fun r H=>OneRow (Hz (RL p i f b.defs b.uses o)) False r H):=by
 refine sH Vm func91 rfl call91 ?_;conv=>whnf
 have hbp:b.s.p=p:=by rw[hp];exact(QJ p).1
 have hg:=(XJ h).1;have hdl:=Fy h hj;have hNt:=Rm (QQ p i f) f (cntL f.body+2) (q4o h hj) (HN h hj) (by omega);have hNt2:SpecP prog 150 [.ip (QQ p i f).cells] (fun r=>r=eMat (netR p i f)):=hNt;have hCl:SpecH prog 151 ([eStrs p.globals].map .p) [] (OneRow (Hz p.globals) (p.globals=[])):=WZ p.globals (by omega);have hg1:(b.ways.map fun w=>AV.ip w.cells)[i]?=some (.ip (QQ p i f).cells):=by rw[x2e,hW];rfl
 generalize QQ p i f=w at*
 generalize netR p i f=net at*
 repeat' ((first|(refine IdxK.at (k:=i) rfl hg1 rfl ?_)|refine cP hNt2 ?_);conv=>whnf)
 obtain⟨L,hL⟩ : ∃L,L=p.globals++[KI]:=⟨_,rfl⟩;have hLl:L.length<=17:=by rw[hL,x2s];simp;omega
 have hfin:RL p i f b.defs b.uses o=L.filter (C5 p i f b.defs b.uses o):=by unfold RL;rw[hL]
 rw[hfin];generalize C5 p i f b.defs b.uses o=ned at*
 refine JV 0 rfl hCl (.cons (.p (Sub.of_eq (by rw[hbp]))) .nil) (fun hnil=>?_) (fun q e sz es hR=>?_);rotate_left;obtain⟨rfl,rfl,rfl⟩:=hR
 rotate_right
 all_goals
  conv=>whnf
  repeat' ((first|(refine iM fun _=>?_)|refine x2t rfl ?_|refine aD ?_|refine bP ?_|refine QI (es:=[]) rfl (by simp) ?_|refine QI (by simp) (by simp;omega) ?_);conv=>whnf)
 all_goals
  refine LoopK.inv QY (fun x:Nat×List Str=>⟨[(0,.p (.ip b.cells)),(1,.p (.int .i64 i)),(5,.hd 0 0 x.2.length),(6,.p (eMat net)),(27,.p (eStrs L)),(28,.p (.int .i64 (L.map AV.str).length)),(29,.p (.int .i64 x.1))],[(0,.own 9 1 (x.2.map .str))]⟩) (fun x=>x.1<=L.length/\x.2=(L.take x.1).filter ned/\x.2.length<=x.1) (fun x=>L.length-x.1) (0,[])
   (by first
     |exact Le.trans (Le.of_eq (by rw[hL,hnil];rfl)) (fzL (L:=L) rfl)
     |exact Le.trans (Le.of_eq (by rw[hL];simp only[x3y,x2s];rfl)) (fzL (L:=L) rfl)
     |trace_state) ⟨x3z _,by simp,by simp⟩ ?_
  rintro⟨j,acc⟩ ⟨h2,h3,h4⟩;simp only at h2 h3 h4⊢;have hlm:(L.map AV.str).length=L.length:=x2m _;rcases x3v j L.length with hj|hj
  ·have hst:=x3u hj;have hNj:=hN L[j];have e5:(L.map AV.str)[j]?=some (.str L[j]):=by simp[hj]
   cases hnd:ned L[j];all_goals
    rw[hnd]at hNj;conv=>whnf
    repeat' (first|((first|refine x2t rfl ?_|refine aD ?_|refine bP ?_|(refine iA fun _=>?_)|refine wI ?_|refine cP hNj ?_|refine QI (by simp) (by rw[x2m];omega) ?_|refine Br.tt ?_|refine Br.ff ?_);conv=>whnf)|(apply bD<;>intro _<;>first|omega|conv=>whnf))
   all_goals first
    |exact⟨(j+1,acc++[L[j]]),⟨hj,by simp only;rw[hst,x5r,x5o hnd,h3];rfl,by simp;omega⟩,by simp only;omega,Le.of_eq (by simp only[x2s,x3y];rfl)⟩
    |exact⟨(j+1,acc),⟨hj,by simp only;rw[hst,x5r,x6w (by rw[hnd];decide),h3];simp,by simp only;omega⟩,by simp only;omega,Le.of_eq rfl⟩
  ·rw[x3f hj]at h3;subst h3;conv=>whnf
   repeat' (apply bD<;>intro _<;>first|omega|conv=>whnf)
   all_goals exact x7j _ (x3n _) (OneRow.str rfl)
def bkI(p:Pg)(I:List (List Str)):Book:=⟨sheetOf p,[],[],[],I,[]⟩
def usB(p:Pg)(I:List (List Str)):List (List Str):=(sheetOf p).l.map fun it=>WE (MG (bkI p I) it.s)
def niA(p:Pg)(D U O:List (List Str))(i:Nat):List Str:=WE (RL p i (prA p i) D U (O.getD i []))
def niB(p:Pg)(D U O:List (List Str)):List (List Str):=(List.range p.procs.length).map (niA p D U O)
def rdI(p:Pg)(D O I:List (List Str)):List (List Str):=niB p D (usB p I) O
def itI(p:Pg)(D O:List (List Str)):Nat->List (List Str)
 |0=>List.replicate p.procs.length []
 |k+1=>rdI p D O (itI p D O k)
structure OkI(p:Pg)(I:List (List Str)):Prop where
 len:I.length=p.procs.length
 rise:∀o∈I,o.Pairwise ltT
 sub:∀i,∀n∈I.getD i [],comB p n=true
theorem OkI.len25{p:Pg}{I:List (List Str)}(hc:QE p=true)(h:OkI p I)(i:Nat):(I.getD i []).length<=25:=by
 have h2:=HS (m:=KI::p.globals) (UT (Q2 h.rise i)) fun n hn=>by
  rcases BF.1 (h.sub i n hn)with rfl|h3
  ·exact x2r
  ·exact x2c _ h3
 have h4:=(XJ hc).1;rw[x4q]at h2;omega
theorem OkI.use{p:Pg}{I:List (List Str)}(hc:QE p=true)(h:OkI p I){b:Book}(hs:b.s=sheetOf p)(hi:b.ins=I){t:S}(ht:t∈VN p)(h4:t.kind=4):UseOk b t:=by
 obtain⟨k,hk,h1,_⟩:=Fw hc ht h4;have h6:=(LN hc ht h4).2;have e:b.s.p=p:=by rw[hs];exact(QJ p).1
 have hI:inAt b t=I.getD (caI p t).toNat []:=by unfold inAt;rw[e,hi]
 refine⟨by rw[e];omega,by rw[e,hi,h.len];omega,by omega,?_⟩;rw[hI];have:=h.len25 hc (caI p t).toNat;omega
theorem EN{p:Pg}{I:List (List Str)}{b:Book}(hs:b.s=sheetOf p)(hi:b.ins=I)(t:S):MG b t=MG (bkI p I) t:=by
 unfold MG inAt bkI;rw[hs,hi]
theorem EM{p:Pg}{I:List (List Str)}(h:leO I I'){t:S}{n:Str}(hn:n∈MG (bkI p I) t):n∈MG (bkI p I') t:=by
 unfold MG at hn⊢;split at hn
 ·rw[if_pos (by assumption)];rcases x3x.1 hn with hn|hn
  ·exact x4h _ hn
  ·exact x4f _ (h _ _ hn)
 ·rw[if_neg (by assumption)];exact hn
theorem q0k{p:Pg}{I:List (List Str)}(h:leO I I'):leO (usB p I) (usB p I'):=fun i n hn=>by
 obtain⟨it,h1,h2⟩:=KJ.1 hn;exact KJ.2 ⟨it,h1,XO.2 (EM h (XO.1 h2))⟩
theorem A6{p:Pg}{i:Nat}{f:Pr}{U U':List (List Str)}{o:List Str}{x:Str}(h:leO U U'){a:Int}(ha:hitN p i f U o x a=true):hitN p i f U' o x a=true:=by
 unfold hitN at ha⊢;cases h1:decide (a=(cntL f.body+2:Nat)-1)with
 |true=>rw[h1]at ha;exact ha
 | false=>
   rw[h1]at ha;cases h2:decide (0<a)with
   | true=>
     rw[h2]at ha;exact WP.2 (h _ _ (WP.1 ha))
   |false=>rw[h2]at ha;cases ha
theorem Dq{p:Pg}{D U O:List (List Str)}{i:Nat}(hi:i<p.procs.length){n:Str}:n∈(niB p D U O).getD i []↔comB p n=true/\C5 p i (prA p i) D U (O.getD i []) n=true:=by
 unfold niB;rw[KJ];have e:n∈niA p D U O i↔comB p n=true/\C5 p i (prA p i) D U (O.getD i []) n=true:=by
  unfold niA RL;rw[XO,x4w,BF,x3x,x2a,or_comm]
 rw[<-e];constructor
 ·rintro⟨x,h1,h2⟩;rw[x7u hi]at h1;cases h1;exact h2
 ·exact fun h=>⟨i,x7u hi,h⟩
theorem AX{p:Pg}{D U O:List (List Str)}{i:Nat}(hi:¬i<p.procs.length){n:Str}(h:n∈(niB p D U O).getD i []):False:=by
 obtain⟨x,h1,_⟩:=KJ.1 h;rw[x4a (by simpa using hi)]at h1;cases h1
theorem OW{p:Pg}(hc:QE p=true){D O I:List (List Str)}(h:leO I I'):leO (rdI p D O I) (rdI p D O I'):=fun i n hn=>by
 by_cases hi:i<p.procs.length
 ·obtain⟨h1,h2⟩:=(Dq hi).1 hn;obtain⟨a,h3,h4⟩:=(BS hc (Ya hi)).1 h2;exact(Dq hi).2 ⟨h1,(BS hc (Ya hi)).2 ⟨a,h3,A6 (q0k h) h4⟩⟩
 ·exact(AX hi hn).elim
theorem q0o{p:Pg}(hc:QE p=true)(D O:List (List Str)):∀k,leO (itI p D O k) (itI p D O (k+1))
 | 0=>fun i n hn=>by
   unfold itI at hn;rw[x2l,x3o]at hn;split at hn<;>cases hn
 |k+1=>OW hc (q0o hc D O k)
theorem q1g(p:Pg)(D U O:List (List Str)):OkI p (niB p D U O):=by
 refine⟨by unfold niB;rw[x2m,x5a],fun o ho=>?_,fun i n hn=>?_⟩
 ·obtain⟨i,_,rfl⟩:=x3q.1 ho;exact ZB _
 ·by_cases hi:i<p.procs.length
  ·exact((Dq hi).1 hn).1
  ·exact(AX hi hn).elim
theorem Y5(p:Pg)(D O:List (List Str)):∀k,OkI p (itI p D O k)
 | 0=>by
   refine⟨by unfold itI;rw[x5x],fun o ho=>?_,fun i n hn=>?_⟩
   ·rw[x6j ho];exact .nil
   ·unfold itI at hn;rw[x2l,x3o]at hn;split at hn<;>cases hn
 |k+1=>q1g p _ _ _
theorem OkI.tot{p:Pg}{I:List (List Str)}(hc:QE p=true)(h:OkI p I):Go.Ab.tot I<=400:=by
 have h1:=Da (O:=I) fun o ho=>by
  obtain⟨i,hi,rfl⟩:=x4t.1 ho;have:=h.len25 hc i
  rwa[x2l,x2n hi]at this
 have h2:=(XJ hc).2.1;rw[h.len]at h1;omega
theorem RS{p:Pg}(hc:QE p=true){D O:List (List Str)}{k:Nat}(h:itI p D O (k+1)≠itI p D O k):Go.Ab.tot (itI p D O k)<Go.Ab.tot (itI p D O (k+1)):=by
 obtain⟨h1,h2⟩:=EW (O:=itI p D O k) (O':=itI p D O (k+1)) (by rw[(Y5 p D O k).len,(Y5 p D O (k+1)).len]) (Y5 p D O k).rise (Y5 p D O (k+1)).rise (q0o hc D O k);rcases x3v (Go.Ab.tot (itI p D O k)) (Go.Ab.tot (itI p D O (k+1)))with h3|h3
 ·exact h3
 ·exact absurd (h2 h3).symm h
def wysB(p:Pg):List Way:=(List.range p.procs.length).map fun i=>QQ p i (prA p i)
theorem B8{p:Pg}{i:Nat}(h:i<p.procs.length):(wysB p)[i]?=some (QQ p i (prA p i)):=by
 unfold wysB;rw[x2e,x7u h];rfl
structure BookR(p:Pg)(b:Book):Prop where
 s:b.s=sheetOf p
 ways:b.ways=wysB p
 outs:∃k,b.outs=itO p k
 fixO:rdO p b.outs=b.outs
 defs:b.defs=dfB p b.outs
 ins:∃k,b.ins=itI p b.defs b.outs k
 fixI:rdI p b.defs b.outs b.ins=b.ins
 uses:b.uses=usB p b.ins
theorem D0{p:Pg}{k:Nat}(h:rdO p (itO p k)=itO p k):∀m,itO p (k+m)=itO p k
 |0=>rfl
 | m+1=>by
   show rdO p (itO p (k+m))=_;rw[D0 h m,h]
theorem Fi{p:Pg}{D O:List (List Str)}{k:Nat}(h:rdI p D O (itI p D O k)=itI p D O k):∀m,itI p D O (k+m)=itI p D O k
 |0=>rfl
 | m+1=>by
   show rdI p D O (itI p D O (k+m))=_;rw[Fi h m,h]
theorem BookR.uniq{p:Pg}{b c:Book}(hb:BookR p b)(hc:BookR p c):b=c:=by
 obtain⟨k,hk⟩:=hb.outs;obtain⟨m,hm⟩:=hc.outs;have ho:b.outs=c.outs:=by
  have h1:=D0 (p:=p) (k:=k) (by rw[<-hk];exact hb.fixO) m;have h2:=D0 (p:=p) (k:=m) (by rw[<-hm];exact hc.fixO) k;rw[hk,hm,<-h1,<-h2,x9j]
 have hd:b.defs=c.defs:=by rw[hb.defs,hc.defs,ho]
 obtain⟨k,hk⟩:=hb.ins;obtain⟨m,hm⟩:=hc.ins;have hi:b.ins=c.ins:=by
  have hf1:=hb.fixI;have hf2:=hc.fixI;rw[<-ho,<-hd]at hm hf2;have h1:=Fi (p:=p) (D:=b.defs) (O:=b.outs) (k:=k) (by rw[<-hk];exact hf1) m;have h2:=Fi (p:=p) (D:=b.defs) (O:=b.outs) (k:=m) (by rw[<-hm];exact hf2) k;rw[hk,hm,<-h1,<-h2,x9j]
 have hu:b.uses=c.uses:=by rw[hb.uses,hc.uses,hi]
 have hs:b.s=c.s:=by rw[hb.s,hc.s]
 have hw:b.ways=c.ways:=by rw[hb.ways,hc.ways]
 cases b;cases c;simp only at ho hd hi hu hs hw;subst ho hd hi hu hs hw;rfl
noncomputable def QH(p:Pg):Book:=@Classical.epsilon _ ⟨bkO p []⟩ (BookR p)
theorem BookR.eq{p:Pg}{b:Book}(h:BookR p b):b=QH p:=h.uniq (@Classical.epsilon_spec _ (BookR p) ⟨b,h⟩)
theorem q3u{p:Pg}(hc:QE p=true):∃k,itO p (k+1)=itO p k:=by
 refine x5p fun hno=>?_;have h1:∀k,k<=Go.Ab.tot (itO p k):=fun k=>by
  induction k with
  |zero=>exact x3z _
  | succ k ih=>
    have:=RC (p:=p) (k:=k) fun he=>hno ⟨k,he⟩;omega
 have h2:=(Y6 p 401).tot hc;have h3:=h1 401;omega
theorem q3v{p:Pg}(hc:QE p=true)(D O:List (List Str)):∃k,itI p D O (k+1)=itI p D O k:=by
 refine x5p fun hno=>?_;have h1:∀k,k<=Go.Ab.tot (itI p D O k):=fun k=>by
  induction k with
  |zero=>exact x3z _
  | succ k ih=>
    have:=RS hc (p:=p) (D:=D) (O:=O) (k:=k) fun he=>hno ⟨k,he⟩;omega
 have h2:=(Y5 p D O 401).tot hc;have h3:=h1 401;omega
theorem UD{p:Pg}(hc:QE p=true):BookR p (QH p):=by
 obtain⟨k,hk⟩:=q3u hc;obtain⟨m,hm⟩:=q3v hc (dfB p (itO p k)) (itO p k);have hb:BookR p ⟨sheetOf p,wysB p,dfB p (itO p k),usB p (itI p (dfB p (itO p k)) (itO p k) m),itI p (dfB p (itO p k)) (itO p k) m,itO p k⟩:=⟨rfl,rfl,⟨k,rfl⟩,hk,rfl,⟨m,rfl⟩,hm,rfl⟩;rw[<-hb.eq];exact hb
theorem Fz{p:Pg}(hc:QE p=true):OkO p (QH p).outs/\OkI p (QH p).ins:=by
 have hb:=UD hc;obtain⟨k,hk⟩:=hb.outs;obtain⟨m,hm⟩:=hb.ins;exact⟨hk▸Y6 p k,hm▸Y5 p _ _ m⟩
def RF(p:Pg)(i:Nat)(f:Pr)(D:List (List Str))(I:List Str)(a:Nat):List Str:=
 if a=0 then WE (I++f.params.map Param.name)else if a=cntL f.body+1 then []else bif (QQ p i f).live.getD a false then D.getD (QB p.procs i+a-1) []else []
def q1r(p:Pg)(i:Nat)(f:Pr)(U:List (List Str))(O:List Str)(a:Nat):List Str:=
 if a=cntL f.body+1 then WE (O++[OJ])else if a=0 then []else bif (QQ p i f).live.getD a false then U.getD (QB p.procs i+a-1) []else []
theorem Ri(l:List Str)(hl:l.length<=1000000):SpecH prog 151 ([eStrs l].map .p) [] (OneRow (Hz l) (l=[])):=WZ l hl
theorem My(l:List Str)(hl:l.length<=1000000):SpecH prog 86 [.hd 1000 0 l.length] [(1000,.own 9 1 (l.map .str))] (fun r H=>r=.hd 1000 0 (WE l).length/\H=[(1000,.own 9 1 ((WE l).map .str))]):=Ua l (by omega)
theorem Ul(b:Book)(p:Pg)(hp:b.s=sheetOf p)(h:QE p=true)(i:Nat)(f:Pr)(hj:p.procs[i]?=some f)(hW:b.ways[i]?=some (QQ p i f))(I:List Str)(hI:b.ins[i]?=some I)(hIl:I.length<=1000)(hD:b.defs.length=(sheetOf p).l.length)(a:Nat)(ha:a<cntL f.body+2):SpecP prog 156 [.ip b.cells,.int .i64 i,.int .i64 a] (fun r=>r=eStrs (RF p i f b.defs I a)):=by
 refine sB X9 func156 rfl call156 ?_;conv=>whnf
 have hbp:b.s.p=p:=by rw[hp];exact(QJ p).1
 obtain⟨hsp,_,_,hlen,hs⟩:=QJ p;obtain⟨_,_,hle,_⟩:=hs i f hj;have hcn:=(XJ h).2.2;have hT:=q4o h hj;have hg1:(b.s.p.procs.map fun f=>AV.agg f.cells)[i]?=some (.agg f.cells):=by rw[hbp,x2e,hj];rfl
 have hg2:(b.ways.map fun w=>AV.ip w.cells)[i]?=some (.ip (QQ p i f).cells):=by rw[x2e,hW];rfl
 have hg3:(b.ins.map eStrs)[i]?=some (eStrs I):=by rw[x2e,hI];rfl
 have hPl:=UW (QQ p i f) f hT.hj hT.hc (by have:=hT.hn2;have:=hT.hn;have:=hT.hw;omega) a (by omega);have hCl:=Ri I (by omega);have hll:(QQ p i f).live.length=cntL f.body+2:=by show(KP _ (List.replicate (cntL f.body+2) false)).length=_;rw[Z8];simp
 have hwn:(QQ p i f).n=(cntL f.body+2:Nat):=rfl;have hlv:((QQ p i f).live.map bv)[a]?=some (bv ((QQ p i f).live.getD a false)):=by
  rw[x2e,x2l,x2n (by omega)];rfl
 have hpl8:f.params.length<=8:=((JL (QK h).1).pr f (x3k hj)).1;unfold RF;by_cases h0:a=0
 ·subst h0;rw[if_pos rfl];repeat' (first|((first|(refine iM fun _=>?_)|refine dA ?_|refine x2t rfl ?_|refine aD ?_|refine aR ?_|refine bP ?_|(refine iA fun _=>?_)|refine IdxK.xs (by omega) ?_|refine QX (by omega) ?_|(refine ByteK.at (by omega) ?_)|refine wI ?_|(refine IdxK.at (k:=i) rfl hg1 rfl ?_)|(refine IdxK.at (k:=i) rfl hg2 rfl ?_)|(refine IdxK.at (k:=i) rfl hg3 rfl ?_));conv=>whnf)|(apply bD<;>intro _<;>first|omega|conv=>whnf)|(apply bE<;>intro _<;>first|omega|conv=>whnf)|(apply bN<;>intro _<;>conv=>whnf)|(apply bB<;>intro _<;>conv=>whnf))
  have hpm:(f.params.map fun x=>AV.agg x.cells).length=f.params.length:=x2m _;refine JV 0 rfl hCl (.cons (.p (Sub.refl _)) .nil) (fun hnil=>?_) (fun q e sz es hR=>?_);rotate_left;obtain⟨rfl,rfl,rfl⟩:=hR
  rotate_right
  all_goals
   conv=>whnf
   repeat' (first|((first|(refine iM fun _=>?_)|refine dA ?_|refine x2t rfl ?_|refine aD ?_|refine aR ?_|refine bP ?_|(refine iA fun _=>?_)|refine IdxK.xs (by omega) ?_|refine QX (by omega) ?_|(refine ByteK.at (by omega) ?_)|refine wI ?_|(refine IdxK.at (k:=i) rfl hg1 rfl ?_));conv=>whnf)|(apply bD<;>intro _<;>first|omega|conv=>whnf)|(apply bE<;>intro _<;>first|omega|conv=>whnf)|(apply bN<;>intro _<;>conv=>whnf)|(apply bB<;>intro _<;>conv=>whnf))
  all_goals
   refine LoopK.inv QY (fun k:Nat=>⟨[(8,.hd 0 0 (I++(f.params.take k).map Param.name).length),(40,.p (.sl (f.params.map fun a=>AV.agg a.cells))),(41,.p (.int .i64 (f.params.map fun a=>AV.agg a.cells).length)),(42,.p (.int .i64 k))],[(0,.own 9 1 ((I++(f.params.take k).map Param.name).map .str))]⟩) (fun k=>k<=f.params.length) (fun k=>f.params.length-k) 0
    (by first
      |exact Le.of_eq (by simp;rfl)
      | (rw[hnil]
         exact Le.mk [(0,.own 9 1 [])] (by simp[Chunk.new0];rfl) (by simp) (by simp) (.cons (.nil x2r) (.r (.r (.r .nil)))) (.new x2r .nil))
      |trace_state) (x3z _) ?_
   intro k hk;have hpl:f.params.length<=8:=hpl8;have hal:(I++(f.params.take k).map Param.name).length<=1100:=by rw[x2s,x2m,x3m];omega
   rcases x3v k f.params.length with hk2|hk2
   ·have hst:I++(f.params.take (k+1)).map Param.name=(I++(f.params.take k).map Param.name)++[f.params[k].name]:=by rw[x3u hk2,x3y,x3s];rfl
    generalize I++(f.params.take k).map Param.name=acc at*
    conv=>whnf
    repeat' (first|((first|(refine iM fun _=>?_)|refine dA ?_|refine x2t rfl ?_|refine aD ?_|refine aR ?_|refine bP ?_|(refine iA fun _=>?_)|refine IdxK.xs (by omega) ?_|refine QX (by omega) ?_|(refine ByteK.at (by omega) ?_)|refine wI ?_|refine QI (by simp) (by rw[x2m];omega) ?_);conv=>whnf)|(apply bD<;>intro _<;>first|omega|conv=>whnf)|(apply bE<;>intro _<;>first|omega|conv=>whnf)|(apply bN<;>intro _<;>conv=>whnf)|(apply bB<;>intro _<;>conv=>whnf))
    all_goals first
     |exact⟨k+1,hk2,by omega,Le.of_eq (by rw[hst];simp only[x2s,x3y];rfl)⟩
   ·rw[x3f hk2]at hal⊢;have hSo:=My (I++f.params.map Param.name) (by omega);generalize I++f.params.map Param.name=acc at*
    conv=>whnf
    repeat' (first|((first|(refine iM fun _=>?_)|refine dA ?_|refine x2t rfl ?_|refine aD ?_|refine aR ?_|refine bP ?_|(refine iA fun _=>?_)|refine IdxK.xs (by omega) ?_|refine QX (by omega) ?_|(refine ByteK.at (by omega) ?_)|refine wI ?_);conv=>whnf)|(apply bD<;>intro _<;>first|omega|conv=>whnf)|(apply bE<;>intro _<;>first|omega|conv=>whnf)|(apply bN<;>intro _<;>conv=>whnf)|(apply bB<;>intro _<;>conv=>whnf)|(refine CallK.heap [(1000,0)] 0 (by repeat' (first|exact x4x|refine x3d ?_ ?_|exact x3n _|exact x3e Sub.nils|exact x3e (Sub.tt rfl)|exact x3e (Sub.ff rfl)|exact x3e (Sub.int (by omega)))) (by refine x3j (j:=0) rfl rfl ?_ ?_;exact CSub.refl _;exact x4z) hSo rfl rfl ?_;rintro l' H' ⟨rfl,rfl⟩;conv=>whnf))
    all_goals first
     |exact⟨_,.hd rfl (by simp),rfl⟩
 ·rw [if_neg h0];by_cases h1:a=cntL f.body+1
  ·rw[if_pos h1];repeat' (first|((first|(refine iM fun _=>?_)|refine dA ?_|refine x2t rfl ?_|refine aD ?_|refine aR ?_|refine bP ?_|(refine iA fun _=>?_)|refine IdxK.xs (by omega) ?_|refine QX (by omega) ?_|(refine ByteK.at (by omega) ?_)|refine wI ?_|(refine IdxK.at (k:=i) rfl hg2 rfl ?_));conv=>whnf)|(apply bD<;>intro _<;>first|omega|conv=>whnf)|(apply bE<;>intro _<;>first|omega|conv=>whnf)|(apply bN<;>intro _<;>conv=>whnf)|(apply bB<;>intro _<;>conv=>whnf))
   all_goals first
    |(exfalso;omega)
    |exact⟨_,.p Sub.nils,rfl⟩
  ·rw[if_neg h1];have hpe:QP (QQ p i f).p (QQ p i f).j (QQ p i f).n a=((QB p.procs i+a:Nat):Int):=by
    show QP p i (cntL f.body+2:Nat) a=_;unfold QP loI;rw[if_neg (by omega),if_neg (by omega)];omega
   rw[hpe]at hPl;have hg4:(b.defs.map eStrs)[QB p.procs i+a-1]?=some (eStrs (b.defs.getD (QB p.procs i+a-1) [])):=by
    rw[x2e,x2l,x2n (by omega)];rfl
   generalize(QQ p i f).live.getD a false=lv at*
   cases lv;all_goals
    repeat' (first|((first|(refine iM fun _=>?_)|refine dA ?_|refine x2t rfl ?_|refine aD ?_|refine aR ?_|refine bP ?_|(refine iA fun _=>?_)|refine IdxK.xs (by omega) ?_|refine QX (by omega) ?_|(refine ByteK.at (by omega) ?_)|refine wI ?_|(refine IdxK.at (k:=i) rfl hg2 rfl ?_)|(refine IdxK.at (k:=a) rfl hlv rfl ?_)|refine cP hPl ?_|(refine IdxK.at (k:=QB p.procs i+a-1) (by omega) hg4 rfl ?_));conv=>whnf)|(apply bD<;>intro _<;>first|omega|conv=>whnf)|(apply bE<;>intro _<;>first|omega|conv=>whnf)|(apply bN<;>intro _<;>conv=>whnf)|(apply bB<;>intro _<;>conv=>whnf))
    all_goals first
     |(exfalso;omega)
     |contradiction
     |exact⟨_,.p Sub.nils,rfl⟩
     |exact⟨_,.p (Sub.refl _),rfl⟩
theorem Ur(b:Book)(p:Pg)(hp:b.s=sheetOf p)(h:QE p=true)(i:Nat)(f:Pr)(hj:p.procs[i]?=some f)(hW:b.ways[i]?=some (QQ p i f))(O:List Str)(hO:b.outs[i]?=some O)(hOl:O.length<=900000)(hD:b.uses.length=(sheetOf p).l.length)(a:Nat)(ha:a<cntL f.body+2):SpecP prog 97 [.ip b.cells,.int .i64 i,.int .i64 a] (fun r=>r=eStrs (q1r p i f b.uses O a)):=by
 refine sB Xq func97 rfl call97 ?_;conv=>whnf
 obtain⟨hsp,_,_,hlen,hs⟩:=QJ p;obtain⟨_,_,hle,_⟩:=hs i f hj;have hcn:=(XJ h).2.2;have hT:=q4o h hj;have hg2:(b.ways.map fun w=>AV.ip w.cells)[i]?=some (.ip (QQ p i f).cells):=by rw[x2e,hW];rfl
 have hg3:(b.outs.map eStrs)[i]?=some (eStrs O):=by rw[x2e,hO];rfl
 have hPl:=UW (QQ p i f) f hT.hj hT.hc (by have:=hT.hn2;have:=hT.hn;have:=hT.hw;omega) a (by omega);have hCl:=Ri O (by omega);have hll:(QQ p i f).live.length=cntL f.body+2:=by show(KP _ (List.replicate (cntL f.body+2) false)).length=_;rw[Z8];simp
 have hwn:(QQ p i f).n=(cntL f.body+2:Nat):=rfl;have hlv:((QQ p i f).live.map bv)[a]?=some (bv ((QQ p i f).live.getD a false)):=by
  rw[x2e,x2l,x2n (by omega)];rfl
 unfold q1r;by_cases h0:a=cntL f.body+1
 ·rw[if_pos h0];have hSo:=My (O++[OJ]) (by simp;omega);have hOm:(O.map AV.str).length=O.length:=x2m _;repeat' (first|((first|(refine iM fun _=>?_)|refine dA ?_|refine x2t rfl ?_|refine aD ?_|refine aR ?_|refine bP ?_|(refine iA fun _=>?_)|refine IdxK.xs (by omega) ?_|refine QX (by omega) ?_|(refine ByteK.at (by omega) ?_)|refine wI ?_|(refine IdxK.at (k:=i) rfl hg2 rfl ?_)|(refine IdxK.at (k:=i) rfl hg3 rfl ?_));conv=>whnf)|(apply bD<;>intro _<;>first|omega|conv=>whnf)|(apply bE<;>intro _<;>first|omega|conv=>whnf)|(apply bN<;>intro _<;>conv=>whnf)|(apply bB<;>intro _<;>conv=>whnf))
  all_goals try (exfalso;omega)
  refine JV 0 rfl hCl (.cons (.p (Sub.refl _)) .nil) (fun hnil=>?_) (fun q e sz es hR=>?_);rotate_left;obtain⟨rfl,rfl,rfl⟩:=hR
  rotate_right
  subst hnil;all_goals
   conv=>whnf
   repeat' (first|((first|(refine iM fun _=>?_)|refine dA ?_|refine x2t rfl ?_|refine aD ?_|refine aR ?_|refine bP ?_|(refine iA fun _=>?_)|refine IdxK.xs (by omega) ?_|refine QX (by omega) ?_|(refine ByteK.at (by omega) ?_)|refine wI ?_|refine QI (es:=[]) rfl (by simp) ?_|refine QI (by simp) (by simp;omega) ?_);conv=>whnf)|(apply bD<;>intro _<;>first|omega|conv=>whnf)|(apply bE<;>intro _<;>first|omega|conv=>whnf)|(apply bN<;>intro _<;>conv=>whnf)|(apply bB<;>intro _<;>conv=>whnf)|(refine CallK.heap [(1000,0)] 0 (by repeat' (first|exact x4x|refine x3d ?_ ?_|exact x3n _|exact x3e Sub.nils|exact x3e (Sub.tt rfl)|exact x3e (Sub.ff rfl)|exact x3e (Sub.int (by omega)))) (by refine x3j (j:=0) rfl rfl ?_ ?_;exact CSub.refl _;exact x4z) hSo rfl rfl ?_;rintro l' H' ⟨rfl,rfl⟩;conv=>whnf)|(refine CallK.heap [(1000,0)] 0 (x3d (x8z (by simp;rfl)) x4x) (x3j (j:=0) rfl rfl (CSub.of_eq (by simp;rfl)) x4z) hSo rfl rfl ?_;rintro l' H' ⟨rfl,rfl⟩;conv=>whnf))
   all_goals first
    |exact⟨_,.hd rfl (by simp),rfl⟩
 ·rw [if_neg h0];by_cases h1:a=0
  ·rw[if_pos h1];repeat' (first|((first|(refine iM fun _=>?_)|refine dA ?_|refine x2t rfl ?_|refine aD ?_|refine aR ?_|refine bP ?_|(refine iA fun _=>?_)|refine IdxK.xs (by omega) ?_|refine QX (by omega) ?_|(refine ByteK.at (by omega) ?_)|refine wI ?_|(refine IdxK.at (k:=i) rfl hg2 rfl ?_));conv=>whnf)|(apply bD<;>intro _<;>first|omega|conv=>whnf)|(apply bE<;>intro _<;>first|omega|conv=>whnf)|(apply bN<;>intro _<;>conv=>whnf)|(apply bB<;>intro _<;>conv=>whnf))
   all_goals first
    |(exfalso;omega)
    |exact⟨_,.p Sub.nils,rfl⟩
  ·rw[if_neg h1];have hpe:QP (QQ p i f).p (QQ p i f).j (QQ p i f).n a=((QB p.procs i+a:Nat):Int):=by
    show QP p i (cntL f.body+2:Nat) a=_;unfold QP loI;rw[if_neg (by omega),if_neg (by omega)];omega
   rw[hpe]at hPl;have hg4:(b.uses.map eStrs)[QB p.procs i+a-1]?=some (eStrs (b.uses.getD (QB p.procs i+a-1) [])):=by
    rw[x2e,x2l,x2n (by omega)];rfl
   generalize(QQ p i f).live.getD a false=lv at*
   cases lv;all_goals
    repeat' (first|((first|(refine iM fun _=>?_)|refine dA ?_|refine x2t rfl ?_|refine aD ?_|refine aR ?_|refine bP ?_|(refine iA fun _=>?_)|refine IdxK.xs (by omega) ?_|refine QX (by omega) ?_|(refine ByteK.at (by omega) ?_)|refine wI ?_|(refine IdxK.at (k:=i) rfl hg2 rfl ?_)|(refine IdxK.at (k:=a) rfl hlv rfl ?_)|refine cP hPl ?_|(refine IdxK.at (k:=QB p.procs i+a-1) (by omega) hg4 rfl ?_));conv=>whnf)|(apply bD<;>intro _<;>first|omega|conv=>whnf)|(apply bE<;>intro _<;>first|omega|conv=>whnf)|(apply bN<;>intro _<;>conv=>whnf)|(apply bB<;>intro _<;>conv=>whnf))
    all_goals first
     |(exfalso;omega)
     |contradiction
     |exact⟨_,.p Sub.nils,rfl⟩
     |exact⟨_,.p (Sub.refl _),rfl⟩
end Go.Ab
