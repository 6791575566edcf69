/- inout: the books of the two small programs. -/
import Derived.Test.YtmfnbgbblkhneaaGreatRchL8
import Derived.Test.YtmfnbgbblkhneaaGreatRchL9
import Derived.Test.YtmfnbgbblkhneaaGreatRchL10
import Derived.Test.YtmfnbgbblkhneaaGreatRchL11
import Derived.Test.YtmfnbgbblkhneaaGreatRchL14
import Derived.Test.YtmfnbgbblkhneaaGreatRchL16
import Derived.Test.YtmfnbgbblkhneaaGreatRchL18
import Derived.Test.YtmfnbgbblkhneaaGreatRchL20
import Derived.Test.YtmfnbgbblkhneaaGreatRchL21
import Derived.Test.YtmfnbgbblkhneaaGreatRchL23
set_option linter.unusedSimpArgs false
set_option linter.unusedVariables false
set_option maxRecDepth 100000
set_option maxHeartbeats 16000000
namespace Go.Ab
open Go.Proofs.Tryz
open Go.Proofs
variable {D I O:List (List Str)}{a i j k:Nat}{c:Int}{f:Pr}{l:List Int}{nm v:Str}{p:Pg}
instance:DecidableRel ltT:=fun a b=>inferInstanceAs (Decidable (Op.bytesLess a b=true))
def q8c(m l:List Str):Bool:=decide (m.Pairwise ltT)&&m.all (fun s=>inS l s)&&l.all (fun s=>inS m s)
theorem Fe{m l:List Str}(h:q8c m l=true):WE l=m:=by
 unfold q8c at h;simp only[x3h,x3i,x4d]at h;exact(OK h.1.1 fun s=>⟨fun hs=>WP.1 (h.1.2 s hs),fun hs=>WP.1 (h.2 s hs)⟩).symm
def q3w:List (List Str)->List (List Str)->Bool
 |[],[]=>true
 |m::ms,l::ls=>q8c m l&&q3w ms ls
 |_,_=>false
theorem Y4:∀{ms ls:List (List Str)},q3w ms ls=true->ls.map WE=ms
 |[],[],_=>rfl
 |[],_::_,h=>by cases h
 |_::_,[],h=>by cases h
 | m::ms,l::ls,h=>by
   rw[q3w,x3h]at h;rw[x3l,Fe h.1,Y4 h.2]
theorem Co(h:q3w D ((sheetOf p).l.map fun it=>MN (bkO p O) it.s)=true):dfB p O=D:=by
 have h1:=Y4 h;rw[x7p]at h1;exact h1
theorem q4c{U:List (List Str)}(h:q3w U ((sheetOf p).l.map fun it=>MG (bkI p I) it.s)=true):usB p I=U:=by
 have h1:=Y4 h;rw[x7p]at h1;exact h1
def x1g(lv:List Bool)(p:Pg)(i:Nat)(f:Pr)(D:List (List Str)):List Str:=(itsOf p i f).flatMap fun it=>bif lv.getD (ixI p i f it.s.id).toNat false then(FD D it.s.id).filter (outB p f)else []
def x1j(prs:List (Int×Int))(p:Pg)(i:Nat)(f:Pr)(D U:List (List Str))(o:List Str)(x:Str):Bool:=(FZ 0 (ZP (QR (cntL f.body+2) (prs.filter fun t=>GT p i f D x t.1)).1 [0])).any (hitN p i f U o x)
theorem AN{lv0 lv1:List Bool}{f0 f1:Pr}(hp:p.procs=[f0,f1])(h0:(QQ p 0 f0).live=lv0)(h1:(QQ p 1 f1).live=lv1)(h:q3w O [x1g lv0 p 0 f0 D,x1g lv1 p 1 f1 D]=true):otB p D=O:=by
 rw[<-Y4 h,<-h0,<-h1];unfold otB;have e0:prA p 0=f0:=FV (by rw[hp];rfl);have e1:prA p 1=f1:=FV (by rw[hp];rfl);rw[hp];show [otA p D 0,otA p D 1]=_;unfold otA;rw[e0,e1];rfl
theorem q3l{U:List (List Str)}{q8x q8z:List (Int×Int)}{f0 f1:Pr}(hp:p.procs=[f0,f1])(h0:UL (QQ p 0 f0) f0=q8x)(h1:UL (QQ p 1 f1) f1=q8z)(h:q3w I [(p.globals++[KI]).filter (x1j q8x p 0 f0 D U (O.getD 0 [])),(p.globals++[KI]).filter (x1j q8z p 1 f1 D U (O.getD 1 []))]=true):niB p D U O=I:=by
 rw[<-Y4 h,<-h0,<-h1];unfold niB;have e0:prA p 0=f0:=FV (by rw[hp];rfl);have e1:prA p 1=f1:=FV (by rw[hp];rfl);rw[hp];show [niA p D U O 0,niA p D U O 1]=_;unfold niA RL;rw[e0,e1];rfl
def Mr:Str:=[103]
def vS:Str:=[118]
def yS:Str:=[121]
def xS:Str:=[120]
theorem q8g:LS (QQ someP 0 f0) f0=[⟨0,1,1⟩,⟨1,2,1⟩,⟨2,3,1⟩,⟨3,4,1⟩,⟨4,-1,1⟩]:=by
 unfold LS YV;rw[q7b,q7u];exact T8 (by unfold okSt;decide) (by decide) (by decide) (by decide)
theorem q4g:UL (QQ someP 0 f0) f0=[(0,1),(1,2),(2,3),(3,4),(4,5)]:=by
 unfold UL;rw[q8g]
 kernel_rfl
theorem q9x:UL (QQ someP 1 f1) f1=[(0,1),(1,2),(2,3),(2,4),(3,5),(4,5)]:=by
 unfold UL;rw[q8h]
 kernel_rfl
theorem I4:(QQ someP 0 f0).live=[true,true,true,true,true,true]:=by
 unfold QQ;simp only[q6a]
 kernel_rfl
theorem q5j:(QQ someP 1 f1).live=[true,true,true,true,true,true]:=by
 unfold QQ;simp only[q6e]
 kernel_rfl
def sO:List (List Str):=[[Mr],[yS]]
def sD0:List (List Str):=[[vS],[Mr],[],[],[yS],[],[],[OJ]]
def sD:List (List Str):=[[vS],[Mr,vS],[],[],[yS],[],[],[OJ]]
def sU:List (List Str):=[[],[vS],[vS],[Mr],[xS,yS],[yS],[],[yS]]
theorem some_book:BookR someP ⟨sheetOf someP,wysB someP,sD,sU,[[],[]],sO⟩:=by
 have d0:dfB someP [[],[]]=sD0:=Co (by kernel_rfl);have o1:otB someP sD0=sO:=AN (f0:=f0) (f1:=f1) rfl I4 q5j (by kernel_rfl);have d1:dfB someP sO=sD:=Co (by kernel_rfl);have o2:otB someP sD=sO:=AN (f0:=f0) (f1:=f1) rfl I4 q5j (by kernel_rfl);have u0:usB someP [[],[]]=sU:=q4c (by kernel_rfl);have i1:niB someP sD sU sO=[[],[]]:=q3l (f0:=f0) (f1:=f1) rfl q4g q9x (by kernel_rfl);refine⟨rfl,rfl,⟨1,?_⟩,?_,d1.symm,⟨0,rfl⟩,?_,u0.symm⟩
 ·show sO=otB someP (dfB someP [[],[]]);rw[d0,o1]
 ·show otB someP (dfB someP sO)=sO;rw[d1,o2]
 ·show niB someP sD (usB someP [[],[]]) sO=[[],[]];rw[u0,i1]
def g0:Pr:=dP.procs[0]'(by decide)
def g1:Pr:=dP.procs[1]'(by decide)
theorem Ev{m:Int}(h:Mx p m=true):QE p=true:=by
 unfold Mx at h;rw[x3h]at h;exact h.1
theorem AR(h:QE p=true)(hk:p.procs[k]?=some f):JS p f.name=(k:Nat)/\q7x p f.name=(QH p).outs.getD k []/\q6p p f.name=(QH p).ins.getD k []:=by
 have hm:f.name∈procsN p:=x3q.2 ⟨f,x3k hk,rfl⟩;obtain⟨m,hm1,h1,_,h3,h4⟩:=Lb hm;obtain⟨rfl,_⟩:=OQ h (x2n hm1) hk h4;have e:JS p f.name=(m:Nat):=h1;refine⟨e,?_,?_⟩
 ·unfold q7x;rw[if_pos ⟨h,by omega⟩,e];rfl
 ·unfold q6p;rw[if_pos ⟨h,by omega⟩,e];rfl
theorem q7n:∀l:List Arg,(l.flatMap usA).length<=BW l
 |[]=>by simp[BW]
 | x::r=>by
   have h1:=q7n r;have h2:=Vv x.x;rw[x4n,x2s];have h3:(usA x).length<=1+(XN x.x).length:=by
    unfold usA;rw[x2s];split<;>simp
   simp only[BW];omega
theorem q7m(hf:Fit p)(hc:QE p=true)(h:OkI p I)(hk:k<(sheetOf p).l.length):(MG (bkI p I) (sheetOf p).l[k].s).length<=30000:=by
 have h1:=H5 hf hk;generalize(sheetOf p).l[k].s=t at*
 have h2:=Vv t.x;have h3:=q7n t.args;have h4:(inAt (bkI p I) t).length<=25:=h.len25 hc (caI (bkI p I).s.p t).toNat;have h5:wX t.x+BW t.args<=20000:=by
  cases t;simp only[wS,S.x,S.args]at h1⊢;omega
 have h6:(TU t).length<=(XN t.x).length+1:=by
  unfold TU;rw[x2s];split<;>simp
 unfold MG;split
 ·simp only[x2s];omega
 ·omega
theorem Vw{n:Str}(h:isName n=true):n.length<=8:=by
 unfold isName at h;split at h
 ·rename_i h1;exact h1.2
 ·cases h
theorem q5r(hc:QE p=true){n:Str}(h:comB p n=true):n.length<=8:=by
 unfold comB at h;rw[x6p]at h;rcases h with h|h
 ·rw[show n=KI by simpa using h];decide
 ·obtain⟨s,hs,he⟩:=x4o.1 h;rw[show n=s by simpa using he];exact Vw (N7 hc hs)
theorem q8f(hc:QE p=true)(hf:f∈p.procs){t:S}(ht:t∈flL f.body){n:Str}(hn:n∈MN (bkO p O) t):n.length<=8:=by
 have hnm:t.kind≠10->t.name.length<=8:=fun h10=>by
  by_cases h0:t.name=[]
  ·rw[h0];simp
  ·refine Vw (M8 hc hf ht ?_);unfold ZK FW;have:(decide (t.kind≠10) && !(t.name==[]))=true:=by simp[h10,h0]
   rw[this];simp
 unfold MN at hn;split at hn
 ·rw[x2a.1 hn];exact hnm (by omega)
 split at hn
 ·rcases x2i.1 hn with rfl|hn
  ·exact hnm (by omega)
  ·rw[x2a.1 hn];decide
 split at hn
 ·rw[x2a.1 hn];decide
 split at hn
 ·unfold q2y at hn;rcases x3x.1 hn with hn|hn
  ·rcases x3x.1 hn with hn|hn
   ·split at hn
    ·cases hn
    ·rw[x2a.1 hn];exact hnm (by omega)
   ·obtain⟨x,hx,h1,rfl⟩:=Dk.1 hn;refine Vw (M8 hc hf ht ?_);have hm:x.1∈t.args:=(List.of_mem_zip (x9g hx)).1;unfold ZK;refine x4f _ (x3c.2 ⟨x.1,hm,?_⟩);unfold KG;rw[h1.1];simp
  ·exact q5r hc (x4w.1 hn).2
 ·cases hn
noncomputable def WL(p:Pg)(i:Nat)(f:Pr)(a:Nat):List Str:=RF p i f (QH p).defs ((QH p).ins.getD i []) a
noncomputable def C7(p:Pg)(i:Nat)(f:Pr)(a:Nat):List Str:=q1r p i f (QH p).uses ((QH p).outs.getD i []) a
theorem q8t(hc:QE p=true)(hj:p.procs[i]?=some f)(a:Nat){n:Str}(hn:n∈WL p i f a):n.length<=8:=by
 have hb:=UD hc;have hfm:=x3k hj;unfold WL RF at hn;split at hn
 ·rw[XO]at hn;rcases x3x.1 hn with hn|hn
  ·exact q5r hc ((Fz hc).2.sub i n hn)
  ·refine Vw (Dw hc hfm (x4h _ hn))
 split at hn
 ·cases hn
 cases hlv:(QQ p i f).live.getD a false with
 |false=>rw[hlv]at hn;cases hn
 | true=>
   rw[hlv,x3p,hb.defs]at hn;rw[x2l]at hn;unfold dfB at hn;rw[x2e]at hn;cases hq:(sheetOf p).l[QB p.procs i+a-1]?with
   |none=>rw[hq]at hn;cases hn
   | some it=>
     rw[hq]at hn;have hn:n∈WE (MN (bkO p (QH p).outs) it.s):=hn;rw[XO]at hn;have ht:it.s∈VN p:=by rw[<-JO];exact x6m (x3k hq)
     obtain⟨g,hg,ht⟩:=x3c.1 ht;exact q8f hc hg ht hn
theorem Lj(hf:Fit p)(hc:QE p=true)(hj:p.procs[i]?=some f):
  FlB (QH p) i (QQ p i f) (cntL f.body+2) (LS (QQ p i f) f) (UL (QQ p i f) f) (WL p i f) (C7 p i f) (fun c=>QP p i (cntL f.body+2:Nat) c):=by
 have hb:=UD hc;obtain⟨hOo,hOi⟩:=Fz hc;have hT:=q4o hc hj;have hil:i<p.procs.length:=(x2o.1 hj).1;have hW:(QH p).ways[i]?=some (QQ p i f):=by rw[hb.ways,B8 hil,FV hj]
 have hI:(QH p).ins[i]?=some ((QH p).ins.getD i []):=by rw[x2l,x2n (by rw[hOi.len];exact hil)];rfl
 have hO:(QH p).outs[i]?=some ((QH p).outs.getD i []):=by rw[x2l,x2n (by rw[hOo.len];exact hil)];rfl
 have hDl:(QH p).defs.length=(sheetOf p).l.length:=by rw[hb.defs];exact Fh p _
 have hUl:(QH p).uses.length=(sheetOf p).l.length:=by rw[hb.uses];exact x2m _
 have hI25:=hOi.len25 hc i;have hO25:=hOo.len25 hc i;have hp8:f.params.length<=8:=((JL (QK hc).1).pr f (x3k hj)).1;have hdr:∀d∈(QH p).defs,d.Pairwise ltT/\d.length<=34:=fun d hd=>by
  rw[hb.defs]at hd;obtain⟨it,hi,rfl⟩:=x3q.1 hd;have ht:it.s∈VN p:=by rw[<-JO];exact x6m hi
  exact⟨ZB _,x4k (JA _) (V5 hc hOo ht)⟩
 have hur:∀d∈(QH p).uses,d.Pairwise ltT/\d.length<=30000:=fun d hd=>by
  rw[hb.uses]at hd;obtain⟨it,hi,rfl⟩:=x3q.1 hd;obtain⟨k,hk,rfl⟩:=x4t.1 hi;exact⟨ZB _,x4k (JA _) (q7m hf hc hOi hk)⟩
 have hcn:=XJ hc;have hcb:=KU _ _ (x3k hj);have hg34:∀a,(WL p i f a).length<=34:=fun a=>IK (fun d hd=>(hdr d hd).2) hI25 hp8 a;have hgr:∀a,(WL p i f a).Pairwise ltT:=fun a=>N5 (fun d hd=>(hdr d hd).1) a;have hgn:∀a,(WL p i f a).Nodup:=fun a=>UT (hgr a);have hkey:∀y:Str,y∈(mapG (prsG (WL p i f) (cntL f.body+2))).map Prod.fst->y.length<=8:=fun y hy=>by
  obtain⟨a,ha⟩:=O1 _ hy;exact q8t hc hj a (AA ha).2
 have hdl:=Fy hc hj;refine⟨hW,hT.hn,rfl,Ww _ f _ hT,JW _ f hT.hj hT.hc (by have:=hT.hn;have:=hT.hw;omega) _ (by omega),?_,?_,?_,?_,?_,?_,?_,?_,?_⟩
 ·exact Us (QH p) p i f _ hT.hn hW rfl (WL p i f) (fun a ha=>Ul (QH p) p hb.s hc i f hj hW _ hI (by omega) hDl a ha) fun a=>by have:=hg34 a;omega
 ·exact fun c h=>Ur (QH p) p hb.s hc i f hj hW _ hO (by omega) hUl c h
 ·exact fun at_ h1 h2=>(Ut (QH p) i _ hW _ hT.hn rfl (UL (QQ p i f) f) (by show(List.map _ _).length<=_;rw[x2m];omega) (HN hc hj) at_ h1 h2).mono fun r hr=>hr.eq
 ·exact fun c h=>UW _ f hT.hj hT.hc (by have:=hT.hn;have:=hT.hw;omega) c (by have:=hT.hn;omega)
 ·intro c;refine⟨EQ (fun d hd=>(hur d hd).1) c,?_⟩;unfold C7 q1r;split
  ·refine x4k (JA _) ?_;rw[x2s,x3a];omega
  split
  ·simp
  cases(QQ p i f).live.getD c false with
  |false=>simp
  |true=>exact x4k (Q3 (Q:=fun l=>l.length<=30000) (by simp) (fun d hd=>(hur d hd).2) _) (by decide)
 ·intro s hs;obtain⟨nm,hnm,hs⟩:=x3c.1 hs;have h8:=hkey nm hnm;unfold outN at hs;obtain⟨c,hcr,hs⟩:=x3c.1 hs;obtain⟨x,_,hs⟩:=x3c.1 hs;split at hs
  ·rw[x2a.1 hs];have hle:QB p.procs i<=1000:=x4k (R4 _ _) (by omega);have hpl:∀c:Nat,c<cntL f.body+2->QP p i (cntL f.body+2:Nat) c≠9223372036854775807:=fun c h=>by
    unfold QP loI;split
    ·decide
    split
    ·decide
    ·omega
   refine⟨hpl _ ?_,hpl _ (x4y.1 hcr),by show nm.length<=maxLen;unfold maxLen;omega⟩;rw[x2l];cases hq:(atN (WL p i f) (cntL f.body+2) nm)[x.toNat]?with
   |none=>show 0<_;omega
   |some a=>exact Kw (x3k hq)
  ·cases hs
 ·exact CP (by omega) hg34 hgn
 ·intro nm;rw[Pq hgn];exact x4k (x5y _ _) (by rw[x5a];exact hT.hn)
 ·exact fun y hy=>by have:=hkey y hy;unfold maxLen;omega
noncomputable def XE(p:Pg)(i:Nat)(f:Pr):List Fl:=VF (((mapG (prsG (WL p i f) (cntL f.body+2))).map Prod.fst).flatMap (outN (WL p i f) (C7 p i f) (fun c=>QP p i (cntL f.body+2:Nat) c) (cntL f.body+2) (UL (QQ p i f) f)))
noncomputable def GP(p:Pg)(n:Str):List Fl:=if QE p=true/\0<=JS p n then XE p (JS p n).toNat (prA p (JS p n).toNat)else []
theorem Xl(hf:Fit p)(hc:QE p=true)(hj:p.procs[i]?=some f):(XE p i f).length<=1000000000:=by
 unfold XE;rw[H8];exact(Lj hf hc hj).cnt
theorem Ku(hf:Fit p)(hc:QE p=true)(hj:p.procs[i]?=some f):SpecP prog 50 [.ip (QH p).cells,.int .i64 i] (fun r=>r=.sl ((XE p i f).map Bw)):=Um _ i _ _ _ _ _ _ _ (Lj hf hc hj)
theorem OU(p:Pg)(hf:Fit p)(n:Str):SpecP prog 14 [.agg p.cells,.str n] (fun r=>r=.sl ((GP p n).map Bw)):=by
 refine sB TN func14 rfl call14 ?_;conv=>whnf
 have hB:=Q5 p hf;cases hc:QE p with
 | false=>
   have e:GP p n=[]:=by unfold GP;rw[if_neg (by rw[hc];simp)]
   rw[e];have hB2:=hB.mono (R':=fun r=>r=.nilp) fun r hr=>hr.2 hc;repeat' (first|((first|(refine iM fun _=>?_)|refine dA ?_|refine x2t rfl ?_|refine aD ?_|refine aR ?_|refine bP ?_|(refine iA fun _=>?_)|refine IdxK.xs (by omega) ?_|refine QX (by omega) ?_|(refine ByteK.at (by omega) ?_)|refine wI ?_|refine cP hB2 ?_);conv=>whnf)|(apply bD<;>intro _<;>first|omega|conv=>whnf)|(apply bE<;>intro _<;>first|omega|conv=>whnf)|(apply bN<;>intro _<;>conv=>whnf)|(apply bB<;>intro _<;>conv=>whnf))
   all_goals first
    |contradiction
    |exact⟨_,.p Sub.nils,rfl⟩
 | true=>
   have hB2:=hB.mono (R':=fun r=>r=.ip (QH p).cells) fun r hr=>hr.1 hc;have hR:=UD hc;have hs:(QH p).s.p=p:=by rw[hR.s];exact(QJ p).1
   have hPr:=ZO (QH p).s n;rw[hs]at hPr;have hPr2:SpecP prog 49 [.ip (QH p).s.cells,.str n] (fun r=>r=.int .i64 (JS p n)):=hPr;have e:GP p n=if 0<=JS p n then XE p (JS p n).toNat (prA p (JS p n).toNat)else []:=by
    unfold GP;by_cases h0:0<=JS p n
    ·rw[if_pos ⟨hc,h0⟩,if_pos h0]
    ·rw[if_neg (fun h=>h0 h.2),if_neg h0]
   rw[e];by_cases h0:0<=JS p n
   ·rw[if_pos h0];have hlt:=R7 h0;have hFl:=Ku hf hc (Ya hlt);have hLl:=Xl hf hc (Ya hlt);have hi:(((JS p n).toNat:Nat):Int)=JS p n:=by omega
    rw[hi]at hFl;generalize XE p (JS p n).toNat (prA p (JS p n).toNat)=L at*
    generalize JS p n=i at*
    generalize QH p=b at*
    repeat' (first|((first|(refine iM fun _=>?_)|refine dA ?_|refine x2t rfl ?_|refine aD ?_|refine aR ?_|refine bP ?_|(refine iA fun _=>?_)|refine IdxK.xs (by omega) ?_|refine QX (by omega) ?_|(refine ByteK.at (by omega) ?_)|refine wI ?_|refine cP hB2 ?_|refine cP hPr2 ?_|refine cP hFl ?_);conv=>whnf)|(apply bD<;>intro _<;>first|omega|conv=>whnf)|(apply bE<;>intro _<;>first|omega|conv=>whnf)|(apply bN<;>intro _<;>conv=>whnf)|(apply bB<;>intro _<;>conv=>whnf)|(refine x2t ?_ ?_<;>conv=>whnf))
    all_goals try (exfalso;omega)
    have hLm:(L.map Bw).length=L.length:=x2m _;refine LoopK.inv QY (fun j:Nat=>⟨[(6,.hd 0 0 (L.take j).length),(29,.p (.sl (L.map Bw))),(30,.p (.int .i64 (L.map Bw).length)),(31,.p (.int .i64 j))],[(0,.own 34 3 ((L.take j).map Bw))]⟩) (fun j=>j<=L.length) (fun j=>L.length-j) 0
     (Le.mk [(0,.own 34 3 [])] (by simp[Chunk.new0];rfl) (by simp) (by simp) (.cons (.nil x2r) (.r (.r (.r .nil)))) (.new x2r .nil)) (x3z _) ?_
    intro j hj;rcases x3v j L.length with h1|h1
    ·have hst:=x3u h1;have eL:(L.map Bw)[j]?=some (.agg L[j].cells):=by rw[x2e,x2n h1];rfl
     have hal:(L.take j).length<=1000000000:=by rw[x3m];omega
     generalize L.take j=acc at*
     have ham:(acc.map Bw).length=acc.length:=x2m _;conv=>whnf
     repeat' (first|((first|(refine iM fun _=>?_)|refine dA ?_|refine x2t rfl ?_|refine aD ?_|refine aR ?_|refine bP ?_|(refine iA fun _=>?_)|refine IdxK.xs (by omega) ?_|refine QX (by omega) ?_|(refine ByteK.at (by omega) ?_)|refine wI ?_|refine x6y ham.symm rfl (by show(acc.length+1)*32<=140737488355328;omega) (by show acc.length+1<=9223372036854775807;omega) (fun x hx=>by rcases x2a.1 hx with rfl;exact⟨rfl,rfl⟩) ?_);conv=>whnf)|(apply bD<;>intro _<;>first|omega|conv=>whnf)|(apply bE<;>intro _<;>first|omega|conv=>whnf)|(apply bN<;>intro _<;>conv=>whnf)|(apply bB<;>intro _<;>conv=>whnf))
     all_goals first
      |exact⟨j+1,h1,by omega,Le.of_eq (by rw[hst,x2s,x3y];rfl)⟩
    ·rw[x3f h1];conv=>whnf
     repeat' (first|((first|(refine iM fun _=>?_)|refine dA ?_|refine x2t rfl ?_|refine aD ?_|refine aR ?_|refine bP ?_|(refine iA fun _=>?_)|refine IdxK.xs (by omega) ?_|refine QX (by omega) ?_|(refine ByteK.at (by omega) ?_)|refine wI ?_);conv=>whnf)|(apply bD<;>intro _<;>first|omega|conv=>whnf)|(apply bE<;>intro _<;>first|omega|conv=>whnf)|(apply bN<;>intro _<;>conv=>whnf)|(apply bB<;>intro _<;>conv=>whnf))
     all_goals first
      |exact⟨_,.hd rfl hLm.symm,rfl⟩
   ·rw[if_neg h0];generalize JS p n=i at*
    generalize QH p=b at*
    repeat' (first|((first|(refine iM fun _=>?_)|refine dA ?_|refine x2t rfl ?_|refine aD ?_|refine aR ?_|refine bP ?_|(refine iA fun _=>?_)|refine IdxK.xs (by omega) ?_|refine QX (by omega) ?_|(refine ByteK.at (by omega) ?_)|refine wI ?_|refine cP hB2 ?_|refine cP hPr2 ?_);conv=>whnf)|(apply bD<;>intro _<;>first|omega|conv=>whnf)|(apply bE<;>intro _<;>first|omega|conv=>whnf)|(apply bN<;>intro _<;>conv=>whnf)|(apply bB<;>intro _<;>conv=>whnf)|(refine x2t ?_ ?_<;>conv=>whnf))
    all_goals first
     |contradiction
     |exact⟨_,.p Sub.nils,rfl⟩
theorem Un(b:Book)(i:Nat)(w:Way)(n:Nat)(L:List Step)(steps:List (Int×Int))(G T:Nat->List Str)(plc:Nat->Int)(F:FlB b i w n L steps G T plc):SpecP prog 60 [.ip b.cells,.int .i64 i] (fun r=>r=.tup [.int .i64 n,.int .i64 (prsG G n).length]):=by
 refine sB X7 func60 rfl call60 ?_;conv=>whnf
 have hg2:(b.ways.map fun w=>AV.ip w.cells)[i]?=some (.ip w.cells):=by rw[x2e,F.hW];rfl
 have hGv:=F.giv;have hwn:=F.hwn;repeat' (first|((first|(refine iM fun _=>?_)|refine dA ?_|refine x2t rfl ?_|refine aD ?_|refine aR ?_|refine bP ?_|(refine iA fun _=>?_)|refine IdxK.xs (by omega) ?_|refine QX (by omega) ?_|(refine ByteK.at (by omega) ?_)|refine wI ?_|(refine IdxK.at (k:=i) rfl hg2 rfl ?_));conv=>whnf)|(apply bD<;>intro _<;>first|omega|conv=>whnf)|(apply bE<;>intro _<;>first|omega|conv=>whnf)|(apply bN<;>intro _<;>conv=>whnf)|(apply bB<;>intro _<;>conv=>whnf)|(refine CallK.heap [] 0 (by repeat' (first|exact x4x|refine x3d ?_ ?_|exact x3n _|exact x3e Sub.nils|exact x3e (Sub.tt rfl)|exact x3e (Sub.ff rfl)|exact x3e (Sub.int (by omega)))) x4z hGv rfl rfl ?_;rintro l' H' ⟨rfl,rfl⟩;conv=>whnf))
 all_goals first
  |exact⟨_,.p (Sub.tup (.cons (Sub.int hwn) (.cons (Sub.refl _) .nil))),rfl⟩
noncomputable def PN(p:Pg)(n:Str):Int×Int:=if QE p=true/\0<=JS p n then((cntL (prA p (JS p n).toNat).body+2:Nat),((prsG (WL p (JS p n).toNat (prA p (JS p n).toNat)) (cntL (prA p (JS p n).toNat).body+2)).length:Nat))else(0,0)
theorem R8(p:Pg)(hf:Fit p)(n:Str):SpecP prog 30 [.agg p.cells,.str n] (fun r=>r=.tup [.int .i64 (PN p n).1,.int .i64 (PN p n).2]):=by
 refine sB Hn func30 rfl call30 ?_;conv=>whnf
 have hB:=Q5 p hf;cases hc:QE p with
 | false=>
   have e:PN p n=(0,0):=by unfold PN;rw[if_neg (by rw[hc];simp)]
   rw[e];have hB2:=hB.mono (R':=fun r=>r=.nilp) fun r hr=>hr.2 hc;repeat' (first|((first|(refine iM fun _=>?_)|refine dA ?_|refine x2t rfl ?_|refine aD ?_|refine aR ?_|refine bP ?_|(refine iA fun _=>?_)|refine IdxK.xs (by omega) ?_|refine QX (by omega) ?_|(refine ByteK.at (by omega) ?_)|refine wI ?_|refine cP hB2 ?_);conv=>whnf)|(apply bD<;>intro _<;>first|omega|conv=>whnf)|(apply bE<;>intro _<;>first|omega|conv=>whnf)|(apply bN<;>intro _<;>conv=>whnf)|(apply bB<;>intro _<;>conv=>whnf))
   all_goals first
    |contradiction
    |exact⟨_,.p (Sub.refl _),rfl⟩
 | true=>
   have hB2:=hB.mono (R':=fun r=>r=.ip (QH p).cells) fun r hr=>hr.1 hc;have hR:=UD hc;have hs:(QH p).s.p=p:=by rw[hR.s];exact(QJ p).1
   have hPr:=ZO (QH p).s n;rw[hs]at hPr;have hPr2:SpecP prog 49 [.ip (QH p).s.cells,.str n] (fun r=>r=.int .i64 (JS p n)):=hPr;by_cases h0:0<=JS p n
   ·have hlt:=R7 h0;have hFl:=Un _ _ _ _ _ _ _ _ _ (Lj hf hc (Ya hlt));have e:PN p n=(((cntL (prA p (JS p n).toNat).body+2:Nat):Int),(((prsG (WL p (JS p n).toNat (prA p (JS p n).toNat)) (cntL (prA p (JS p n).toNat).body+2)).length:Nat):Int)):=by unfold PN;rw[if_pos ⟨hc,h0⟩]
    rw[e];have hi:(((JS p n).toNat:Nat):Int)=JS p n:=by omega
    rw[hi]at hFl;generalize(prsG (WL p (JS p n).toNat (prA p (JS p n).toNat)) (cntL (prA p (JS p n).toNat).body+2)).length=m at*
    generalize cntL (prA p (JS p n).toNat).body+2=m2 at*
    generalize JS p n=i at*
    generalize QH p=b at*
    repeat' (first|((first|(refine iM fun _=>?_)|refine dA ?_|refine x2t rfl ?_|refine aD ?_|refine aR ?_|refine bP ?_|(refine iA fun _=>?_)|refine IdxK.xs (by omega) ?_|refine QX (by omega) ?_|(refine ByteK.at (by omega) ?_)|refine wI ?_|refine cP hB2 ?_|refine cP hPr2 ?_|refine cP hFl ?_);conv=>whnf)|(apply bD<;>intro _<;>first|omega|conv=>whnf)|(apply bE<;>intro _<;>first|omega|conv=>whnf)|(apply bN<;>intro _<;>conv=>whnf)|(apply bB<;>intro _<;>conv=>whnf)|(refine x2t ?_ ?_<;>conv=>whnf))
    all_goals first
     |contradiction
     |(exfalso;omega)
     |exact⟨_,.p (Sub.refl _),rfl⟩
   ·have e:PN p n=(0,0):=by unfold PN;rw[if_neg (fun h=>h0 h.2)]
    rw[e];generalize JS p n=i at*
    generalize QH p=b at*
    repeat' (first|((first|(refine iM fun _=>?_)|refine dA ?_|refine x2t rfl ?_|refine aD ?_|refine aR ?_|refine bP ?_|(refine iA fun _=>?_)|refine IdxK.xs (by omega) ?_|refine QX (by omega) ?_|(refine ByteK.at (by omega) ?_)|refine wI ?_|refine cP hB2 ?_|refine cP hPr2 ?_);conv=>whnf)|(apply bD<;>intro _<;>first|omega|conv=>whnf)|(apply bE<;>intro _<;>first|omega|conv=>whnf)|(apply bN<;>intro _<;>conv=>whnf)|(apply bB<;>intro _<;>conv=>whnf)|(refine x2t ?_ ?_<;>conv=>whnf))
    all_goals first
     |contradiction
     |exact⟨_,.p (Sub.refl _),rfl⟩
def DV(id:Int)(nm:Str)(l:List Fl):List Int:=(l.filter fun s=>decide (s.dst=id)&&(s.var==nm)).map Fl.src
noncomputable def fromR(p:Pg)(id:Int)(nm:Str):List Int:=if QE p=true/\1<=id/\id<=(sheetOf p).l.length then DV id nm (GP p (Uu p id).2.1)else []
theorem Sx(id:Int)(nm:Str){l:List Fl}(h:j<l.length):DV id nm (l.take (j+1))=DV id nm (l.take j)++if l[j].dst=id/\l[j].var=nm then [l[j].src]else []:=by
 unfold DV;rw[x3u h,x5r,x3y];congr 1;by_cases h1:l[j].dst=id<;>by_cases h2:l[j].var=nm<;>simp[h1,h2]
theorem Po(id:Int)(nm:Str)(l:List Fl):(DV id nm l).length<=l.length:=by
 unfold DV;rw[x2m];exact x5y _ _
theorem Ps(hc:QE p=true)(hk:p.procs[k]?=some f)(hw:EA p nm=some (QQ p k f)):GP p nm=XE p k f:=by
 have h1:JS p nm=k:=by
  unfold EA at hw;rw[hc,x3p]at hw;cases hq:p.procs.find? fun f=>f.name==nm with
  |none=>rw[hq]at hw;cases hw
  | some g=>
    rw[hq]at hw;have h2:some (p.procs.findIdx fun f=>f.name==nm)=some k:=x5u (Option.map Way.j) hw;have h3:(p.procs.any fun f=>f.name==nm)=true:=x4o.2 ⟨g,x5n hq,x6n (p:=fun f:Pr=>f.name==nm) hq⟩;unfold JS Xc;rw[h3,x3p,x5j h2]
 unfold GP;rw[h1,if_pos ⟨hc,by omega⟩,x5c,FV hk]
theorem Gt(p:Pg)(hf:Fit p)(id:Int)(nm:Str):SpecP prog 17 [.agg p.cells,.int .i64 id,.str nm] (fun r=>r=QO (fromR p id nm)):=by
 refine sB Bn func17 rfl call17 ?_;conv=>whnf
 have hB:=Q5 p hf;cases hc:QE p with
 | false=>
   have e:fromR p id nm=[]:=by unfold fromR;rw[if_neg (by rw[hc];simp)]
   rw[e];have hB2:=hB.mono (R':=fun r=>r=.nilp) fun r hr=>hr.2 hc;repeat' (first|((first|(refine iM fun _=>?_)|refine dA ?_|refine x2t rfl ?_|refine aD ?_|refine aR ?_|refine bP ?_|(refine iA fun _=>?_)|refine IdxK.xs (by omega) ?_|refine QX (by omega) ?_|(refine ByteK.at (by omega) ?_)|refine wI ?_|refine cP hB2 ?_);conv=>whnf)|(apply bD<;>intro _<;>first|omega|conv=>whnf)|(apply bE<;>intro _<;>first|omega|conv=>whnf)|(apply bN<;>intro _<;>conv=>whnf)|(apply bB<;>intro _<;>conv=>whnf))
   all_goals first
    |contradiction
    |exact⟨_,.p Sub.nils,rfl⟩
 | true=>
   have hB2:=hB.mono (R':=fun r=>r=.ip (QH p).cells) fun r hr=>hr.1 hc;have hR:=UD hc;have hHs:=KS (QH p).s id;have hll:=(QJ p).2.2.2.1;have hcn:=XJ hc;by_cases h0:1<=id/\id<=(sheetOf p).l.length
   ·obtain⟨k,f,it,hk,hi,hid,hw,hrest⟩:=Pb hc h0.1 h0.2;have hat:=q3j hc hk hi;rw[hid]at hat;have hpr:it.proc=k:=KK _ _ _ _ _ _ it hi;have hFl:=Ku hf hc hk;have hLl:=Xl hf hc hk;have hfl:GP p (Uu p id).2.1=XE p k f:=Ps hc hk hw;have e:fromR p id nm=DV id nm (XE p k f):=by unfold fromR;rw[if_pos ⟨hc,h0⟩,hfl]
    rw[e];have hg:((QH p).s.l.map fun i=>AV.agg i.cells)[(id-1).toNat]?=some (.agg it.cells):=by rw[hR.s,x2e,hat];rfl
    have hb1:(decide (1<=id)&&decide (id<=((QH p).s.l.length:Int)))=true:=by rw[hR.s];simp[h0.1,h0.2]
    rw[hb1]at hHs;generalize XE p k f=L at*
    generalize QH p=b at*
    repeat' (first|((first|(refine iM fun _=>?_)|refine dA ?_|refine x2t rfl ?_|refine aD ?_|refine aR ?_|refine bP ?_|(refine iA fun _=>?_)|refine IdxK.xs (by omega) ?_|refine QX (by omega) ?_|(refine ByteK.at (by omega) ?_)|refine wI ?_|refine cP hB2 ?_|refine cP hHs ?_|(refine IdxK.at (k:=(id-1).toNat) (by omega) hg rfl ?_)|(refine CallK.pure hFl (.cons (Sub.refl _) (.cons (Sub.int hpr) .nil)) ?_;rintro _ rfl));conv=>whnf)|(apply bD<;>intro _<;>first|omega|conv=>whnf)|(apply bE<;>intro _<;>first|omega|conv=>whnf)|(apply bN<;>intro _<;>conv=>whnf)|(apply bB<;>intro _<;>conv=>whnf)|(refine x2t ?_ ?_<;>conv=>whnf))
    all_goals try contradiction
    all_goals try (exfalso;omega)
    have hLm:(L.map Bw).length=L.length:=x2m _;refine LoopK.inv QY (fun j:Nat=>⟨[(1,.p (.int .i64 id)),(2,.p (.str nm)),(8,.hd 0 0 (DV id nm (L.take j)).length),(37,.p (.sl (L.map Bw))),(38,.p (.int .i64 (L.map Bw).length)),(39,.p (.int .i64 j))],[(0,.own 3 1 ((DV id nm (L.take j)).map (.int .i64)))]⟩) (fun j=>j<=L.length) (fun j=>L.length-j) 0
     (Le.mk [(0,.own 3 1 [])] (by simp[Chunk.new0];rfl) (by simp) (by simp) (.r (.r (.cons (.nil x2r) (.r (.r (.r .nil)))))) (.new x2r .nil)) (x3z _) ?_
    intro j hj;have hal:(DV id nm (L.take j)).length<=1000000000:=x4k (Po _ _ _) (by rw[x3m];omega);rcases x3v j L.length with h1|h1
    ·have hst:=Sx id nm h1;have eL:(L.map Bw)[j]?=some (.agg L[j].cells):=by rw[x2e,x2n h1];rfl
     generalize DV id nm (L.take j)=acc at*
     conv=>whnf
     repeat' (first|((first|(refine iM fun _=>?_)|refine dA ?_|refine x2t rfl ?_|refine aD ?_|refine aR ?_|refine bP ?_|(refine iA fun _=>?_)|refine IdxK.xs (by omega) ?_|refine QX (by omega) ?_|(refine ByteK.at (by omega) ?_)|refine wI ?_|refine XH (by simp) (by rw[x2m];omega) ?_);conv=>whnf)|(apply bD<;>intro _<;>first|omega|conv=>whnf)|(apply bE<;>intro _<;>first|omega|conv=>whnf)|(apply bN<;>intro _<;>conv=>whnf)|(apply bB<;>intro _<;>conv=>whnf))
     all_goals first
      |exact⟨j+1,h1,by omega,Le.of_eq (by rw[hst,if_pos ⟨by assumption,by simpa using(show(L[j].var==nm)=true by assumption)⟩];simp only[x2s,x3y];rfl)⟩
      |exact⟨j+1,h1,by omega,Le.of_eq (by rw[hst,if_neg (by rintro⟨h8,h9⟩;simp_all),x4b];rfl)⟩
    ·rw[x3f h1];conv=>whnf
     repeat' (first|((first|(refine iM fun _=>?_)|refine dA ?_|refine x2t rfl ?_|refine aD ?_|refine aR ?_|refine bP ?_|(refine iA fun _=>?_)|refine IdxK.xs (by omega) ?_|refine QX (by omega) ?_|(refine ByteK.at (by omega) ?_)|refine wI ?_);conv=>whnf)|(apply bD<;>intro _<;>first|omega|conv=>whnf)|(apply bE<;>intro _<;>first|omega|conv=>whnf)|(apply bN<;>intro _<;>conv=>whnf)|(apply bB<;>intro _<;>conv=>whnf))
     all_goals first
      |exact⟨_,.hd rfl (by simp),rfl⟩
   ·have e:fromR p id nm=[]:=by unfold fromR;rw[if_neg (fun h=>h0 h.2)]
    rw[e];have hb1:(decide (1<=id)&&decide (id<=((QH p).s.l.length:Int)))=false:=by
     rw[hR.s];by_cases h1:1<=id
     ·have:¬id<=((sheetOf p).l.length:Int):=fun h2=>h0 ⟨h1,h2⟩;simp[this]
     ·simp[h1]
    rw[hb1]at hHs;generalize QH p=b at*
    repeat' (first|((first|(refine iM fun _=>?_)|refine dA ?_|refine x2t rfl ?_|refine aD ?_|refine aR ?_|refine bP ?_|(refine iA fun _=>?_)|refine IdxK.xs (by omega) ?_|refine QX (by omega) ?_|(refine ByteK.at (by omega) ?_)|refine wI ?_|refine cP hB2 ?_|refine cP hHs ?_);conv=>whnf)|(apply bD<;>intro _<;>first|omega|conv=>whnf)|(apply bE<;>intro _<;>first|omega|conv=>whnf)|(apply bN<;>intro _<;>conv=>whnf)|(apply bB<;>intro _<;>conv=>whnf)|(refine x2t ?_ ?_<;>conv=>whnf))
    all_goals first
     |contradiction
     |exact⟨_,.p Sub.nils,rfl⟩
theorem Z5{G G':Nat->List Str}:∀{n:Nat},(∀a,a<n->G a=G' a)->prsG G n=prsG G' n
 |0,_=>rfl
 |n+1,h=>by rw[DS,DS,h n (x9d n),Z5 fun a ha=>h a (Nat.lt_succ_of_lt ha)]
def sG0:List (List Str):=[[],[vS],[Mr,vS],[],[],[]]
def sG1:List (List Str):=[[xS,yS],[yS],[],[],[OJ],[]]
theorem Em:∀a,a<6->WL someP 0 f0 a=sG0.getD a []:=fun a ha=>by
 unfold WL;rw[<-some_book.eq];unfold RF
 match a,ha with
 |0,_=>exact Fe (by kernel_rfl)
 |1,_=>rw[if_neg (by decide),if_neg (by decide),I4];rfl
 |2,_=>rw[if_neg (by decide),if_neg (by decide),I4];rfl
 |3,_=>rw[if_neg (by decide),if_neg (by decide),I4];rfl
 |4,_=>rw[if_neg (by decide),if_neg (by decide),I4];rfl
 |5,_=>rfl
 |a+6,h=>omega
theorem El:∀a,a<6->WL someP 1 f1 a=sG1.getD a []:=fun a ha=>by
 unfold WL;rw[<-some_book.eq];unfold RF
 match a,ha with
 |0,_=>exact Fe (by kernel_rfl)
 |1,_=>rw[if_neg (by decide),if_neg (by decide),q5j];rfl
 |2,_=>rw[if_neg (by decide),if_neg (by decide),q5j];rfl
 |3,_=>rw[if_neg (by decide),if_neg (by decide),q5j];rfl
 |4,_=>rw[if_neg (by decide),if_neg (by decide),q5j];rfl
 |5,_=>rfl
 |a+6,h=>omega
theorem SR:PN someP [112]=(6,4):=by
 have e:JS someP [112]=1:=by kernel_rfl
 have e2:prA someP 1=f1:=rfl;unfold PN;rw[e,if_pos ⟨Ds,by decide⟩];show(((cntL (prA someP 1).body+2:Nat):Int),(((prsG (WL someP 1 (prA someP 1)) (cntL (prA someP 1).body+2)).length:Nat):Int))=(6,4);rw[e2,show cntL f1.body+2=6 by kernel_rfl,Z5 El]
 kernel_rfl
def q7k(nx:List (List Int))(gen kill:List (List Wd))(f:Nat)(X:List Int):List Int:=X++(List.range nx.length).flatMap fun a=>bif bitW (gen.getD a []) f||(X.contains (a:Int) && !bitW (kill.getD a []) f)then nx.getD a []else []
def Sf(nx:List (List Int))(gen kill:List (List Wd))(f:Nat):Nat->List Int
 |0=>[]
 |k+1=>q7k nx gen kill f (Sf nx gen kill f k)
def Cr(nx:List (List Int))(gen kill:List (List Wd))(f:Nat)(X:List Int):Bool:=(List.range nx.length).all fun a=> !(bitW (gen.getD a []) f||(X.contains (a:Int) && !bitW (kill.getD a []) f))||(nx.getD a []).all fun b=>X.contains b
theorem NC{nx:List (List Int)}{gen kill:List (List Wd)}{f:Nat}:∀(k:Nat){c:Int},c∈Sf nx gen kill f k->SolP nx gen kill f c
 |0,c,h=>by cases h
 | k+1,c,h=>by
   rw[Sf,q7k]at h;rcases x3x.1 h with h|h
   ·exact NC k h
   ·obtain⟨a,ha,hc⟩:=x3c.1 h;cases hq:bitW (gen.getD a []) f||((Sf nx gen kill f k).contains (a:Int) && !bitW (kill.getD a []) f)with
    |false=>rw[hq]at hc;cases hc
    | true=>
      rw[hq,x3p]at hc;rw[x6p,x3h,x5l]at hq;rcases hq with hq|⟨h1,h2⟩
      ·exact .gen (a:=(a:Int)) (x8w _) (by rw[x5c];exact hq) (by rw[x5c];exact hc)
      ·exact .go (a:=(a:Int)) (x8w _) (NC k (by simpa using h1)) (by rw[x5c];exact h2) (by rw[x5c];exact hc)
theorem Sd{nx:List (List Int)}{gen kill:List (List Wd)}{f:Nat}{X:List Int}(hX:Cr nx gen kill f X=true)(h:SolP nx gen kill f c):c∈X:=by
 have key:∀{a b:Int},0<=a->b∈nx.getD a.toNat []->(bitW (gen.getD a.toNat []) f||(X.contains a && !bitW (kill.getD a.toNat []) f))=true->b∈X:=fun {a b} h0 hb hq=>by
  have hlt:a.toNat<nx.length:=by
   rw[x2l]at hb;cases hr:nx[a.toNat]?with
   |none=>rw[hr]at hb;cases hb
   |some r=>exact(x2o.1 hr).1
  have h1:=x4d.1 hX a.toNat (x4y.2 hlt);rw[show((a.toNat:Nat):Int)=a by omega,hq]at h1;have h2:=x4d.1 (by simpa using h1:((nx.getD a.toNat []).all fun b=>X.contains b)=true) b hb;simpa using h2
 induction h with
 |gen h0 h hb=>exact key h0 hb (by rw[h];rfl)
 |go h0 _ hk hb ih=>exact key h0 hb (by rw[hk,show X.contains _=true by simpa using ih];simp)
theorem RQ{n:Nat}{steps:List (Int×Int)}{at_:List Nat}(k:Nat)(hX:((List.range at_.length).all fun f=>Cr (QR n steps).1 ((gnC n at_ at_.length).map (HL (at_.length/64+1))) ((klC n at_ at_.length).map (HL (at_.length/64+1))) f (Sf (QR n steps).1 ((gnC n at_ at_.length).map (HL (at_.length/64+1))) ((klC n at_ at_.length).map (HL (at_.length/64+1))) f k))=true):
  comC n steps at_=(List.range n).map fun(c:Nat)=>((List.range at_.length).filter fun f=>(Sf (QR n steps).1 ((gnC n at_ at_.length).map (HL (at_.length/64+1))) ((klC n at_ at_.length).map (HL (at_.length/64+1))) f k).contains (c:Int)).map Int.ofNat:=by
 unfold comC;refine List.map_congr_left fun c _=>?_;congr 1;refine List.filter_congr fun f hf=>?_;rw[x7k];exact⟨fun h=>by simpa using Sd (x4d.1 hX f hf) (@x9x _ (Classical.propDecidable _) h),fun h=>@x5g _ (Classical.propDecidable _) (NC k (by simpa using h))⟩
theorem Eb:comC 6 (UL (QQ someP 0 f0) f0) [1,2]=[[],[],[0],[1],[1],[1]]:=by
 rw[q4g,RQ 6 (by kernel_rfl)]
 kernel_rfl
theorem Ep:comC 6 (UL (QQ someP 0 f0) f0) [2]=[[],[],[],[0],[0],[0]]:=by
 rw[q4g,RQ 6 (by kernel_rfl)]
 kernel_rfl
theorem AL(G T:Nat->List Str)(plc:Nat->Int)(n:Nat)(steps:List (Int×Int))(nm:Str):outN G T plc n steps nm=Tq T plc n (atN G n nm) (comC n steps (atN G n nm)) nm:=rfl
theorem Z1{T T':Nat->List Str}{plc:Nat->Int}{at_:List Nat}{C:List (List Int)}{nm:Str}:∀{n:Nat},(∀c,c<n->T c=T' c)->Tq T plc n at_ C nm=Tq T' plc n at_ C nm
 |0,_=>rfl
 |n+1,h=>by rw[Qh,Qh,h n (x9d n),Z1 fun c hc=>h c (Nat.lt_succ_of_lt hc)]
def sT1:List (List Str):=[[],[],[vS],[vS],[Mr],[OJ,Mr]]
theorem Mv:∀a,a<6->C7 someP 0 f0 a=sT1.getD a []:=fun a ha=>by
 unfold C7;rw[<-some_book.eq];unfold q1r
 match a,ha with
 |0,_=>rfl
 |1,_=>rw[if_neg (by decide),if_neg (by decide),I4];rfl
 |2,_=>rw[if_neg (by decide),if_neg (by decide),I4];rfl
 |3,_=>rw[if_neg (by decide),if_neg (by decide),I4];rfl
 |4,_=>rw[if_neg (by decide),if_neg (by decide),I4];rfl
 |5,_=>exact Fe (by kernel_rfl)
 |a+6,h=>omega
theorem J9:prsG (WL someP 0 f0) 6=[(vS,1),(Mr,2),(vS,2)]:=by
 rw[Z5 Em]
 kernel_rfl
theorem Et:outN (WL someP 0 f0) (C7 someP 0 f0) (fun c=>QP someP 0 (6:Nat) c) 6 (UL (QQ someP 0 f0) f0) vS=[⟨1,2,vS⟩,⟨2,3,vS⟩]:=by
 have e:atN (WL someP 0 f0) 6 vS=[1,2]:=by unfold atN;rw[J9];kernel_rfl
 rw[AL,e,Eb,Z1 Mv];rfl
theorem Er:outN (WL someP 0 f0) (C7 someP 0 f0) (fun c=>QP someP 0 (6:Nat) c) 6 (UL (QQ someP 0 f0) f0) Mr=[⟨2,4,Mr⟩,⟨2,-1,Mr⟩]:=by
 have e:atN (WL someP 0 f0) 6 Mr=[2]:=by unfold atN;rw[J9];kernel_rfl
 rw[AL,e,Ep,Z1 Mv];rfl
theorem q4k{l l':List Fl}(hp:l.Perm l')(hs:l'.Pairwise fun x y=>¬ltF y x)(hok:∀s∈l,okFl s):VF l=l':=by
 rw[Mu hp hok];unfold VF;refine List.mergeSort_of_pairwise (hs.imp fun h=>?_);rw[<-DQ]at h;simpa using h
def sFl:List Fl:=[⟨1,2,vS⟩,⟨2,3,vS⟩,⟨2,4,Mr⟩,⟨2,-1,Mr⟩]
theorem Rk:XE someP 0 f0=sFl:=by
 have e6:cntL f0.body+2=6:=by kernel_rfl
 unfold XE;rw[e6,J9,show(mapG [(vS,1),(Mr,2),(vS,2)]).map Prod.fst=[vS,Mr] by kernel_rfl,x4n,x4n,List.flatMap_nil,x4b];rw[Et,Er];refine q4k (.refl _) ((show sFl.Pairwise (fun x y=>¬flC y x<0)from by decide).imp fun h=>by rw[<-DQ];exact h) fun s hs=>?_;have hs:s∈sFl:=hs;unfold sFl at hs;simp only[x2i,x9f,or_false]at hs;rcases hs with rfl|rfl|rfl|rfl<;>exact⟨by decide,by decide,by decide⟩
theorem H7:GP someP mainS=sFl:=by
 have e:JS someP mainS=0:=by kernel_rfl
 unfold GP;rw[e,if_pos ⟨Ds,by decide⟩];exact Rk
theorem En:fromR someP 3 vS=[2]:=by
 unfold fromR;rw[if_pos ⟨Ds,by decide,by rw[show(sheetOf someP).l.length=8 by kernel_rfl];decide⟩,show(Uu someP 3).2.1=mainS by kernel_rfl,H7];rfl
theorem XT:SpecP prog 10 [] (fun r=>r=.tt):=by
 have hF:=R8 someP Dc [112];rw[SR]at hF;have hO:=OU someP Dc mainS;rw[H7]at hO;have hR:=Gt someP Dc 3 vS;rw[En]at hR;have hE:=YA [2] [2];have hL0:(sFl.map Bw)[0]?=some (.agg (Fl.mk 1 2 vS).cells):=rfl;refine sB GX func10 rfl call10 ?_;conv=>whnf
 repeat' (first|((first|(refine iM fun _=>?_)|refine dA ?_|refine x2t rfl ?_|refine aD ?_|refine aR ?_|refine bP ?_|(refine iA fun _=>?_)|refine IdxK.xs (by omega) ?_|refine QX (by omega) ?_|(refine ByteK.at (by omega) ?_)|refine wI ?_|refine cP Zk ?_|refine cP hF ?_|refine cP hO ?_|refine cP hR ?_|refine cP hE ?_|(refine IdxK.at (k:=0) rfl hL0 rfl ?_));conv=>whnf)|(apply bD<;>intro _<;>first|omega|conv=>whnf)|(apply bE<;>intro _<;>first|omega|conv=>whnf)|(apply bN<;>intro _<;>conv=>whnf)|(apply bB<;>intro _<;>conv=>whnf)|(refine x2t ?_ ?_<;>conv=>whnf))
 all_goals first
  |contradiction
  |exact⟨_,.p (Lz rfl),rfl⟩
  |exact⟨_,.p (Sub.refl _),rfl⟩
theorem BC{n:Nat}{b:Nat}(ha:a<n)(hb:b<n)(h:QP p i n a=QP p i n b):a=b:=by
 unfold QP loI at h;have hpos:(0:Int)<=(QB p.procs i:Nat):=x8w _;split at h<;>split at h<;>(try split at h)<;>(try split at h)<;>omega
theorem Fb{α β:Type}{g:α->List β}:∀{l:List α},l.Nodup->(∀x∈l,(g x).Nodup)->(∀x∈l,∀y∈l,∀z,z∈g x->z∈g y->x=y)->(l.flatMap g).Nodup
 |[],_,_,_=>by simp
 | x::r,hn,h1,h2=>by
   rw[x4r]at hn;rw[x4n,x4l];refine⟨h1 x x2r,Fb hn.2 (fun y hy=>h1 y (x2c _ hy)) (fun y hy z hz=>h2 y (x2c _ hy) z (x2c _ hz)),fun a ha b hb e=>?_⟩;subst e;obtain⟨y,hy,hz⟩:=x3c.1 hb;have:=h2 x x2r y (x2c _ hy) a ha hz;subst this;exact hn.1 hy
theorem q3c{G T:Nat->List Str}{n:Nat}{steps:List (Int×Int)}(hG:∀a,(G a).Nodup)(nm:Str):(outN G T (fun c=>QP p i n c) n steps nm).Nodup:=by
 have hat:(atN G n nm).Nodup:=by rw[Pq hG];exact x9h.filter _
 unfold outN;refine Fb x9h (fun c hc=>?_) fun c hc d hd s h1 h2=>?_
 ·refine Fb ?_ (fun f _=>by split<;>simp) fun f hf g hg s h1 h2=>?_
  ·rw[x2l];cases hq:(comC n steps (atN G n nm))[c]?with
   |none=>exact x8f
   | some r=>
     have hr:=x3k hq;unfold comC at hr;obtain⟨c',_,rfl⟩:=x3q.1 hr;exact(x9h.filter _).map _ fun x y hxy he=>hxy (Int.ofNat.inj he)
  ·have hin:∀f∈(comC n steps (atN G n nm)).getD c [],0<=f/\f<(atN G n nm).length:=fun f hf=>by
    rw[x2l]at hf;cases hq:(comC n steps (atN G n nm))[c]?with
    |none=>rw[hq]at hf;cases hf
    |some r=>rw[hq]at hf;exact(LR (x3k hq)).2 f hf
   have b1:=hin f hf;have b2:=hin g hg;split at h1
   ·split at h2
    ·rw[x2a.1 h1]at h2;have h3:=x5u Fl.src (x2a.1 h2);simp only at h3;have l1:f.toNat<(atN G n nm).length:=by omega
     have l2:g.toNat<(atN G n nm).length:=by omega
     rw[x2l,x2n l1,x2l,x2n l2]at h3;have h4:=BC (Kw (x3w l1)) (Kw (x3w l2)) h3;have h5:f.toNat=g.toNat:=by
      refine x5p fun hne=>?_;rcases Nat.lt_or_gt_of_ne hne with h6|h6
      ·exact x7c.1 hat _ _ l1 l2 h6 h4
      ·exact x7c.1 hat _ _ l2 l1 h6 h4.symm
     omega
    ·first|contradiction|cases h2
   ·first|contradiction|cases h1
 ·obtain⟨f,_,h1⟩:=x3c.1 h1;obtain⟨g,_,h2⟩:=x3c.1 h2;split at h1
  ·split at h2
   ·rw[x2a.1 h1]at h2;exact BC (x4y.1 hc) (x4y.1 hd) (x5u Fl.dst (x2a.1 h2))
   ·first|contradiction|cases h2
  ·first|contradiction|cases h1
theorem Kl{s:Fl}(h:s∈XE p k f):∃nm c a,c<cntL f.body+2/\a<cntL f.body+2/\nm∈WL p k f a/\s=⟨QP p k (cntL f.body+2:Nat) a,QP p k (cntL f.body+2:Nat) c,nm⟩/\nm∈C7 p k f c:=by
 unfold XE VF at h;have h:=(x7y _ _).mem_iff.1 h;obtain⟨nm,_,h⟩:=x3c.1 h;unfold outN at h;obtain⟨c,hc,h⟩:=x3c.1 h;obtain⟨x,hx,h⟩:=x3c.1 h;have hin:0<=x/\x<(atN (WL p k f) (cntL f.body+2) nm).length:=by
  rw[x2l]at hx;cases hq:(comC (cntL f.body+2) (UL (QQ p k f) f) (atN (WL p k f) (cntL f.body+2) nm))[c]?with
  |none=>rw[hq]at hx;cases hx
  |some r=>rw[hq]at hx;exact(LR (x3k hq)).2 x hx
 split at h
 ·rename_i ht;have l1:x.toNat<(atN (WL p k f) (cntL f.body+2) nm).length:=by omega
  rw[x2a.1 h,x2l,x2n l1];have hm:=x3w l1;refine⟨nm,c,_,x4y.1 hc,Kw hm,?_,rfl,WP.1 ht⟩;unfold atN at hm;obtain⟨y,hy,he⟩:=x3q.1 hm;have h5:=x4w.1 hy;obtain⟨y1,y2⟩:=y;have h6:y1=nm:=by simpa using h5.2
  have h7:=(AA h5.1).2;subst h6;simp only at he;rw[he]at h7;exact h7
 ·cases h
theorem Kt{s:Fl}(h:s∈XE p k f):0<=s.src:=by
 obtain⟨nm,c,a,_,ha,hg,rfl,_⟩:=Kl h;show 0<=QP p k (cntL f.body+2:Nat) a;unfold QP loI;split
 ·omega
 split
 ·rename_i h0 h1;have:a=cntL f.body+1:=by omega
  subst this;unfold WL RF at hg;rw[if_neg (by omega),if_pos rfl]at hg;cases hg
 ·omega
theorem CB(hc:QE p=true)(hG:∀a,(WL p k f a).Nodup):(XE p k f).Nodup:=by
 unfold XE VF;refine(x7y _ _).nodup_iff.2 (Fb (Ar _) (fun nm _=>q3c hG nm) fun a _ b _ s h1 h2=>?_);have key:∀nm,s∈outN (WL p k f) (C7 p k f) (fun c=>QP p k (cntL f.body+2:Nat) c) (cntL f.body+2) (UL (QQ p k f) f) nm->s.var=nm:=fun nm h=>by
  unfold outN at h;obtain⟨c,_,h⟩:=x3c.1 h;obtain⟨x,_,h⟩:=x3c.1 h;split at h
  ·rw[x2a.1 h]
  ·cases h
 rw[<-key a h1,key b h2]
theorem ST(m:List Fl):(VF m).Pairwise fun x y=>¬ltF y x:=by
 unfold VF;refine(x8m ?_ ?_ m).imp fun h=>?_
 ·intro a b c h1 h2;simp only[x5l,x5k]at h1 h2⊢;rw[DQ]at h1 h2⊢;exact ltF.neg h2 h1
 ·intro a b;simp only[x6p,x5l,x5k];rw[DQ,DQ];by_cases h1:ltF b a
  ·exact .inr fun h2=>ltF.irr a (ltF.trans a b a h2 h1)
  ·exact .inl h1
 ·rw[<-DQ];simpa using h
theorem CR(hc:QE p=true)(hG:∀a,(WL p k f a).Nodup)(id:Int)(nm:Str):(DV id nm (XE p k f)).Pairwise (· < ·):=by
 have h1:(XE p k f).Pairwise fun x y=>¬ltF y x:=by unfold XE;exact ST _
 have h2:=CB hc hG;have h3:(XE p k f).Pairwise fun x y=>¬ltF y x/\x≠y:=List.pairwise_and_iff.2 ⟨h1,h2⟩;unfold DV;rw[List.pairwise_map];refine(List.Pairwise.and_mem.1 (h3.filter _)).imp fun {x y} ⟨hx,hy,h4,h5⟩=>?_;obtain⟨x1,x2⟩:=x4w.1 hx;obtain⟨y1,y2⟩:=x4w.1 hy;simp only[x3h,x3i,x6d]at x2 y2;have sx:=Kt x1;have sy:=Kt y1;have rk:∀z:Int,0<=z->QT z=z:=fun z hz=>by unfold QT;rw[if_neg (by omega)]
 refine x5p fun hn=>?_;rcases Int.lt_trichotomy y.src x.src with h6|h6|h6
 ·exact h4 (.inl (by rw[rk _ sy,rk _ sx];exact h6))
 ·apply h5;obtain⟨a1,a2,a3⟩:=x;obtain⟨b1,b2,b3⟩:=y;simp only at x2 y2 h6;rw[h6,x2.1,x2.2,y2.1,y2.2]
 ·exact hn h6
section
variable {F:List (List Str)->List (List Str)}{n:Nat}{L O:List (List Str)}
end
section
variable {p:Pg}
end
section
variable {p:Pg}{j:Nat}{f:Pr}
end
theorem q0s(hc:QE p=true)(i:Nat)(f:Pr)(a:Nat):(WL p i f a).Nodup:=by
 refine UT (N5 (fun d hd=>?_) a);rw[(UD hc).defs]at hd;obtain⟨it,_,rfl⟩:=x3q.1 hd;exact ZB _
theorem Ph(hc:QE p=true)(hk:p.procs[k]?=some f)(h0:a≠0)(h1:a<cntL f.body+1):
  QP p k (cntL f.body+2:Nat) a=(QB p.procs k+a:Nat)/\defsN p (QB p.procs k+a:Nat)=(QH p).defs.getD (QB p.procs k+a-1) []/\usesN p (QB p.procs k+a:Nat)=(QH p).uses.getD (QB p.procs k+a-1) []:=by
 obtain⟨_,_,_,hlen,hs⟩:=QJ p;obtain⟨_,_,hle,_⟩:=hs _ _ hk;have h3:((QB p.procs k+a:Nat):Int)-1=(QB p.procs k+a-1:Nat):=by omega
 refine⟨?_,?_,?_⟩
 ·unfold QP loI;rw[if_neg (by omega),if_neg (by omega)];omega
 ·unfold defsN;rw[if_pos ⟨hc,by omega,by omega⟩,h3];rfl
 ·unfold usesN;rw[if_pos ⟨hc,by omega,by omega⟩,h3];rfl
theorem q0t(hc:QE p=true)(hk:p.procs[k]?=some f)(ha:a<cntL f.body+2)(h:nm∈WL p k f a):
  (a=0/\nm∈q6p p f.name++f.params.map Param.name)\/(a≠0/\a<cntL f.body+1/\(QQ p k f).live.getD a false=true/\nm∈defsN p (QB p.procs k+a:Nat)):=by
 unfold WL RF at h;split at h
 ·rename_i h0;refine .inl ⟨h0,?_⟩;rw[(AR hc hk).2.2];exact XO.1 h
 ·rename_i h0;split at h
  ·cases h
  ·rename_i h1;cases hl:(QQ p k f).live.getD a false with
   |false=>rw[hl]at h;cases h
   | true=>
     rw[hl]at h;exact .inr ⟨h0,by omega,rfl,by rw[(Ph hc hk h0 (by omega)).2.1];exact h⟩
theorem II(l:List (Str×Nat)){k:Str}(h:(k,a)∈l):k∈(mapG l).map Prod.fst:=by
 have key:∀l:List (Str×Nat),(k,a)∈l->k∈(mapG l.reverse).map Prod.fst:=fun l=>by
  induction l with
  |nil=>intro h;cases h
  | cons x r ih=>
    intro h;rw[x9q,GL];unfold Dj;rw[Qa];rcases x2i.1 h with h|h
    ·subst h;split
     ·assumption
     ·exact x4f _ (x2a.2 rfl)
    ·have:=ih h;split
     ·exact this
     ·exact x4h _ this
 have:=key l.reverse (List.mem_reverse.2 h)
 rwa[x8h]at this
section
variable {n:Nat}{at_:List Nat}
theorem q0a(hnd:at_.Nodup)(hlt:∀a∈at_,a<n):∀k,k<=at_.length->∀(a:Nat)(g:Nat),(g:Int)∈(gnC n at_ k).getD a []↔g<k/\at_[g]?=some a
 | 0,_,a,g=>by
   rw[gnC];constructor
   ·intro h;rw[x2l,x3o]at h;split at h<;>cases h
   ·intro h;exact absurd h.1 (by omega)
 | k+1,hk,a,g=>by
   have hkl:k<at_.length:=by omega
   have e:at_.getD k 0=at_[k]:=by rw[x2l,x2n hkl];rfl
   rw[gnC,e,ZG (by rw[DK];exact hlt _ (x3w hkl))];split
   ·rename_i h;rw[x2a];constructor
    ·intro h1;obtain rfl:g=k:=by omega
     exact⟨by omega,by rw[x2n hkl,h]⟩
    ·rintro⟨h1,h2⟩;obtain⟨h3,h4⟩:=x2o.1 h2;have:g=k:=(List.getElem_inj hnd).1 (h4.trans h.symm);omega
   ·rename_i h;rw[q0a hnd hlt k (by omega) a g];refine⟨fun⟨h1,h2⟩=>⟨by omega,h2⟩,fun⟨h1,h2⟩=>⟨?_,h2⟩⟩;refine Nat.lt_of_le_of_ne (by omega) fun e2=>h ?_;subst e2;rw[x2n hkl]at h2;exact x5j h2
theorem Iv{m g:Nat}:(g:Int)∈LD m↔g<m:=by
 unfold LD;rw[x3q];constructor
 ·rintro⟨x,hx,he⟩;have:=x4y.1 hx;have:(x:Int)=g:=he;omega
 ·exact fun h=>⟨g,x4y.2 h,rfl⟩
theorem q1v(hlt:∀a∈at_,a<n){g:Nat}(hg:g<at_.length):∀k,k<=at_.length->∀a:Nat,(g:Int)∈(klC n at_ k).getD a []↔a∈at_.take k
 | 0,_,a=>by
   rw[klC];constructor
   ·intro h;rw[x2l,x3o]at h;split at h<;>cases h
   ·intro h;simp at h
 | k+1,hk,a=>by
   have hkl:k<at_.length:=by omega
   have e:at_.getD k 0=at_[k]:=by rw[x2l,x2n hkl];rfl
   rw[klC,e,ZG (by rw[DP];exact hlt _ (x3w hkl)),x3u hkl,x3x,x2a];split
   ·rename_i h;exact⟨fun _=>.inr h.symm,fun _=>Iv.2 hg⟩
   ·rename_i h;rw[q1v hlt hg k (by omega) a];exact⟨.inl,fun h1=>h1.resolve_right fun e2=>h e2.symm⟩
def EO(n:Nat)(steps:List (Int×Int))(at_:List Nat)(f:Nat)(c:Int):Prop:=SolP (QR n steps).1 ((gnC n at_ at_.length).map (HL (at_.length/64+1))) ((klC n at_ at_.length).map (HL (at_.length/64+1))) f c
theorem E4{l:List (List Int)}{m:Nat}(hok:∀r∈l,r.length<=5000/\∀f∈r,0<=f/\f<(m:Nat)){f:Nat}:bitW ((l.map (HL (m/64+1))).getD a []) f=decide ((f:Int)∈l.getD a []):=by
 rw[x2l,x2e,x2l];cases hq:l[a]?with
 |none=>simp[bitW]
 | some r=>
   refine Il (fun g hg=>?_) f;have h2:=(hok r (x3k hq)).2 g hg;exact⟨h2.1,Nat.lt_succ_of_le (Nat.div_le_div_right (by omega))⟩
open Classical in
theorem RX{steps:List (Int×Int)}{f c:Nat}(hc:c<n):(f:Int)∈(comC n steps at_).getD c []↔f<at_.length/\EO n steps at_ f c:=by
 have e:(comC n steps at_)[c]?=some ((comC n steps at_)[c]'(by rw[Fu];exact hc)):=x2n _;rw[x2l,e,x5q];unfold comC;rw[x5t,x8t,x3q];constructor
 ·rintro⟨x,hx,he⟩;obtain⟨h1,h2⟩:=x4w.1 hx;obtain rfl:x=f:=by have:(x:Int)=f:=he;omega
  exact⟨x4y.1 h1,x9x h2⟩
 ·exact fun⟨h1,h2⟩=>⟨f,x4w.2 ⟨x4y.2 h1,x5g h2⟩,rfl⟩
variable {steps:List (Int×Int)}(hnd:at_.Nodup)(hlt : ∀ a∈at_,a<n)(hm:at_.length<=5000)
include hnd hlt hm
theorem q0c{f:Nat}:bitW (((gnC n at_ at_.length).map (HL (at_.length/64+1))).getD a []) f=true↔at_[f]?=some a:=by
 rw[E4 (IG n at_ hm _ (x3g _)),x8y,q0a hnd hlt _ (x3g _)];exact⟨fun h=>h.2,fun h=>⟨(x2o.1 h).1,h⟩⟩
omit hnd in
theorem q1w{a f:Nat}(hf:f<at_.length):bitW (((klC n at_ at_.length).map (HL (at_.length/64+1))).getD a []) f=true↔a∈at_:=by
 rw[E4 (O2 n at_ hm _),x8y,q1v hlt hf _ (x3g _),x8x]
theorem q2p{f:Nat}(hf:at_[f]?=some a)(hs:((a:Int),c)∈steps)(hc:0<=c/\c<n):EO n steps at_ f c:=by
 have ha:=hlt a (x3k hf);refine .gen (a:=a) (by omega) ((q0c hnd hlt hm).2 hf) ?_;have:=(GN (n:=n) (l:=steps) (x:=a) (y:=c)).2 ⟨hs,DF (by omega),DF hc⟩;exact this.2
omit hnd in
theorem q5t{f:Nat}(hf:f<at_.length){a c:Int}(h:EO n steps at_ f a)(ha:0<=a/\a<n)(hn:a.toNat∉at_)(hs:(a,c)∈steps)(hc:0<=c/\c<n):EO n steps at_ f c:=by
 refine .go (a:=a) ha.1 h ?_ ((GN (n:=n) (l:=steps) (x:=a) (y:=c)).2 ⟨hs,DF ha,DF hc⟩).2;rw[x8j];exact fun h2=>hn ((q1w hlt hm hf).1 h2)
theorem q2n{f:Nat}(hf:f<at_.length)(h:EO n steps at_ f c):(0<=c/\c<n)/\∃a:Nat,a<n/\((a:Int),c)∈steps/\(at_[f]?=some a\/(a∉at_/\EO n steps at_ f a)):=by
 cases h with
 | @gen a b h0 h1 h2=>
   obtain⟨h3,h4,h5⟩:=(GN (n:=n) (l:=steps) (x:=a) (y:=c)).1 ⟨h0,h2⟩;unfold ZF at h4 h5;simp only[x3h,x3i]at h4 h5;exact⟨h5,a.toNat,by omega,by rw[x6f h0];exact h3,.inl ((q0c hnd hlt hm).1 h1)⟩
 | @go a b h0 h1 hk h2=>
   obtain⟨h3,h4,h5⟩:=(GN (n:=n) (l:=steps) (x:=a) (y:=c)).1 ⟨h0,h2⟩;unfold ZF at h4 h5;simp only[x3h,x3i]at h4 h5;refine⟨h5,a.toNat,by omega,by rw[x6f h0];exact h3,.inr ⟨fun h6=>?_,by rw[x6f h0];exact h1⟩⟩;have:=(q1w hlt hm hf).2 h6;rw[hk]at this;cases this
end
section
variable {p:Pg}{k:Nat}{f:Pr}(hc:QE p=true)(hk:p.procs[k]? = some f)
include hc hk
theorem q2u(nm:Str):(atN (WL p k f) (cntL f.body+2) nm).Nodup/\(∀a∈atN (WL p k f) (cntL f.body+2) nm,a<cntL f.body+2)/\(atN (WL p k f) (cntL f.body+2) nm).length<=5000/\∀a,a∈atN (WL p k f) (cntL f.body+2) nm↔a<cntL f.body+2/\nm∈WL p k f a:=by
 have hG:=q0s hc k f;have hcn:=(XJ hc).2.2;have hcf:=KU _ _ (x3k hk);rw[Pq hG];refine⟨x9h.filter _,fun a ha=>x4y.1 (x4w.1 ha).1,x4k (x5y _ _) (by rw[x5a];omega),fun a=>?_⟩;rw[x4w,x4y,x8y]
theorem RY{c:Nat}(ha:a<cntL f.body+2)(hcn:c<cntL f.body+2):(⟨QP p k (cntL f.body+2:Nat) a,QP p k (cntL f.body+2:Nat) c,nm⟩:Fl)∈XE p k f ↔
  nm∈C7 p k f c/\∃g,(atN (WL p k f) (cntL f.body+2) nm)[g]?=some a/\EO (cntL f.body+2) (UL (QQ p k f) f) (atN (WL p k f) (cntL f.body+2) nm) g c:=by
 obtain⟨_,hlt,_,hmem⟩:=q2u hc hk nm;unfold XE VF;rw[(x7y _ _).mem_iff,x3c];constructor
 ·rintro⟨k',_,h⟩;unfold outN at h;obtain⟨c',hc',h⟩:=x3c.1 h;obtain⟨x,hx,h⟩:=x3c.1 h;have hc':=x4y.1 hc';split at h
  ·rename_i ht;have h:=x2a.1 h;obtain rfl:nm=k':=x5u Fl.var h;have e2:QP p k (cntL f.body+2:Nat) c=QP p k (cntL f.body+2:Nat) c':=x5u Fl.dst h;obtain rfl:=BC hcn hc' e2;have hrow:((comC (cntL f.body+2) (UL (QQ p k f) f) (atN (WL p k f) (cntL f.body+2) nm)).getD c [])∈comC (cntL f.body+2) (UL (QQ p k f) f) (atN (WL p k f) (cntL f.body+2) nm):=by
    rw[x2l,x2n (by rw[Fu];exact hcn)];exact x3w _
   have hb:=(LR hrow).2 x hx;obtain⟨g,rfl⟩:=Int.eq_ofNat_of_zero_le hb.1;have hgl:g<(atN (WL p k f) (cntL f.body+2) nm).length:=by omega
   have hcs:=((RX hcn).1 hx).2;have e1:QP p k (cntL f.body+2:Nat) a=_:=x5u Fl.src h;have e3:(atN (WL p k f) (cntL f.body+2) nm).getD ((g:Nat):Int).toNat 0=(atN (WL p k f) (cntL f.body+2) nm)[g]:=by
    rw[x5c,x2l,x2n hgl];rfl
   rw[e3]at e1;refine⟨WP.1 ht,g,?_,hcs⟩;rw[x2n hgl,BC ha (hlt _ (x3w hgl)) e1]
  ·cases h
 ·rintro⟨ht,g,hg,hcs⟩;obtain⟨hgl,hge⟩:=x2o.1 hg;refine⟨nm,?_,?_⟩
  ·have:=(hmem a).1 (x3k hg);refine II _ (a:=a) ?_;unfold prsG;exact x3c.2 ⟨a,x4y.2 ha,x3q.2 ⟨nm,this.2,rfl⟩⟩
  ·unfold outN;refine x3c.2 ⟨c,x4y.2 hcn,x3c.2 ⟨(g:Nat),(RX hcn).2 ⟨hgl,hcs⟩,?_⟩⟩;rw[if_pos (WP.2 ht),x5c,x2l,hg];exact x2a.2 rfl
end
section
variable {p:Pg}{k:Nat}{f:Pr}(hc:QE p=true)(hk:p.procs[k]? = some f)
include hc hk
theorem Ll{t:S}(ht:t∈flL f.body):plP p k f t.id/\t.id=(QB p.procs k+(ixI p k f t.id).toNat:Nat)/\(ixI p k f t.id).toNat≠0/\(ixI p k f t.id).toNat<cntL f.body+1:=by
 have hb:=ZI (QK hc).1 hk ht;have hp:plP p k f t.id:=.inr (.inr hb);have hr:=WQ hp;have he:=HP hp;unfold QP loI at he;split at he
 ·omega
 split at he
 ·omega
 ·exact⟨hp,by omega,by omega,by omega⟩
theorem A1{t:S}(ht:t∈flL f.body)(hl:Rch (wR p k f) 0 t.id)(h:nm∈defsN p t.id):nm∈WL p k f (ixI p k f t.id).toNat:=by
 obtain⟨hp,h1,h2,h3⟩:=Ll hc hk ht;rw[h1,(Ph hc hk h2 h3).2.1]at h;unfold WL RF;rw[if_neg h2,if_neg (by omega),(T1 hc hk hp).2 hl];exact h
theorem q4b{t:S}(ht:t∈flL f.body)(hl:Rch (wR p k f) 0 t.id)(h:nm∈usesN p t.id):nm∈C7 p k f (ixI p k f t.id).toNat:=by
 obtain⟨hp,h1,h2,h3⟩:=Ll hc hk ht;rw[h1,(Ph hc hk h2 h3).2.2]at h;unfold C7 q1r;rw[if_neg (by omega),if_neg h2,(T1 hc hk hp).2 hl];exact h
theorem Ly{t:S}(ht:t∈flL f.body):defsN p t.id=FD (dfB p (QH p).outs) t.id/\usesN p t.id=FD (usB p (QH p).ins) t.id:=by
 obtain⟨_,h1,h2,h3⟩:=Ll hc hk ht;generalize(ixI p k f t.id).toNat=m at*
 have e:(t.id-1).toNat=QB p.procs k+m-1:=by omega
 refine⟨?_,?_⟩
 ·rw[<-(UD hc).defs];unfold FD;rw[e,h1,(Ph hc hk h2 h3).2.1]
 ·rw[<-(UD hc).uses];unfold FD;rw[e,h1,(Ph hc hk h2 h3).2.2]
omit hc hk in
theorem CW:ixI p k f (-1)=(cntL f.body+1:Nat):=by
 have hr:=WQ (p:=p) (j:=k) (f:=f) (x := -1) (.inr (.inl rfl));have he:=HP (p:=p) (j:=k) (f:=f) (x := -1) (.inr (.inl rfl));unfold QP loI at he;split at he
 ·omega
 split at he
 ·omega
 ·omega
omit hc hk in
theorem V6:ixI p k f 0=0:=by
 have hr:=WQ (p:=p) (j:=k) (f:=f) (x:=0) (.inl rfl);have he:=HP (p:=p) (j:=k) (f:=f) (x:=0) (.inl rfl);unfold QP loI at he;split at he
 ·assumption
 split at he
 ·omega
 ·omega
theorem q0g{t:S}(ht:t∈flL f.body)(h:v∈usesN p t.id)(h4:JQ p f v≠4):comB p v=true\/v∈f.params.map Param.name:=by
 have hfm:=x3k hk;have hn:v∈ZK t->comB p v=true\/v∈f.params.map Param.name:=fun hn=>by
  have hkn:=JI (QK hc).2.1 hfm ht;unfold knownB at hkn;rw[x3h]at hkn;have h1:=x4d.1 hkn.1 v hn;rcases RO (by simpa using h1)with h2|h2
  ·exact .inl (BF.2 (.inr h2))
  ·rcases x3x.1 h2 with h3|h3
   ·exact .inr h3
   ·exfalso;refine h4 ?_;have hnd:=(((Qp (QK hc).1).1 (QK hc).2.1).2 f hfm).nd;unfold allV at hnd;rw[x4l]at hnd;have h5:(f.params.map Param.name++f.vars).Nodup:=hnd.2.1;rw[x4l]at h5;unfold JQ;cases hq:f.params.find? (fun a=>a.name==v)with
    | some a=>
      exfalso;exact h5.2.2 a.name (x6m (x5n hq)) v h3 (by simpa using x6n hq)
    | none=>
      have:f.vars.any (fun s=>v==s)=true:=x4o.2 ⟨v,h3,x6u v⟩;simp only[this];rfl
 rw[(Ly hc hk ht).2,x0t hc hk ht,XO]at h;have hH:v∈TU t->comB p v=true\/v∈f.params.map Param.name:=fun h=>by
  unfold TU at h;rcases x3x.1 h with h|h
  ·refine hn ?_;unfold ZK FW;exact x4h _ (x4f _ h)
  ·split at h
   ·exact .inl (BF.2 (.inl (x2a.1 h)))
   ·cases h
 unfold MG at h;split at h
 ·rcases x3x.1 h with h|h
  ·rcases x3x.1 h with h|h
   ·exact hH h
   ·obtain⟨a,ha,h⟩:=x3c.1 h;exact hn (Ib ha h)
  ·rw[q3x]at h;exact .inl ((Fz hc).2.sub _ _ h)
 ·exact hH h
theorem q7t{a b:Int}(h:wR p k f a b):dR p k f a b:=(RZ hc hk).2 (.inl h)
end
theorem q5a(hf:Fit p)(hc:QE p=true):CopyF p:=by
 obtain⟨h1,h2,h3⟩:=q4d hf hc;have hcn:=(XJ hc).2.2;refine⟨h1,h2,fun f hf'=>?_⟩;obtain⟨a1,a2,a3,_,a5⟩:=h3 f hf';have a4:=KU _ _ hf';obtain⟨j,hj,hje⟩:=x4t.1 hf';have hj':p.procs[j]?=some f:=by rw[x2n hj,hje]
 exact⟨a1,a2,a3,by omega,fun t ht=>⟨a5 t ht,by have:=(ZI (QK hc).1 hj' ht).1;omega⟩⟩
theorem Cd{l:Str}:(atB f l).2=true↔l∈D3 f:=by
 unfold atB D3;rw[x3x,x3c];cases h:(flL f.body).find? fun t=>t.labels.any fun s=>l==s with
 | some t=>
   refine⟨fun _=>.inl ⟨t,x5n h,?_⟩,fun _=>rfl⟩;exact MQ.1 (x6n (p:=fun t:S=>t.labels.any fun s=>l==s) h)
 | none=>
   have hno:¬∃t,t∈flL f.body/\l∈t.labels:=fun⟨t,h1,h2⟩=>by
    have:=x6q.1 h t h1;exact this (MQ.2 h2)
   simp only[hno,false_or];cases hc:f.fin.any fun s=>l==s with
   |true=>exact⟨fun _=>MQ.1 hc,fun _=>rfl⟩
   | false=>
     refine⟨fun h=>(by cases h),fun h=>?_⟩;rw[MQ.2 h]at hc;cases hc
section
variable {p:Pg}{k:Nat}{f:Pr}
end
section
variable {P:Program}{T:Tab}{N:Nat}{o:Oper}{s:St}
end
section
variable {p:Pg}
end
section
variable {p:Pg}(hc:QE p=true)
include hc
end
def eR(p:Pg)(k:Nat)(g:Pr):Int->Int->Prop:=stR ((QQ p k g).real.filter (q6m p (q8b p)))
section
variable {p:Pg}(hc:QE p=true)
include hc
end
def MW(R:Int->Int->Prop):Int->List Int->Prop
 |_,[]=>True
 |a,b::r=>R a b/\MW R b r
def D4(a:Int)(l:List Int):Int:=l.getLast?.getD a
theorem Sm(a b:Int)(l:List Int):D4 a (l++[b])=b:=by
 unfold D4;rw[List.getLast?_concat];rfl
theorem Gv(a c:Int)(r:List Int):D4 a (c::r)=D4 c r:=by
 unfold D4;rw[List.getLast?_cons];rfl
theorem Gn{R:Int->Int->Prop}{b:Int}:∀(l:List Int)(a:Int),MW R a (l++[b])↔MW R a l/\R (D4 a l) b
 | [],a=>by
   show(R a b/\True)↔(True/\R a b);exact And.comm
 | c::r,a=>by
   rw[List.cons_append,MW,MW,Gn r c,Gv,and_assoc]
theorem Ys{R:Int->Int->Prop}{m:List Int}:∀(l:List Int)(a:Int),MW R a (l++m)->MW R a l
 |[],_,_=>trivial
 |c::r,a,h=>⟨h.1,Ys r c h.2⟩
theorem Dv{R:Int->Int->Prop}{a:Int}(h:MW R a l)(hj:j<l.length):R (D4 a (l.take j)) l[j]:=by
 rw[<-x7s (j+1) l]at h;have h:=Ys _ _ h;rw[x3u hj]at h;exact((Gn _ _).1 h).2
theorem x2b(hc:QE p=true){g:Pr}(hk:p.procs[k]?=some g){it:Item}(hi:it∈itsOf p k g){b:Int}(hb:b∈YD (sheetOf p) g it):wR p k g it.s.id b:=
 ⟨⟨it.s.id,b,1⟩,((JC hc hk).2 _).2 (q7w hi hb),rfl,rfl⟩
section
variable {q:Pg}(hc:QE q=true){g:Pr}(hp:q.procs=[g])(hno : ∀ u∈flL g.body,u.kind≠4)
include hc hp hno
end
theorem MH(p:Pg)(hf:Fit p)(most:Int):SpecP prog 19 [.agg p.cells,.int .i64 most] (fun r=>r=.bool (Mx p most)):=by
 refine sB FS func19 rfl call19 ?_;conv=>whnf
 have hC:=Pv p hf;unfold Mx;cases hc:QE p with
 | false=>
   rw[hc]at hC;repeat' (first|((first|(refine iM fun _=>?_)|refine dA ?_|refine x2t rfl ?_|refine aD ?_|refine aR ?_|refine bP ?_|(refine iA fun _=>?_)|refine IdxK.xs (by omega) ?_|refine QX (by omega) ?_|(refine ByteK.at (by omega) ?_)|refine wI ?_|refine cP hC ?_);conv=>whnf)|(apply bD<;>intro _<;>first|omega|conv=>whnf)|(apply bE<;>intro _<;>first|omega|conv=>whnf)|(apply bN<;>intro _<;>conv=>whnf)|(apply bB<;>intro _<;>conv=>whnf))
   all_goals first
    |contradiction
    |exact RetK.ff rfl
 | true=>
   rw[hc]at hC;have hcn:=(XJ hc).2.2;have hT:=C0 p (by omega);repeat' (first|((first|(refine iM fun _=>?_)|refine dA ?_|refine x2t rfl ?_|refine aD ?_|refine aR ?_|refine bP ?_|(refine iA fun _=>?_)|refine IdxK.xs (by omega) ?_|refine QX (by omega) ?_|(refine ByteK.at (by omega) ?_)|refine wI ?_|refine cP hC ?_|refine cP hT ?_);conv=>whnf)|(apply bD<;>intro _<;>first|omega|conv=>whnf)|(apply bE<;>intro _<;>first|omega|conv=>whnf)|(apply bN<;>intro _<;>conv=>whnf)|(apply bB<;>intro _<;>conv=>whnf))
   all_goals first
    |contradiction
    |exact RetK.bool rfl
def kindO(p:Pg)(n v:Str):Int:=bif YL p then(match p.procs.find? fun f=>f.name==n with|some f=>JQ p f v|none=>0)else 0
theorem SF(p:Pg)(n v:Str):SpecP prog 26 [.agg p.cells,.str n,.str v] (fun r=>r=.int .i64 (kindO p n v)):=by
 refine sB Bm func26 rfl call26 ?_;conv=>whnf
 have hM:=Do p;have hpl:(p.procs.map fun f=>AV.agg f.cells).length=p.procs.length:=x2m _;unfold kindO;cases hm:YL p with
 | false=>
   rw[hm]at hM;repeat' (first|((first|(refine iM fun _=>?_)|refine dA ?_|refine x2t rfl ?_|refine aD ?_|refine aR ?_|refine bP ?_|(refine iA fun _=>?_)|refine IdxK.xs (by omega) ?_|refine QX (by omega) ?_|(refine ByteK.at (by omega) ?_)|refine wI ?_|refine cP hM ?_);conv=>whnf)|(apply bD<;>intro _<;>first|omega|conv=>whnf)|(apply bE<;>intro _<;>first|omega|conv=>whnf)|(apply bN<;>intro _<;>conv=>whnf)|(apply bB<;>intro _<;>conv=>whnf))
   all_goals first
    |contradiction
    |exact RetK.int rfl
 | true =>
   rw[hm]at hM;repeat' (first|((first|(refine iM fun _=>?_)|refine dA ?_|refine x2t rfl ?_|refine aD ?_|refine aR ?_|refine bP ?_|(refine iA fun _=>?_)|refine IdxK.xs (by omega) ?_|refine QX (by omega) ?_|(refine ByteK.at (by omega) ?_)|refine wI ?_|refine cP hM ?_);conv=>whnf)|(apply bD<;>intro _<;>first|omega|conv=>whnf)|(apply bE<;>intro _<;>first|omega|conv=>whnf)|(apply bN<;>intro _<;>conv=>whnf)|(apply bB<;>intro _<;>conv=>whnf))
   all_goals try contradiction
   refine LoopK.inv QY (fun j:Nat=>⟨[(1,.p (.str n)),(2,.p (.str v)),(3,.p (.ip p.cells)),(13,.p (.sl (p.procs.map fun f=>.agg f.cells))),(14,.p (.int .i64 (p.procs.map fun f=>AV.agg f.cells).length)),(15,.p (.int .i64 j))],[]⟩) (fun j=>j<=p.procs.length/\(p.procs.drop j).find? (fun f=>f.name==n)=p.procs.find? fun f=>f.name==n) (fun j=>p.procs.length-j) 0 (Le.of_eq rfl) ⟨x3z _,rfl⟩ ?_;rintro j ⟨h2,h3⟩;rcases x3v j p.procs.length with hj|hj
   ·rw [QF hj,x7m]at h3;have hK:=H3 p p.procs[j] v;conv=>whnf
    repeat' (first|((first|(refine iM fun _=>?_)|refine dA ?_|refine x2t rfl ?_|refine aD ?_|refine aR ?_|refine bP ?_|(refine iA fun _=>?_)|refine IdxK.xs (by omega) ?_|refine QX (by omega) ?_|(refine ByteK.at (by omega) ?_)|refine wI ?_|refine cP hK ?_);conv=>whnf)|(apply bD<;>intro _<;>first|omega|conv=>whnf)|(apply bE<;>intro _<;>first|omega|conv=>whnf)|(apply bN<;>intro _<;>conv=>whnf)|(apply bB<;>intro _<;>conv=>whnf))
    all_goals first
     | (have hn:(p.procs[j].name==n)=true:=by assumption
        rw[hn]at h3;exact RetK.int (by rw[<-h3];rfl))
     | (have hn:(p.procs[j].name==n)=false:=by assumption
        rw[hn]at h3;exact⟨j+1,⟨hj,h3⟩,by omega,Le.of_eq rfl⟩)
   ·rw[x3b hj,List.find?_nil]at h3;conv=>whnf
    repeat' (first|((first|(refine iM fun _=>?_)|refine dA ?_|refine x2t rfl ?_|refine aD ?_|refine aR ?_|refine bP ?_|(refine iA fun _=>?_)|refine IdxK.xs (by omega) ?_|refine QX (by omega) ?_|(refine ByteK.at (by omega) ?_)|refine wI ?_);conv=>whnf)|(apply bD<;>intro _<;>first|omega|conv=>whnf)|(apply bE<;>intro _<;>first|omega|conv=>whnf)|(apply bN<;>intro _<;>conv=>whnf)|(apply bB<;>intro _<;>conv=>whnf))
    all_goals first
     |contradiction
     |exact RetK.int (by rw[<-h3];rfl)
instance:DecidableEq Fl:=fun a b=>decidable_of_iff (a.src=b.src/\a.dst=b.dst/\a.var=b.var) (by cases a;cases b;simp)
def Nh(D:Int->List Str)(v:Str)(l:List Int):Int:=l.foldl (fun a f=>bif inS (D f) v then f else a) 0
theorem Gu(D:Int->List Str)(v:Str)(l:List Int)(f:Int):Nh D v (l++[f])=bif inS (D f) v then f else Nh D v l:=by
 unfold Nh;rw[x7n];rfl
def q8s(l:List Fl)(a c:Int)(v:Str):Bool:=l.any fun s=>decide (s.src=a)&&(decide (s.dst=c)&&(s.var==v))
section
variable {p:Pg}{k:Nat}{f:Pr}(hc:QE p=true)(hk:p.procs[k]? = some f)
include hc hk
def GoV(p:Pg)(k:Nat)(f:Pr)(v:Str)(a x:Int):Prop:=
 (v∈WL p k f (ixI p k f a).toNat/\plP p k f a/\(a=x\/(v∉WL p k f (ixI p k f x).toNat/\∃g,(atN (WL p k f) (cntL f.body+2) v)[g]?=some (ixI p k f a).toNat/\EO (cntL f.body+2) (UL (QQ p k f) f) (atN (WL p k f) (cntL f.body+2) v) g (ixI p k f x))))\/
 (a=0/\v∉WL p k f 0/\Rch (nR p k f (dfB p (QH p).outs) v) 0 (ixI p k f x)/\GT p k f (dfB p (QH p).outs) v (ixI p k f x)=true)
omit hc hk in
theorem IH(v:Str):GoV p k f v 0 0:=by
 by_cases h:v∈WL p k f 0
 ·exact .inl ⟨by rw[V6];exact h,.inl rfl,.inl rfl⟩
 ·refine .inr ⟨rfl,h,by rw[V6];exact .refl,?_⟩;rw[V6];unfold GT;rw[show decide ((0:Int)=((cntL f.body+2:Nat):Int)-1)=false from x4i (by omega)];rfl
theorem q0i{a x y:Int}(h:GoV p k f v a x)(hw:wR p k f x y):(v∈WL p k f (ixI p k f a).toNat/\plP p k f a/\∃g,(atN (WL p k f) (cntL f.body+2) v)[g]?=some (ixI p k f a).toNat/\EO (cntL f.body+2) (UL (QQ p k f) f) (atN (WL p k f) (cntL f.body+2) v) g (ixI p k f y))\/
  (a=0/\v∉WL p k f 0/\Rch (nR p k f (dfB p (QH p).outs) v) 0 (ixI p k f y)):=by
 obtain⟨hnd,hlt,hm5,hmem⟩:=q2u hc hk v;have hd:=q7t hc hk hw;obtain⟨px,py⟩:=Cc hc hk hd;have rx:=WQ px;have hs:(((ixI p k f x).toNat:Nat):Int)=ixI p k f x:=x6f rx.1;have hst:=(Tj hc hk px py).2 hd;rcases h with⟨h1,h2,h3⟩|⟨h1,h2,h3,h4⟩
 ·refine .inl ⟨h1,h2,?_⟩;rcases h3 with rfl|⟨h3,g,h4,h5⟩
  ·obtain⟨g,hgl,hge⟩:=x9n ((hmem (ixI p k f a).toNat).2 ⟨by omega,h1⟩);have hg:(atN (WL p k f) (cntL f.body+2) v)[g]?=some (ixI p k f a).toNat:=by rw[x2n hgl,hge]
   exact⟨g,hg,q2p hnd hlt hm5 hg (by rw[hs];exact hst) (WQ py)⟩
  ·exact⟨g,h4,q5t hlt hm5 (x2o.1 h4).1 h5 rx (fun h=>h3 ((hmem _).1 h).2) hst (WQ py)⟩
 ·exact .inr ⟨h1,h2,.tail h3 (q3n hc hk hw h4)⟩
theorem q2e{a x:Int}{t:S}(ht:t∈flL f.body)(hl:Rch (wR p k f) 0 t.id)(h:GoV p k f v a x)(hw:wR p k f x t.id):GoV p k f v (bif inS (defsN p t.id) v then t.id else a) t.id:=by
 obtain⟨hp,h5,h6,h7⟩:=Ll hc hk ht;cases hd:inS (defsN p t.id) v with
 | true=>
   rw[x3p];exact .inl ⟨A1 hc hk ht hl (WP.1 hd),hp,.inl rfl⟩
 | false=>
   rw[x3t];have hno:v∉defsN p t.id:=fun h=>by rw[WP.2 h]at hd;cases hd
   have hng:v∉WL p k f (ixI p k f t.id).toNat:=fun h=>by
    rcases q0t hc hk (by omega) h with⟨h8,_⟩|⟨_,_,_,h9⟩
    ·exact h6 h8
    ·rw[<-h5]at h9;exact hno h9
   rcases q0i hc hk h hw with⟨h1,h2,h3⟩|⟨h1,h2,h3⟩
   ·exact .inl ⟨h1,h2,.inr ⟨hng,h3⟩⟩
   ·refine .inr ⟨h1,h2,h3,?_⟩;cases hq:GT p k f (dfB p (QH p).outs) v (ixI p k f t.id)with
    |true=>rfl
    | false=>
      exfalso;obtain⟨u,hu,hue,hv⟩:=Oe hc hk hp (by omega) hq;rw[<-hue,<-(Ly hc hk hu).1,hue]at hv;exact hno hv
theorem q6h{a x:Int}{t:S}(ht:t∈flL f.body)(hl:Rch (wR p k f) 0 t.id)(h:GoV p k f v a x)(hw:wR p k f x t.id)(hv:v∈usesN p t.id):q8s (XE p k f) a t.id v=true\/(a=0/\JQ p f v=4):=by
 obtain⟨hp,h5,h6,h7⟩:=Ll hc hk ht;have htk:=q4b hc hk ht hl hv;have hs:(((ixI p k f t.id).toNat:Nat):Int)=ixI p k f t.id:=x6f (WQ hp).1;rcases q0i hc hk h hw with⟨h1,h2,g,h3,h4⟩|⟨h1,h2,h3⟩
 ·refine .inl ?_;have ra:=WQ h2;have ha:(((ixI p k f a).toNat:Nat):Int)=ixI p k f a:=x6f ra.1;have hm:=(RY hc hk (a:=(ixI p k f a).toNat) (c:=(ixI p k f t.id).toNat) (by omega) (by omega)).2 ⟨htk,g,h3,by rw[hs];exact h4⟩;rw[ha,hs,HP h2,HP hp]at hm;exact x4o.2 ⟨_,hm,by simp⟩
 ·refine .inr ⟨h1,?_⟩;refine x5p fun h8=>?_;refine h2 ?_;unfold WL RF;rw[if_pos rfl];refine XO.2 ?_;rcases q0g hc hk ht hv h8 with hcm|hpm
  ·refine x4h _ ?_;have hkl:k<p.procs.length:=(x2o.1 hk).1;rw[<-(UD hc).fixI];unfold rdI;rw[Dq hkl,FV hk,(UD hc).defs];refine⟨hcm,(BS hc hk).2 ⟨_,h3,q6d hc hk ht ?_⟩⟩;rw[<-(Ly hc hk ht).2];exact hv
  ·exact x4f _ hpm
omit hc hk in
theorem Tu:∀(l:List Int)(a:Int),MW (wR p k f) a l->Rch (wR p k f) a (D4 a l)
 |[],_,_=>.refl
 | c::r,a,h=>by
   rw[Gv];exact Rch.head h.1 (Tu r c h.2)
theorem R6(hp:MW (wR p k f) 0 l)(hpos:∀e∈l,0<e)(hj:j<l.length):∃t∈flL f.body,t.id=l[j]/\Rch (wR p k f) 0 l[j]:=by
 have h1:=Dv hp hj;have h2:MW (wR p k f) 0 (l.take j):=by
  rw[<-x7s j l]at hp;exact Ys _ _ hp
 have h3:Rch (wR p k f) 0 l[j]:=.tail (Tu _ _ h2) h1;have h4:=(Cc hc hk (q7t hc hk h1)).2;have h5:=hpos _ (x3w hj);have h6:l[j]∈(flL f.body).map S.id:=by
  rw[D9 (QK hc).1 hk];rcases h4 with h4|h4|h4
  ·omega
  ·omega
  ·exact RP h4.1 h4.2
 obtain⟨t,ht,he⟩:=x3q.1 h6;exact⟨t,ht,he,h3⟩
theorem A3{l:List Int}(hp:MW (wR p k f) 0 l)(hpos:∀e∈l,0<e)(v:Str):∀j,j<=l.length->GoV p k f v (Nh (defsN p) v (l.take j)) (D4 0 (l.take j))
 | 0,_=>by
   rw[x9y];exact IH v
 | j+1,h=>by
   have hj:j<l.length:=by omega
   obtain⟨t,ht,he,hr⟩:=R6 hc hk hp hpos hj;have h1:=A3 hp hpos v j (by omega);have h2:=Dv hp hj;rw[x3u hj,Gu,Sm,<-he];rw[<-he]at h2 hr;exact q2e hc hk ht hr h1 h2
theorem OB(hp:MW (wR p k f) 0 l)(hpos:∀e∈l,0<e)(hj:j<l.length)(hv:v∈usesN p l[j]):q8s (XE p k f) (Nh (defsN p) v (l.take j)) l[j] v=true\/(Nh (defsN p) v (l.take j)=0/\JQ p f v=4):=by
 obtain⟨t,ht,he,hr⟩:=R6 hc hk hp hpos hj;have h1:=A3 hc hk hp hpos v j (by omega);have h2:=Dv hp hj;rw[<-he]at h2 hr hv⊢;exact q6h hc hk ht hr h1 h2 hv
end
end Go.Ab
