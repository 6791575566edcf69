/- law15: CfgLive. -/
import Derived.Test.YtmfnbgbblkhneaaGreatInoR4
import Derived.Test.YtmfnbgbblkhneaaGreatInoR6
import Derived.Test.YtmfnbgbblkhneaaGreatInoR16
import Derived.Test.YtmfnbgbblkhneaaGreatInoR19
import Derived.Test.YtmfnbgbblkhneaaGreatInoR20
set_option linter.unusedSimpArgs false
set_option linter.unusedVariables false
set_option maxRecDepth 100000
set_option maxHeartbeats 16000000
open Nat (blt)
namespace Go.Ab
open Go.Proofs.Tryz
open Go.Proofs
variable {D I O U:List (List Str)}{K:St->Prop}{N k:Nat}{P:Program}{T:Tab}{a:Int}{f:Pr}{info:Info}{net:List (List Int)}{o:List Str}{p:Pg}{s:St}{seen:List Bool}{todo:List Int}
theorem q2y{g:Pr}{b:Int}(h:Rch (eR p k g) a b):Rch (wR p k g) a b:=h.mono fun _ _ ⟨s,hs,h1,h2⟩=>⟨s,(q5q.1 hs).1,h1,h2⟩
theorem count_set{l:List Bool}{k:Nat}(hk:k<l.length)(h:l.getD k false=false):(l.set k true).count false+1=l.count false:=by
 rw[q3p,q3b hk]at h;have h1:l[k]=false:=h;have h2:0<l.count false:=List.count_pos_iff.2 (h1▸q4u hk);rw[List.count_set hk,h1];simp;omega
theorem NedJ.shutN{i:Nat}{x:Str}{n:Nat}(hn:netR p i f=net)(h:XX p=true)(hj:p.procs[i]?=some f)(hJ:NedJ p i f D U o x n a k seen todo)(hk:(net.getD a.toNat []).length<=k)(h1:hitN p i f U o x a=false):NedI p i f D U o x n seen todo:=by
 subst hn;exact hJ.shut h hj hk h1
theorem NedJ.oldN{i:Nat}{x:Str}{n:Nat}(hn:netR p i f=net)(hJ:NedJ p i f D U o x n a k seen todo)(hk:k<(net.getD a.toNat []).length)(hs:seen.getD ((net.getD a.toNat [])[k]).toNat false=true):NedJ p i f D U o x n a (k+1) seen todo:=by
 subst hn;exact hJ.old hk hs
theorem NedJ.newN{i:Nat}{x:Str}{n:Nat}(hn:netR p i f=net)(hJ:NedJ p i f D U o x n a k seen todo)(hk:k<(net.getD a.toNat []).length){c:Int}(hc:c=(net.getD a.toNat [])[k])(hr:0<=c/\c<(n:Int))(hR:nR p i f D x a c):NedJ p i f D U o x n a (k+1) (seen.set c.toNat true) (todo++[c]):=by
 subst hn;exact hJ.new hk hc hr hR
theorem Uu(h:K s):ZW s K:=by
 rw[VX];exact h
theorem TB{ops:Array Oper}(h:K s):run P T N ops [] s K:=h
theorem S8{id:Nat}(hf:info.frz id=[])(h:U5 (info.keep id) s K):Fk info id s K:=by
 unfold Fk;rw[hf];show U5 (info.keep id) s fun s=>ZW s K;have e:(fun s=>ZW s K)=K:=funext fun s=>VX s K;rw[e];exact h
theorem P4{ks:List Nat}(s':St)(h:∀K:St->Prop,K s'->U5 ks s K)(hK:K s'):U5 ks s K:=h K hK
theorem Ny{sl:List (Nat×LV)}{d:Nat}{v:LV}{K:List (Nat×LV)->Prop}(hd:blt d N=true)(h:K (Fi sl d v)):setD N sl (some d) v K:=by
 show(bif blt d N then Ee sl d v K else False);rw[hd,q4v,Wm];exact h
theorem I9{c:Operand}{a b:Code}{K:Exit->St->Prop}(h:QR s.sl c=.p (.bool false))(hb:W P T N info b K s):W P T N info (.cond c a b) K s:=by
 unfold W;rw[h];exact Br.ff hb
theorem Iq{c:Operand}{a b:Code}{K:Exit->St->Prop}(h:QR s.sl c=.p (.bool true))(ha:W P T N info a K s):W P T N info (.cond c a b) K s:=by
 unfold W;rw[h];exact Br.tt ha
theorem Zt(b:Book)(p:Pg)(h:XX p=true)(i:Nat)(f:Pr)(hj:p.procs[i]?=some f)(hW:b.ways[i]?=some (QQ p i f))(o:List Str)(hO:b.outs[i]?=some o)(ho:o.Pairwise ltT)(hol:o.length<=1000000000)(hDl:b.defs.length=(sheetOf p).l.length)(hUl:b.uses.length=(sheetOf p).l.length)(hDr:∀d∈b.defs,d.Pairwise ltT/\d.length<=1000000000)(hUr:∀d∈b.uses,d.Pairwise ltT/\d.length<=1000000000)(x:Str):SpecP prog 152 [.ip b.cells,.int .i64 i,V9 (netR p i f),.str x] (fun r=>r=.bool (R0 p i f b.defs b.uses o x)):=by
 refine sB MP func152 rfl call152 ?_;conv=>whnf
 obtain⟨n,hn⟩ : ∃n,n=cntL f.body+2:=⟨_,rfl⟩;have hcn:=(XS h).2.2;obtain⟨_,_,_,hsl,hsp⟩:=QU p;obtain⟨_,_,hle,_⟩:=hsp i f hj;have hn200:n<=202:=by omega
 have hg1:(b.ways.map fun w=>AV.ip w.cells)[i]?=some (.ip (QQ p i f).cells):=by rw[q4x,hW];rfl
 have hg2:(b.outs.map eStrs)[i]?=some (eStrs o):=by rw[q4x,hO];rfl
 have hwn:(QQ p i f).n=n:=by rw[hn];rfl
 have hHo:=Xj o x ho hol;have hP:∀a:Int,0<=a/\a<=5000->SpecP prog 64 [.ip (QQ p i f).cells,.int .i64 a] (fun r=>r=.int .i64 (idN p i f a)):=fun a ha=>MK (QQ p i f) f hj (by show cntP p.procs<=1000;omega) ⟨by rw[hwn];omega,by rw[hwn];omega⟩ a ha;have hNl:(netR p i f).length=n:=by rw[hn];exact Wg _ _
 have hNr:∀a:Nat,a<n->∀c∈(netR p i f).getD a [],nR p i f b.defs x a c\/NN p i f b.defs x a=false:=fun a ha c hc=>by
  have hm:=(Wh fun t ht=>(FW h hj t ht).1).1 hc;obtain⟨t,ht,h1,h2⟩:=hm;cases hq:NN p i f b.defs x a with
  |false=>exact .inr rfl
  |true=>exact .inl ⟨hq,by rw[<-h1,<-h2];exact ht⟩
 have hNi:∀a:Nat,a<n->∀c∈(netR p i f).getD a [],0<=c/\c<(n:Int):=fun a ha c hc=>by
  obtain⟨t,ht,_,rfl⟩:=(Wh fun t ht=>(FW h hj t ht).1).1 hc;have:=(FW h hj t ht).2;omega
 have hNc:∀a:Nat,((netR p i f).getD a []).length<=200000:=fun a=>by
  refine q5p (Ha _ _ a) ?_;unfold JF;rw[q3f];exact P9 h hj
 have hId:∀a:Int,0<a->a<(n:Int)-1->1<=idN p i f a/\(idN p i f a-1).toNat<(sheetOf p).l.length:=fun a h1 h2=>by
  unfold idN ZY loI;rw[if_neg (by omega),if_neg (by omega)];omega
 obtain⟨net,hnet⟩ : ∃net,netR p i f=net:=⟨_,rfl⟩;rw[hnet]at hNl hNr hNi hNc⊢;generalize QQ p i f=w at hg1 hwn hP hW;repeat' ((first|refine q3l rfl ?_|refine aD ?_|refine aR ?_|(refine IdxK.at (k:=i) rfl hg1 rfl ?_)|refine MkK.mk n hwn (by show 1*n<=140737488355328;omega) (by unfold maxLen;omega) ?_|refine q8i (fun x hx=>by rcases q3r.1 hx with rfl;rfl) rfl ?_);conv=>whnf)
 refine LoopK.inv QY (fun y:List Bool×List Int=>⟨[(0,.p (.ip b.cells)),(1,.p (.int .i64 i)),(2,.p (V9 net)),(3,.p (.str x)),(9,.p (.ip w.cells)),(10,.hd 0 0 n),(11,.hd 1 0 y.2.length)],[(1,.own 3 1 (y.2.map (.int .i64))),(0,.own 4 1 (y.1.map bv))]⟩)
  (fun y=>NedI p i f b.defs b.uses o x n y.1 y.2/\y.2.length+y.1.count false<=n+1) (fun y=>2*y.1.count false+y.2.length) (List.replicate n false,[0]) (Le.of_eq (by rw[q6p];rfl)) ⟨NedI.start n (by omega),by simp;omega⟩ ?_
 rintro⟨seen,todo⟩ ⟨hI,hc1⟩;simp only at hI hc1⊢;rcases List.eq_nil_or_concat todo with rfl|⟨st,a,rfl⟩
 ·have hz:(([]:List Int).length)=0:=rfl;conv=>whnf
  repeat' (first|(refine iM fun _=>?_;conv=>whnf)|(apply bD<;>intro _<;>first|omega|conv=>whnf))
  all_goals exact RetK.ff (hI.stop h hj)
 rw[List.concat_eq_append]at hI hc1⊢;have hstl:(st++[a]).length=st.length+1:=by simp
 have har:=hI.rng a (by simp);have e3:((st++[a]).map (AV.int .i64))[st.length]?=some (.int .i64 a):=by simp
 have hsl2:=hI.len;have hway:=hI.way a (hI.td a (by simp));have hPa:=hP a ⟨har.1,by omega⟩;have hcut:∀(sl:List (Nat×LV)),Le Tryz.f152.ntmps ⟨sl,[(1,.own 3 1 ((st++[a]).map (.int .i64))),(0,.own 4 1 (seen.map bv))]⟩ ⟨sl,[(1,.own 3 1 (st.map (.int .i64))),(0,.own 4 1 (seen.map bv))]⟩:=fun sl=>Le.cut (.cut ⟨[.int .i64 a],by simp⟩ (.same .nil));have hrow:((avI net).map AV.sl)[a.toNat]?=some (.sl ((net.getD a.toNat []).map (.int .i64))):=by
  have:a.toNat<net.length:=by rw[hNl];omega
  rw[q3p,q3b this];simp[avI,this]
 have hrl:((net.getD a.toNat []).map (AV.int .i64)).length=(net.getD a.toNat []).length:=q3f _;have hcs:a=(n:Int)-1\/(a=0/\¬a=(n:Int)-1)\/(0<a/\¬a=(n:Int)-1):=by omega
 rcases hcs with hE|⟨hz,hE⟩|⟨hpos,hE⟩
 ·-- the exit
  have hhit:hitN p i f b.uses o x a=inS o x:=by unfold hitN;rw[<-hn,q6t hE];rfl
  have hpas:NN p i f b.defs x a=false:=by unfold NN;rw[<-hn,q6t hE];rfl
  conv=>whnf
  repeat' (first|((first|(refine iM fun _=>?_)|refine q3l rfl ?_|refine wI ?_|refine q5z st.length (by omega) (by omega) ?_|refine q5f st.length 0 (.int .i64 a) (by omega) e3 ?_|refine q8s 0 st.length rfl (by show((st++[a]).length:Int)-1=_;omega) (by omega) (by omega) ?_|(refine IdxK.at (k:=i) rfl hg2 rfl ?_)|refine cP hHo ?_);conv=>whnf)|(apply bD<;>intro _<;>first|omega|conv=>whnf)|(apply bB<;>intro _<;>conv=>whnf))
  ·exact RetK.tt ((ND h hj).2 ⟨a,hway,by rw[hhit];assumption⟩)
  ·exact⟨(seen,st),⟨hI.skip (by rw[hhit];assumption) hpas,by simp only;omega⟩,by simp only;omega,(hcut _).trans (lE)⟩
 ·-- the entry
  have hhit:hitN p i f b.uses o x a=false:=by unfold hitN;rw[<-hn,q6f hE,q6f (by omega)];rfl
  have hpas:NN p i f b.defs x a=true:=by unfold NN;rw[<-hn,q6f hE,q6f (by omega)];rfl
  conv=>whnf
  repeat' (first|((first|(refine iM fun _=>?_)|refine q3l rfl ?_|refine wI ?_|refine q5z st.length (by omega) (by omega) ?_|refine q5f st.length 0 (.int .i64 a) (by omega) e3 ?_|refine q8s 0 st.length rfl (by show((st++[a]).length:Int)-1=_;omega) (by omega) (by omega) ?_|(refine IdxK.at (k:=a.toNat) (by omega) hrow rfl ?_));conv=>whnf)|(apply bD<;>intro _<;>first|omega|conv=>whnf))
  refine LoopK.inv QY (fun y:Nat×List Bool×List Int=>⟨[(0,.p (.ip b.cells)),(1,.p (.int .i64 i)),(2,.p (V9 net)),(3,.p (.str x)),(9,.p (.ip w.cells)),(10,.hd 0 0 n),(11,.hd 1 0 y.2.2.length),(87,.p (XU (net.getD a.toNat []))),(88,.p (.int .i64 ((net.getD a.toNat []).map (AV.int .i64)).length)),(89,.p (.int .i64 y.1))],[(1,.own 3 1 (y.2.2.map (.int .i64))),(0,.own 4 1 (y.2.1.map bv))]⟩)
   (fun y=>y.1<=(net.getD a.toNat []).length/\NedJ p i f b.defs b.uses o x n a y.1 y.2.1 y.2.2/\y.2.2.length+y.2.1.count false<=n/\2*y.2.1.count false+y.2.2.length<=2*seen.count false+st.length) (fun y=>(net.getD a.toNat []).length-y.1) (0,seen,st)
   ((hcut _).trans (Le.of_eq rfl)) ⟨q3o _,hI.open,by simp only;omega,q4h _⟩ ?_
  rintro⟨k,sn,td⟩ ⟨h1,hJ,h3,h4⟩;simp only at h1 hJ h3 h4⊢;rcases q4w k (net.getD a.toNat []).length with hk|hk;rotate_left 1
  ·conv=>whnf
   repeat' (apply bD<;>intro _<;>first|omega|conv=>whnf)
   all_goals exact⟨(sn,td),⟨hJ.shutN hnet h hj hk hhit,by simp only;omega⟩,by simp only;omega,lE⟩
  ·obtain⟨c,hc⟩ : ∃c,c=(net.getD a.toNat [])[k]:=⟨_,rfl⟩;have hcm:c∈net.getD a.toNat []:=by rw[hc];exact q4u hk
   have hcr:=hNi a.toNat (by omega) c hcm;have hcR:nR p i f b.defs x a c:=by
    rcases hNr a.toNat (by omega) c hcm with h5|h5
    ·rwa[q6i har.1]at h5
    ·rw[q6i har.1,hpas]at h5;cases h5
   have hsnl:=hJ.len;have e4:=Aq (l:=sn) (i:=c.toNat) (by omega);have e5:((net.getD a.toNat []).map (AV.int .i64))[k]?=some (.int .i64 c):=by rw[q4x,q3b hk,<-hc];rfl
   cases hs:sn.getD c.toNat false with
   | true=>
     rw[hs]at e4;conv=>whnf
     repeat' (first|((first|refine q3l rfl ?_|(refine iA fun _=>?_)|refine wI ?_|refine q5z c.toNat (by omega) (by omega) ?_|refine q5f c.toNat 0 .tt (by omega) e4 ?_);conv=>whnf)|(apply bD<;>intro _<;>first|omega|conv=>whnf))
     all_goals first
       |exact⟨(k+1,sn,td),⟨hk,hJ.oldN hnet hk (by rw[<-hc];exact hs),h3,h4⟩,by simp only;omega,Le.of_eq rfl⟩
   | false=>
     rw[hs]at e4;have hcs:=count_set (l:=sn) (k:=c.toNat) (by omega) hs;conv=>whnf
     repeat' (first|((first|refine q3l rfl ?_|refine aD ?_|refine bP ?_|(refine iA fun _=>?_)|refine wI ?_|refine q5z c.toNat (by omega) (by omega) ?_|refine q5f c.toNat 0 .ff (by omega) e4 ?_|refine q7z c.toNat 0 .ff .tt (by omega) e4 (q4h 1) rfl ?_|refine ZD (by simp) (by simp;omega) ?_);conv=>whnf)|(apply bD<;>intro _<;>first|omega|conv=>whnf))
     all_goals first
       |exact⟨(k+1,sn.set c.toNat true,td++[c]),⟨hk,hJ.newN hnet hk hc hcr hcR,by simp only[q3m,q4r];omega,by simp only[q3m,q4r];omega⟩,by simp only;omega,Le.of_eq (by rw[<-hc];simp only[q5a,q4z,q3m];rfl)⟩
 ·-- a statement
  obtain⟨hid1,hid2⟩:=hId a hpos (by omega);have hgU:(b.uses.map eStrs)[(idN p i f a-1).toNat]?=some (eStrs (PE b.uses (idN p i f a))):=by
   unfold PE;rw[q4x,q3p,q3b (by omega)];rfl
  have hgD:(b.defs.map eStrs)[(idN p i f a-1).toNat]?=some (eStrs (PE b.defs (idN p i f a))):=by
   unfold PE;rw[q4x,q3p,q3b (by omega)];rfl
  have hrU:(PE b.uses (idN p i f a)).Pairwise ltT/\(PE b.uses (idN p i f a)).length<=1000000000:=by
   unfold PE;rw[q3p,q3b (by omega)];exact hUr _ (q4u _)
  have hrD:(PE b.defs (idN p i f a)).Pairwise ltT/\(PE b.defs (idN p i f a)).length<=1000000000:=by
   unfold PE;rw[q3p,q3b (by omega)];exact hDr _ (q4u _)
  have hHU:=Xj _ x hrU.1 hrU.2;have hHD:=Xj _ x hrD.1 hrD.2;have hhitB:hitN p i f b.uses o x a=inS (PE b.uses (idN p i f a)) x:=by unfold hitN;rw[<-hn,q6f hE,q6t hpos];rfl
  have hpasB:NN p i f b.defs x a = !inS (PE b.defs (idN p i f a)) x:=by unfold NN;rw[<-hn,q6f hE,q6t hpos];rfl
  generalize idN p i f a=id at*
  generalize PE b.uses id=lu at*
  generalize PE b.defs id=ld at*
  conv=>whnf
  repeat' (first|((first|(refine iM fun _=>?_)|refine q3l rfl ?_|refine wI ?_|refine q5z st.length (by omega) (by omega) ?_|refine q5f st.length 0 (.int .i64 a) (by omega) e3 ?_|refine q8s 0 st.length rfl (by show((st++[a]).length:Int)-1=_;omega) (by omega) (by omega) ?_|refine cP hPa ?_|(refine IdxK.at (k:=(id-1).toNat) (by omega) hgU rfl ?_));conv=>whnf)|(apply bD<;>intro _<;>first|omega|conv=>whnf))
  refine CallK.pure hHU (.cons (Sub.refl _) (.cons (Sub.refl _) .nil)) ?_;rintro _ rfl;refine Ny (by kernel_rfl) ?_;refine Uu ?_;refine TB ?_;refine S8 (by kernel_rfl) ?_;refine P4 ⟨[(0,.p (.ip b.cells)),(1,.p (.int .i64 i)),(2,.p (V9 net)),(3,.p (.str x)),(9,.p (.ip w.cells)),(10,.hd 0 0 n),(11,.hd 1 0 st.length),(12,.p (.int .i64 a)),(13,.p (.int .i64 id)),(73,.p (.bool (inS lu x)))],[(1,.own 3 1 ((st++[a]).map (.int .i64))),(0,.own 4 1 (seen.map bv))]⟩ (fun K h=>h) ?_;cases hqu:inS lu x;rotate_left
  ·refine Iq rfl ?_;conv=>whnf
   skip
   all_goals exact RetK.tt ((ND h hj).2 ⟨a,hway,by rw[hhitB,hqu]⟩)
  refine I9 rfl ?_;conv=>whnf
  repeat' ((first|refine wI ?_|(refine IdxK.at (k:=(id-1).toNat) (by omega) hgD rfl ?_));conv=>whnf)
  refine CallK.pure hHD (.cons (Sub.refl _) (.cons (Sub.refl _) .nil)) ?_;rintro _ rfl;refine Ny (by kernel_rfl) ?_;refine Uu ?_;refine TB ?_;refine S8 (by kernel_rfl) ?_;refine P4 ⟨[(0,.p (.ip b.cells)),(1,.p (.int .i64 i)),(2,.p (V9 net)),(3,.p (.str x)),(9,.p (.ip w.cells)),(10,.hd 0 0 n),(11,.hd 1 0 st.length),(12,.p (.int .i64 a)),(83,.p (.bool (inS ld x)))],[(1,.own 3 1 ((st++[a]).map (.int .i64))),(0,.own 4 1 (seen.map bv))]⟩ (fun K h=>h) ?_;have hhit:hitN p i f b.uses o x a=false:=by rw[hhitB,hqu]
  cases hqd:inS ld x;rotate_left
  ·have hpas:NN p i f b.defs x a=false:=by rw[hpasB,hqd];rfl
   refine Iq rfl ?_;conv=>whnf
   skip
   all_goals exact⟨(seen,st),⟨hI.skip hhit hpas,by simp only;omega⟩,by simp only;omega,(hcut _).trans (lE)⟩
  ·have hpas:NN p i f b.defs x a=true:=by rw[hpasB,hqd];rfl
   refine I9 rfl ?_;conv=>whnf
   repeat' ((first|(refine iM fun _=>?_)|(refine IdxK.at (k:=a.toNat) (by omega) hrow rfl ?_));conv=>whnf)
   refine LoopK.inv QY (fun y:Nat×List Bool×List Int=>⟨[(0,.p (.ip b.cells)),(1,.p (.int .i64 i)),(2,.p (V9 net)),(3,.p (.str x)),(9,.p (.ip w.cells)),(10,.hd 0 0 n),(11,.hd 1 0 y.2.2.length),(87,.p (XU (net.getD a.toNat []))),(88,.p (.int .i64 ((net.getD a.toNat []).map (AV.int .i64)).length)),(89,.p (.int .i64 y.1))],[(1,.own 3 1 (y.2.2.map (.int .i64))),(0,.own 4 1 (y.2.1.map bv))]⟩)
    (fun y=>y.1<=(net.getD a.toNat []).length/\NedJ p i f b.defs b.uses o x n a y.1 y.2.1 y.2.2/\y.2.2.length+y.2.1.count false<=n/\2*y.2.1.count false+y.2.2.length<=2*seen.count false+st.length) (fun y=>(net.getD a.toNat []).length-y.1) (0,seen,st)
    ((hcut _).trans (Le.of_eq rfl)) ⟨q3o _,hI.open,by simp only;omega,q4h _⟩ ?_
   rintro⟨k,sn,td⟩ ⟨h1,hJ,h3,h4⟩;simp only at h1 hJ h3 h4⊢;rcases q4w k (net.getD a.toNat []).length with hk|hk;rotate_left 1
   ·conv=>whnf
    repeat' (apply bD<;>intro _<;>first|omega|conv=>whnf)
    all_goals exact⟨(sn,td),⟨hJ.shutN hnet h hj hk hhit,by simp only;omega⟩,by simp only;omega,lE⟩
   ·obtain⟨c,hc⟩ : ∃c,c=(net.getD a.toNat [])[k]:=⟨_,rfl⟩;have hcm:c∈net.getD a.toNat []:=by rw[hc];exact q4u hk
    have hcr:=hNi a.toNat (by omega) c hcm;have hcR:nR p i f b.defs x a c:=by
     rcases hNr a.toNat (by omega) c hcm with h5|h5
     ·rwa[q6i har.1]at h5
     ·rw[q6i har.1,hpas]at h5;cases h5
    have hsnl:=hJ.len;have e4:=Aq (l:=sn) (i:=c.toNat) (by omega);have e5:((net.getD a.toNat []).map (AV.int .i64))[k]?=some (.int .i64 c):=by rw[q4x,q3b hk,<-hc];rfl
    cases hs:sn.getD c.toNat false with
    | true=>
      rw[hs]at e4;conv=>whnf
      repeat' (first|((first|refine q3l rfl ?_|(refine iA fun _=>?_)|refine wI ?_|refine q5z c.toNat (by omega) (by omega) ?_|refine q5f c.toNat 0 .tt (by omega) e4 ?_);conv=>whnf)|(apply bD<;>intro _<;>first|omega|conv=>whnf))
      all_goals first
        |exact⟨(k+1,sn,td),⟨hk,hJ.oldN hnet hk (by rw[<-hc];exact hs),h3,h4⟩,by simp only;omega,Le.of_eq rfl⟩
    | false=>
      rw[hs]at e4;have hcs:=count_set (l:=sn) (k:=c.toNat) (by omega) hs;conv=>whnf
      repeat' (first|((first|refine q3l rfl ?_|refine aD ?_|refine bP ?_|(refine iA fun _=>?_)|refine wI ?_|refine q5z c.toNat (by omega) (by omega) ?_|refine q5f c.toNat 0 .ff (by omega) e4 ?_|refine q7z c.toNat 0 .ff .tt (by omega) e4 (q4h 1) rfl ?_|refine ZD (by simp) (by simp;omega) ?_);conv=>whnf)|(apply bD<;>intro _<;>first|omega|conv=>whnf))
      all_goals first
        |exact⟨(k+1,sn.set c.toNat true,td++[c]),⟨hk,hJ.newN hnet hk hc hcr hcR,by simp only[q3m,q4r];omega,by simp only[q3m,q4r];omega⟩,by simp only;omega,Le.of_eq (by rw[<-hc];simp only[q5a,q4z,q3m];rfl)⟩
inductive SlR(g:Nat->Option Nat)(sl:List (Nat×LV)):List (Nat×LV)->Prop
 |nil:SlR g sl []
 |cons {i:Nat} {l:LV} {r:List (Nat×LV)} (h:LSub ((getS sl i).ren g) l) (hr:SlR g sl r):SlR g sl ((i,l)::r)
theorem SlR.r{g:Nat->Option Nat}{sl:List (Nat×LV)}{i:Nat}{r:List (Nat×LV)}(h:SlR g sl r):SlR g sl ((i,(getS sl i).ren g)::r):=.cons (.refl _) h
theorem SlR.get{g:Nat->Option Nat}{sl sl':List (Nat×LV)}(h:SlR g sl sl')(i:Nat):LSub ((getS sl i).ren g) (getS sl' i)\/getS sl' i=.p .any:=by
 induction h with
 |nil=>exact .inr rfl
 | @cons j l r h hr ih=>
   simp only[getS];by_cases hj:j=i
   ·subst hj;exact .inl (by simpa using h)
   ·have:(j==i)=false:=by simp[hj]
    simpa[this]using ih
theorem AL{s':St}(π:Nat->Nat)(h2:∀k,π (π k)=k)(hpin:∀j,1000<=j->j<2000->π j=j)(hsl:SlR (fun k=>some (π k)) s.sl s'.sl)(hH:∀j c,(j,c)∈s'.H->∃c0,(π j,c0)∈s.H/\CSub (c0.ren fun k=>some (π k)) c)(hnd:(s'.H.map (·.1)).Nodup):Le N s s':=fun σ β a w hr=>by
 have hg:∀k j,(fun k=>some (π k)) k=some j->(fun j=>β (π j)) j=β k:=fun k j hk=>by
  cases hk;show β (π (π k))=β k;rw[h2]
 have hin:∀j∈s'.H.map (·.1),π j∈s.H.map (·.1):=fun j hj=>by
  obtain⟨⟨j',c⟩,hm,rfl⟩:=q3s.1 hj;obtain⟨c0,h1,_⟩:=hH j' c hm;exact q3s.2 ⟨_,h1,rfl⟩
 refine⟨σ,fun j=>β (π j),⟨hr.size,hr.defers,fun i=>?_,hr.heap.mem,fun j c hj=>?_,hnd,fun j hj i hi b hb=>hr.heap.apart (π j) (hin j hj) i hi b hb,fun j hj j' hj' i i' hi hi' b hb hb'=>?_⟩,Mem.le_refl σ,Frm.refl _ _,fun b h0 h1=>absurd h0 h1,fun b ⟨j,hj,i,hi,hb⟩=>.inl ⟨π j,hin j hj,i,hi,hb⟩,fun k h0 h1=>?_⟩
 ·rcases hsl.get i with h|h
  ·exact h.rep ((hr.slots i).ren hg)
  ·rw[h];exact .p (.any _)
 ·obtain⟨c0,h1,h3⟩:=hH j c hj;exact h3 _ _ _ _ ((hr.heap.chunks (π j) c0 h1).ren (j:=j) hg (by show some (π (π j))=some j;rw[h2]))
 ·have:=hr.heap.inj (π j) (hin j hj) (π j') (hin j' hj') i i' hi hi' b hb hb';rw[<-h2 j,this,h2]
 ·show β (π k)=β k;rw[hpin k h0 h1]
theorem YW(l:List Str)(hlen:l.length<=1000000000):SpecH prog 86 [.hd 1000 0 l.length] [(1000,.own 9 1 (l.map .str))] (fun r H=>r=.p (eStrs (UQ l))/\H=[]):=by
 have h:=De l hlen;refine⟨h.go,fun σ β w vals h1 h2 h3=>(h.ok σ β w vals h1 h2 h3).mono fun ex w' hx=>?_⟩;obtain⟨r,u,σ',β',H',he,⟨rfl,rfl⟩,hrep,hrel,hlat⟩:=hx;generalize UQ l=m at*
 obtain⟨s',rfl,hle⟩:=Le.row (N:=1) (s:=⟨[(0,.hd 1000 0 m.length)],[(1000,.own 9 1 (m.map .str))]⟩) (k:=1000) (e:=9) (sz:=1) (es:=m.map .str) (zs:=[0]) rfl (K:=fun s=>s=⟨[(0,.p (eStrs m))],[]⟩)
  ⟨(q3f _).symm,rfl⟩
 obtain⟨σ2,β2,hr2,hl2⟩:=hle σ' β' {tmps:=#[u],defers:=[]} w' ⟨rfl,rfl,fun i=>by
  match i with
  |0=>simpa[getS]using hrep
  |i+1=>exact .p (by simpa[getS]using Rep.any _),hrel⟩
 exact⟨.p (eStrs m),u,σ2,β2,[],he,⟨rfl,rfl⟩,by simpa[getS]using hr2.slots 0,hr2.heap,hlat.trans hl2⟩
def B6(p:Pg)(l1 l2 l3:LV)(n:Nat):Chunk:=.obj 95 [.p (.ip (sheetOf p).cells),l1,l2,l3,.hd 0 0 n,.hd 1 0 n]
def UF(L:List (List Str)):Chunk:=.own 22 1 (L.map eStrs)
def Y0(p:Pg)(k:Nat):Chunk:=.own 115 1 (((wysB p).take k).map fun w=>.ip w.cells)
theorem RU(n:Nat):ElS (List.replicate n (AV.ofV (.slice none 0 0))) ((List.replicate n ([]:List Str)).map eStrs):=by
 refine⟨by simp,fun m x h=>?_⟩;rw[q6p,q4s]at h;rw[q4s];split at h
 ·cases h;rw[if_pos (by assumption)];refine⟨_,rfl,rfl,fun j c hc=>?_⟩
  match j,hc with
  |0,hc=>cases hc;exact⟨_,rfl,Sub.nils⟩
 ·cases h
theorem IJ{a:AV}{n:Nat}:
  Le N ⟨[(1,.p a),(3,.ptr 2 0)],[(2,.obj 95 [.p (.ip (sheetOf p).cells),.p (AV.ofS (.slice none 0 0)),.p (AV.ofS (.slice none 0 0)),.p (AV.ofS (.slice none 0 0)),.hd 0 0 n,.hd 1 0 n]),(1,.own 22 1 (List.replicate n (AV.ofV (.slice none 0 0)))),(0,.own 22 1 (List.replicate n (AV.ofV (.slice none 0 0))))]⟩
   ⟨[(1,.p a),(3,.ptr 2 0)],[(3,Y0 p 0),(2,B6 p (.hd 3 0 0) (.p .nils) (.p .nils) n),(1,UF (List.replicate n [])),(0,UF (List.replicate n []))]⟩:=by
 refine Le.trans (Le.els (.same (.els (RU n) (.els (RU n) .nil)))) ?_;exact Le.mk [(3,Y0 p 0)] (by simp[Chunk.new0,Y0];rfl) (by simp) (by simp) (.r (.r .nil)) (.new q3d (.cons rfl (.obj (.r (.cons (.nil q3d) (.r (.r (.r (.r .nil))))))) (.cons rfl (.refl _) (.cons rfl (.refl _) .nil))))
def OS(k:Nat):Nat:=if k=0 then 1 else if k=1 then 0 else k
theorem ON{a:AV}{n:Nat}:
  Le N ⟨[(1,.p a),(3,.ptr 2 0)],[(2,.obj 95 [.p (.ip (sheetOf p).cells),.p (AV.ofS (.slice none 0 0)),.p (AV.ofS (.slice none 0 0)),.p (AV.ofS (.slice none 0 0)),.hd 1 0 n,.hd 0 0 n]),(1,.own 22 1 (List.replicate n (AV.ofV (.slice none 0 0)))),(0,.own 22 1 (List.replicate n (AV.ofV (.slice none 0 0))))]⟩
   ⟨[(1,.p a),(3,.ptr 2 0)],[(3,Y0 p 0),(2,B6 p (.hd 3 0 0) (.p .nils) (.p .nils) n),(1,UF (List.replicate n [])),(0,UF (List.replicate n []))]⟩:=by
 refine Le.trans ?_ IJ;refine AL OS (fun k=>by unfold OS;split<;>(try split)<;>simp_all) (fun j h0 h1=>by unfold OS;rw[if_neg (by omega),if_neg (by omega)]) (.r (.r .nil)) (fun j c hj=>?_) (by simp);rcases q3t.1 hj with he|hj
 ·cases he;exact⟨_,q3d,CSub.refl _⟩
 rcases q3t.1 hj with he|hj
 ·cases he;exact⟨_,q3n _ (q3n _ q3d),CSub.refl _⟩
 rcases q3t.1 hj with he|hj
 ·cases he;exact⟨_,q3n _ q3d,CSub.refl _⟩
 ·cases hj
theorem Sh{W:List (List Str)}(hk:k<W.length)(hl:W.length=O.length):((W.take k++O.drop k).map eStrs).set k (eStrs W[k])=(W.take (k+1)++O.drop (k+1)).map eStrs:=by
 rw[<-q5a,List.set_append_right _ _ (by rw[q4l];omega),q4l,show k-min k W.length=0 by omega,q4a (by omega),List.set_cons_zero,q4y hk,q4c];rfl
theorem AG{W:List (List Str)}(hk:k<O.length)(hl:W.length=O.length):((W.take k++O.drop k).map eStrs)[k]?=some (eStrs O[k]):=by
 rw[q4x,q5x (by rw[q4l];omega),q4l,show k-min k W.length=0 by omega,q5t,q7m,q3b hk];rfl
theorem Sg{W:List (List Str)}(hk:k<=O.length)(hl:W.length=O.length):((W.take k++O.drop k).map eStrs).length=O.length:=by
 rw[q3f,q3m,q4l,q6u];omega
theorem AH{W:List (List Str)}(hk:k<W.length)(hk':k<O.length):decide (W.take (k+1)=O.take (k+1))=(decide (W.take k=O.take k)&&decide (W[k]=O[k])):=by
 rw[q4y hk,q4y hk',<-Bool.decide_and];refine decide_eq_decide.2 ⟨fun h=>?_,fun h=>by rw[h.1,h.2]⟩;have h1:=q7r h rfl;exact⟨h1.1,by simpa using h1.2⟩
theorem Nt(hc:XX p=true)(h:OkI p I){t:S}(ht:t∈YP p):(Q5 (bkI p I) t).length<=1000000000:=by
 have h1:=Nr t;unfold Q5;split
 ·rename_i h4;have h2:=(PT hc ht h4).2;have h3:=KE Sf t.args;have h5:t.args.length*1048577<=8*1048577:=q5j _ h2;have h6:=h.len25 hc (caI (bkI p I).s.p t).toNat;have h7:(inAt (bkI p I) t).length<=25:=h6;simp only[q3m];omega
 ·omega
theorem Cy{g:FuncId}{args:List LV}{dst:Option Nat}{avs:List AV}{L:List Str}{nil:Prop}(k:Nat)(hu:ZE k s=true)(hs:SpecH P g (avs.map .p) [] (OneRow (Yx L) nil))(ha:FrzL s.H args avs)(hn:nil->setD N s.sl dst (.p .nils) fun sl=>K ⟨sl,s.H⟩)(h:setD N s.sl dst (.hd k 0 L.length) fun sl=>K ⟨sl,(k,.own 9 1 (L.map .str))::s.H⟩):CallK P N g args dst s K:=
 JP k hu hs ha hn fun q e sz es hR=>by
  obtain⟨rfl,rfl,rfl⟩:=hR;rw[q3f];exact h
theorem Ic{H:Heap}{l1 l2 l3:LV}{n:Nat}(hg:getH H 2=some (B6 p l1 l2 l3 n))(h1:Frz H l1 (.sl ((wysB p).map fun w=>.ip w.cells)))(h2:Frz H l2 (.sl (D.map eStrs)))(h3:Frz H l3 (.sl (U.map eStrs)))(h4:Frz H (.hd 0 0 n) (.sl (I.map eStrs)))(h5:Frz H (.hd 1 0 n) (.sl (O.map eStrs))):Frz H (.ptr 2 0) (.ip (Book.cells ⟨sheetOf p,wysB p,D,U,I,O⟩)):=
 Frz.ptr (off:=0) (cs:=Book.cells ⟨sheetOf p,wysB p,D,U,I,O⟩) hg rfl fun j l c hj hc=>by
  match j,hj,hc with
  |0,hj,hc=>cases hj;cases hc;exact .p (Sub.refl _)
  |1,hj,hc=>cases hj;cases hc;exact h1
  |2,hj,hc=>cases hj;cases hc;exact h2
  |3,hj,hc=>cases hj;cases hc;exact h3
  |4,hj,hc=>cases hj;cases hc;exact h4
  |5,hj,hc=>cases hj;cases hc;exact h5
  |j+6,hj,_=>cases hj
theorem NT:Y0 p p.procs.length=.own 115 1 ((wysB p).map fun w=>.ip w.cells):=by
 unfold Y0;rw[q4g (by unfold wysB;rw[q3f,q7q];exact q4h _)]
theorem MG:p.procs.length=((wysB p).map fun w=>AV.ip w.cells).length:=by
 unfold wysB;rw[q3f,q3f,q7q]
theorem F9{L:List (List Str)}(h:k<L.length)(ho:L[k]=o):UF (L.take (k+1))=.own 22 1 ((L.take k).map eStrs++[eStrs o]):=by
 unfold UF;rw[q4y h,q4z,ho];rfl
def BP:Code->List Code
 |.seq a b=>BP a++BP b
 |.cond _ a b=>BP a++BP b
 |.block _ b=>BP b
 |.loop b=>b::BP b
 |_=>[]
noncomputable def q2j(k:Nat):Code:=(BP (Tryz.f48.body.getD .skip)).getD k .skip
theorem En(hc:XX p=true){R:List (List Str)}(hO:OkO p O)(hDl:D.length=(sheetOf p).l.length)(hUl:U.length=(sheetOf p).l.length)(hd:∀d∈D,d.Pairwise ltT/\d.length<=1000000000)(hu:∀d∈U,d.Pairwise ltT/\d.length<=1000000000)(hIn:I.length=p.procs.length)(hRn:R.length=p.procs.length)(hR:∀(k:Nat)(h:k<p.procs.length)(h':k<R.length),R[k]=UQ (Pb p k p.procs[k] D U (O.getD k []))){K:Exit->St->Prop}(hK:∀(m:Bool)(s:St),m=(!decide (R=I))->Le Tryz.f48.ntmps s ⟨[(1,.p (.ip p.cells)),(3,.ptr 2 0),(10,.p (.bool m))],[(5,UF U),(4,UF D),(3,Y0 p p.procs.length),(2,B6 p (.hd 3 0 p.procs.length) (.hd 4 0 D.length) (.hd 5 0 U.length) p.procs.length),(1,UF O),(0,UF R)]⟩->K (.exit 12) s):
  LoopK prog tab Tryz.f48.ntmps Vc (q2j 6) K ⟨[(1,.p (.ip p.cells)),(3,.ptr 2 0),(10,.p .ff),(147,.p (.int .i64 (p.procs.map fun f=>AV.agg f.cells).length)),(148,.p (.int .i64 0))],[(5,UF U),(4,UF D),(3,Y0 p p.procs.length),(2,B6 p (.hd 3 0 p.procs.length) (.hd 4 0 D.length) (.hd 5 0 (sheetOf p).l.length) p.procs.length),(1,UF O),(0,UF I)]⟩:=by
 obtain⟨hg,hpl,hcn⟩:=XS hc;have hpm:(p.procs.map fun f=>AV.agg f.cells).length=p.procs.length:=q3f _;have hWl:R.length=I.length:=by omega
 have hOn:=hO.len;have hOl:p.procs.length=(O.map eStrs).length:=by rw[q3f,hO.len]
 have hKD:D.length=(D.map eStrs).length:=by rw[q3f]
 refine LoopK.inv QY (fun x:Nat×Bool=>⟨[(1,.p (.ip p.cells)),(3,.ptr 2 0),(10,.p (.bool x.2)),(147,.p (.int .i64 (p.procs.map fun f=>AV.agg f.cells).length)),(148,.p (.int .i64 x.1))],[(5,UF U),(4,UF D),(3,Y0 p p.procs.length),(2,B6 p (.hd 3 0 p.procs.length) (.hd 4 0 D.length) (.hd 5 0 (sheetOf p).l.length) p.procs.length),(1,UF O),(0,UF (R.take x.1++I.drop x.1))]⟩)
  (fun x=>x.1<=p.procs.length/\x.2 = !decide (R.take x.1=I.take x.1)) (fun x=>p.procs.length-x.1) (0,false)
  (Le.mk [] (by simp) (by simp) (by simp) (.r (.r (.cons (.p (Sub.ff rfl)) (.r (.r .nil))))) (.cons rfl (.refl _) (.cons rfl (.refl _) (.cons rfl (.refl _) (.cons rfl (.refl _) (.cons rfl (.refl _) (.cons rfl (.refl _) .nil))))))) ⟨q3o _,rfl⟩ ?_
 rintro⟨k,m⟩ ⟨hk1,hm1⟩;simp only at hk1 hm1⊢;rcases q4w k p.procs.length with hk2|hk2;rotate_left 1
 ·obtain rfl:k=p.procs.length:=by omega
  rw[q4g (by omega),q4g (by omega)]at hm1;rw[q4g (by omega),q4j (by omega),q5c];conv=>whnf
  repeat' (apply bD<;>intro _<;>first|omega|conv=>whnf)
  exact hK m _ hm1 (Le.mk [] (by simp) (by simp) (by simp) (.r (.r (.r .nil))) (.cons rfl (.refl _) (.cons rfl (.refl _) (.cons rfl (.refl _) (.cons rfl (.of_eq (by rw[hUl])) (.cons rfl (.refl _) (.cons rfl (.refl _) .nil)))))))
 ·have hkj:p.procs[k]?=some p.procs[k]:=by simp
  have hpk:=UT hkj;obtain⟨o,ho⟩ : ∃o,O.getD k []=o:=⟨_,rfl⟩;have hOk:O[k]?=some o:=by rw[<-ho,q3p,q3b (by omega)];rfl
  have horise:o.Pairwise ltT:=by rw[<-ho];exact NW hO.rise k
  have hol25:o.length<=25:=by rw[<-ho];exact hO.len25 hc k
  have hwk:(wysB p)[k]?=some (QQ p k p.procs[k]):=by rw[Bs hk2,hpk]
  have hN:=fun x=>Zt ⟨sheetOf p,wysB p,D,U,(R).take k++I.drop k,O⟩ p hc k p.procs[k] hkj hwk o hOk horise (by omega) hDl hUl hd hu x;have hin:=Jz ⟨sheetOf p,wysB p,D,U,(R).take k++I.drop k,O⟩ p rfl hc k p.procs[k] hkj hwk o hN;have hrow:(R)[k]'(by omega)=UQ (Pb p k p.procs[k] D U o):=by
   rw[hR k hk2 (by omega),ho]
  have hol:(Pb p k p.procs[k] D U o).length<=1000000000:=by
   have h1:(Pb p k p.procs[k] D U o).length<=(p.globals++[XD]).length:=q7x _ _;rw[q3m,q4r]at h1;omega
  have hin1:SpecH prog 91 ([AV.ip (Book.cells ⟨sheetOf p,wysB p,D,U,(R).take k++I.drop k,O⟩),.int .i64 k].map .p) [] (OneRow (Yx (Pb p k p.procs[k] D U o)) False):=hin;have hup:=Sh (W:=R) (O:=I) (k:=k) (by omega) hWl;have hat:=AG (W:=R) (O:=I) (k:=k) (by omega) hWl;have hln:=Sg (W:=R) (O:=I) (k:=k) (by omega) hWl;have hde:=AH (W:=R) (O:=I) (k:=k) (by omega) (by omega);have hEq:=ZA ((R)[k]'(by omega)) (I[k]'(by omega));rw[hrow]at hEq hup hde;have hKU:(sheetOf p).l.length=(U.map eStrs).length:=by rw[q3f];omega
  have hIl':p.procs.length=(((R).take k++I.drop k).map eStrs).length:=by rw[hln];omega
  clear hin hrow hN;generalize Pb p k p.procs[k] D U o=ol at*
  generalize hdq:decide (UQ ol=I[k])=dq at hEq hde;have hdk:decide ((R).take k=I.take k) = !m:=by rw[hm1,Bool.not_not]
  rw[hdk]at hde;cases m<;>cases dq;all_goals
   conv=>whnf
   repeat' (first|((first|refine q3l rfl ?_|refine wI ?_|refine q5z k rfl (by omega) ?_|refine q5f k 0 (eStrs I[k]) (by omega) hat ?_|refine cP hEq ?_|refine q7z k 0 (eStrs I[k]) (eStrs (UQ ol)) (by omega) hat (q4h 1) rfl ?_);conv=>whnf)|(apply bD<;>intro _<;>first|omega|conv=>whnf)|(apply bB<;>intro _<;>conv=>whnf)|(refine Cy 6 rfl hin1 (.cons (Ic rfl (.hd (q5i some NT) MG) (.hd rfl hKD) (.hd rfl hKU) (.hd rfl hIl') (.hd rfl hOl)) (.cons (.p (Sub.refl _)) .nil)) (fun hnil=>hnil.elim) ?_;conv=>whnf)|(refine CallK.heap [(1000,6)] 0 (q3i (q3e _) q4d) (by refine q3h (j:=6) rfl rfl ?_ ?_;exact CSub.refl _;exact q4b) (YW ol hol) rfl rfl ?_;rintro l' H' ⟨rfl,rfl⟩;conv=>whnf))
  all_goals first
   |exact absurd (show false=true by assumption) (by decide)
   |exact absurd (show true=false by assumption) (by decide)
   |exact⟨(k+1,true),⟨hk2,by simp only;rw[hde];rfl⟩,by simp only;omega,Le.mk [] (by simp) (by simp) (by simp) (.r (.r (.cons (.p (Sub.tt rfl)) (.r (.r .nil))))) (.cons rfl (.refl _) (.cons rfl (.refl _) (.cons rfl (.refl _) (.cons rfl (.refl _) (.cons rfl (.refl _) (.cons rfl (.of_eq (q5i (Chunk.own 22 1) hup)) .nil))))))⟩
   |exact⟨(k+1,true),⟨hk2,by simp only;rw[hde];rfl⟩,by simp only;omega,Le.mk [] (by simp) (by simp) (by simp) (.r (.r (.r (.r (.r .nil))))) (.cons rfl (.refl _) (.cons rfl (.refl _) (.cons rfl (.refl _) (.cons rfl (.refl _) (.cons rfl (.refl _) (.cons rfl (.of_eq (q5i (Chunk.own 22 1) hup)) .nil))))))⟩
   |exact⟨(k+1,false),⟨hk2,by simp only;rw[hde];rfl⟩,by simp only;omega,Le.mk [] (by simp) (by simp) (by simp) (.r (.r (.r (.r (.r .nil))))) (.cons rfl (.refl _) (.cons rfl (.refl _) (.cons rfl (.refl _) (.cons rfl (.refl _) (.cons rfl (.refl _) (.cons rfl (.of_eq (q5i (Chunk.own 22 1) hup)) .nil))))))⟩
   |exact⟨(k+1,false),⟨hk2,by simp only;rw[hde];rfl⟩,by simp only;omega,Le.mk [] (by simp) (by simp) (by simp) (.r (.r (.cons (.p (Sub.ff rfl)) (.r (.r .nil))))) (.cons rfl (.refl _) (.cons rfl (.refl _) (.cons rfl (.refl _) (.cons rfl (.refl _) (.cons rfl (.refl _) (.cons rfl (.of_eq (q5i (Chunk.own 22 1) hup)) .nil))))))⟩
theorem IK(h:k<p.procs.length)(h':k<(niB p D U O).length):(niB p D U O)[k]=UQ (Pb p k p.procs[k] D U (O.getD k [])):=by
 have h2:k<((List.range p.procs.length).map (niA p D U O)).length:=h';show((List.range p.procs.length).map (niA p D U O))[k]'h2=_;rw[List.getElem_map,List.getElem_range];unfold niA;rw[UT (q3b h)]
theorem IR:∀(k:Nat)(h:k<p.procs.length)(h':k<(rdI p D O I).length),(rdI p D O I)[k]=UQ (Pb p k p.procs[k] D (usB p I) (O.getD k [])):=fun _ h h'=>IK h h'
theorem Xk(p:Pg)(hf:Fit p):SpecP prog 48 [.agg p.cells] (fun r=>(XX p=true->r=.ip (QS p).cells)/\(XX p=false->r=.nilp)):=by
 refine sB Vc func48 rfl call48 ?_;conv=>whnf
 have hM:=Zk p hf;cases hc:XX p with
 | false=>
   rw[hc]at hM;repeat' (first|(refine cP hM ?_;conv=>whnf)|(apply bN<;>intro _<;>conv=>whnf))
   all_goals first
    |contradiction
    |exact⟨_,.p (Sub.refl _),fun h=>(by cases h),fun _=>rfl⟩
 | true =>
   rw[hc]at hM;obtain⟨hg,hpl,hcn⟩:=XS hc;have hpm:(p.procs.map fun f=>AV.agg f.cells).length=p.procs.length:=q3f _;have hFl:=KI p (by omega) (by omega);repeat' (first|(refine cP hM ?_;conv=>whnf)|(apply bN<;>intro _<;>conv=>whnf))
   all_goals try contradiction
   refine MH ⟨[(1,.p (.ip p.cells)),(3,.ptr 2 0)],[(3,Y0 p 0),(2,B6 p (.hd 3 0 0) (.p .nils) (.p .nils) p.procs.length),(1,UF (List.replicate p.procs.length [])),(0,UF (List.replicate p.procs.length []))]⟩ ?_ ?_
   ·refine DrawK.of QY mixed (.cons 0 false (.cons 2 false (.cons 3 false (.cons 4 false (.cons 6 false (.cons 7 false (.cons 8 false (.fork3 1 (.fork 5 (.cons 9 true (.cons 10 true (.cons 11 true (.cons 12 true .nil)))) 9 (.cons 5 true (.cons 10 true (.cons 11 true (.cons 12 true .nil))))) 5 (.fork 1 (.cons 9 true (.cons 10 true (.cons 11 true (.cons 12 true .nil)))) 9 (.cons 1 true (.cons 10 true (.cons 11 true (.cons 12 true .nil))))) 9 (.fork 1 (.cons 5 true (.cons 10 true (.cons 11 true (.cons 12 true .nil)))) 5 (.cons 1 true (.cons 10 true (.cons 11 true (.cons 12 true .nil))))))))))))) (by kernel_rfl) ?_;conv=>whnf
    repeat' (first|((first|(refine iM fun _=>?_)|refine q3l rfl ?_|refine aR ?_|refine cP hFl ?_|refine MkK.mk p.procs.length (by rw[hpm]) (by show 24*_<=140737488355328;omega) (by unfold maxLen;omega) ?_);conv=>whnf)|(refine q3l ?_ ?_<;>conv=>whnf))
    all_goals first
     |exact IJ
     |exact ON
   conv=>whnf
   repeat' (refine iM fun _=>?_;conv=>whnf)
   have hnW:(wysB p).length=p.procs.length:=by unfold wysB;rw[q3f,q7q]
   refine LoopK.inv QY (fun k:Nat=>⟨[(1,.p (.ip p.cells)),(3,.ptr 2 0),(32,.p (.int .i64 (p.procs.map fun f=>AV.agg f.cells).length)),(33,.p (.int .i64 k))],[(3,Y0 p k),(2,B6 p (.hd 3 0 k) (.p .nils) (.p .nils) p.procs.length),(1,UF (List.replicate p.procs.length [])),(0,UF (List.replicate p.procs.length []))]⟩) (fun k=>k<=p.procs.length) (fun k=>p.procs.length-k) 0 (Le.of_eq rfl) (q3o _) ?_;intro k hk;rcases q4w k p.procs.length with hk2|hk2
   ·have hkj:p.procs[k]?=some p.procs[k]:=by simp
    obtain⟨w1,w2,w3⟩:=BU hc hkj;have hWn:=EM p k p.procs[k] hkj (by omega) w1 w3;have hwl:(((wysB p).take k).map fun w=>AV.ip w.cells).length=k:=by rw[q3f,q4l,hnW];omega
    have hst:Y0 p (k+1)=.own 115 1 ((((wysB p).take k).map fun w=>AV.ip w.cells)++[.ip (QQ p k p.procs[k]).cells]):=by
     unfold Y0;rw[q4y (by rw[hnW];exact hk2),q4z];have e:(wysB p)[k]'(by rw[hnW];exact hk2)=QQ p k p.procs[k]:=by
      have h1:=Bs hk2;rw[q3b (by rw[hnW];exact hk2),UT hkj]at h1;exact q7c h1
     rw[e];rfl
    conv=>whnf
    repeat' (first|((first|refine dA ?_|refine q3l rfl ?_|refine aD ?_|refine bP ?_|refine wI ?_|refine cP hWn ?_|refine q6g hwl.symm rfl (by show(k+1)*8<=140737488355328;omega) (by show k+1<=9223372036854775807;omega) (fun x hx=>by rcases q3r.1 hx with rfl;exact⟨rfl,rfl⟩) ?_);conv=>whnf)|(apply bD<;>intro _<;>first|omega|conv=>whnf)|(refine q3l ?_ ?_<;>conv=>whnf))
    all_goals first
     |exact⟨k+1,hk2,by omega,Le.of_eq (by rw[hst];rfl)⟩
   ·obtain rfl:k=p.procs.length:=by omega
    conv=>whnf
    repeat' (apply bD<;>intro _<;>first|omega|conv=>whnf)
    refine LoopK.inv QY (fun x:Bool×List (List Str)×List (List Str)=>⟨[(1,.p (.ip p.cells)),(3,.ptr 2 0),(5,.p (.bool x.1))],[(4,UF x.2.1),(3,Y0 p p.procs.length),(2,B6 p (.hd 3 0 p.procs.length) (.hd 4 0 x.2.1.length) (.p .nils) p.procs.length),(1,UF x.2.2),(0,UF (List.replicate p.procs.length []))]⟩)
     (fun x=>(∃r,x.2.2=itO p r)/\(x.1=false->rdO p x.2.2=x.2.2/\x.2.1=dfB p x.2.2)) (fun x=>2*(400-tot x.2.2)+x.1.toNat) (true,[],List.replicate p.procs.length [])
     (Le.mk [(4,UF [])] (by simp[Chunk.new0,UF];rfl) (by simp) (by simp) (.r (.r (.cons (.p (Sub.tt rfl)) .nil))) (.new q3d (.cons rfl (.refl _) (.cons rfl (.obj (.r (.r (.cons (.nil q3d) (.r (.r (.r .nil))))))) (.cons rfl (.refl _) (.cons rfl (.refl _) .nil)))))) ⟨⟨0,rfl⟩,fun h=>by cases h⟩ ?_
    rintro⟨m,D,O⟩ ⟨⟨r,hr⟩,hm⟩;simp only at hr hm⊢;have hO:=W2 p r;rw[<-hr]at hO;cases m with
    | false =>
      obtain⟨hf1,hf2⟩:=hm rfl;conv=>whnf
      repeat' (refine Br.ff ?_;conv=>whnf)
      subst hf2;have hfixO:=hf1;clear hm hf1;have hDl:=Dm p O;have hd:∀d∈dfB p O,d.Pairwise ltT/\d.length<=1000000000:=fun d hd=>by
       obtain⟨it,hi,rfl⟩:=q3s.1 hd;have h1:=Wl (HV (bkO p O) it.s);have h2:=J5 hc hO (t:=it.s) (by rw[<-GK];exact q3s.2 ⟨_,hi,rfl⟩);exact⟨YZ _,by omega⟩
      have hOn:=hO.len;obtain⟨D,hD⟩ : ∃D,dfB p O=D:=⟨_,rfl⟩;rw[hD]at hDl hd⊢;have hBk:∀I,(∃r,I=itI p D O r)->rdI p D O I=I->QS p=⟨sheetOf p,wysB p,D,usB p I,I,O⟩:=fun I h1 h2=>by
       have hB:BookR p ⟨sheetOf p,wysB p,D,usB p I,I,O⟩:=⟨rfl,rfl,⟨r,hr⟩,hfixO,hD.symm,h1,h2,rfl⟩;exact hB.eq.symm
      refine LoopK.inv QY (fun x:Bool×List (List Str)×List (List Str)=>⟨[(1,.p (.ip p.cells)),(3,.ptr 2 0),(10,.p (.bool x.1))],[(5,UF x.2.1),(4,UF D),(3,Y0 p p.procs.length),(2,B6 p (.hd 3 0 p.procs.length) (.hd 4 0 D.length) (.hd 5 0 x.2.1.length) p.procs.length),(1,UF O),(0,UF x.2.2)]⟩)
       (fun x=>(∃r,x.2.2=itI p D O r)/\(x.1=false->rdI p D O x.2.2=x.2.2/\x.2.1=usB p x.2.2)) (fun x=>2*(400-tot x.2.2)+x.1.toNat) (true,[],List.replicate p.procs.length [])
       (Le.mk [(5,UF [])] (by simp[Chunk.new0,UF];rfl) (by simp) (by simp) (.r (.r (.cons (.p (Sub.tt rfl)) .nil))) (.new q3d (.cons rfl (.refl _) (.cons rfl (.refl _) (.cons rfl (.obj (.r (.r (.r (.cons (.nil q3d) (.r (.r .nil))))))) (.cons rfl (.refl _) (.cons rfl (.refl _) .nil))))))) ⟨⟨0,rfl⟩,fun h=>by cases h⟩ ?_
      rintro⟨m,U,I⟩ ⟨⟨q,hq⟩,hm⟩;simp only at hq hm⊢;have hI:=W1 p D O q;rw[<-hq]at hI;have hOl:p.procs.length=(O.map eStrs).length:=by rw[q3f,hO.len]
      have hKD:D.length=(D.map eStrs).length:=by rw[q3f]
      cases m with
      | false=>
        obtain⟨hf1,rfl⟩:=hm rfl;have hbk:=hBk I ⟨q,hq⟩ hf1;have hIl:p.procs.length=(I.map eStrs).length:=by rw[q3f,hI.len]
        have hKU:(usB p I).length=((usB p I).map eStrs).length:=by rw[q3f]
        conv=>whnf
        repeat' (refine Br.ff ?_;conv=>whnf)
        all_goals first
         |exact⟨_,Ic rfl (.hd (q5i some NT) MG) (.hd rfl hKD) (.hd rfl hKU) (.hd rfl hIl) (.hd rfl hOl),fun _=>by rw[hbk],fun h=>by cases h⟩
      | true=>
        have hLl:((sheetOf p).l.map fun i=>AV.agg i.cells).length=(sheetOf p).l.length:=q3f _;obtain⟨_,_,_,hsl,_⟩:=QU p;have hUl:(usB p I).length=(sheetOf p).l.length:=q3f _;have hIl:p.procs.length=(I.map eStrs).length:=by rw[q3f,hI.len]
        conv=>whnf
        repeat' ((first|(refine iM fun _=>?_)|refine q3l rfl ?_|refine Br.tt ?_);conv=>whnf)
        refine LoopK.inv QY (fun k:Nat=>⟨[(1,.p (.ip p.cells)),(3,.ptr 2 0),(10,.p .ff),(124,.p (VH (sheetOf p).l)),(125,.p (.int .i64 ((sheetOf p).l.map fun i=>AV.agg i.cells).length)),(126,.p (.int .i64 k))],[(5,UF ((usB p I).take k)),(4,UF D),(3,Y0 p p.procs.length),(2,B6 p (.hd 3 0 p.procs.length) (.hd 4 0 D.length) (.hd 5 0 k) p.procs.length),(1,UF O),(0,UF I)]⟩) (fun k=>k<=(sheetOf p).l.length) (fun k=>(sheetOf p).l.length-k) 0
         (Le.trans (s':=⟨[(1,.p (.ip p.cells)),(3,.ptr 2 0),(10,.p .ff),(124,.p (VH (sheetOf p).l)),(125,.p (.int .i64 ((sheetOf p).l.map fun i=>AV.agg i.cells).length)),(126,.p (.int .i64 (0:Nat)))],[(4,UF D),(3,Y0 p p.procs.length),(2,B6 p (.hd 3 0 p.procs.length) (.hd 4 0 D.length) (.p .nils) p.procs.length),(1,UF O),(0,UF I)]⟩) (lE) (Le.mk [(5,UF [])] (by simp[Chunk.new0,UF];rfl) (by simp) (by simp) (.r (.r (.r (.r (.r (.r .nil)))))) (.new q3d (.cons rfl (.refl _) (.cons rfl (.refl _) (.cons rfl (.obj (.r (.r (.r (.cons (.nil q3d) (.r (.r .nil))))))) (.cons rfl (.refl _) (.cons rfl (.refl _) .nil)))))))) (q3o _) ?_
        intro k hk;rcases q4w k (sheetOf p).l.length with hk2|hk2;rotate_left 1
        ·obtain rfl:k=(sheetOf p).l.length:=by omega
         have hWl:(rdI p D O I).length=I.length:=by rw[hI.len];unfold rdI niB;rw[q3f,q7q]
         have hIn:=hI.len;rw[show(usB p I).take (sheetOf p).l.length=usB p I from q4g (by omega)];have hu:∀d∈usB p I,d.Pairwise ltT/\d.length<=1000000000:=fun d hd=>by
          obtain⟨it,hi,rfl⟩:=q3s.1 hd;have h1:=Wl (Q5 (bkI p I) it.s);have h2:=Nt hc hI (t:=it.s) (by rw[<-GK];exact q3s.2 ⟨_,hi,rfl⟩);exact⟨YZ _,by omega⟩
         conv=>whnf
         repeat' (first|(refine iM fun _=>?_;conv=>whnf)|(apply bD<;>intro _<;>first|omega|conv=>whnf))
         have hW:rdI p D O I=itI p D O (q+1):=by rw[hq];rfl
         refine En hc hO hDl hUl hd hu hIn (hWl.trans hIn) IR fun m s hm1 hle=>?_;conv=>whnf
         refine⟨(m,usB p I,rdI p D O I),⟨⟨q+1,hW⟩,fun h=>?_⟩,?_,hle⟩
         ·simp only at h⊢;rw[h]at hm1;have h1:rdI p D O I=I:=by simpa using hm1
          rw[h1];exact⟨h1,rfl⟩
         ·simp only;have hOW:tot (rdI p D O I)<=400:=(Aa p D (usB p I) O).tot hc;cases m with
          | true=>
            have h1:rdI p D O I≠I:=by simpa using hm1
            have h2:=Pl hc (D:=D) (O:=O) (k:=q) (by rw[<-hW,<-hq];exact h1);rw[<-hW,<-hq]at h2;simp only[q8v];omega
          | false=>
            have h1:rdI p D O I=I:=by simpa using hm1
            rw[h1];simp only[q8v,Bool.toNat_false];omega
        have hmem:(sheetOf p).l[k].s∈YP p:=by rw[<-GK];exact q3s.2 ⟨_,q4u hk2,rfl⟩
        have hKl:k=(((usB p I).take k).map eStrs).length:=by rw[q3f,q4l];omega
        have hd0:=Vp ⟨sheetOf p,wysB p,D,(usB p I).take k,I,O⟩ (sheetOf p).l[k].s (fun h4=>hI.use hc rfl rfl hmem h4);rw[Sd (p:=p) (I:=I) rfl rfl]at hd0;have hd1:SpecH prog 90 ([AV.ip (Book.cells ⟨sheetOf p,wysB p,D,(usB p I).take k,I,O⟩),.agg (sheetOf p).l[k].s.cells].map .p) [] (OneRow (Yx (Q5 (bkI p I) (sheetOf p).l[k].s)) (Q5 (bkI p I) (sheetOf p).l[k].s=[])):=hd0;have hdl:=Nt hc hI hmem;have hst:=F9 (L:=usB p I) (k:=k) (by omega) (o:=UQ (Q5 (bkI p I) (sheetOf p).l[k].s)) (by unfold usB;rw[List.getElem_map]);generalize hds:Q5 (bkI p I) (sheetOf p).l[k].s=ds at*
        clear hd0;conv=>whnf
        repeat' (first|((first|refine dA ?_|refine q3l rfl ?_|refine aD ?_|refine bP ?_|(refine iA fun _=>?_)|refine wI ?_|refine q6g hKl rfl (by show(k+1)*24<=140737488355328;omega) (by show k+1<=9223372036854775807;omega) (fun x hx=>by rcases q3r.1 hx with rfl;exact⟨rfl,rfl⟩) ?_);conv=>whnf)|(apply bD<;>intro _<;>first|omega|conv=>whnf)|(refine Cy 6 rfl hd1 (.cons (Ic rfl (.hd (q5i some NT) MG) (.hd rfl hKD) (.hd rfl hKl) (.hd rfl hIl) (.hd rfl hOl)) (.cons (.p (Sub.refl _)) .nil)) (fun hnil=>?_) ?_<;>conv=>whnf)|(refine CallK.nil 6 9 1 rfl (.row .nil) ?_;refine CallK.heap [(1000,6)] 0 (q3i (q3e _) q4d) (by refine q3h (j:=6) rfl rfl ?_ ?_;exact CSub.refl _;exact q4b) (YW [] (by simp)) rfl rfl ?_;rintro l' H' ⟨rfl,rfl⟩;conv=>whnf)|(refine CallK.heap [(1000,6)] 0 (q3i (q3e _) q4d) (by refine q3h (j:=6) rfl rfl ?_ ?_;exact CSub.refl _;exact q4b) (YW ds (by omega)) rfl rfl ?_;rintro l' H' ⟨rfl,rfl⟩;conv=>whnf)|(refine q3l ?_ ?_<;>conv=>whnf))
        all_goals first
         |exact⟨k+1,hk2,by omega,Le.of_eq (by rw[hst,hnil];rfl)⟩
         |exact⟨k+1,hk2,by omega,Le.of_eq (by rw[hst];rfl)⟩
    | true =>
      have hLl:((sheetOf p).l.map fun i=>AV.agg i.cells).length=(sheetOf p).l.length:=q3f _;obtain⟨_,_,_,hsl,_⟩:=QU p;conv=>whnf
      repeat' ((first|(refine iM fun _=>?_)|refine q3l rfl ?_|refine Br.tt ?_);conv=>whnf)
      refine LoopK.inv QY (fun k:Nat=>⟨[(1,.p (.ip p.cells)),(3,.ptr 2 0),(5,.p .ff),(62,.p (VH (sheetOf p).l)),(63,.p (.int .i64 ((sheetOf p).l.map fun i=>AV.agg i.cells).length)),(64,.p (.int .i64 k))],[(4,UF ((dfB p O).take k)),(3,Y0 p p.procs.length),(2,B6 p (.hd 3 0 p.procs.length) (.hd 4 0 k) (.p .nils) p.procs.length),(1,UF O),(0,UF (List.replicate p.procs.length []))]⟩) (fun k=>k<=(sheetOf p).l.length) (fun k=>(sheetOf p).l.length-k) 0
       (Le.trans (s':=⟨[(1,.p (.ip p.cells)),(3,.ptr 2 0),(5,.p .ff),(62,.p (VH (sheetOf p).l)),(63,.p (.int .i64 ((sheetOf p).l.map fun i=>AV.agg i.cells).length)),(64,.p (.int .i64 (0:Nat)))],[(3,Y0 p p.procs.length),(2,B6 p (.hd 3 0 p.procs.length) (.p .nils) (.p .nils) p.procs.length),(1,UF O),(0,UF (List.replicate p.procs.length []))]⟩) (lE) (Le.mk [(4,UF [])] (by simp[Chunk.new0,UF];rfl) (by simp) (by simp) (.r (.r (.r (.r (.r (.r .nil)))))) (.new q3d (.cons rfl (.refl _) (.cons rfl (.obj (.r (.r (.cons (.nil q3d) (.r (.r (.r .nil))))))) (.cons rfl (.refl _) (.cons rfl (.refl _) .nil))))))) (q3o _) ?_
      intro k hk;rcases q4w k (sheetOf p).l.length with hk2|hk2;rotate_left 1
      ·obtain rfl:k=(sheetOf p).l.length:=by omega
       have hDl:=Dm p O;have hWl:(rdO p O).length=O.length:=by rw[hO.len];unfold rdO otB;rw[q3f,q7q]
       have hOn:=hO.len;rw[show(dfB p O).take (sheetOf p).l.length=dfB p O from q4g (by omega)];have hd:∀d∈dfB p O,d.length<=1000:=fun d hd=>by
        obtain⟨it,hi,rfl⟩:=q3s.1 hd;have h1:=Wl (HV (bkO p O) it.s);have h2:=J5 hc hO (t:=it.s) (by rw[<-GK];exact q3s.2 ⟨_,hi,rfl⟩);omega
       conv=>whnf
       repeat' (first|(refine iM fun _=>?_;conv=>whnf)|(apply bD<;>intro _<;>first|omega|conv=>whnf))
       refine LoopK.inv QY (fun x:Nat×Bool=>⟨[(1,.p (.ip p.cells)),(3,.ptr 2 0),(5,.p (.bool x.2)),(85,.p (.int .i64 (p.procs.map fun f=>AV.agg f.cells).length)),(86,.p (.int .i64 x.1))],[(4,UF (dfB p O)),(3,Y0 p p.procs.length),(2,B6 p (.hd 3 0 p.procs.length) (.hd 4 0 (sheetOf p).l.length) (.p .nils) p.procs.length),(1,UF ((rdO p O).take x.1++O.drop x.1)),(0,UF (List.replicate p.procs.length []))]⟩)
        (fun x=>x.1<=p.procs.length/\x.2 = !decide ((rdO p O).take x.1=O.take x.1)) (fun x=>p.procs.length-x.1) (0,false)
        (Le.mk [] (by simp) (by simp) (by simp) (.r (.r (.cons (.p (Sub.ff rfl)) (.r (.r .nil))))) (.cons rfl (.refl _) (.cons rfl (.refl _) (.cons rfl (.refl _) (.cons rfl (.refl _) (.cons rfl (.refl _) .nil)))))) ⟨q3o _,rfl⟩ ?_
       rintro⟨k,m⟩ ⟨hk1,hm1⟩;simp only at hk1 hm1⊢;rcases q4w k p.procs.length with hk2|hk2;rotate_left 1
       ·obtain rfl:k=p.procs.length:=by omega
        rw[q4g (by omega),q4g (by omega)]at hm1;rw[q4g (by omega),q4j (by omega),q5c];have hW:rdO p O=itO p (r+1):=by rw[hr];rfl
        conv=>whnf
        repeat' (apply bD<;>intro _<;>first|omega|conv=>whnf)
        refine⟨(m,dfB p O,rdO p O),⟨⟨r+1,hW⟩,fun h=>?_⟩,?_,Le.mk [] (by simp) (by simp) (by simp) (.r (.r (.r .nil))) (.cons rfl (.refl _) (.cons rfl (.refl _) (.cons rfl (.of_eq (by rw[hDl])) (.cons rfl (.refl _) (.cons rfl (.refl _) .nil)))))⟩
        ·simp only at h⊢;rw[h]at hm1;have h1:rdO p O=O:=by simpa using hm1
         rw[h1];exact⟨h1,rfl⟩
        ·simp only;have hOW:=(Ai p (dfB p O)).tot hc;have hOW:tot (rdO p O)<=400:=hOW;cases m with
         | true=>
           have h1:rdO p O≠O:=by simpa using hm1
           have h2:=Pt (p:=p) (k:=r) (by rw[<-hW,<-hr];exact h1);rw[<-hW,<-hr]at h2;simp only[q8v];omega
         | false=>
           have h1:rdO p O=O:=by simpa using hm1
           rw[h1];simp only[q8v,Bool.toNat_false];omega
       have hkj:p.procs[k]?=some p.procs[k]:=by simp
       have hpk:=UT hkj;have hWk:wysB p=(wysB p):=rfl;have hout:=Vb ⟨sheetOf p,wysB p,dfB p O,[],List.replicate p.procs.length [],(rdO p O).take k++O.drop k⟩ p rfl hc k p.procs[k] hkj (by show(wysB p)[k]?=_;rw[Bs hk2,hpk]) hDl hd;have hrow:(rdO p O)[k]'(by omega)=UQ (Fe p k p.procs[k] (dfB p O) (itsOf p k p.procs[k])):=by
        unfold rdO otB;rw[List.getElem_map,List.getElem_range];unfold otA;rw[hpk]
       have hol:(Fe p k p.procs[k] (dfB p O) (itsOf p k p.procs[k])).length<=1000000000:=by
        have h1:=N4 (p:=p) (i:=k) (f:=p.procs[k]) hd (itsOf p k p.procs[k]);have h2:(itsOf p k p.procs[k]).length<=200:=by
         obtain⟨_,_,_,_,hsp⟩:=QU p;obtain⟨_,_,h3,h4⟩:=hsp k _ hkj;have h5:=q5i List.length h4;rw[q6u,q4l]at h5;have e1:itL (k:Nat) 0 (-1) 0 (QL p.procs k) p.procs[k].body=itsOf p k p.procs[k]:=rfl;rw[e1]at h5;omega
        have h3:(itsOf p k p.procs[k]).length*1000<=200*1000:=q5j _ h2;omega
       have hout1:SpecH prog 88 ([AV.ip (Book.cells ⟨sheetOf p,wysB p,dfB p O,[],List.replicate p.procs.length [],(rdO p O).take k++O.drop k⟩),.int .i64 k].map .p) [] (OneRow (Yx (Fe p k p.procs[k] (dfB p O) (itsOf p k p.procs[k]))) False):=hout;have hup:=Sh (W:=rdO p O) (O:=O) (k:=k) (by omega) hWl;have hat:=AG (W:=rdO p O) (O:=O) (k:=k) (by omega) hWl;have hln:=Sg (W:=rdO p O) (O:=O) (k:=k) (by omega) hWl;have hde:=AH (W:=rdO p O) (O:=O) (k:=k) (by omega) (by omega);have hEq:=ZA ((rdO p O)[k]'(by omega)) (O[k]'(by omega));rw[hrow]at hEq hup hde;have hKl:(sheetOf p).l.length=((dfB p O).map eStrs).length:=by rw[q3f];omega
       have hOl:p.procs.length=(((rdO p O).take k++O.drop k).map eStrs).length:=by rw[hln];omega
       have hIl:p.procs.length=((List.replicate p.procs.length ([]:List Str)).map eStrs).length:=by rw[q3f,q5d]
       clear hout hrow;generalize Fe p k p.procs[k] (dfB p O) (itsOf p k p.procs[k])=ol at*
       generalize hdq:decide (UQ ol=O[k])=dq at hEq hde;have hdk:decide ((rdO p O).take k=O.take k) = !m:=by rw[hm1,Bool.not_not]
       rw[hdk]at hde;cases m<;>cases dq;all_goals
        conv=>whnf
        repeat' (first|((first|refine q3l rfl ?_|refine wI ?_|refine q5z k rfl (by omega) ?_|refine q5f k 0 (eStrs O[k]) (by omega) hat ?_|refine cP hEq ?_|refine q7z k 0 (eStrs O[k]) (eStrs (UQ ol)) (by omega) hat (q4h 1) rfl ?_);conv=>whnf)|(apply bD<;>intro _<;>first|omega|conv=>whnf)|(apply bB<;>intro _<;>conv=>whnf)|(refine Cy 5 rfl hout1 (.cons (Ic rfl (.hd (q5i some NT) MG) (.hd rfl hKl) (.p Sub.nils) (.hd rfl hIl) (.hd rfl hOl)) (.cons (.p (Sub.refl _)) .nil)) (fun hnil=>hnil.elim) ?_;conv=>whnf)|(refine CallK.heap [(1000,5)] 0 (q3i (q3e _) q4d) (by refine q3h (j:=5) rfl rfl ?_ ?_;exact CSub.refl _;exact q4b) (YW ol hol) rfl rfl ?_;rintro l' H' ⟨rfl,rfl⟩;conv=>whnf))
       all_goals first
        |exact absurd (show false=true by assumption) (by decide)
        |exact absurd (show true=false by assumption) (by decide)
        |exact⟨(k+1,true),⟨hk2,by simp only;rw[hde];rfl⟩,by simp only;omega,Le.mk [] (by simp) (by simp) (by simp) (.r (.r (.cons (.p (Sub.tt rfl)) (.r (.r .nil))))) (.cons rfl (.refl _) (.cons rfl (.refl _) (.cons rfl (.refl _) (.cons rfl (.of_eq (q5i (Chunk.own 22 1) hup)) (.cons rfl (.refl _) .nil)))))⟩
        |exact⟨(k+1,true),⟨hk2,by simp only;rw[hde];rfl⟩,by simp only;omega,Le.mk [] (by simp) (by simp) (by simp) (.r (.r (.r (.r (.r .nil))))) (.cons rfl (.refl _) (.cons rfl (.refl _) (.cons rfl (.refl _) (.cons rfl (.of_eq (q5i (Chunk.own 22 1) hup)) (.cons rfl (.refl _) .nil)))))⟩
        |exact⟨(k+1,false),⟨hk2,by simp only;rw[hde];rfl⟩,by simp only;omega,Le.mk [] (by simp) (by simp) (by simp) (.r (.r (.r (.r (.r .nil))))) (.cons rfl (.refl _) (.cons rfl (.refl _) (.cons rfl (.refl _) (.cons rfl (.of_eq (q5i (Chunk.own 22 1) hup)) (.cons rfl (.refl _) .nil)))))⟩
        |exact⟨(k+1,false),⟨hk2,by simp only;rw[hde];rfl⟩,by simp only;omega,Le.mk [] (by simp) (by simp) (by simp) (.r (.r (.cons (.p (Sub.ff rfl)) (.r (.r .nil))))) (.cons rfl (.refl _) (.cons rfl (.refl _) (.cons rfl (.refl _) (.cons rfl (.of_eq (q5i (Chunk.own 22 1) hup)) (.cons rfl (.refl _) .nil)))))⟩
      have hmem:(sheetOf p).l[k].s∈YP p:=by rw[<-GK];exact q3s.2 ⟨_,q4u hk2,rfl⟩
      have hDl:=Dm p O;have hKl:k=(((dfB p O).take k).map eStrs).length:=by rw[q3f,q4l];omega
      have hOl:p.procs.length=(O.map eStrs).length:=by rw[q3f,hO.len]
      have hIl:p.procs.length=((List.replicate p.procs.length ([]:List Str)).map eStrs).length:=by rw[q3f,q5d]
      have hd0:=Vd ⟨sheetOf p,wysB p,(dfB p O).take k,[],List.replicate p.procs.length [],O⟩ (sheetOf p).l[k].s (fun h4=>hO.call hc rfl rfl hmem h4);rw[Ro rfl rfl]at hd0;have hd1:SpecH prog 87 ([AV.ip (Book.cells ⟨sheetOf p,wysB p,(dfB p O).take k,[],List.replicate p.procs.length [],O⟩),.agg (sheetOf p).l[k].s.cells].map .p) [] (OneRow (Yx (HV (bkO p O) (sheetOf p).l[k].s)) (HV (bkO p O) (sheetOf p).l[k].s=[])):=hd0;have hdl:=J5 hc hO hmem;have hst:=F9 (L:=dfB p O) (k:=k) (by omega) (o:=UQ (HV (bkO p O) (sheetOf p).l[k].s)) (by unfold dfB;rw[List.getElem_map]);generalize hds:HV (bkO p O) (sheetOf p).l[k].s=ds at*
      clear hd0;conv=>whnf
      repeat' (first|((first|refine dA ?_|refine q3l rfl ?_|refine aD ?_|refine bP ?_|(refine iA fun _=>?_)|refine wI ?_|refine q6g hKl rfl (by show(k+1)*24<=140737488355328;omega) (by show k+1<=9223372036854775807;omega) (fun x hx=>by rcases q3r.1 hx with rfl;exact⟨rfl,rfl⟩) ?_);conv=>whnf)|(apply bD<;>intro _<;>first|omega|conv=>whnf)|(refine Cy 5 rfl hd1 (.cons (Ic rfl (.hd (q5i some NT) MG) (.hd rfl hKl) (.p Sub.nils) (.hd rfl hIl) (.hd rfl hOl)) (.cons (.p (Sub.refl _)) .nil)) (fun hnil=>?_) ?_<;>conv=>whnf)|(refine CallK.nil 5 9 1 rfl (.row .nil) ?_;refine CallK.heap [(1000,5)] 0 (q3i (q3e _) q4d) (by refine q3h (j:=5) rfl rfl ?_ ?_;exact CSub.refl _;exact q4b) (YW [] (by simp)) rfl rfl ?_;rintro l' H' ⟨rfl,rfl⟩;conv=>whnf)|(refine CallK.heap [(1000,5)] 0 (q3i (q3e _) q4d) (by refine q3h (j:=5) rfl rfl ?_ ?_;exact CSub.refl _;exact q4b) (YW ds (by omega)) rfl rfl ?_;rintro l' H' ⟨rfl,rfl⟩;conv=>whnf)|(refine q3l ?_ ?_<;>conv=>whnf))
      all_goals first
       |exact⟨k+1,hk2,by omega,Le.of_eq (by rw[hst,hnil];rfl)⟩
       |exact⟨k+1,hk2,by omega,Le.of_eq (by rw[hst];rfl)⟩
def Wn(p:Pg)(n:Str):Int:=idxF (fun f=>f.name==n) p.procs
noncomputable def BM(p:Pg)(n:Str):List Str:=if XX p=true/\0<=Wn p n then(QS p).outs.getD (Wn p n).toNat []else []
noncomputable def C5(p:Pg)(n:Str):List Str:=if XX p=true/\0<=Wn p n then(QS p).ins.getD (Wn p n).toNat []else []
noncomputable def Dn(p:Pg)(id:Int):List Str:=if XX p=true/\1<=id/\id<=(sheetOf p).l.length then(QS p).defs.getD (id-1).toNat []else []
noncomputable def Bn(p:Pg)(id:Int):List Str:=if XX p=true/\1<=id/\id<=(sheetOf p).l.length then(QS p).uses.getD (id-1).toNat []else []
theorem TV{n:Str}(h:0<=Wn p n):(Wn p n).toNat<p.procs.length:=by
 unfold Wn idxF at h⊢;cases hq:p.procs.any fun f=>f.name==n with
 | true=>
   rw[q4v];obtain⟨x,h1,h2⟩:=q5l.1 hq;have:=List.findIdx_lt_length_of_exists (p:=fun f:Pr=>f.name==n) ⟨x,h1,h2⟩;simpa using this
 | false=>
   rw[hq,q4f]at h;omega
theorem K4(h:k<O.length):(O.map eStrs)[k]?=some (eStrs (O.getD k [])):=by
 rw[q4x,q3p,q3b h];rfl
theorem Uk(p:Pg)(hf:Fit p)(n:Str):SpecP prog 21 [.agg p.cells,.str n] (fun r=>r=eStrs (BM p n)):=by
 refine sB G3 func21 rfl call21 ?_;conv=>whnf
 have hB:=Xk p hf;cases hc:XX p with
 | false=>
   have e:BM p n=[]:=by unfold BM;rw[if_neg (by rw[hc];simp)]
   rw[e];have hB2:=hB.mono (R':=fun r=>r=.nilp) fun r hr=>hr.2 hc;repeat' (refine cP hB2 ?_;conv=>whnf)
   all_goals first
    |contradiction
    |exact⟨_,.p Sub.nils,rfl⟩
 | true=>
   have hB2:=hB.mono (R':=fun r=>r=.ip (QS p).cells) fun r hr=>hr.1 hc;have hR:=ME hc;have hO:=(Rb hc).1.len;have hs:(QS p).s.p=p:=by rw[hR.s];exact(QU p).1
   have hPr:=XN (QS p).s n;rw[hs]at hPr;have hPr2:SpecP prog 49 [.ip (QS p).s.cells,.str n] (fun r=>r=.int .i64 (Wn p n)):=hPr;have hlt:=fun h=>TV (p:=p) (n:=n) h;have hg:=fun h=>K4 (O:=(QS p).outs) (k:=(Wn p n).toNat) (by rw[hO];exact hlt h);have e:BM p n=if 0<=Wn p n then(QS p).outs.getD (Wn p n).toNat []else []:=by
    unfold BM;by_cases h0:0<=Wn p n
    ·rw[if_pos ⟨hc,h0⟩,if_pos h0]
    ·rw[if_neg (fun h=>h0 h.2),if_neg h0]
   rw[e];generalize Wn p n=i at*
   generalize QS p=b at*
   by_cases h0:0<=i
   ·rw[if_pos h0];have hg:=hg h0;repeat' (first|((first|refine dA ?_|refine cP hB2 ?_|refine cP hPr2 ?_|(refine IdxK.at (k:=i.toNat) (by omega) hg rfl ?_));conv=>whnf)|(apply bD<;>intro _<;>first|omega|conv=>whnf))
    all_goals first
     |contradiction
     |exact RetK.p rfl
     |exact⟨_,.p (Sub.refl _),rfl⟩
   ·rw[if_neg h0];repeat' (first|((first|refine cP hB2 ?_|refine cP hPr2 ?_);conv=>whnf)|(apply bD<;>intro _<;>first|omega|conv=>whnf))
    all_goals first
     |contradiction
     |exact⟨_,.p Sub.nils,rfl⟩
theorem T2(p:Pg)(hf:Fit p)(n:Str):SpecP prog 29 [.agg p.cells,.str n] (fun r=>r=eStrs (C5 p n)):=by
 refine sB D8 func29 rfl call29 ?_;conv=>whnf
 have hB:=Xk p hf;cases hc:XX p with
 | false=>
   have e:C5 p n=[]:=by unfold C5;rw[if_neg (by rw[hc];simp)]
   rw[e];have hB2:=hB.mono (R':=fun r=>r=.nilp) fun r hr=>hr.2 hc;repeat' (refine cP hB2 ?_;conv=>whnf)
   all_goals first
    |contradiction
    |exact⟨_,.p Sub.nils,rfl⟩
 | true=>
   have hB2:=hB.mono (R':=fun r=>r=.ip (QS p).cells) fun r hr=>hr.1 hc;have hR:=ME hc;have hO:=(Rb hc).2.len;have hs:(QS p).s.p=p:=by rw[hR.s];exact(QU p).1
   have hPr:=XN (QS p).s n;rw[hs]at hPr;have hPr2:SpecP prog 49 [.ip (QS p).s.cells,.str n] (fun r=>r=.int .i64 (Wn p n)):=hPr;have hlt:=fun h=>TV (p:=p) (n:=n) h;have hg:=fun h=>K4 (O:=(QS p).ins) (k:=(Wn p n).toNat) (by rw[hO];exact hlt h);have e:C5 p n=if 0<=Wn p n then(QS p).ins.getD (Wn p n).toNat []else []:=by
    unfold C5;by_cases h0:0<=Wn p n
    ·rw[if_pos ⟨hc,h0⟩,if_pos h0]
    ·rw[if_neg (fun h=>h0 h.2),if_neg h0]
   rw[e];generalize Wn p n=i at*
   generalize QS p=b at*
   by_cases h0:0<=i
   ·rw[if_pos h0];have hg:=hg h0;repeat' (first|((first|refine dA ?_|refine cP hB2 ?_|refine cP hPr2 ?_|(refine IdxK.at (k:=i.toNat) (by omega) hg rfl ?_));conv=>whnf)|(apply bD<;>intro _<;>first|omega|conv=>whnf))
    all_goals first
     |contradiction
     |exact RetK.p rfl
     |exact⟨_,.p (Sub.refl _),rfl⟩
   ·rw[if_neg h0];repeat' (first|((first|refine cP hB2 ?_|refine cP hPr2 ?_);conv=>whnf)|(apply bD<;>intro _<;>first|omega|conv=>whnf))
    all_goals first
     |contradiction
     |exact⟨_,.p Sub.nils,rfl⟩
theorem Ml(p:Pg)(hf:Fit p)(id:Int):SpecP prog 28 [.agg p.cells,.int .i64 id] (fun r=>r=eStrs (Dn p id)):=by
 refine sB G2 func28 rfl call28 ?_;conv=>whnf
 have hB:=Xk p hf;cases hc:XX p with
 | false=>
   have e:Dn p id=[]:=by unfold Dn;rw[if_neg (by rw[hc];simp)]
   rw[e];have hB2:=hB.mono (R':=fun r=>r=.nilp) fun r hr=>hr.2 hc;repeat' (refine cP hB2 ?_;conv=>whnf)
   all_goals first
    |contradiction
    |exact⟨_,.p Sub.nils,rfl⟩
 | true=>
   have hB2:=hB.mono (R':=fun r=>r=.ip (QS p).cells) fun r hr=>hr.1 hc;have hR:=ME hc;have hD:(QS p).defs.length=(sheetOf p).l.length:=by rw[hR.defs];exact q3f _
   have hcn:=(XS hc).2.2;obtain⟨_,_,_,hsl,_⟩:=QU p;have hH:SpecP prog 52 [.ip (QS p).s.cells,.int .i64 id] (fun r=>r=.bool (decide (1<=id)&&decide (id<=(sheetOf p).l.length))):=by
    have h1:=DF (QS p).s id;rw[show(QS p).s.l=(sheetOf p).l by rw[hR.s]]at h1;exact h1
   have hg:=fun h=>K4 (O:=(QS p).defs) (k:=(id-1).toNat) h;have e:Dn p id=if 1<=id/\id<=(sheetOf p).l.length then(QS p).defs.getD (id-1).toNat []else []:=by
    unfold Dn;by_cases h0:1<=id/\id<=(sheetOf p).l.length
    ·rw[if_pos ⟨hc,h0⟩,if_pos h0]
    ·rw[if_neg (fun h=>h0 h.2),if_neg h0]
   rw[e];generalize(sheetOf p).l.length=sl at*
   generalize QS p=b at*
   by_cases h0:1<=id/\id<=(sl:Int)
   ·rw[if_pos h0];rw[show(decide (1<=id)&&decide (id<=(sl:Int)))=true by simp[h0]]at hH;have hg:=hg (by omega);repeat' (first|((first|refine wI ?_|refine cP hB2 ?_|refine cP hH ?_|(refine IdxK.at (k:=(id-1).toNat) (by omega) hg rfl ?_));conv=>whnf)|(apply bN<;>intro _<;>conv=>whnf))
    all_goals first
     |contradiction
     |exact RetK.p rfl
     |exact⟨_,.p (Sub.refl _),rfl⟩
   ·rw[if_neg h0];rw[show(decide (1<=id)&&decide (id<=(sl:Int)))=false by rw[q8p,q6z,q6z];omega]at hH;repeat' (first|((first|refine cP hB2 ?_|refine cP hH ?_);conv=>whnf)|(apply bN<;>intro _<;>conv=>whnf))
    all_goals first
     |contradiction
     |exact⟨_,.p Sub.nils,rfl⟩
theorem Mr(p:Pg)(hf:Fit p)(id:Int):SpecP prog 25 [.agg p.cells,.int .i64 id] (fun r=>r=eStrs (Bn p id)):=by
 refine sB G4 func25 rfl call25 ?_;conv=>whnf
 have hB:=Xk p hf;cases hc:XX p with
 | false=>
   have e:Bn p id=[]:=by unfold Bn;rw[if_neg (by rw[hc];simp)]
   rw[e];have hB2:=hB.mono (R':=fun r=>r=.nilp) fun r hr=>hr.2 hc;repeat' (refine cP hB2 ?_;conv=>whnf)
   all_goals first
    |contradiction
    |exact⟨_,.p Sub.nils,rfl⟩
 | true=>
   have hB2:=hB.mono (R':=fun r=>r=.ip (QS p).cells) fun r hr=>hr.1 hc;have hR:=ME hc;have hD:(QS p).uses.length=(sheetOf p).l.length:=by rw[hR.uses];exact q3f _
   have hcn:=(XS hc).2.2;obtain⟨_,_,_,hsl,_⟩:=QU p;have hH:SpecP prog 52 [.ip (QS p).s.cells,.int .i64 id] (fun r=>r=.bool (decide (1<=id)&&decide (id<=(sheetOf p).l.length))):=by
    have h1:=DF (QS p).s id;rw[show(QS p).s.l=(sheetOf p).l by rw[hR.s]]at h1;exact h1
   have hg:=fun h=>K4 (O:=(QS p).uses) (k:=(id-1).toNat) h;have e:Bn p id=if 1<=id/\id<=(sheetOf p).l.length then(QS p).uses.getD (id-1).toNat []else []:=by
    unfold Bn;by_cases h0:1<=id/\id<=(sheetOf p).l.length
    ·rw[if_pos ⟨hc,h0⟩,if_pos h0]
    ·rw[if_neg (fun h=>h0 h.2),if_neg h0]
   rw[e];generalize(sheetOf p).l.length=sl at*
   generalize QS p=b at*
   by_cases h0:1<=id/\id<=(sl:Int)
   ·rw[if_pos h0];rw[show(decide (1<=id)&&decide (id<=(sl:Int)))=true by simp[h0]]at hH;have hg:=hg (by omega);repeat' (first|((first|refine wI ?_|refine cP hB2 ?_|refine cP hH ?_|(refine IdxK.at (k:=(id-1).toNat) (by omega) hg rfl ?_));conv=>whnf)|(apply bN<;>intro _<;>conv=>whnf))
    all_goals first
     |contradiction
     |exact RetK.p rfl
     |exact⟨_,.p (Sub.refl _),rfl⟩
   ·rw[if_neg h0];rw[show(decide (1<=id)&&decide (id<=(sl:Int)))=false by rw[q8p,q6z,q6z];omega]at hH;repeat' (first|((first|refine cP hB2 ?_|refine cP hH ?_);conv=>whnf)|(apply bN<;>intro _<;>conv=>whnf))
    all_goals first
     |contradiction
     |exact⟨_,.p Sub.nils,rfl⟩
section
variable {P:Program}{T:Tab}{N:Nat}{σ:Mem}{β:Lab}{a:Act}{w:World}{o:Oper}{K:St->Prop}{s:St}
theorem By(e:TypeId){sz n:Nat}{cs:List LV}{vs:Array Value}(hrun:(execOp a.eval o).run P w=.ok (.value (.slice (some ⟨w.heap.size,0,none⟩) n n)) (w.alloc (.cells vs e)))(hr:Rel N σ β s a w)(hc:RepC σ β cs vs.toList)(hf:∀k,ZE k s=true->LV.free.freeAll k cs=true)(h63:n<=maxLen)(h:JI 60 0 s fun k=>setD N s.sl o.dst (.hd k 0 n) fun sl=>K ⟨sl,(k,.obj e cs)::s.H⟩):Fa P N σ β a w s o K:=by
 intro Q;obtain⟨k,hk,h⟩:=VA h;have hc':=hc.set (k:=k) (some ⟨w.heap.size,n,sz,[],h63⟩) (hf k hk);have hchunk:(Chunk.obj e cs).holds σ (β.set k (some ⟨w.heap.size,n,sz,[],h63⟩)) (w.alloc (.cells vs e)) k:=
  ⟨⟨w.heap.size,n,sz,[],h63⟩,vs,by simp[Lab.set],heap_alloc_new w _,by simpa using hc.1,fun j l hj=>by
    obtain⟨u,h1,h2⟩:=hc'.2 j l hj;exact⟨u,by simpa using h1,h2⟩⟩
 obtain⟨hr',hl⟩:=hr.new hk rfl rfl hchunk;have hhd:=RepL.hd (σ:=σ) (β:=β.set k (some ⟨w.heap.size,n,sz,[],h63⟩)) k 0 n ⟨w.heap.size,n,sz,[],h63⟩ 0 (by simp[Lab.set]) (by simp) (.inl (by simp));simp only[Nat.sub_zero]at hhd;obtain⟨sl,hK,hr''⟩:=hr'.setD hhd h;exact WC hrun ⟨σ,_,_,hK,hr'',hl⟩
theorem Ge{k:Nat}{place:Nat->Option (Nat×Nat)}:∀{ps:List (Nat×LV)}{cells out:List LV},Vg place cells ps=some out->(∀l∈cells,l.free k=true)->(∀x∈ps,x.2.free k=true)->∀l∈out,l.free k=true
 | [],cells,out,h,hc,_=>by
   simp only[Vg,q6b]at h;subst h;exact hc
 | (i,v)::r,cells,out,h,hc,hp=>by
   simp only[Vg]at h;split at h
   ·cases h
   ·rename_i off size hpl;split at h
    ·cases h
    ·rename_i vs hvs;cases hb:(vs.length==size&&Nat.ble (off+size) cells.length)with
     |false=>rw[hb]at h;cases h
     | true=>
       rw[hb,q4v]at h;refine Ge h (fun l hl=>?_) fun x hx=>hp x (q3n _ hx);rcases q3a.1 hl with hl|hl
       ·rcases q3a.1 hl with hl|hl
        ·exact hc l (q8t hl)
        ·exact GX.1 (BW hvs (hp (i,v) q3d)) l hl
       ·exact hc l (List.mem_of_mem_drop hl)
theorem R8(hT:TabOK P T){t:TypeId}{n:Nat}{parts:Array (Nat×Operand)}(hop:o.op=.buildSlice t n parts){it:TyI}(ht:T.get t=some it){e:TypeId}(hd:it.desc=.slice e){ie:TyI}(hie:T.get e=some ie)(hsm:n*ie.size<=16777216)(hpos:0<ie.size){out:List LV}(hout:Vg (fun i=>some (i*ie.size,ie.size)) (List.replicate (n*ie.size) (.p .any)) (parts.toList.map fun x=>(x.1,QR s.sl x.2))=some out)(h:JI 60 0 s fun k=>setD N s.sl o.dst (.hd k 0 n) fun sl=>K ⟨sl,(k,.obj e out)::s.H⟩):OpK P N s o K:=by
 have hf:∀k,ZE k s=true->LV.free.freeAll k out=true:=fun k hk=>by
  refine GX.2 (Ge hout (fun l hl=>by rw[q6l hl];rfl) fun x hx=>?_);obtain⟨y,_,rfl⟩:=q3s.1 hx;exact LZ hk y.2
 refine⟨fun σ β a w hr=>?_⟩;have ht':=hT.of ht;rw[hd]at ht';have hok:=hT _ _ hie;have hrep:∀(j:Nat)(x:Nat×LV)(y:Nat×Value),(parts.toList.map fun x=>(x.1,QR s.sl x.2))[j]?=some x->(parts.toList.map fun x=>(x.1,a.eval x.2))[j]?=some y->RepL σ β x.2 y.2:=fun j x y hx hy=>by
  rw[q4x]at hx hy;cases hq:parts.toList[j]?with
  |none=>rw[hq]at hx;cases hx
  |some q=>rw[hq]at hx hy;cases hx;cases hy;exact QZ hr.slots _
 let zs:Array Value:=(Array.range (n*ie.size)).map (ie.zero.cells[· % ie.zero.cells.size]!);obtain⟨cs,hcs,hrc⟩:=PO (σ:=σ) (β:=β) (place:=fun i=>some (i*ie.size,ie.size)) (placeL:=fun i=>some (i*ie.size,ie.size)) (fun _ _ h=>h) _ (parts.toList.map fun x=>(x.1,a.eval x.2)) _ zs out (by simp) hrep (GB (n*ie.size) zs.toList (by simp[zs])) hout;have hrun:(execOp a.eval o).run P w=.ok (.value (.slice (some ⟨w.heap.size,0,none⟩) n n)) (w.alloc (.cells cs e)):=by
  have hcs':Instr.fill (fun i=>some (i*ie.size,ie.size)) zs ((parts.map fun(i,x)=>(i,a.eval x)).toList)=some cs:=by
   rw[<-hcs];congr 1;simp
  by_cases h0:n*ie.size=0
  ·have hz:zs=#[]:=by apply Array.eq_empty_of_size_eq_zero;simp[zs,h0]
   have hz':zs=(Array.range (n*ie.size)).map ((#[]:Array Value)[· % (#[]:Array Value).size]!):=by rw[hz,h0];simp[Array.range_zero']
   have:¬n*ie.size>16777216:=by omega
   rw[hz']at hcs';simp only[execOp,hop,Instr.buildSlice,Sem.run_bind,run_underlying ht',Result.andThen_ok,hok.sizeOf,Nat.reducePow,if_neg this,if_pos h0,Sem.run_pure,hcs',newRow,run_newObj];rfl
  ·have:¬n*ie.size>16777216:=by omega
   simp only[execOp,hop,Instr.buildSlice,Sem.run_bind,run_underlying ht',Result.andThen_ok,hok.sizeOf,Nat.reducePow,if_neg this,if_neg h0,hok.zeroValue,Sem.run_pure,zs]at hcs'⊢;simp only[hcs',Sem.run_bind,newRow,run_newObj,Result.andThen_ok,Sem.run_pure];rfl
 have h63:n<=maxLen:=by
  have:n*1<=n*ie.size:=Nat.mul_le_mul_left _ hpos;simp only[maxLen];omega
 exact By (sz:=ie.size) e hrun hr hrc hf h63 h
end
theorem Bc(n:Nat){es:List AV}{sz:Nat}{out:List LV}{Kp Ko:Prop}(hl:es.length=n)(hx:(es.all fun x=>x.cells.length==sz)=true)(ho:out=(es.flatMap AV.cells).map .p)(hK:Ko):BsK es sz out Kp Ko:=.own (fun x h=>by simpa using q5k.1 hx x h) ho hK
def rwS(id kind:Int)(name proc:Str)(x:List AV)(has args thn els:AV):AV:=.agg ([.int .i64 id,.int .i64 kind,.nils,.str name,.str proc]++x++[has,args,thn,els])
def x0:List AV:=[.int .i64 0,.int .i64 0,.str [],.nils]
def bd0:List AV:=[rwS 1 1 [118] [] (X.mk 1 2 [] []).cells .ff .nils .nils .nils,
 rwS 2 4 [103] [112] x0 .ff (.sl [.agg ([.ff,.str []]++(X.mk 1 3 [] []).cells),.agg ([.tt,.str [118]]++x0)]) .nils .nils,
 rwS 3 3 [] [] (X.mk 2 0 [118] []).cells .ff .nils .nils .nils,rwS 4 3 [] [] (X.mk 2 0 [103] []).cells .ff .nils .nils .nils]
def bd1:List AV:=[rwS 5 1 [121] [] (X.mk 8 0 [] [.mk 2 0 [121] [],.mk 2 0 [120] []]).cells .ff .nils .nils .nils,
 rwS 6 5 [] [] (X.mk 12 0 [] [.mk 2 0 [121] [],.mk 1 9 [] []]).cells .ff .nils (.sl [rwS 7 10 [101] [] x0 .ff .nils .nils .nils]) .nils,
 rwS 8 9 [] [] (X.mk 2 0 [121] []).cells .tt .nils .nils .nils]
def prc(a b:Nat):List LV:=[.p (.str [109,97,105,110]),.p .nils,.p (.sl [.str [118]]),.hd a 0 4,.p .nils,.p (.str [112]),.p (.sl [.agg [.str [120],.ff],.agg [.str [121],.tt]]),.p .nils,.hd b 0 3,.p (.sl [.str [101]])]
def q2g:Heap:=[(5,.obj 45 (prc 1 3)),(3,.own 55 13 bd1),(1,.own 55 13 bd0),(0,.obj 25 [.p (.sl [.str [103]]),.hd 5 0 2])]
theorem CL:SpecH prog 42 [] [] (fun r H=>r=.agg [.p (.sl [.str [103]]),.hd 5 0 2]/\H=q2g):=by
 refine sH YU func42 rfl call42 ?_;conv=>whnf
 repeat' ((first|refine cP (GI _) ?_|refine cP (KD _) ?_|refine q3l rfl ?_|refine aD ?_|refine Bc 4 rfl rfl rfl ?_|refine Bc 3 rfl rfl rfl ?_|refine JB rfl rfl ?_|refine R8 QY rfl rfl rfl rfl (by decide) (by decide) rfl ?_|refine cP (WS 8 (.mk 2 0 [121] []) (.mk 2 0 [120] [])) ?_|refine cP (WS 12 (.mk 2 0 [121] []) (.mk 1 9 [] [])) ?_);conv=>whnf)
 exact q5u _ (q3e _) ⟨rfl,rfl⟩
end Go.Ab
