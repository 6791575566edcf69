/- give: does a procedure need a name? walked. -/
import Derived.Test.YtkgbhpcfnpfpcaaGreatInoS6
import Derived.Test.YtkgbhpcfnpfpcaaGreatInoS18
set_option linter.unusedSimpArgs false
set_option linter.unusedVariables false
set_option maxRecDepth 100000
set_option maxHeartbeats 16000000
open List (getD_eq_getElem?_getD length_append length_map length_range length_singleton length_take mem_cons_self take_of_length_le)
open Nat (blt zero_le)
namespace Go.Ab
open Go.Proofs
theorem count_set {l:List Bool} {k:Nat} (hk:k<l.length) (h:l.getD k false=false):(l.set k true).count false+1=l.count false:=by
 rw [getD_eq_getElem?_getD,List.getElem?_eq_getElem hk] at h;have h1:l[k]=false:=h;have h2:0<l.count false:=List.count_pos_iff.2 (h1▸List.getElem_mem hk);rw [List.count_set hk,h1];simp;omega
theorem NedJ.shutN {p:Pg} {i:Nat} {f:Pr} {D U:List (List Str)} {o:List Str} {x:Str} {n:Nat} {seen:List Bool} {todo:List Int} {a:Int} {net:List (List Int)} (hn:netR p i f=net) (h:XB p=true) (hj:p.procs[i]? = some f) {k:Nat} (hJ:NedJ p i f D U o x n a k seen todo) (hk:(net.getD a.toNat []).length<=k) (h1:hitN p i f U o x a=false):NedI p i f D U o x n seen todo:=by
 subst hn;exact hJ.shut h hj hk h1
theorem NedJ.oldN {p:Pg} {i:Nat} {f:Pr} {D U:List (List Str)} {o:List Str} {x:Str} {n:Nat} {seen:List Bool} {todo:List Int} {a:Int} {net:List (List Int)} (hn:netR p i f=net) {k:Nat} (hJ:NedJ p i f D U o x n a k seen todo) (hk:k<(net.getD a.toNat []).length) (hs:seen.getD ((net.getD a.toNat [])[k]).toNat false=true):NedJ p i f D U o x n a (k+1) seen todo:=by
 subst hn;exact hJ.old hk hs
theorem NedJ.newN {p:Pg} {i:Nat} {f:Pr} {D U:List (List Str)} {o:List Str} {x:Str} {n:Nat} {seen:List Bool} {todo:List Int} {a:Int} {net:List (List Int)} (hn:netR p i f=net) {k:Nat} (hJ:NedJ p i f D U o x n a k seen todo) (hk:k<(net.getD a.toNat []).length) {c:Int} (hc:c=(net.getD a.toNat [])[k]) (hr:0<=c∧c<(n:Int)) (hR:nR p i f D x a c):NedJ p i f D U o x n a (k+1) (seen.set c.toNat true) (todo++[c]):=by
 subst hn;exact hJ.new hk hc hr hR
theorem q7y {s:St} {K:St->Prop} (h:K s):ZU s K:=by
 rw [VY];exact h
theorem z2c {P:Program} {T:Tab} {N:Nat} {ops:Array Oper} {s:St} {K:St->Prop} (h:K s):run P T N ops [] s K:=h
theorem z6n {info:Info} {id:Nat} {s:St} {K:St->Prop} (hf:info.frz id=[]) (h:q7h (info.keep id) s K):x4y info id s K:=by
 unfold x4y;rw [hf];show q7h (info.keep id) s fun s=>ZU s K;have e:(fun s=>ZU s K)=K:=funext fun s=>VY s K;rw [e];exact h
theorem x9n {ks:List Nat} {s:St} {K:St->Prop} (s':St) (h : ∀ K:St->Prop,K s'->q7h ks s K) (hK:K s'):q7h ks s K:=h K hK
theorem x7s {N:Nat} {sl:List (Nat×LV)} {d:Nat} {v:LV} {K:List (Nat×LV)->Prop} (hd:blt d N=true) (h:K (MK sl d v)):setD N sl (some d) v K:=by
 show (bif blt d N then w4a sl d v K else False);rw [hd,cond_true,BJ];exact h
theorem w8q {P:Program} {T:Tab} {N:Nat} {info:Info} {c:Operand} {a b:Code} {K:Exit->St->Prop} {s:St} (h:QT s.sl c = .p (.bool false)) (hb:W P T N info b K s):W P T N info (.cond c a b) K s:=by
 unfold W;rw [h];exact Br.ff hb
theorem w8y {P:Program} {T:Tab} {N:Nat} {info:Info} {c:Operand} {a b:Code} {K:Exit->St->Prop} {s:St} (h:QT s.sl c = .p (.bool true)) (ha:W P T N info a K s):W P T N info (.cond c a b) K s:=by
 unfold W;rw [h];exact Br.tt ha
theorem q5j (b:Book) (p:Pg) (h:XB p=true) (i:Nat) (f:Pr) (hj:p.procs[i]? = some f) (hW:b.ways[i]? = some (QX p i f)) (o:List Str) (hO:b.outs[i]? = some o) (ho:o.Pairwise ltT) (hol:o.length<=1000000000) (hDl:b.defs.length=(sheetOf p).l.length) (hUl:b.uses.length=(sheetOf p).l.length) (hDr : ∀ d∈b.defs,d.Pairwise ltT∧d.length<=1000000000) (hUr : ∀ d∈b.uses,d.Pairwise ltT∧d.length<=1000000000) (x:Str):SpecP Tryz.prog 215 [.ip b.cells,.int .i64 i,q5r (netR p i f),.str x] (fun r=>r = .bool (x8a p i f b.defs b.uses o x)):=by
 refine sB MO Tryz.func215 rfl Tryz.call215 ?_;conv=>whnf
 obtain ⟨n,hn⟩ : ∃ n,n=cntL f.body+2:=⟨_,rfl⟩;have hcn:=(ZP h).2.2;obtain ⟨_,_,_,hsl,hsp⟩:=QK p;obtain ⟨_,_,hle,_⟩:=hsp i f hj;have hn200:n<=202:=by omega
 have hg1:(b.ways.map fun w=>AV.ip w.cells)[i]? = some (.ip (QX p i f).cells):=by rw [List.getElem?_map,hW];rfl
 have hg2:(b.outs.map eStrs)[i]? = some (eStrs o):=by rw [List.getElem?_map,hO];rfl
 have hwn:(QX p i f).n=n:=by rw [hn];rfl
 have hHo:=q2y o x ho hol;have hP : ∀ a:Int,0<=a∧a<=5000->SpecP Tryz.prog 107 [.ip (QX p i f).cells,.int .i64 a] (fun r=>r = .int .i64 (idN p i f a)):=fun a ha=>NI (QX p i f) f hj (by show cntP p.procs<=1000;omega) ⟨by rw [hwn];omega,by rw [hwn];omega⟩ a ha;have hNl:(netR p i f).length=n:=by rw [hn];exact q4y _ _
 have hNr : ∀ a:Nat,a<n -> ∀ c∈(netR p i f).getD a [],nR p i f b.defs x a c∨FK p i f b.defs x a=false:=fun a ha c hc=>by
  have hm:=(q5y fun t ht=>(FW h hj t ht).1).1 hc;obtain ⟨t,ht,h1,h2⟩:=hm;cases hq:FK p i f b.defs x a with
  | false=>exact .inr rfl
  | true=>exact .inl ⟨hq,by rw [<- h1,<- h2];exact ht⟩
 have hNi : ∀ a:Nat,a<n -> ∀ c∈(netR p i f).getD a [],0<=c∧c<(n:Int):=fun a ha c hc=>by
  obtain ⟨t,ht,_,rfl⟩:=(q5y fun t ht=>(FW h hj t ht).1).1 hc;have:=(FW h hj t ht).2;omega
 have hNc : ∀ a:Nat,((netR p i f).getD a []).length<=200000:=fun a=>by
  refine Nat.le_trans (x2u _ _ a) ?_;unfold YO;rw [length_map];exact x9j h hj
 have hId : ∀ a:Int,0<a->a<(n:Int)-1->1<=idN p i f a∧(idN p i f a-1).toNat<(sheetOf p).l.length:=fun a h1 h2=>by
  unfold idN XT loI;rw [if_neg (by omega),if_neg (by omega)];omega
 obtain ⟨net,hnet⟩ : ∃ net,netR p i f=net:=⟨_,rfl⟩;rw [hnet] at hNl hNr hNi hNc ⊢;generalize QX p i f=w at hg1 hwn hP hW;repeat' (first|((first|(refine iM fun _=>?_)|refine dA ?_|refine And.intro rfl ?_|refine aD ?_|refine aR ?_|(refine iA fun _=>?_)|refine IdxK.xs (by omega) ?_|refine QZ (by omega) ?_|(refine ByteK.at (by omega) ?_)|refine wI ?_|(refine IdxK.at (k:=i) rfl hg1 rfl ?_)|refine MkK.mk n hwn (by show 1*n<=140737488355328;omega) (by unfold maxLen;omega) ?_|refine BsK.own (fun x hx=>by rcases List.mem_singleton.1 hx with rfl;rfl) rfl ?_);conv=>whnf)|(apply bD<;>intro _<;>first|omega|conv=>whnf)|(apply bE<;>intro _<;>first|omega|conv=>whnf)|(apply bN<;>intro _<;>conv=>whnf)|(apply bB<;>intro _<;>conv=>whnf))
 refine LoopK.inv QJ (fun y:List Bool×List Int=>⟨[(0,.p (.ip b.cells)),(1,.p (.int .i64 i)),(2,.p (q5r net)),(3,.p (.str x)),(9,.p (.ip w.cells)),(10,.hd 0 0 n),(11,.hd 1 0 y.2.length)],[(1,.own 3 1 (y.2.map (.int .i64))),(0,.own 4 1 (y.1.map bv))]⟩)
  (fun y=>NedI p i f b.defs b.uses o x n y.1 y.2∧y.2.length+y.1.count false<=n+1) (fun y=>2*y.1.count false+y.2.length) (List.replicate n false,[0]) (Le.of_eq (by rw [List.map_replicate];rfl)) ⟨NedI.start n (by omega),by simp;omega⟩ ?_
 rintro ⟨seen,todo⟩ ⟨hI,hc1⟩;simp only at hI hc1 ⊢;rcases List.eq_nil_or_concat todo with rfl|⟨st,a,rfl⟩
 ·have hz:(([]:List Int).length)=0:=rfl;conv=>whnf
  repeat' (first|((first|(refine iM fun _=>?_)|refine dA ?_|refine And.intro rfl ?_|refine aD ?_|refine aR ?_|refine bP ?_|(refine iA fun _=>?_)|refine IdxK.xs (by omega) ?_|refine QZ (by omega) ?_|(refine ByteK.at (by omega) ?_)|refine wI ?_);conv=>whnf)|(apply bD<;>intro _<;>first|omega|conv=>whnf)|(apply bE<;>intro _<;>first|omega|conv=>whnf)|(apply bN<;>intro _<;>conv=>whnf)|(apply bB<;>intro _<;>conv=>whnf))
  all_goals exact RetK.ff (hI.stop h hj)
 rw [List.concat_eq_append] at hI hc1 ⊢;have hstl:(st++[a]).length=st.length+1:=by simp
 have har:=hI.rng a (by simp);have e3:((st++[a]).map (AV.int .i64))[st.length]? = some (.int .i64 a):=by simp
 have hsl2:=hI.len;have hway:=hI.way a (hI.td a (by simp));have hPa:=hP a ⟨har.1,by omega⟩;have hcut : ∀ (sl:List (Nat×LV)),Le Tryz.f215.ntmps ⟨sl,[(1,.own 3 1 ((st++[a]).map (.int .i64))),(0,.own 4 1 (seen.map bv))]⟩ ⟨sl,[(1,.own 3 1 (st.map (.int .i64))),(0,.own 4 1 (seen.map bv))]⟩:=fun sl=>Le.cut (.cut ⟨[.int .i64 a],by simp⟩ (.same .nil));have hrow:((avI net).map AV.sl)[a.toNat]? = some (.sl ((net.getD a.toNat []).map (.int .i64))):=by
  have:a.toNat<net.length:=by rw [hNl];omega
  rw [getD_eq_getElem?_getD,List.getElem?_eq_getElem this];simp [avI,this]
 have hrl:((net.getD a.toNat []).map (AV.int .i64)).length=(net.getD a.toNat []).length:=length_map _;have hcs:a=(n:Int)-1∨(a=0 ∧ ¬a=(n:Int)-1)∨(0<a ∧ ¬a=(n:Int)-1):=by omega
 rcases hcs with hE|⟨hz,hE⟩|⟨hpos,hE⟩
 ·-- the exit
  have hhit:hitN p i f b.uses o x a=inS o x:=by unfold hitN;rw [<- hn,decide_eq_true hE];rfl
  have hpas:FK p i f b.defs x a=false:=by unfold FK;rw [<- hn,decide_eq_true hE];rfl
  conv=>whnf
  repeat' (first|((first|(refine iM fun _=>?_)|refine dA ?_|refine And.intro rfl ?_|refine aD ?_|refine aR ?_|refine bP ?_|(refine iA fun _=>?_)|refine IdxK.xs (by omega) ?_|refine QZ (by omega) ?_|(refine ByteK.at (by omega) ?_)|refine wI ?_|refine Br.tt ?_|refine Br.ff ?_|refine IdxL.mk st.length (by omega) (by omega) ?_|refine LdOwn.mk st.length 0 (.int .i64 a) (by omega) e3 ?_|refine SlK.mk 0 st.length rfl (by show ((st++[a]).length:Int)-1=_;omega) (by omega) (by omega) ?_|(refine IdxK.at (k:=i) rfl hg2 rfl ?_)|refine cP hHo ?_);conv=>whnf)|(apply bD<;>intro _<;>first|omega|conv=>whnf)|(apply bE<;>intro _<;>first|omega|conv=>whnf)|(apply bN<;>intro _<;>conv=>whnf)|(apply bB<;>intro _<;>conv=>whnf))
  ·exact RetK.tt ((GF h hj).2 ⟨a,hway,by rw [hhit];assumption⟩)
  ·exact ⟨(seen,st),⟨hI.skip (by rw [hhit];assumption) hpas,by simp only;omega⟩,by simp only;omega,(hcut _).trans (lE)⟩
 ·-- the entry
  have hhit:hitN p i f b.uses o x a=false:=by unfold hitN;rw [<- hn,decide_eq_false hE,decide_eq_false (by omega)];rfl
  have hpas:FK p i f b.defs x a=true:=by unfold FK;rw [<- hn,decide_eq_false hE,decide_eq_false (by omega)];rfl
  conv=>whnf
  repeat' (first|((first|(refine iM fun _=>?_)|refine dA ?_|refine And.intro rfl ?_|refine aD ?_|refine aR ?_|refine bP ?_|(refine iA fun _=>?_)|refine IdxK.xs (by omega) ?_|refine QZ (by omega) ?_|(refine ByteK.at (by omega) ?_)|refine wI ?_|refine Br.tt ?_|refine Br.ff ?_|refine IdxL.mk st.length (by omega) (by omega) ?_|refine LdOwn.mk st.length 0 (.int .i64 a) (by omega) e3 ?_|refine SlK.mk 0 st.length rfl (by show ((st++[a]).length:Int)-1=_;omega) (by omega) (by omega) ?_|(refine IdxK.at (k:=a.toNat) (by omega) hrow rfl ?_));conv=>whnf)|(apply bD<;>intro _<;>first|omega|conv=>whnf)|(apply bE<;>intro _<;>first|omega|conv=>whnf)|(apply bN<;>intro _<;>conv=>whnf)|(apply bB<;>intro _<;>conv=>whnf))
  refine LoopK.inv QJ (fun y:Nat×List Bool×List Int=>⟨[(0,.p (.ip b.cells)),(1,.p (.int .i64 i)),(2,.p (q5r net)),(3,.p (.str x)),(9,.p (.ip w.cells)),(10,.hd 0 0 n),(11,.hd 1 0 y.2.2.length),(87,.p (UY (net.getD a.toNat []))),(88,.p (.int .i64 ((net.getD a.toNat []).map (AV.int .i64)).length)),(89,.p (.int .i64 y.1))],[(1,.own 3 1 (y.2.2.map (.int .i64))),(0,.own 4 1 (y.2.1.map bv))]⟩)
   (fun y=>y.1<=(net.getD a.toNat []).length∧NedJ p i f b.defs b.uses o x n a y.1 y.2.1 y.2.2∧y.2.2.length+y.2.1.count false<=n∧2*y.2.1.count false+y.2.2.length<=2*seen.count false+st.length) (fun y=>(net.getD a.toNat []).length-y.1) (0,seen,st)
   ((hcut _).trans (Le.of_eq rfl)) ⟨zero_le _,hI.open,by simp only;omega,Nat.le_refl _⟩ ?_
  rintro ⟨k,sn,td⟩ ⟨h1,hJ,h3,h4⟩;simp only at h1 hJ h3 h4 ⊢;rcases Nat.lt_or_ge k (net.getD a.toNat []).length with hk|hk;rotate_left 1
  ·conv=>whnf
   repeat' (first|((first|(refine iM fun _=>?_)|refine dA ?_|refine And.intro rfl ?_|refine aD ?_|refine aR ?_|refine bP ?_|(refine iA fun _=>?_)|refine IdxK.xs (by omega) ?_|refine QZ (by omega) ?_|(refine ByteK.at (by omega) ?_)|refine wI ?_);conv=>whnf)|(apply bD<;>intro _<;>first|omega|conv=>whnf)|(apply bE<;>intro _<;>first|omega|conv=>whnf)|(apply bN<;>intro _<;>conv=>whnf)|(apply bB<;>intro _<;>conv=>whnf))
   all_goals exact ⟨(sn,td),⟨hJ.shutN hnet h hj hk hhit,by simp only;omega⟩,by simp only;omega,lE⟩
  ·obtain ⟨c,hc⟩ : ∃ c,c=(net.getD a.toNat [])[k]:=⟨_,rfl⟩;have hcm:c∈net.getD a.toNat []:=by rw [hc];exact List.getElem_mem hk
   have hcr:=hNi a.toNat (by omega) c hcm;have hcR:nR p i f b.defs x a c:=by
    rcases hNr a.toNat (by omega) c hcm with h5|h5
    ·rwa [Int.toNat_of_nonneg har.1] at h5
    ·rw [Int.toNat_of_nonneg har.1,hpas] at h5;cases h5
   have hsnl:=hJ.len;have e4:=w2k (l:=sn) (i:=c.toNat) (by omega);have e5:((net.getD a.toNat []).map (AV.int .i64))[k]? = some (.int .i64 c):=by rw [List.getElem?_map,List.getElem?_eq_getElem hk,<- hc];rfl
   cases hs:sn.getD c.toNat false with
   | true =>
     rw [hs] at e4;conv=>whnf
     repeat' (first|((first|(refine iM fun _=>?_)|refine dA ?_|refine And.intro rfl ?_|refine aD ?_|refine aR ?_|refine bP ?_|(refine iA fun _=>?_)|refine IdxK.xs (by omega) ?_|refine QZ (by omega) ?_|(refine ByteK.at (by omega) ?_)|refine wI ?_|refine Br.tt ?_|refine Br.ff ?_|(refine IdxK.at (k:=k) rfl e5 rfl ?_)|refine IdxL.mk c.toNat (by omega) (by omega) ?_|refine LdOwn.mk c.toNat 0 .tt (by omega) e4 ?_);conv=>whnf)|(apply bD<;>intro _<;>first|omega|conv=>whnf)|(apply bE<;>intro _<;>first|omega|conv=>whnf)|(apply bN<;>intro _<;>conv=>whnf)|(apply bB<;>intro _<;>conv=>whnf))
     all_goals first
       | exact ⟨(k+1,sn,td),⟨hk,hJ.oldN hnet hk (by rw [<- hc];exact hs),h3,h4⟩,by simp only;omega,Le.of_eq rfl⟩
   | false =>
     rw [hs] at e4;have hcs:=count_set (l:=sn) (k:=c.toNat) (by omega) hs;conv=>whnf
     repeat' (first|((first|(refine iM fun _=>?_)|refine dA ?_|refine And.intro rfl ?_|refine aD ?_|refine aR ?_|refine bP ?_|(refine iA fun _=>?_)|refine IdxK.xs (by omega) ?_|refine QZ (by omega) ?_|(refine ByteK.at (by omega) ?_)|refine wI ?_|refine Br.tt ?_|refine Br.ff ?_|(refine IdxK.at (k:=k) rfl e5 rfl ?_)|refine IdxL.mk c.toNat (by omega) (by omega) ?_|refine LdOwn.mk c.toNat 0 .ff (by omega) e4 ?_|refine StOwn.mk c.toNat 0 .ff .tt (by omega) e4 (Nat.le_refl 1) rfl ?_|refine WO (by simp) (by simp;omega) ?_);conv=>whnf)|(apply bD<;>intro _<;>first|omega|conv=>whnf)|(apply bE<;>intro _<;>first|omega|conv=>whnf)|(apply bN<;>intro _<;>conv=>whnf)|(apply bB<;>intro _<;>conv=>whnf))
     all_goals first
       | exact ⟨(k+1,sn.set c.toNat true,td++[c]),⟨hk,hJ.newN hnet hk hc hcr hcR,by simp only [length_append,length_singleton];omega,by simp only [length_append,length_singleton];omega⟩,by simp only;omega,Le.of_eq (by rw [<- hc];simp only [List.map_set,List.map_append,length_append];rfl)⟩
 ·-- a statement
  obtain ⟨hid1,hid2⟩:=hId a hpos (by omega);have hgU:(b.uses.map eStrs)[(idN p i f a-1).toNat]? = some (eStrs (BC b.uses (idN p i f a))):=by
   unfold BC;rw [List.getElem?_map,getD_eq_getElem?_getD,List.getElem?_eq_getElem (by omega)];rfl
  have hgD:(b.defs.map eStrs)[(idN p i f a-1).toNat]? = some (eStrs (BC b.defs (idN p i f a))):=by
   unfold BC;rw [List.getElem?_map,getD_eq_getElem?_getD,List.getElem?_eq_getElem (by omega)];rfl
  have hrU:(BC b.uses (idN p i f a)).Pairwise ltT∧(BC b.uses (idN p i f a)).length<=1000000000:=by
   unfold BC;rw [getD_eq_getElem?_getD,List.getElem?_eq_getElem (by omega)];exact hUr _ (List.getElem_mem _)
  have hrD:(BC b.defs (idN p i f a)).Pairwise ltT∧(BC b.defs (idN p i f a)).length<=1000000000:=by
   unfold BC;rw [getD_eq_getElem?_getD,List.getElem?_eq_getElem (by omega)];exact hDr _ (List.getElem_mem _)
  have hHU:=q2y _ x hrU.1 hrU.2;have hHD:=q2y _ x hrD.1 hrD.2;have hhitB:hitN p i f b.uses o x a=inS (BC b.uses (idN p i f a)) x:=by unfold hitN;rw [<- hn,decide_eq_false hE,decide_eq_true hpos];rfl
  have hpasB:FK p i f b.defs x a = !inS (BC b.defs (idN p i f a)) x:=by unfold FK;rw [<- hn,decide_eq_false hE,decide_eq_true hpos];rfl
  generalize idN p i f a=id at *
  generalize BC b.uses id=lu at *
  generalize BC b.defs id=ld at *
  conv=>whnf
  repeat' (first|((first|(refine iM fun _=>?_)|refine dA ?_|refine And.intro rfl ?_|refine aD ?_|refine aR ?_|refine bP ?_|(refine iA fun _=>?_)|refine IdxK.xs (by omega) ?_|refine QZ (by omega) ?_|(refine ByteK.at (by omega) ?_)|refine wI ?_|refine IdxL.mk st.length (by omega) (by omega) ?_|refine LdOwn.mk st.length 0 (.int .i64 a) (by omega) e3 ?_|refine SlK.mk 0 st.length rfl (by show ((st++[a]).length:Int)-1=_;omega) (by omega) (by omega) ?_|refine cP hPa ?_|(refine IdxK.at (k:=(id-1).toNat) (by omega) hgU rfl ?_));conv=>whnf)|(apply bD<;>intro _<;>first|omega|conv=>whnf)|(apply bE<;>intro _<;>first|omega|conv=>whnf)|(apply bN<;>intro _<;>conv=>whnf)|(apply bB<;>intro _<;>conv=>whnf))
  refine CallK.pure hHU (.cons (Sub.refl _) (.cons (Sub.refl _) .nil)) ?_;rintro _ rfl;refine x7s (by kernel_rfl) ?_;refine q7y ?_;refine z2c ?_;refine z6n (by kernel_rfl) ?_;refine x9n ⟨[(0,.p (.ip b.cells)),(1,.p (.int .i64 i)),(2,.p (q5r net)),(3,.p (.str x)),(9,.p (.ip w.cells)),(10,.hd 0 0 n),(11,.hd 1 0 st.length),(12,.p (.int .i64 a)),(13,.p (.int .i64 id)),(73,.p (.bool (inS lu x)))],[(1,.own 3 1 ((st++[a]).map (.int .i64))),(0,.own 4 1 (seen.map bv))]⟩ (fun K h=>h) ?_;cases hqu:inS lu x;rotate_left
  ·refine w8y rfl ?_;conv=>whnf
   repeat' (first|((first|(refine iM fun _=>?_)|refine dA ?_|refine And.intro rfl ?_|refine aD ?_|refine aR ?_|refine bP ?_|(refine iA fun _=>?_)|refine IdxK.xs (by omega) ?_|refine QZ (by omega) ?_|(refine ByteK.at (by omega) ?_)|refine wI ?_);conv=>whnf)|(apply bD<;>intro _<;>first|omega|conv=>whnf)|(apply bE<;>intro _<;>first|omega|conv=>whnf)|(apply bN<;>intro _<;>conv=>whnf)|(apply bB<;>intro _<;>conv=>whnf))
   all_goals exact RetK.tt ((GF h hj).2 ⟨a,hway,by rw [hhitB,hqu]⟩)
  refine w8q rfl ?_;conv=>whnf
  repeat' (first|((first|(refine iM fun _=>?_)|refine dA ?_|refine And.intro rfl ?_|refine aD ?_|refine aR ?_|refine bP ?_|(refine iA fun _=>?_)|refine IdxK.xs (by omega) ?_|refine QZ (by omega) ?_|(refine ByteK.at (by omega) ?_)|refine wI ?_|(refine IdxK.at (k:=(id-1).toNat) (by omega) hgD rfl ?_));conv=>whnf)|(apply bD<;>intro _<;>first|omega|conv=>whnf)|(apply bE<;>intro _<;>first|omega|conv=>whnf)|(apply bN<;>intro _<;>conv=>whnf)|(apply bB<;>intro _<;>conv=>whnf))
  refine CallK.pure hHD (.cons (Sub.refl _) (.cons (Sub.refl _) .nil)) ?_;rintro _ rfl;refine x7s (by kernel_rfl) ?_;refine q7y ?_;refine z2c ?_;refine z6n (by kernel_rfl) ?_;refine x9n ⟨[(0,.p (.ip b.cells)),(1,.p (.int .i64 i)),(2,.p (q5r net)),(3,.p (.str x)),(9,.p (.ip w.cells)),(10,.hd 0 0 n),(11,.hd 1 0 st.length),(12,.p (.int .i64 a)),(83,.p (.bool (inS ld x)))],[(1,.own 3 1 ((st++[a]).map (.int .i64))),(0,.own 4 1 (seen.map bv))]⟩ (fun K h=>h) ?_;have hhit:hitN p i f b.uses o x a=false:=by rw [hhitB,hqu]
  cases hqd:inS ld x;rotate_left
  ·have hpas:FK p i f b.defs x a=false:=by rw [hpasB,hqd];rfl
   refine w8y rfl ?_;conv=>whnf
   repeat' (first|((first|(refine iM fun _=>?_)|refine dA ?_|refine And.intro rfl ?_|refine aD ?_|refine aR ?_|refine bP ?_|(refine iA fun _=>?_)|refine IdxK.xs (by omega) ?_|refine QZ (by omega) ?_|(refine ByteK.at (by omega) ?_)|refine wI ?_);conv=>whnf)|(apply bD<;>intro _<;>first|omega|conv=>whnf)|(apply bE<;>intro _<;>first|omega|conv=>whnf)|(apply bN<;>intro _<;>conv=>whnf)|(apply bB<;>intro _<;>conv=>whnf))
   all_goals exact ⟨(seen,st),⟨hI.skip hhit hpas,by simp only;omega⟩,by simp only;omega,(hcut _).trans (lE)⟩
  ·have hpas:FK p i f b.defs x a=true:=by rw [hpasB,hqd];rfl
   refine w8q rfl ?_;conv=>whnf
   repeat' (first|((first|(refine iM fun _=>?_)|refine dA ?_|refine And.intro rfl ?_|refine aD ?_|refine aR ?_|refine bP ?_|(refine iA fun _=>?_)|refine IdxK.xs (by omega) ?_|refine QZ (by omega) ?_|(refine ByteK.at (by omega) ?_)|refine wI ?_|(refine IdxK.at (k:=a.toNat) (by omega) hrow rfl ?_));conv=>whnf)|(apply bD<;>intro _<;>first|omega|conv=>whnf)|(apply bE<;>intro _<;>first|omega|conv=>whnf)|(apply bN<;>intro _<;>conv=>whnf)|(apply bB<;>intro _<;>conv=>whnf))
   refine LoopK.inv QJ (fun y:Nat×List Bool×List Int=>⟨[(0,.p (.ip b.cells)),(1,.p (.int .i64 i)),(2,.p (q5r net)),(3,.p (.str x)),(9,.p (.ip w.cells)),(10,.hd 0 0 n),(11,.hd 1 0 y.2.2.length),(87,.p (UY (net.getD a.toNat []))),(88,.p (.int .i64 ((net.getD a.toNat []).map (AV.int .i64)).length)),(89,.p (.int .i64 y.1))],[(1,.own 3 1 (y.2.2.map (.int .i64))),(0,.own 4 1 (y.2.1.map bv))]⟩)
    (fun y=>y.1<=(net.getD a.toNat []).length∧NedJ p i f b.defs b.uses o x n a y.1 y.2.1 y.2.2∧y.2.2.length+y.2.1.count false<=n∧2*y.2.1.count false+y.2.2.length<=2*seen.count false+st.length) (fun y=>(net.getD a.toNat []).length-y.1) (0,seen,st)
    ((hcut _).trans (Le.of_eq rfl)) ⟨zero_le _,hI.open,by simp only;omega,Nat.le_refl _⟩ ?_
   rintro ⟨k,sn,td⟩ ⟨h1,hJ,h3,h4⟩;simp only at h1 hJ h3 h4 ⊢;rcases Nat.lt_or_ge k (net.getD a.toNat []).length with hk|hk;rotate_left 1
   ·conv=>whnf
    repeat' (first|((first|(refine iM fun _=>?_)|refine dA ?_|refine And.intro rfl ?_|refine aD ?_|refine aR ?_|refine bP ?_|(refine iA fun _=>?_)|refine IdxK.xs (by omega) ?_|refine QZ (by omega) ?_|(refine ByteK.at (by omega) ?_)|refine wI ?_);conv=>whnf)|(apply bD<;>intro _<;>first|omega|conv=>whnf)|(apply bE<;>intro _<;>first|omega|conv=>whnf)|(apply bN<;>intro _<;>conv=>whnf)|(apply bB<;>intro _<;>conv=>whnf))
    all_goals exact ⟨(sn,td),⟨hJ.shutN hnet h hj hk hhit,by simp only;omega⟩,by simp only;omega,lE⟩
   ·obtain ⟨c,hc⟩ : ∃ c,c=(net.getD a.toNat [])[k]:=⟨_,rfl⟩;have hcm:c∈net.getD a.toNat []:=by rw [hc];exact List.getElem_mem hk
    have hcr:=hNi a.toNat (by omega) c hcm;have hcR:nR p i f b.defs x a c:=by
     rcases hNr a.toNat (by omega) c hcm with h5|h5
     ·rwa [Int.toNat_of_nonneg har.1] at h5
     ·rw [Int.toNat_of_nonneg har.1,hpas] at h5;cases h5
    have hsnl:=hJ.len;have e4:=w2k (l:=sn) (i:=c.toNat) (by omega);have e5:((net.getD a.toNat []).map (AV.int .i64))[k]? = some (.int .i64 c):=by rw [List.getElem?_map,List.getElem?_eq_getElem hk,<- hc];rfl
    cases hs:sn.getD c.toNat false with
    | true =>
      rw [hs] at e4;conv=>whnf
      repeat' (first|((first|(refine iM fun _=>?_)|refine dA ?_|refine And.intro rfl ?_|refine aD ?_|refine aR ?_|refine bP ?_|(refine iA fun _=>?_)|refine IdxK.xs (by omega) ?_|refine QZ (by omega) ?_|(refine ByteK.at (by omega) ?_)|refine wI ?_|refine Br.tt ?_|refine Br.ff ?_|(refine IdxK.at (k:=k) rfl e5 rfl ?_)|refine IdxL.mk c.toNat (by omega) (by omega) ?_|refine LdOwn.mk c.toNat 0 .tt (by omega) e4 ?_);conv=>whnf)|(apply bD<;>intro _<;>first|omega|conv=>whnf)|(apply bE<;>intro _<;>first|omega|conv=>whnf)|(apply bN<;>intro _<;>conv=>whnf)|(apply bB<;>intro _<;>conv=>whnf))
      all_goals first
        | exact ⟨(k+1,sn,td),⟨hk,hJ.oldN hnet hk (by rw [<- hc];exact hs),h3,h4⟩,by simp only;omega,Le.of_eq rfl⟩
    | false =>
      rw [hs] at e4;have hcs:=count_set (l:=sn) (k:=c.toNat) (by omega) hs;conv=>whnf
      repeat' (first|((first|(refine iM fun _=>?_)|refine dA ?_|refine And.intro rfl ?_|refine aD ?_|refine aR ?_|refine bP ?_|(refine iA fun _=>?_)|refine IdxK.xs (by omega) ?_|refine QZ (by omega) ?_|(refine ByteK.at (by omega) ?_)|refine wI ?_|refine Br.tt ?_|refine Br.ff ?_|(refine IdxK.at (k:=k) rfl e5 rfl ?_)|refine IdxL.mk c.toNat (by omega) (by omega) ?_|refine LdOwn.mk c.toNat 0 .ff (by omega) e4 ?_|refine StOwn.mk c.toNat 0 .ff .tt (by omega) e4 (Nat.le_refl 1) rfl ?_|refine WO (by simp) (by simp;omega) ?_);conv=>whnf)|(apply bD<;>intro _<;>first|omega|conv=>whnf)|(apply bE<;>intro _<;>first|omega|conv=>whnf)|(apply bN<;>intro _<;>conv=>whnf)|(apply bB<;>intro _<;>conv=>whnf))
      all_goals first
        | exact ⟨(k+1,sn.set c.toNat true,td++[c]),⟨hk,hJ.newN hnet hk hc hcr hcR,by simp only [length_append,length_singleton];omega,by simp only [length_append,length_singleton];omega⟩,by simp only;omega,Le.of_eq (by rw [<- hc];simp only [List.map_set,List.map_append,length_append];rfl)⟩
inductive SlR (g:Nat->Option Nat) (sl:List (Nat×LV)):List (Nat×LV)->Prop
 | nil:SlR g sl []
 | cons {i:Nat} {l:LV} {r:List (Nat×LV)} (h:LSub ((getS sl i).ren g) l) (hr:SlR g sl r):SlR g sl ((i,l)::r)
theorem SlR.get {g:Nat->Option Nat} {sl sl':List (Nat×LV)} (h:SlR g sl sl') (i:Nat):LSub ((getS sl i).ren g) (getS sl' i)∨getS sl' i = .p .any:=by
 induction h with
 | nil=>exact .inr rfl
 | @cons j l r h hr ih =>
   simp only [getS];by_cases hj:j=i
   ·subst hj;exact .inl (by simpa using h)
   ·have:(j==i)=false:=by simp [hj]
    simpa [this] using ih
theorem w5a {N:Nat} {s s':St} (π:Nat->Nat) (h2 : ∀ k,π (π k)=k) (hpin : ∀ j,1000<=j->j<2000->π j=j) (hsl:SlR (fun k=>some (π k)) s.sl s'.sl)
  (hH : ∀ j c,(j,c)∈s'.H -> ∃ c0,(π j,c0)∈s.H∧CSub (c0.ren fun k=>some (π k)) c) (hnd:(s'.H.map (·.1)).Nodup):Le N s s':=fun σ β a w hr=>by
 have hg : ∀ k j,(fun k=>some (π k)) k=some j->(fun j=>β (π j)) j=β k:=fun k j hk=>by
  cases hk;show β (π (π k))=β k;rw [h2]
 have hin : ∀ j∈s'.H.map (·.1),π j∈s.H.map (·.1):=fun j hj=>by
  obtain ⟨⟨j',c⟩,hm,rfl⟩:=List.mem_map.1 hj;obtain ⟨c0,h1,_⟩:=hH j' c hm;exact List.mem_map.2 ⟨_,h1,rfl⟩
 refine ⟨σ,fun j=>β (π j),⟨hr.size,hr.defers,fun i => ?_,hr.heap.mem,fun j c hj => ?_,hnd,fun j hj i hi b hb=>hr.heap.apart (π j) (hin j hj) i hi b hb,fun j hj j' hj' i i' hi hi' b hb hb' => ?_⟩,Mem.le_refl σ,Frm.refl _ _,fun b h0 h1=>absurd h0 h1,fun b ⟨j,hj,i,hi,hb⟩ => .inl ⟨π j,hin j hj,i,hi,hb⟩,fun k h0 h1 => ?_⟩
 ·rcases hsl.get i with h|h
  ·exact h.rep ((hr.slots i).ren hg)
  ·rw [h];exact .p (.any _)
 ·obtain ⟨c0,h1,h3⟩:=hH j c hj;exact h3 _ _ _ _ ((hr.heap.chunks (π j) c0 h1).ren (j:=j) hg (by show some (π (π j))=some j;rw [h2]))
 ·have:=hr.heap.inj (π j) (hin j hj) (π j') (hin j' hj') i i' hi hi' b hb hb';rw [<- h2 j,this,h2]
 ·show β (π k)=β k;rw [hpin k h0 h1]
theorem YV (l:List Str) (hlen:l.length<=1000000000):SpecH Tryz.prog 133 [.hd 1000 0 l.length] [(1000,.own 9 1 (l.map .str))] (fun r H=>r = .p (eStrs (XA l))∧H=[]):=by
 have h:=x6j l hlen;refine ⟨h.go,fun σ β w vals h1 h2 h3=>(h.ok σ β w vals h1 h2 h3).mono fun ex w' hx => ?_⟩;obtain ⟨r,u,σ',β',H',he,⟨rfl,rfl⟩,hrep,hrel,hlat⟩:=hx;generalize XA l=m at *
 obtain ⟨s',rfl,hle⟩:=Le.row (N:=1) (s:=⟨[(0,.hd 1000 0 m.length)],[(1000,.own 9 1 (m.map .str))]⟩) (k:=1000) (e:=9) (sz:=1) (es:=m.map .str) (zs:=[0]) rfl (K:=fun s=>s=⟨[(0,.p (eStrs m))],[]⟩)
  ⟨(length_map _).symm,rfl⟩
 obtain ⟨σ2,β2,hr2,hl2⟩:=hle σ' β' { tmps := #[u],defers:=[] } w' ⟨rfl,rfl,fun i=>by
  match i with
  | 0=>simpa [getS] using hrep
  | i+1=>exact .p (by simpa [getS] using Rep.any _),hrel⟩
 exact ⟨.p (eStrs m),u,σ2,β2,[],he,⟨rfl,rfl⟩,by simpa [getS] using hr2.slots 0,hr2.heap,hlat.trans hl2⟩
def x7v (p:Pg) (l1 l2 l3:LV) (n:Nat):Chunk := .obj 122 [.p (.ip (sheetOf p).cells),l1,l2,l3,.hd 0 0 n,.hd 1 0 n]
def UM (L:List (List Str)):Chunk := .own 22 1 (L.map eStrs)
def q7w (p:Pg) (k:Nat):Chunk := .own 137 1 (((wysB p).take k).map fun w => .ip w.cells)
theorem z5d (n:Nat):ElS (List.replicate n (AV.ofV (.slice none 0 0))) ((List.replicate n ([]:List Str)).map eStrs):=by
 refine ⟨by simp,fun m x h => ?_⟩;rw [List.map_replicate,List.getElem?_replicate] at h;rw [List.getElem?_replicate];split at h
 ·cases h;rw [if_pos (by assumption)];refine ⟨_,rfl,rfl,fun j c hc => ?_⟩
  match j,hc with
  | 0,hc=>cases hc;exact ⟨_,rfl,Sub.nils⟩
 ·cases h
theorem w8x {N:Nat} {a:AV} {p:Pg} {n:Nat} :
  Le N ⟨[(1,.p a),(3,.ptr 2 0)],[(2,.obj 122 [.p (.ip (sheetOf p).cells),.p (AV.ofS (.slice none 0 0)),.p (AV.ofS (.slice none 0 0)),.p (AV.ofS (.slice none 0 0)),.hd 0 0 n,.hd 1 0 n]),(1,.own 22 1 (List.replicate n (AV.ofV (.slice none 0 0)))),(0,.own 22 1 (List.replicate n (AV.ofV (.slice none 0 0))))]⟩
   ⟨[(1,.p a),(3,.ptr 2 0)],[(3,q7w p 0),(2,x7v p (.hd 3 0 0) (.p .nils) (.p .nils) n),(1,UM (List.replicate n [])),(0,UM (List.replicate n []))]⟩:=by
 refine Le.trans (Le.els (.same (.els (z5d n) (.els (z5d n) .nil)))) ?_;exact Le.mk [(3,q7w p 0)] (by simp [Chunk.new0,q7w];rfl) (by simp) (by simp) (.cons (.refl _) (.cons (.refl _) .nil)) (.new mem_cons_self (.cons rfl (.obj (.cons (.refl _) (.cons (.nil mem_cons_self) (.cons (.refl _) (.cons (.refl _) (.cons (.refl _) (.cons (.refl _) .nil))))))) (.cons rfl (.refl _) (.cons rfl (.refl _) .nil))))
def v1q (k:Nat):Nat:=if k=0 then 1 else if k=1 then 0 else k
theorem w9p {N:Nat} {a:AV} {p:Pg} {n:Nat} :
  Le N ⟨[(1,.p a),(3,.ptr 2 0)],[(2,.obj 122 [.p (.ip (sheetOf p).cells),.p (AV.ofS (.slice none 0 0)),.p (AV.ofS (.slice none 0 0)),.p (AV.ofS (.slice none 0 0)),.hd 1 0 n,.hd 0 0 n]),(1,.own 22 1 (List.replicate n (AV.ofV (.slice none 0 0)))),(0,.own 22 1 (List.replicate n (AV.ofV (.slice none 0 0))))]⟩
   ⟨[(1,.p a),(3,.ptr 2 0)],[(3,q7w p 0),(2,x7v p (.hd 3 0 0) (.p .nils) (.p .nils) n),(1,UM (List.replicate n [])),(0,UM (List.replicate n []))]⟩:=by
 refine Le.trans ?_ w8x;refine w5a v1q (fun k=>by unfold v1q;split<;>(try split)<;>simp_all) (fun j h0 h1=>by unfold v1q;rw [if_neg (by omega),if_neg (by omega)]) (.cons (.refl _) (.cons (.refl _) .nil)) (fun j c hj => ?_) (by simp);rcases List.mem_cons.1 hj with he|hj
 ·cases he;exact ⟨_,mem_cons_self,CSub.refl _⟩
 rcases List.mem_cons.1 hj with he|hj
 ·cases he;exact ⟨_,List.mem_cons_of_mem _ (List.mem_cons_of_mem _ mem_cons_self),CSub.refl _⟩
 rcases List.mem_cons.1 hj with he|hj
 ·cases he;exact ⟨_,List.mem_cons_of_mem _ mem_cons_self,CSub.refl _⟩
 ·cases hj
theorem z7q {W O:List (List Str)} {k:Nat} (hk:k<W.length) (hl:W.length=O.length):((W.take k++O.drop k).map eStrs).set k (eStrs W[k])=(W.take (k+1)++O.drop (k+1)).map eStrs:=by
 rw [<- List.map_set,List.set_append_right _ _ (by rw [length_take];omega),length_take,show k-min k W.length=0 by omega,List.drop_eq_getElem_cons (by omega),List.set_cons_zero,List.take_succ_eq_append_getElem hk,List.append_assoc];rfl
theorem w2p {W O:List (List Str)} {k:Nat} (hk:k<O.length) (hl:W.length=O.length):((W.take k++O.drop k).map eStrs)[k]? = some (eStrs O[k]):=by
 rw [List.getElem?_map,List.getElem?_append_right (by rw [length_take];omega),length_take,show k-min k W.length=0 by omega,List.getElem?_drop,Nat.add_zero,List.getElem?_eq_getElem hk];rfl
theorem z3c {W O:List (List Str)} {k:Nat} (hk:k<=O.length) (hl:W.length=O.length):((W.take k++O.drop k).map eStrs).length=O.length:=by
 rw [length_map,length_append,length_take,List.length_drop];omega
theorem w2f {W O:List (List Str)} {k:Nat} (hk:k<W.length) (hk':k<O.length):decide (W.take (k+1)=O.take (k+1))=(decide (W.take k=O.take k)&&decide (W[k]=O[k])):=by
 rw [List.take_succ_eq_append_getElem hk,List.take_succ_eq_append_getElem hk',<- Bool.decide_and];refine decide_eq_decide.2 ⟨fun h => ?_,fun h=>by rw [h.1,h.2]⟩;have h1:=List.append_inj' h rfl;exact ⟨h1.1,by simpa using h1.2⟩
theorem x9c {p:Pg} {I:List (List Str)} (hc:XB p=true) (h:OkI p I) {t:S} (ht:t∈WP p):(DH (bkI p I) t).length<=1000000000:=by
 have h1:=x7d t;unfold DH;split
 ·rename_i h4;have h2:=(PW hc ht h4).2;have h3:=KR z6p t.args;have h5:t.args.length*1048577<=8*1048577:=Nat.mul_le_mul_right _ h2;have h6:=h.len25 hc (caI (bkI p I).s.p t).toNat;have h7:(inAt (bkI p I) t).length<=25:=h6;simp only [length_append];omega
 ·omega
theorem z9j {P:Program} {N:Nat} {g:FuncId} {args:List LV} {dst:Option Nat} {s:St} {K:St->Prop} {avs:List AV} {L:List Str} {nil:Prop} (k:Nat) (hu:ZF k s=true)
  (hs:SpecH P g (avs.map .p) [] (OneRow (q6m L) nil)) (ha:FrzL s.H args avs) (hn:nil->setD N s.sl dst (.p .nils) fun sl=>K ⟨sl,s.H⟩)
  (h:setD N s.sl dst (.hd k 0 L.length) fun sl=>K ⟨sl,(k,.own 9 1 (L.map .str))::s.H⟩):CallK P N g args dst s K :=
 KB k hu hs ha hn fun q e sz es hR=>by
  obtain ⟨rfl,rfl,rfl⟩:=hR;rw [length_map];exact h
theorem w6c {H:Heap} {p:Pg} {l1 l2 l3:LV} {n:Nat} {D U I O:List (List Str)} (hg:getH H 2=some (x7v p l1 l2 l3 n)) (h1:Frz H l1 (.sl ((wysB p).map fun w => .ip w.cells))) (h2:Frz H l2 (.sl (D.map eStrs))) (h3:Frz H l3 (.sl (U.map eStrs)))
  (h4:Frz H (.hd 0 0 n) (.sl (I.map eStrs))) (h5:Frz H (.hd 1 0 n) (.sl (O.map eStrs))):Frz H (.ptr 2 0) (.ip (Book.cells ⟨sheetOf p,wysB p,D,U,I,O⟩)) :=
 Frz.ptr (off:=0) (cs:=Book.cells ⟨sheetOf p,wysB p,D,U,I,O⟩) hg rfl fun j l c hj hc=>by
  match j,hj,hc with
  | 0,hj,hc=>cases hj;cases hc;exact .p (Sub.refl _)
  | 1,hj,hc=>cases hj;cases hc;exact h1
  | 2,hj,hc=>cases hj;cases hc;exact h2
  | 3,hj,hc=>cases hj;cases hc;exact h3
  | 4,hj,hc=>cases hj;cases hc;exact h4
  | 5,hj,hc=>cases hj;cases hc;exact h5
  | j+6,hj,_=>cases hj
theorem PS {p:Pg}:q7w p p.procs.length = .own 137 1 ((wysB p).map fun w => .ip w.cells):=by
 unfold q7w;rw [take_of_length_le (by unfold wysB;rw [length_map,length_range];exact Nat.le_refl _)]
theorem PG {p:Pg}:p.procs.length=((wysB p).map fun w=>AV.ip w.cells).length:=by
 unfold wysB;rw [length_map,length_map,length_range]
theorem x2y {L:List (List Str)} {k:Nat} (h:k<L.length) {o:List Str} (ho:L[k]=o):UM (L.take (k+1)) = .own 22 1 ((L.take k).map eStrs++[eStrs o]):=by
 unfold UM;rw [List.take_succ_eq_append_getElem h,List.map_append,ho];rfl
def BX:Code->List Code
 | .seq a b=>BX a++BX b
 | .cond _ a b=>BX a++BX b
 | .block _ b=>BX b
 | .loop b=>b::BX b
 | _=>[]
noncomputable def v1e (k:Nat):Code:=(BX (Tryz.f79.body.getD .skip)).getD k .skip
theorem w4u {p:Pg} (hc:XB p=true) {O D U I R:List (List Str)} (hO:OkO p O) (hDl:D.length=(sheetOf p).l.length) (hUl:U.length=(sheetOf p).l.length) (hd : ∀ d∈D,d.Pairwise ltT∧d.length<=1000000000) (hu : ∀ d∈U,d.Pairwise ltT∧d.length<=1000000000)
  (hIn:I.length=p.procs.length) (hRn:R.length=p.procs.length) (hR : ∀ (k:Nat) (h:k<p.procs.length) (h':k<R.length),R[k]=XA (x9d p k p.procs[k] D U (O.getD k []))) {K:Exit->St->Prop}
  (hK : ∀ (m:Bool) (s:St),m=(!decide (R=I))->Le Tryz.f79.ntmps s ⟨[(1,.p (.ip p.cells)),(3,.ptr 2 0),(10,.p (.bool m))],[(5,UM U),(4,UM D),(3,q7w p p.procs.length),(2,x7v p (.hd 3 0 p.procs.length) (.hd 4 0 D.length) (.hd 5 0 U.length) p.procs.length),(1,UM O),(0,UM R)]⟩->K (.exit 12) s) :
  LoopK Tryz.prog tab Tryz.f79.ntmps q7f (v1e 6) K ⟨[(1,.p (.ip p.cells)),(3,.ptr 2 0),(10,.p .ff),(147,.p (.int .i64 (p.procs.map fun f=>AV.agg f.cells).length)),(148,.p (.int .i64 0))],[(5,UM U),(4,UM D),(3,q7w p p.procs.length),(2,x7v p (.hd 3 0 p.procs.length) (.hd 4 0 D.length) (.hd 5 0 (sheetOf p).l.length) p.procs.length),(1,UM O),(0,UM I)]⟩:=by
 obtain ⟨hg,hpl,hcn⟩:=ZP hc;have hpm:(p.procs.map fun f=>AV.agg f.cells).length=p.procs.length:=length_map _;have hWl:R.length=I.length:=by omega
 have hOn:=hO.len;have hOl:p.procs.length=(O.map eStrs).length:=by rw [length_map,hO.len]
 have hKD:D.length=(D.map eStrs).length:=by rw [length_map]
 refine LoopK.inv QJ (fun x:Nat×Bool=>⟨[(1,.p (.ip p.cells)),(3,.ptr 2 0),(10,.p (.bool x.2)),(147,.p (.int .i64 (p.procs.map fun f=>AV.agg f.cells).length)),(148,.p (.int .i64 x.1))],[(5,UM U),(4,UM D),(3,q7w p p.procs.length),(2,x7v p (.hd 3 0 p.procs.length) (.hd 4 0 D.length) (.hd 5 0 (sheetOf p).l.length) p.procs.length),(1,UM O),(0,UM (R.take x.1++I.drop x.1))]⟩)
  (fun x=>x.1<=p.procs.length∧x.2 = !decide (R.take x.1=I.take x.1)) (fun x=>p.procs.length-x.1) (0,false)
  (Le.mk [] (by simp) (by simp) (by simp) (.cons (.refl _) (.cons (.refl _) (.cons (.p (Sub.ff rfl)) (.cons (.refl _) (.cons (.refl _) .nil))))) (.cons rfl (.refl _) (.cons rfl (.refl _) (.cons rfl (.refl _) (.cons rfl (.refl _) (.cons rfl (.refl _) (.cons rfl (.refl _) .nil))))))) ⟨zero_le _,rfl⟩ ?_
 rintro ⟨k,m⟩ ⟨hk1,hm1⟩;simp only at hk1 hm1 ⊢;rcases Nat.lt_or_ge k p.procs.length with hk2|hk2;rotate_left 1
 ·obtain rfl:k=p.procs.length:=by omega
  rw [take_of_length_le (by omega),take_of_length_le (by omega)] at hm1;rw [take_of_length_le (by omega),List.drop_eq_nil_of_le (by omega),List.append_nil];conv=>whnf
  repeat' (first|((first|(refine iM fun _=>?_)|refine dA ?_|refine And.intro rfl ?_|refine aD ?_|refine aR ?_|refine bP ?_|(refine iA fun _=>?_)|refine IdxK.xs (by omega) ?_|refine QZ (by omega) ?_|(refine ByteK.at (by omega) ?_)|refine wI ?_);conv=>whnf)|(apply bD<;>intro _<;>first|omega|conv=>whnf)|(apply bE<;>intro _<;>first|omega|conv=>whnf)|(apply bN<;>intro _<;>conv=>whnf)|(apply bB<;>intro _<;>conv=>whnf))
  exact hK m _ hm1 (Le.mk [] (by simp) (by simp) (by simp) (.cons (.refl _) (.cons (.refl _) (.cons (.refl _) .nil))) (.cons rfl (.refl _) (.cons rfl (.refl _) (.cons rfl (.refl _) (.cons rfl (.of_eq (by rw [hUl])) (.cons rfl (.refl _) (.cons rfl (.refl _) .nil)))))))
 ·have hkj:p.procs[k]? = some p.procs[k]:=by simp
  have hpk:=NP hkj;obtain ⟨o,ho⟩ : ∃ o,O.getD k []=o:=⟨_,rfl⟩;have hOk:O[k]? = some o:=by rw [<- ho,getD_eq_getElem?_getD,List.getElem?_eq_getElem (by omega)];rfl
  have horise:o.Pairwise ltT:=by rw [<- ho];exact UN hO.rise k
  have hol25:o.length<=25:=by rw [<- ho];exact hO.len25 hc k
  have hwk:(wysB p)[k]? = some (QX p k p.procs[k]):=by rw [x5a hk2,hpk]
  have hN:=fun x=>q5j ⟨sheetOf p,wysB p,D,U,(R).take k++I.drop k,O⟩ p hc k p.procs[k] hkj hwk o hOk horise (by omega) hDl hUl hd hu x;have hin:=q8e ⟨sheetOf p,wysB p,D,U,(R).take k++I.drop k,O⟩ p rfl hc k p.procs[k] hkj hwk o hN;have hrow:(R)[k]'(by omega)=XA (x9d p k p.procs[k] D U o):=by
   rw [hR k hk2 (by omega),ho]
  have hol:(x9d p k p.procs[k] D U o).length<=1000000000:=by
   have h1:(x9d p k p.procs[k] D U o).length<=(p.globals++[tapeS]).length:=List.length_filter_le _ _;rw [length_append,length_singleton] at h1;omega
  have hin1:SpecH Tryz.prog 138 ([AV.ip (Book.cells ⟨sheetOf p,wysB p,D,U,(R).take k++I.drop k,O⟩),.int .i64 k].map .p) [] (OneRow (q6m (x9d p k p.procs[k] D U o)) False):=hin;have hup:=z7q (W:=R) (O:=I) (k:=k) (by omega) hWl;have hat:=w2p (W:=R) (O:=I) (k:=k) (by omega) hWl;have hln:=z3c (W:=R) (O:=I) (k:=k) (by omega) hWl;have hde:=w2f (W:=R) (O:=I) (k:=k) (by omega) (by omega);have hEq:=ZI ((R)[k]'(by omega)) (I[k]'(by omega));rw [hrow] at hEq hup hde;have hKU:(sheetOf p).l.length=(U.map eStrs).length:=by rw [length_map];omega
  have hIl':p.procs.length=(((R).take k++I.drop k).map eStrs).length:=by rw [hln];omega
  clear hin hrow hN;generalize x9d p k p.procs[k] D U o=ol at *
  generalize hdq:decide (XA ol=I[k])=dq at hEq hde;have hdk:decide ((R).take k=I.take k) = !m:=by rw [hm1,Bool.not_not]
  rw [hdk] at hde;cases m<;>cases dq;all_goals
   conv=>whnf
   repeat' (first|((first|(refine iM fun _=>?_)|refine dA ?_|refine And.intro rfl ?_|refine aD ?_|refine aR ?_|refine bP ?_|(refine iA fun _=>?_)|refine IdxK.xs (by omega) ?_|refine QZ (by omega) ?_|(refine ByteK.at (by omega) ?_)|refine wI ?_|refine IdxL.mk k rfl (by omega) ?_|refine LdOwn.mk k 0 (eStrs I[k]) (by omega) hat ?_|refine cP hEq ?_|refine StOwn.mk k 0 (eStrs I[k]) (eStrs (XA ol)) (by omega) hat (Nat.le_refl 1) rfl ?_);conv=>whnf)|(apply bD<;>intro _<;>first|omega|conv=>whnf)|(apply bE<;>intro _<;>first|omega|conv=>whnf)|(apply bN<;>intro _<;>conv=>whnf)|(apply bB<;>intro _<;>conv=>whnf)|(refine z9j 6 rfl hin1 (.cons (w6c rfl (.hd (congrArg some PS) PG) (.hd rfl hKD) (.hd rfl hKU) (.hd rfl hIl') (.hd rfl hOl)) (.cons (.p (Sub.refl _)) .nil)) (fun hnil=>hnil.elim) ?_;conv=>whnf)|(refine CallK.heap [(1000,6)] 0 (ArgsH.cons (LSub.refl _) ArgsH.nil) (by refine BlksH.cons (j:=6) rfl rfl ?_ ?_;exact CSub.refl _;exact BlksH.nil) (YV ol hol) rfl rfl ?_;rintro l' H' ⟨rfl,rfl⟩;conv=>whnf))
  all_goals first
   | exact absurd (show false=true by assumption) (by decide)
   | exact absurd (show true=false by assumption) (by decide)
   | exact ⟨(k+1,true),⟨hk2,by simp only;rw [hde];rfl⟩,by simp only;omega,Le.mk [] (by simp) (by simp) (by simp) (.cons (.refl _) (.cons (.refl _) (.cons (.p (Sub.tt rfl)) (.cons (.refl _) (.cons (.refl _) .nil))))) (.cons rfl (.refl _) (.cons rfl (.refl _) (.cons rfl (.refl _) (.cons rfl (.refl _) (.cons rfl (.refl _) (.cons rfl (.of_eq (congrArg (Chunk.own 22 1) hup)) .nil))))))⟩
   | exact ⟨(k+1,true),⟨hk2,by simp only;rw [hde];rfl⟩,by simp only;omega,Le.mk [] (by simp) (by simp) (by simp) (.cons (.refl _) (.cons (.refl _) (.cons (.refl _) (.cons (.refl _) (.cons (.refl _) .nil))))) (.cons rfl (.refl _) (.cons rfl (.refl _) (.cons rfl (.refl _) (.cons rfl (.refl _) (.cons rfl (.refl _) (.cons rfl (.of_eq (congrArg (Chunk.own 22 1) hup)) .nil))))))⟩
   | exact ⟨(k+1,false),⟨hk2,by simp only;rw [hde];rfl⟩,by simp only;omega,Le.mk [] (by simp) (by simp) (by simp) (.cons (.refl _) (.cons (.refl _) (.cons (.refl _) (.cons (.refl _) (.cons (.refl _) .nil))))) (.cons rfl (.refl _) (.cons rfl (.refl _) (.cons rfl (.refl _) (.cons rfl (.refl _) (.cons rfl (.refl _) (.cons rfl (.of_eq (congrArg (Chunk.own 22 1) hup)) .nil))))))⟩
   | exact ⟨(k+1,false),⟨hk2,by simp only;rw [hde];rfl⟩,by simp only;omega,Le.mk [] (by simp) (by simp) (by simp) (.cons (.refl _) (.cons (.refl _) (.cons (.p (Sub.ff rfl)) (.cons (.refl _) (.cons (.refl _) .nil))))) (.cons rfl (.refl _) (.cons rfl (.refl _) (.cons rfl (.refl _) (.cons rfl (.refl _) (.cons rfl (.refl _) (.cons rfl (.of_eq (congrArg (Chunk.own 22 1) hup)) .nil))))))⟩
   | trace_state
theorem w6a {p:Pg} {D U O:List (List Str)} {k:Nat} (h:k<p.procs.length) (h':k<(niB p D U O).length):(niB p D U O)[k]=XA (x9d p k p.procs[k] D U (O.getD k [])):=by
 have h2:k<((List.range p.procs.length).map (niA p D U O)).length:=h';show ((List.range p.procs.length).map (niA p D U O))[k]'h2=_;rw [List.getElem_map,List.getElem_range];unfold niA;rw [NP (List.getElem?_eq_getElem h)]
theorem w6t {p:Pg} {D O I:List (List Str)} : ∀ (k:Nat) (h:k<p.procs.length) (h':k<(rdI p D O I).length),(rdI p D O I)[k]=XA (x9d p k p.procs[k] D (usB p I) (O.getD k [])):=fun _ h h'=>w6a h h'
theorem q2q (p:Pg) (hf:Fit p):SpecP Tryz.prog 79 [.agg p.cells] (fun r=>(XB p=true->r = .ip (QF p).cells)∧(XB p=false->r = .nilp)):=by
 refine sB q7f Tryz.func79 rfl Tryz.call79 ?_;conv=>whnf
 have hM:=x3x p hf;cases hc:XB p with
 | false =>
   rw [hc] at hM;repeat' (first|((first|(refine iM fun _=>?_)|refine And.intro rfl ?_|refine aD ?_|refine aR ?_|refine bP ?_|(refine iA fun _=>?_)|refine IdxK.xs (by omega) ?_|refine QZ (by omega) ?_|(refine ByteK.at (by omega) ?_)|refine wI ?_|refine cP hM ?_);conv=>whnf)|(apply bD<;>intro _<;>first|omega|conv=>whnf)|(apply bE<;>intro _<;>first|omega|conv=>whnf)|(apply bN<;>intro _<;>conv=>whnf)|(apply bB<;>intro _<;>conv=>whnf))
   all_goals first
    | contradiction
    | exact ⟨_,.p (Sub.refl _),fun h=>(by cases h),fun _=>rfl⟩
    | trace_state
 | true =>
   rw [hc] at hM;obtain ⟨hg,hpl,hcn⟩:=ZP hc;have hpm:(p.procs.map fun f=>AV.agg f.cells).length=p.procs.length:=length_map _;have hFl:=DX p (by omega) (by omega);repeat' (first|((first|(refine iM fun _=>?_)|refine And.intro rfl ?_|refine aD ?_|refine aR ?_|refine bP ?_|(refine iA fun _=>?_)|refine IdxK.xs (by omega) ?_|refine QZ (by omega) ?_|(refine ByteK.at (by omega) ?_)|refine wI ?_|refine cP hM ?_);conv=>whnf)|(apply bD<;>intro _<;>first|omega|conv=>whnf)|(apply bE<;>intro _<;>first|omega|conv=>whnf)|(apply bN<;>intro _<;>conv=>whnf)|(apply bB<;>intro _<;>conv=>whnf))
   all_goals try contradiction
   refine q0w ⟨[(1,.p (.ip p.cells)),(3,.ptr 2 0)],[(3,q7w p 0),(2,x7v p (.hd 3 0 0) (.p .nils) (.p .nils) p.procs.length),(1,UM (List.replicate p.procs.length [])),(0,UM (List.replicate p.procs.length []))]⟩ ?_ ?_
   ·refine DrawK.of QJ mixed (.cons 0 false (.cons 2 false (.cons 3 false (.cons 4 false (.cons 6 false (.cons 7 false (.cons 8 false (.fork3 1 (.fork 5 (.cons 9 true (.cons 10 true (.cons 11 true (.cons 12 true .nil)))) 9 (.cons 5 true (.cons 10 true (.cons 11 true (.cons 12 true .nil))))) 5 (.fork 1 (.cons 9 true (.cons 10 true (.cons 11 true (.cons 12 true .nil)))) 9 (.cons 1 true (.cons 10 true (.cons 11 true (.cons 12 true .nil))))) 9 (.fork 1 (.cons 5 true (.cons 10 true (.cons 11 true (.cons 12 true .nil)))) 5 (.cons 1 true (.cons 10 true (.cons 11 true (.cons 12 true .nil))))))))))))) (by kernel_rfl) ?_;conv=>whnf
    repeat' (first|((first|(refine iM fun _=>?_)|refine And.intro rfl ?_|refine aD ?_|refine aR ?_|refine bP ?_|(refine iA fun _=>?_)|refine IdxK.xs (by omega) ?_|refine QZ (by omega) ?_|(refine ByteK.at (by omega) ?_)|refine wI ?_|refine cP hFl ?_|refine MkK.mk p.procs.length (by rw [hpm]) (by show 24*_<=140737488355328;omega) (by unfold maxLen;omega) ?_);conv=>whnf)|(apply bD<;>intro _<;>first|omega|conv=>whnf)|(apply bE<;>intro _<;>first|omega|conv=>whnf)|(apply bN<;>intro _<;>conv=>whnf)|(apply bB<;>intro _<;>conv=>whnf)|(refine And.intro ?_ ?_<;>conv=>whnf))
    all_goals first
     | exact w8x
     | exact w9p
     | trace_state
   conv=>whnf
   repeat' (first|((first|(refine iM fun _=>?_)|refine dA ?_|refine And.intro rfl ?_|refine aD ?_|refine aR ?_|refine bP ?_|(refine iA fun _=>?_)|refine IdxK.xs (by omega) ?_|refine QZ (by omega) ?_|(refine ByteK.at (by omega) ?_)|refine wI ?_);conv=>whnf)|(apply bD<;>intro _<;>first|omega|conv=>whnf)|(apply bE<;>intro _<;>first|omega|conv=>whnf)|(apply bN<;>intro _<;>conv=>whnf)|(apply bB<;>intro _<;>conv=>whnf))
   have hnW:(wysB p).length=p.procs.length:=by unfold wysB;rw [length_map,length_range]
   refine LoopK.inv QJ (fun k:Nat=>⟨[(1,.p (.ip p.cells)),(3,.ptr 2 0),(32,.p (.int .i64 (p.procs.map fun f=>AV.agg f.cells).length)),(33,.p (.int .i64 k))],[(3,q7w p k),(2,x7v p (.hd 3 0 k) (.p .nils) (.p .nils) p.procs.length),(1,UM (List.replicate p.procs.length [])),(0,UM (List.replicate p.procs.length []))]⟩) (fun k=>k<=p.procs.length) (fun k=>p.procs.length-k) 0 (Le.of_eq rfl) (zero_le _) ?_;intro k hk;rcases Nat.lt_or_ge k p.procs.length with hk2|hk2
   ·have hkj:p.procs[k]? = some p.procs[k]:=by simp
    obtain ⟨w1,w2,w3⟩:=q4a hc hkj;have hWn:=w5h p k p.procs[k] hkj (by omega) w1 w3;have hwl:(((wysB p).take k).map fun w=>AV.ip w.cells).length=k:=by rw [length_map,length_take,hnW];omega
    have hst:q7w p (k+1) = .own 137 1 ((((wysB p).take k).map fun w=>AV.ip w.cells)++[.ip (QX p k p.procs[k]).cells]):=by
     unfold q7w;rw [List.take_succ_eq_append_getElem (by rw [hnW];exact hk2),List.map_append];have e:(wysB p)[k]'(by rw [hnW];exact hk2)=QX p k p.procs[k]:=by
      have h1:=x5a hk2;rw [List.getElem?_eq_getElem (by rw [hnW];exact hk2),NP hkj] at h1;exact Option.some.inj h1
     rw [e];rfl
    conv=>whnf
    repeat' (first|((first|(refine iM fun _=>?_)|refine dA ?_|refine And.intro rfl ?_|refine aD ?_|refine aR ?_|refine bP ?_|(refine iA fun _=>?_)|refine IdxK.xs (by omega) ?_|refine QZ (by omega) ?_|(refine ByteK.at (by omega) ?_)|refine wI ?_|refine cP hWn ?_|refine AppK.mk hwl.symm rfl (by show (k+1)*8<=140737488355328;omega) (by show k+1<=9223372036854775807;omega) (fun x hx=>by rcases List.mem_singleton.1 hx with rfl;exact ⟨rfl,rfl⟩) ?_);conv=>whnf)|(apply bD<;>intro _<;>first|omega|conv=>whnf)|(apply bE<;>intro _<;>first|omega|conv=>whnf)|(apply bN<;>intro _<;>conv=>whnf)|(apply bB<;>intro _<;>conv=>whnf)|(refine And.intro ?_ ?_<;>conv=>whnf))
    all_goals first
     | exact ⟨k+1,hk2,by omega,Le.of_eq (by rw [hst];rfl)⟩
     | trace_state
   ·obtain rfl:k=p.procs.length:=by omega
    conv=>whnf
    repeat' (first|((first|(refine iM fun _=>?_)|refine dA ?_|refine And.intro rfl ?_|refine aD ?_|refine aR ?_|refine bP ?_|(refine iA fun _=>?_)|refine IdxK.xs (by omega) ?_|refine QZ (by omega) ?_|(refine ByteK.at (by omega) ?_)|refine wI ?_);conv=>whnf)|(apply bD<;>intro _<;>first|omega|conv=>whnf)|(apply bE<;>intro _<;>first|omega|conv=>whnf)|(apply bN<;>intro _<;>conv=>whnf)|(apply bB<;>intro _<;>conv=>whnf))
    refine LoopK.inv QJ (fun x:Bool×List (List Str)×List (List Str)=>⟨[(1,.p (.ip p.cells)),(3,.ptr 2 0),(5,.p (.bool x.1))],[(4,UM x.2.1),(3,q7w p p.procs.length),(2,x7v p (.hd 3 0 p.procs.length) (.hd 4 0 x.2.1.length) (.p .nils) p.procs.length),(1,UM x.2.2),(0,UM (List.replicate p.procs.length []))]⟩)
     (fun x=>(∃ r,x.2.2=itO p r)∧(x.1=false->rdO p x.2.2=x.2.2∧x.2.1=dfB p x.2.2)) (fun x=>2*(400-tot x.2.2)+x.1.toNat) (true,[],List.replicate p.procs.length [])
     (Le.mk [(4,UM [])] (by simp [Chunk.new0,UM];rfl) (by simp) (by simp) (.cons (.refl _) (.cons (.refl _) (.cons (.p (Sub.tt rfl)) .nil))) (.new mem_cons_self (.cons rfl (.refl _) (.cons rfl (.obj (.cons (.refl _) (.cons (.refl _) (.cons (.nil mem_cons_self) (.cons (.refl _) (.cons (.refl _) (.cons (.refl _) .nil))))))) (.cons rfl (.refl _) (.cons rfl (.refl _) .nil)))))) ⟨⟨0,rfl⟩,fun h=>by cases h⟩ ?_
    rintro ⟨m,D,O⟩ ⟨⟨r,hr⟩,hm⟩;simp only at hr hm ⊢;have hO:=q3i p r;rw [<- hr] at hO;cases m with
    | false =>
      obtain ⟨hf1,hf2⟩:=hm rfl;conv=>whnf
      repeat' (first|((first|(refine iM fun _=>?_)|refine dA ?_|refine And.intro rfl ?_|refine aD ?_|refine aR ?_|refine bP ?_|(refine iA fun _=>?_)|refine IdxK.xs (by omega) ?_|refine QZ (by omega) ?_|(refine ByteK.at (by omega) ?_)|refine wI ?_|refine Br.ff ?_);conv=>whnf)|(apply bD<;>intro _<;>first|omega|conv=>whnf)|(apply bE<;>intro _<;>first|omega|conv=>whnf)|(apply bN<;>intro _<;>conv=>whnf)|(apply bB<;>intro _<;>conv=>whnf))
      subst hf2;have hfixO:=hf1;clear hm hf1;have hDl:=q9z p O;have hd : ∀ d∈dfB p O,d.Pairwise ltT∧d.length<=1000000000:=fun d hd=>by
       obtain ⟨it,hi,rfl⟩:=List.mem_map.1 hd;have h1:=HP (FR (bkO p O) it.s);have h2:=q2g hc hO (t:=it.s) (by rw [<- YI];exact List.mem_map.2 ⟨_,hi,rfl⟩);exact ⟨WJ _,by omega⟩
      have hOn:=hO.len;obtain ⟨D,hD⟩ : ∃ D,dfB p O=D:=⟨_,rfl⟩;rw [hD] at hDl hd ⊢;have hBk : ∀ I,(∃ r,I=itI p D O r)->rdI p D O I=I->QF p=⟨sheetOf p,wysB p,D,usB p I,I,O⟩:=fun I h1 h2=>by
       have hB:BookR p ⟨sheetOf p,wysB p,D,usB p I,I,O⟩:=⟨rfl,rfl,⟨r,hr⟩,hfixO,hD.symm,h1,h2,rfl⟩;exact hB.eq.symm
      refine LoopK.inv QJ (fun x:Bool×List (List Str)×List (List Str)=>⟨[(1,.p (.ip p.cells)),(3,.ptr 2 0),(10,.p (.bool x.1))],[(5,UM x.2.1),(4,UM D),(3,q7w p p.procs.length),(2,x7v p (.hd 3 0 p.procs.length) (.hd 4 0 D.length) (.hd 5 0 x.2.1.length) p.procs.length),(1,UM O),(0,UM x.2.2)]⟩)
       (fun x=>(∃ r,x.2.2=itI p D O r)∧(x.1=false->rdI p D O x.2.2=x.2.2∧x.2.1=usB p x.2.2)) (fun x=>2*(400-tot x.2.2)+x.1.toNat) (true,[],List.replicate p.procs.length [])
       (Le.mk [(5,UM [])] (by simp [Chunk.new0,UM];rfl) (by simp) (by simp) (.cons (.refl _) (.cons (.refl _) (.cons (.p (Sub.tt rfl)) .nil))) (.new mem_cons_self (.cons rfl (.refl _) (.cons rfl (.refl _) (.cons rfl (.obj (.cons (.refl _) (.cons (.refl _) (.cons (.refl _) (.cons (.nil mem_cons_self) (.cons (.refl _) (.cons (.refl _) .nil))))))) (.cons rfl (.refl _) (.cons rfl (.refl _) .nil))))))) ⟨⟨0,rfl⟩,fun h=>by cases h⟩ ?_
      rintro ⟨m,U,I⟩ ⟨⟨q,hq⟩,hm⟩;simp only at hq hm ⊢;have hI:=q3q p D O q;rw [<- hq] at hI;have hOl:p.procs.length=(O.map eStrs).length:=by rw [length_map,hO.len]
      have hKD:D.length=(D.map eStrs).length:=by rw [length_map]
      cases m with
      | false =>
        obtain ⟨hf1,rfl⟩:=hm rfl;have hbk:=hBk I ⟨q,hq⟩ hf1;have hIl:p.procs.length=(I.map eStrs).length:=by rw [length_map,hI.len]
        have hKU:(usB p I).length=((usB p I).map eStrs).length:=by rw [length_map]
        conv=>whnf
        repeat' (first|((first|(refine iM fun _=>?_)|refine dA ?_|refine And.intro rfl ?_|refine aD ?_|refine aR ?_|refine bP ?_|(refine iA fun _=>?_)|refine IdxK.xs (by omega) ?_|refine QZ (by omega) ?_|(refine ByteK.at (by omega) ?_)|refine wI ?_|refine Br.ff ?_);conv=>whnf)|(apply bD<;>intro _<;>first|omega|conv=>whnf)|(apply bE<;>intro _<;>first|omega|conv=>whnf)|(apply bN<;>intro _<;>conv=>whnf)|(apply bB<;>intro _<;>conv=>whnf))
        all_goals first
         | exact ⟨_,w6c rfl (.hd (congrArg some PS) PG) (.hd rfl hKD) (.hd rfl hKU) (.hd rfl hIl) (.hd rfl hOl),fun _=>by rw [hbk],fun h=>by cases h⟩
         | trace_state
      | true =>
        have hLl:((sheetOf p).l.map fun i=>AV.agg i.cells).length=(sheetOf p).l.length:=length_map _;obtain ⟨_,_,_,hsl,_⟩:=QK p;have hUl:(usB p I).length=(sheetOf p).l.length:=length_map _;have hIl:p.procs.length=(I.map eStrs).length:=by rw [length_map,hI.len]
        conv=>whnf
        repeat' (first|((first|(refine iM fun _=>?_)|refine dA ?_|refine And.intro rfl ?_|refine aD ?_|refine aR ?_|refine bP ?_|(refine iA fun _=>?_)|refine IdxK.xs (by omega) ?_|refine QZ (by omega) ?_|(refine ByteK.at (by omega) ?_)|refine wI ?_|refine Br.tt ?_);conv=>whnf)|(apply bD<;>intro _<;>first|omega|conv=>whnf)|(apply bE<;>intro _<;>first|omega|conv=>whnf)|(apply bN<;>intro _<;>conv=>whnf)|(apply bB<;>intro _<;>conv=>whnf))
        refine LoopK.inv QJ (fun k:Nat=>⟨[(1,.p (.ip p.cells)),(3,.ptr 2 0),(10,.p .ff),(124,.p (VT (sheetOf p).l)),(125,.p (.int .i64 ((sheetOf p).l.map fun i=>AV.agg i.cells).length)),(126,.p (.int .i64 k))],[(5,UM ((usB p I).take k)),(4,UM D),(3,q7w p p.procs.length),(2,x7v p (.hd 3 0 p.procs.length) (.hd 4 0 D.length) (.hd 5 0 k) p.procs.length),(1,UM O),(0,UM I)]⟩) (fun k=>k<=(sheetOf p).l.length) (fun k=>(sheetOf p).l.length-k) 0
         (Le.trans (s':=⟨[(1,.p (.ip p.cells)),(3,.ptr 2 0),(10,.p .ff),(124,.p (VT (sheetOf p).l)),(125,.p (.int .i64 ((sheetOf p).l.map fun i=>AV.agg i.cells).length)),(126,.p (.int .i64 (0:Nat)))],[(4,UM D),(3,q7w p p.procs.length),(2,x7v p (.hd 3 0 p.procs.length) (.hd 4 0 D.length) (.p .nils) p.procs.length),(1,UM O),(0,UM I)]⟩) (lE) (Le.mk [(5,UM [])] (by simp [Chunk.new0,UM];rfl) (by simp) (by simp) (.cons (.refl _) (.cons (.refl _) (.cons (.refl _) (.cons (.refl _) (.cons (.refl _) (.cons (.refl _) .nil)))))) (.new mem_cons_self (.cons rfl (.refl _) (.cons rfl (.refl _) (.cons rfl (.obj (.cons (.refl _) (.cons (.refl _) (.cons (.refl _) (.cons (.nil mem_cons_self) (.cons (.refl _) (.cons (.refl _) .nil))))))) (.cons rfl (.refl _) (.cons rfl (.refl _) .nil)))))))) (zero_le _) ?_
        intro k hk;rcases Nat.lt_or_ge k (sheetOf p).l.length with hk2|hk2;rotate_left 1
        ·obtain rfl:k=(sheetOf p).l.length:=by omega
         have hWl:(rdI p D O I).length=I.length:=by rw [hI.len];unfold rdI niB;rw [length_map,length_range]
         have hIn:=hI.len;rw [show (usB p I).take (sheetOf p).l.length=usB p I from take_of_length_le (by omega)];have hu : ∀ d∈usB p I,d.Pairwise ltT∧d.length<=1000000000:=fun d hd=>by
          obtain ⟨it,hi,rfl⟩:=List.mem_map.1 hd;have h1:=HP (DH (bkI p I) it.s);have h2:=x9c hc hI (t:=it.s) (by rw [<- YI];exact List.mem_map.2 ⟨_,hi,rfl⟩);exact ⟨WJ _,by omega⟩
         conv=>whnf
         repeat' (first|((first|(refine iM fun _=>?_)|refine dA ?_|refine And.intro rfl ?_|refine aD ?_|refine aR ?_|refine bP ?_|(refine iA fun _=>?_)|refine IdxK.xs (by omega) ?_|refine QZ (by omega) ?_|(refine ByteK.at (by omega) ?_)|refine wI ?_);conv=>whnf)|(apply bD<;>intro _<;>first|omega|conv=>whnf)|(apply bE<;>intro _<;>first|omega|conv=>whnf)|(apply bN<;>intro _<;>conv=>whnf)|(apply bB<;>intro _<;>conv=>whnf))
         have hW:rdI p D O I=itI p D O (q+1):=by rw [hq];rfl
         refine w4u hc hO hDl hUl hd hu hIn (hWl.trans hIn) w6t fun m s hm1 hle => ?_;conv=>whnf
         refine ⟨(m,usB p I,rdI p D O I),⟨⟨q+1,hW⟩,fun h => ?_⟩,?_,hle⟩
         ·simp only at h ⊢;rw [h] at hm1;have h1:rdI p D O I=I:=by simpa using hm1
          rw [h1];exact ⟨h1,rfl⟩
         ·simp only;have hOW:tot (rdI p D O I)<=400:=(w1e p D (usB p I) O).tot hc;cases m with
          | true =>
            have h1:rdI p D O I≠I:=by simpa using hm1
            have h2:=x7r hc (D:=D) (O:=O) (k:=q) (by rw [<- hW,<- hq];exact h1);rw [<- hW,<- hq] at h2;simp only [Bool.toNat_true];omega
          | false =>
            have h1:rdI p D O I=I:=by simpa using hm1
            rw [h1];simp only [Bool.toNat_true,Bool.toNat_false];omega
        have hmem:(sheetOf p).l[k].s∈WP p:=by rw [<- YI];exact List.mem_map.2 ⟨_,List.getElem_mem hk2,rfl⟩
        have hKl:k=(((usB p I).take k).map eStrs).length:=by rw [length_map,length_take];omega
        have hd0:=q5a ⟨sheetOf p,wysB p,D,(usB p I).take k,I,O⟩ (sheetOf p).l[k].s (fun h4=>hI.use hc rfl rfl hmem h4);rw [z5o (p:=p) (I:=I) rfl rfl] at hd0;have hd1:SpecH Tryz.prog 137 ([AV.ip (Book.cells ⟨sheetOf p,wysB p,D,(usB p I).take k,I,O⟩),.agg (sheetOf p).l[k].s.cells].map .p) [] (OneRow (q6m (DH (bkI p I) (sheetOf p).l[k].s)) (DH (bkI p I) (sheetOf p).l[k].s=[])):=hd0;have hdl:=x9c hc hI hmem;have hst:=x2y (L:=usB p I) (k:=k) (by omega) (o:=XA (DH (bkI p I) (sheetOf p).l[k].s)) (by unfold usB;rw [List.getElem_map]);generalize hds:DH (bkI p I) (sheetOf p).l[k].s=ds at *
        clear hd0;conv=>whnf
        repeat' (first|((first|(refine iM fun _=>?_)|refine dA ?_|refine And.intro rfl ?_|refine aD ?_|refine aR ?_|refine bP ?_|(refine iA fun _=>?_)|refine IdxK.xs (by omega) ?_|refine QZ (by omega) ?_|(refine ByteK.at (by omega) ?_)|refine wI ?_|refine AppK.mk hKl rfl (by show (k+1)*24<=140737488355328;omega) (by show k+1<=9223372036854775807;omega) (fun x hx=>by rcases List.mem_singleton.1 hx with rfl;exact ⟨rfl,rfl⟩) ?_);conv=>whnf)|(apply bD<;>intro _<;>first|omega|conv=>whnf)|(apply bE<;>intro _<;>first|omega|conv=>whnf)|(apply bN<;>intro _<;>conv=>whnf)|(apply bB<;>intro _<;>conv=>whnf)|(refine z9j 6 rfl hd1 (.cons (w6c rfl (.hd (congrArg some PS) PG) (.hd rfl hKD) (.hd rfl hKl) (.hd rfl hIl) (.hd rfl hOl)) (.cons (.p (Sub.refl _)) .nil)) (fun hnil => ?_) ?_<;>conv=>whnf)|(refine CallK.nil 6 9 1 rfl (.row .nil) ?_;refine CallK.heap [(1000,6)] 0 (ArgsH.cons (LSub.refl _) ArgsH.nil) (by refine BlksH.cons (j:=6) rfl rfl ?_ ?_;exact CSub.refl _;exact BlksH.nil) (YV [] (by simp)) rfl rfl ?_;rintro l' H' ⟨rfl,rfl⟩;conv=>whnf)|(refine CallK.heap [(1000,6)] 0 (ArgsH.cons (LSub.refl _) ArgsH.nil) (by refine BlksH.cons (j:=6) rfl rfl ?_ ?_;exact CSub.refl _;exact BlksH.nil) (YV ds (by omega)) rfl rfl ?_;rintro l' H' ⟨rfl,rfl⟩;conv=>whnf)|(refine And.intro ?_ ?_<;>conv=>whnf))
        all_goals first
         | exact ⟨k+1,hk2,by omega,Le.of_eq (by rw [hst,hnil];rfl)⟩
         | exact ⟨k+1,hk2,by omega,Le.of_eq (by rw [hst];rfl)⟩
         | trace_state
    | true =>
      have hLl:((sheetOf p).l.map fun i=>AV.agg i.cells).length=(sheetOf p).l.length:=length_map _;obtain ⟨_,_,_,hsl,_⟩:=QK p;conv=>whnf
      repeat' (first|((first|(refine iM fun _=>?_)|refine dA ?_|refine And.intro rfl ?_|refine aD ?_|refine aR ?_|refine bP ?_|(refine iA fun _=>?_)|refine IdxK.xs (by omega) ?_|refine QZ (by omega) ?_|(refine ByteK.at (by omega) ?_)|refine wI ?_|refine Br.tt ?_);conv=>whnf)|(apply bD<;>intro _<;>first|omega|conv=>whnf)|(apply bE<;>intro _<;>first|omega|conv=>whnf)|(apply bN<;>intro _<;>conv=>whnf)|(apply bB<;>intro _<;>conv=>whnf))
      refine LoopK.inv QJ (fun k:Nat=>⟨[(1,.p (.ip p.cells)),(3,.ptr 2 0),(5,.p .ff),(62,.p (VT (sheetOf p).l)),(63,.p (.int .i64 ((sheetOf p).l.map fun i=>AV.agg i.cells).length)),(64,.p (.int .i64 k))],[(4,UM ((dfB p O).take k)),(3,q7w p p.procs.length),(2,x7v p (.hd 3 0 p.procs.length) (.hd 4 0 k) (.p .nils) p.procs.length),(1,UM O),(0,UM (List.replicate p.procs.length []))]⟩) (fun k=>k<=(sheetOf p).l.length) (fun k=>(sheetOf p).l.length-k) 0
       (Le.trans (s':=⟨[(1,.p (.ip p.cells)),(3,.ptr 2 0),(5,.p .ff),(62,.p (VT (sheetOf p).l)),(63,.p (.int .i64 ((sheetOf p).l.map fun i=>AV.agg i.cells).length)),(64,.p (.int .i64 (0:Nat)))],[(3,q7w p p.procs.length),(2,x7v p (.hd 3 0 p.procs.length) (.p .nils) (.p .nils) p.procs.length),(1,UM O),(0,UM (List.replicate p.procs.length []))]⟩) (lE) (Le.mk [(4,UM [])] (by simp [Chunk.new0,UM];rfl) (by simp) (by simp) (.cons (.refl _) (.cons (.refl _) (.cons (.refl _) (.cons (.refl _) (.cons (.refl _) (.cons (.refl _) .nil)))))) (.new mem_cons_self (.cons rfl (.refl _) (.cons rfl (.obj (.cons (.refl _) (.cons (.refl _) (.cons (.nil mem_cons_self) (.cons (.refl _) (.cons (.refl _) (.cons (.refl _) .nil))))))) (.cons rfl (.refl _) (.cons rfl (.refl _) .nil))))))) (zero_le _) ?_
      intro k hk;rcases Nat.lt_or_ge k (sheetOf p).l.length with hk2|hk2;rotate_left 1
      ·obtain rfl:k=(sheetOf p).l.length:=by omega
       have hDl:=q9z p O;have hWl:(rdO p O).length=O.length:=by rw [hO.len];unfold rdO otB;rw [length_map,length_range]
       have hOn:=hO.len;rw [show (dfB p O).take (sheetOf p).l.length=dfB p O from take_of_length_le (by omega)];have hd : ∀ d∈dfB p O,d.length<=1000:=fun d hd=>by
        obtain ⟨it,hi,rfl⟩:=List.mem_map.1 hd;have h1:=HP (FR (bkO p O) it.s);have h2:=q2g hc hO (t:=it.s) (by rw [<- YI];exact List.mem_map.2 ⟨_,hi,rfl⟩);omega
       conv=>whnf
       repeat' (first|((first|(refine iM fun _=>?_)|refine dA ?_|refine And.intro rfl ?_|refine aD ?_|refine aR ?_|refine bP ?_|(refine iA fun _=>?_)|refine IdxK.xs (by omega) ?_|refine QZ (by omega) ?_|(refine ByteK.at (by omega) ?_)|refine wI ?_);conv=>whnf)|(apply bD<;>intro _<;>first|omega|conv=>whnf)|(apply bE<;>intro _<;>first|omega|conv=>whnf)|(apply bN<;>intro _<;>conv=>whnf)|(apply bB<;>intro _<;>conv=>whnf))
       refine LoopK.inv QJ (fun x:Nat×Bool=>⟨[(1,.p (.ip p.cells)),(3,.ptr 2 0),(5,.p (.bool x.2)),(85,.p (.int .i64 (p.procs.map fun f=>AV.agg f.cells).length)),(86,.p (.int .i64 x.1))],[(4,UM (dfB p O)),(3,q7w p p.procs.length),(2,x7v p (.hd 3 0 p.procs.length) (.hd 4 0 (sheetOf p).l.length) (.p .nils) p.procs.length),(1,UM ((rdO p O).take x.1++O.drop x.1)),(0,UM (List.replicate p.procs.length []))]⟩)
        (fun x=>x.1<=p.procs.length∧x.2 = !decide ((rdO p O).take x.1=O.take x.1)) (fun x=>p.procs.length-x.1) (0,false)
        (Le.mk [] (by simp) (by simp) (by simp) (.cons (.refl _) (.cons (.refl _) (.cons (.p (Sub.ff rfl)) (.cons (.refl _) (.cons (.refl _) .nil))))) (.cons rfl (.refl _) (.cons rfl (.refl _) (.cons rfl (.refl _) (.cons rfl (.refl _) (.cons rfl (.refl _) .nil)))))) ⟨zero_le _,rfl⟩ ?_
       rintro ⟨k,m⟩ ⟨hk1,hm1⟩;simp only at hk1 hm1 ⊢;rcases Nat.lt_or_ge k p.procs.length with hk2|hk2;rotate_left 1
       ·obtain rfl:k=p.procs.length:=by omega
        rw [take_of_length_le (by omega),take_of_length_le (by omega)] at hm1;rw [take_of_length_le (by omega),List.drop_eq_nil_of_le (by omega),List.append_nil];have hW:rdO p O=itO p (r+1):=by rw [hr];rfl
        conv=>whnf
        repeat' (first|((first|(refine iM fun _=>?_)|refine dA ?_|refine And.intro rfl ?_|refine aD ?_|refine aR ?_|refine bP ?_|(refine iA fun _=>?_)|refine IdxK.xs (by omega) ?_|refine QZ (by omega) ?_|(refine ByteK.at (by omega) ?_)|refine wI ?_);conv=>whnf)|(apply bD<;>intro _<;>first|omega|conv=>whnf)|(apply bE<;>intro _<;>first|omega|conv=>whnf)|(apply bN<;>intro _<;>conv=>whnf)|(apply bB<;>intro _<;>conv=>whnf))
        refine ⟨(m,dfB p O,rdO p O),⟨⟨r+1,hW⟩,fun h => ?_⟩,?_,Le.mk [] (by simp) (by simp) (by simp) (.cons (.refl _) (.cons (.refl _) (.cons (.refl _) .nil))) (.cons rfl (.refl _) (.cons rfl (.refl _) (.cons rfl (.of_eq (by rw [hDl])) (.cons rfl (.refl _) (.cons rfl (.refl _) .nil)))))⟩
        ·simp only at h ⊢;rw [h] at hm1;have h1:rdO p O=O:=by simpa using hm1
         rw [h1];exact ⟨h1,rfl⟩
        ·simp only;have hOW:=(w2t p (dfB p O)).tot hc;have hOW:tot (rdO p O)<=400:=hOW;cases m with
         | true =>
           have h1:rdO p O≠O:=by simpa using hm1
           have h2:=x9p (p:=p) (k:=r) (by rw [<- hW,<- hr];exact h1);rw [<- hW,<- hr] at h2;simp only [Bool.toNat_true];omega
         | false =>
           have h1:rdO p O=O:=by simpa using hm1
           rw [h1];simp only [Bool.toNat_true,Bool.toNat_false];omega
       have hkj:p.procs[k]? = some p.procs[k]:=by simp
       have hpk:=NP hkj;have hWk:wysB p=(wysB p):=rfl;have hout:=q6x ⟨sheetOf p,wysB p,dfB p O,[],List.replicate p.procs.length [],(rdO p O).take k++O.drop k⟩ p rfl hc k p.procs[k] hkj (by show (wysB p)[k]? = _;rw [x5a hk2,hpk]) hDl hd;have hrow:(rdO p O)[k]'(by omega)=XA (x5x p k p.procs[k] (dfB p O) (itsOf p k p.procs[k])):=by
        unfold rdO otB;rw [List.getElem_map,List.getElem_range];unfold otA;rw [hpk]
       have hol:(x5x p k p.procs[k] (dfB p O) (itsOf p k p.procs[k])).length<=1000000000:=by
        have h1:=x8f (p:=p) (i:=k) (f:=p.procs[k]) hd (itsOf p k p.procs[k]);have h2:(itsOf p k p.procs[k]).length<=200:=by
         obtain ⟨_,_,_,_,hsp⟩:=QK p;obtain ⟨_,_,h3,h4⟩:=hsp k _ hkj;have h5:=congrArg List.length h4;rw [List.length_drop,length_take] at h5;have e1:itL (k:Nat) 0 (-1) 0 (QM p.procs k) p.procs[k].body=itsOf p k p.procs[k]:=rfl;rw [e1] at h5;omega
        have h3:(itsOf p k p.procs[k]).length*1000<=200*1000:=Nat.mul_le_mul_right _ h2;omega
       have hout1:SpecH Tryz.prog 135 ([AV.ip (Book.cells ⟨sheetOf p,wysB p,dfB p O,[],List.replicate p.procs.length [],(rdO p O).take k++O.drop k⟩),.int .i64 k].map .p) [] (OneRow (q6m (x5x p k p.procs[k] (dfB p O) (itsOf p k p.procs[k]))) False):=hout;have hup:=z7q (W:=rdO p O) (O:=O) (k:=k) (by omega) hWl;have hat:=w2p (W:=rdO p O) (O:=O) (k:=k) (by omega) hWl;have hln:=z3c (W:=rdO p O) (O:=O) (k:=k) (by omega) hWl;have hde:=w2f (W:=rdO p O) (O:=O) (k:=k) (by omega) (by omega);have hEq:=ZI ((rdO p O)[k]'(by omega)) (O[k]'(by omega));rw [hrow] at hEq hup hde;have hKl:(sheetOf p).l.length=((dfB p O).map eStrs).length:=by rw [length_map];omega
       have hOl:p.procs.length=(((rdO p O).take k++O.drop k).map eStrs).length:=by rw [hln];omega
       have hIl:p.procs.length=((List.replicate p.procs.length ([]:List Str)).map eStrs).length:=by rw [length_map,List.length_replicate]
       clear hout hrow;generalize x5x p k p.procs[k] (dfB p O) (itsOf p k p.procs[k])=ol at *
       generalize hdq:decide (XA ol=O[k])=dq at hEq hde;have hdk:decide ((rdO p O).take k=O.take k) = !m:=by rw [hm1,Bool.not_not]
       rw [hdk] at hde;cases m<;>cases dq;all_goals
        conv=>whnf
        repeat' (first|((first|(refine iM fun _=>?_)|refine dA ?_|refine And.intro rfl ?_|refine aD ?_|refine aR ?_|refine bP ?_|(refine iA fun _=>?_)|refine IdxK.xs (by omega) ?_|refine QZ (by omega) ?_|(refine ByteK.at (by omega) ?_)|refine wI ?_|refine IdxL.mk k rfl (by omega) ?_|refine LdOwn.mk k 0 (eStrs O[k]) (by omega) hat ?_|refine cP hEq ?_|refine StOwn.mk k 0 (eStrs O[k]) (eStrs (XA ol)) (by omega) hat (Nat.le_refl 1) rfl ?_);conv=>whnf)|(apply bD<;>intro _<;>first|omega|conv=>whnf)|(apply bE<;>intro _<;>first|omega|conv=>whnf)|(apply bN<;>intro _<;>conv=>whnf)|(apply bB<;>intro _<;>conv=>whnf)|(refine z9j 5 rfl hout1 (.cons (w6c rfl (.hd (congrArg some PS) PG) (.hd rfl hKl) (.p Sub.nils) (.hd rfl hIl) (.hd rfl hOl)) (.cons (.p (Sub.refl _)) .nil)) (fun hnil=>hnil.elim) ?_;conv=>whnf)|(refine CallK.heap [(1000,5)] 0 (ArgsH.cons (LSub.refl _) ArgsH.nil) (by refine BlksH.cons (j:=5) rfl rfl ?_ ?_;exact CSub.refl _;exact BlksH.nil) (YV ol hol) rfl rfl ?_;rintro l' H' ⟨rfl,rfl⟩;conv=>whnf))
       all_goals first
        | exact absurd (show false=true by assumption) (by decide)
        | exact absurd (show true=false by assumption) (by decide)
        | exact ⟨(k+1,true),⟨hk2,by simp only;rw [hde];rfl⟩,by simp only;omega,Le.mk [] (by simp) (by simp) (by simp) (.cons (.refl _) (.cons (.refl _) (.cons (.p (Sub.tt rfl)) (.cons (.refl _) (.cons (.refl _) .nil))))) (.cons rfl (.refl _) (.cons rfl (.refl _) (.cons rfl (.refl _) (.cons rfl (.of_eq (congrArg (Chunk.own 22 1) hup)) (.cons rfl (.refl _) .nil)))))⟩
        | exact ⟨(k+1,true),⟨hk2,by simp only;rw [hde];rfl⟩,by simp only;omega,Le.mk [] (by simp) (by simp) (by simp) (.cons (.refl _) (.cons (.refl _) (.cons (.refl _) (.cons (.refl _) (.cons (.refl _) .nil))))) (.cons rfl (.refl _) (.cons rfl (.refl _) (.cons rfl (.refl _) (.cons rfl (.of_eq (congrArg (Chunk.own 22 1) hup)) (.cons rfl (.refl _) .nil)))))⟩
        | exact ⟨(k+1,false),⟨hk2,by simp only;rw [hde];rfl⟩,by simp only;omega,Le.mk [] (by simp) (by simp) (by simp) (.cons (.refl _) (.cons (.refl _) (.cons (.refl _) (.cons (.refl _) (.cons (.refl _) .nil))))) (.cons rfl (.refl _) (.cons rfl (.refl _) (.cons rfl (.refl _) (.cons rfl (.of_eq (congrArg (Chunk.own 22 1) hup)) (.cons rfl (.refl _) .nil)))))⟩
        | exact ⟨(k+1,false),⟨hk2,by simp only;rw [hde];rfl⟩,by simp only;omega,Le.mk [] (by simp) (by simp) (by simp) (.cons (.refl _) (.cons (.refl _) (.cons (.p (Sub.ff rfl)) (.cons (.refl _) (.cons (.refl _) .nil))))) (.cons rfl (.refl _) (.cons rfl (.refl _) (.cons rfl (.refl _) (.cons rfl (.of_eq (congrArg (Chunk.own 22 1) hup)) (.cons rfl (.refl _) .nil)))))⟩
        | trace_state
      have hmem:(sheetOf p).l[k].s∈WP p:=by rw [<- YI];exact List.mem_map.2 ⟨_,List.getElem_mem hk2,rfl⟩
      have hDl:=q9z p O;have hKl:k=(((dfB p O).take k).map eStrs).length:=by rw [length_map,length_take];omega
      have hOl:p.procs.length=(O.map eStrs).length:=by rw [length_map,hO.len]
      have hIl:p.procs.length=((List.replicate p.procs.length ([]:List Str)).map eStrs).length:=by rw [length_map,List.length_replicate]
      have hd0:=q5s ⟨sheetOf p,wysB p,(dfB p O).take k,[],List.replicate p.procs.length [],O⟩ (sheetOf p).l[k].s (fun h4=>hO.call hc rfl rfl hmem h4);rw [z3p rfl rfl] at hd0;have hd1:SpecH Tryz.prog 134 ([AV.ip (Book.cells ⟨sheetOf p,wysB p,(dfB p O).take k,[],List.replicate p.procs.length [],O⟩),.agg (sheetOf p).l[k].s.cells].map .p) [] (OneRow (q6m (FR (bkO p O) (sheetOf p).l[k].s)) (FR (bkO p O) (sheetOf p).l[k].s=[])):=hd0;have hdl:=q2g hc hO hmem;have hst:=x2y (L:=dfB p O) (k:=k) (by omega) (o:=XA (FR (bkO p O) (sheetOf p).l[k].s)) (by unfold dfB;rw [List.getElem_map]);generalize hds:FR (bkO p O) (sheetOf p).l[k].s=ds at *
      clear hd0;conv=>whnf
      repeat' (first|((first|(refine iM fun _=>?_)|refine dA ?_|refine And.intro rfl ?_|refine aD ?_|refine aR ?_|refine bP ?_|(refine iA fun _=>?_)|refine IdxK.xs (by omega) ?_|refine QZ (by omega) ?_|(refine ByteK.at (by omega) ?_)|refine wI ?_|refine AppK.mk hKl rfl (by show (k+1)*24<=140737488355328;omega) (by show k+1<=9223372036854775807;omega) (fun x hx=>by rcases List.mem_singleton.1 hx with rfl;exact ⟨rfl,rfl⟩) ?_);conv=>whnf)|(apply bD<;>intro _<;>first|omega|conv=>whnf)|(apply bE<;>intro _<;>first|omega|conv=>whnf)|(apply bN<;>intro _<;>conv=>whnf)|(apply bB<;>intro _<;>conv=>whnf)|(refine z9j 5 rfl hd1 (.cons (w6c rfl (.hd (congrArg some PS) PG) (.hd rfl hKl) (.p Sub.nils) (.hd rfl hIl) (.hd rfl hOl)) (.cons (.p (Sub.refl _)) .nil)) (fun hnil => ?_) ?_<;>conv=>whnf)|(refine CallK.nil 5 9 1 rfl (.row .nil) ?_;refine CallK.heap [(1000,5)] 0 (ArgsH.cons (LSub.refl _) ArgsH.nil) (by refine BlksH.cons (j:=5) rfl rfl ?_ ?_;exact CSub.refl _;exact BlksH.nil) (YV [] (by simp)) rfl rfl ?_;rintro l' H' ⟨rfl,rfl⟩;conv=>whnf)|(refine CallK.heap [(1000,5)] 0 (ArgsH.cons (LSub.refl _) ArgsH.nil) (by refine BlksH.cons (j:=5) rfl rfl ?_ ?_;exact CSub.refl _;exact BlksH.nil) (YV ds (by omega)) rfl rfl ?_;rintro l' H' ⟨rfl,rfl⟩;conv=>whnf)|(refine And.intro ?_ ?_<;>conv=>whnf))
      all_goals first
       | exact ⟨k+1,hk2,by omega,Le.of_eq (by rw [hst,hnil];rfl)⟩
       | exact ⟨k+1,hk2,by omega,Le.of_eq (by rw [hst];rfl)⟩
       | trace_state
end Go.Ab
