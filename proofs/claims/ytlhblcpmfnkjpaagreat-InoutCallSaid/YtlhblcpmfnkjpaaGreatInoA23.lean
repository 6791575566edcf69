/- law20: InoutCall. -/
import Derived.Test.YtlhblcpmfnkjpaaGreatInoA18
import Derived.Test.YtlhblcpmfnkjpaaGreatInoA20
set_option linter.unusedSimpArgs false
set_option linter.unusedVariables false
set_option maxRecDepth 100000
set_option maxHeartbeats 16000000
open List (length_map)
open Nat (zero_le)
namespace Go.Ab
open Go.Proofs
theorem NX (a b:List Str):SpecP Tryz.prog 43 [eStrs a,eStrs b] (fun r=>r = .bool (a.all fun s=>inS b s)):=by
 refine sB FE Tryz.func43 rfl Tryz.call43 ?_;conv=>whnf
 have hI:=fun x=>XQ b x;have hal:(a.map AV.str).length=a.length:=length_map _;repeat' (first|((first|(refine iM fun _=>?_)|refine dA ?_|refine And.intro rfl ?_|refine aD ?_|refine aR ?_|refine bP ?_|(refine iA fun _=>?_)|refine IdxK.xs (by omega) ?_|refine QX (by omega) ?_|(refine ByteK.at (by omega) ?_)|refine wI ?_);conv=>whnf)|(apply bD<;>intro _<;>first|omega|conv=>whnf)|(apply bE<;>intro _<;>first|omega|conv=>whnf)|(apply bN<;>intro _<;>conv=>whnf)|(apply bB<;>intro _<;>conv=>whnf))
 refine LoopK.inv QY (fun j:Nat=>⟨[(1,.p (eStrs b)),(7,.p (eStrs a)),(8,.p (.int .i64 (a.map AV.str).length)),(9,.p (.int .i64 j))],[]⟩) (fun j=>j<=a.length∧(a.drop j).all (fun s=>inS b s)=a.all fun s=>inS b s) (fun j=>a.length-j) 0 (Le.of_eq rfl) ⟨zero_le _,rfl⟩ ?_;rintro j ⟨h2,h3⟩;rcases Nat.lt_or_ge j a.length with hj|hj
 ·rw [List.drop_eq_getElem_cons hj,List.all_cons] at h3;have hIj:=hI a[j];cases hq:inS b a[j] with
  | true =>
    rw [hq] at hIj h3;conv=>whnf
    repeat' (first|((first|(refine iM fun _=>?_)|refine dA ?_|refine And.intro rfl ?_|refine aD ?_|refine aR ?_|refine bP ?_|(refine iA fun _=>?_)|refine IdxK.xs (by omega) ?_|refine QX (by omega) ?_|(refine ByteK.at (by omega) ?_)|refine wI ?_|refine cP hIj ?_);conv=>whnf)|(apply bD<;>intro _<;>first|omega|conv=>whnf)|(apply bE<;>intro _<;>first|omega|conv=>whnf)|(apply bN<;>intro _<;>conv=>whnf)|(apply bB<;>intro _<;>conv=>whnf))
    all_goals first
     | contradiction
     | exact ⟨j+1,⟨hj,h3⟩,by omega,Le.of_eq rfl⟩
  | false =>
    rw [hq] at hIj h3;conv=>whnf
    repeat' (first|((first|(refine iM fun _=>?_)|refine dA ?_|refine And.intro rfl ?_|refine aD ?_|refine aR ?_|refine bP ?_|(refine iA fun _=>?_)|refine IdxK.xs (by omega) ?_|refine QX (by omega) ?_|(refine ByteK.at (by omega) ?_)|refine wI ?_|refine cP hIj ?_);conv=>whnf)|(apply bD<;>intro _<;>first|omega|conv=>whnf)|(apply bE<;>intro _<;>first|omega|conv=>whnf)|(apply bN<;>intro _<;>conv=>whnf)|(apply bB<;>intro _<;>conv=>whnf))
    all_goals first
     | contradiction
     | exact RetK.ff (by rw [<- h3];rfl)
 ·rw [List.drop_eq_nil_of_le hj,List.all_nil] at h3;conv=>whnf
  repeat' (first|((first|(refine iM fun _=>?_)|refine dA ?_|refine And.intro rfl ?_|refine aD ?_|refine aR ?_|refine bP ?_|(refine iA fun _=>?_)|refine IdxK.xs (by omega) ?_|refine QX (by omega) ?_|(refine ByteK.at (by omega) ?_)|refine wI ?_);conv=>whnf)|(apply bD<;>intro _<;>first|omega|conv=>whnf)|(apply bE<;>intro _<;>first|omega|conv=>whnf)|(apply bN<;>intro _<;>conv=>whnf)|(apply bB<;>intro _<;>conv=>whnf))
  all_goals exact RetK.tt h3.symm
structure CallF (p:Pg) (t:S) (q:Pr) (out mine D:List Str):Prop where
 up : ∀ v∈out,v=tapeS∨v∈p.globals->v∈mine∧v∈D
 ref : ∀ (i:Nat) (x:Param),q.params[i]? = some x->x.ref=true->x.name∈out -> ∃ a:Arg,t.args[i]? = some a∧a.name∈D
 sub : ∀ d∈D,d∈tapeS::namesT t++p.globals
 pl:q.params.length<=8
 al:q.params.length<=t.args.length∧t.args.length<=8
 procs:procM p t.proc=(q,true)
theorem z4g {p:Pg} (h:QO p=true) (n:Int) (h0:NB (q9b p 4) n≠0) (hl:w6c (z2g p (BB p (NB (q9b p 4) n)).2.1) (NB (q9b p 4) n)=true) :
  ∃ q,CallF p (z3d p (NB (q9b p 4) n)) q (KU p (z3d p (NB (q9b p 4) n)).proc) (KU p (BB p (NB (q9b p 4) n)).2.1) (q6w p (NB (q9b p 4) n)):=by
 have hm:=(QP h).1;have hne:q9b p 4≠[]:=fun e=>h0 (by rw [e];rfl);have hid:=w5d n hne;generalize NB (q9b p 4) n=id at *
 have hid0:id∈q9b p 0:=by
  unfold q9b at hid ⊢;obtain ⟨x,hx,rfl⟩:=List.mem_map.1 hid;exact List.mem_map.2 ⟨x,List.mem_filter.2 ⟨(List.mem_filter.1 hx).1,by unfold x2l;simp⟩,rfl⟩
 obtain ⟨k,f,t,hk,ht,rfl,hw⟩:=w2z h hid0;have hf:f∈p.procs:=List.mem_of_getElem? hk;have hts:t∈VA p:=List.mem_flatMap.2 ⟨f,hf,ht⟩;have h4:t.kind=4:=by
  unfold q9b at hid;obtain ⟨x,hx,hxe⟩:=List.mem_map.1 hid;obtain ⟨hx1,hx2⟩:=List.mem_filter.1 hx;have hxs:x.s∈VA p:=by rw [<- z6z hm];exact List.mem_map_of_mem hx1
  obtain ⟨g,hg,hxg⟩:=List.mem_flatMap.1 hxs;obtain ⟨j,hj,rfl⟩:=List.mem_iff_getElem.1 hg;have e1:=PN h (List.getElem?_eq_getElem hj) hxg;have e2:=PN h hk ht;rw [hxe,e2] at e1;rw [Option.some.inj e1];unfold x2l at hx2;simpa using hx2
 obtain ⟨k',f',hk',he,_,hn,_⟩:=q5w hw;have hkk:k=k':=by
  have:(QQ p k f).j=(QQ p k' f').j:=by rw [he]
  exact this
 subst hkk;obtain rfl:f=f':=by rw [hk] at hk';exact Option.some.inj hk'
 rw [w2k h hk ht,<- hn];rw [<- hn] at hl;have hal:Rch (wR p k f) 0 t.id:=by
  have hw2:x5t p f.name=some (QQ p k f):=by rw [hn];exact hw
  unfold z2g at hl;rw [hw2] at hl;unfold w6c at hl;obtain ⟨y,hy,hye⟩:=List.any_eq_true.1 hl;rw [of_decide_eq_true hye];exact ((w2m h hk).1 hy).2
 obtain ⟨m,hm1,hc1,_,hc2,hc3⟩:=DY h hts h4;have hmk:=q9i hm1;have hb:=BS h;obtain ⟨_,e1,_⟩:=x9k h hmk;obtain ⟨_,e2,_⟩:=x9k h hk;have e3:KU p t.proc=(QT p).outs.getD m []:=by rw [<- hc2];exact e1
 have e4:q6w p t.id=VK (HU (bkO p (QT p).outs) t):=by
  have hbd:=WT hm hk ht;obtain ⟨_,_,_,hlen,hsp⟩:=QJ p;obtain ⟨_,_,hle,_⟩:=hsp k f hk;unfold q6w;rw [if_pos ⟨h,by omega,by omega⟩,hb.defs];exact w6n h hk ht _
 have hcO:(QT p).outs.getD (caI p t).toNat []=KU p t.proc:=by rw [hc1,e3];rfl
 have hlen:=congrArg List.length hc3;rw [length_map,length_map] at hlen;have hpl:=q0a h m;refine ⟨prA p m,fun v hv hcm => ?_,fun i x hx hr hxo => ?_,fun d hd => ?_,hpl,by omega,?_⟩
 ·have hd:v∈HU (bkO p (QT p).outs) t:=(q0z h4).2 (.inr (.inr ⟨by rw [hcO];exact hv,KI.2 hcm⟩));refine ⟨?_,by rw [e4];exact XF.2 hd⟩;rw [e2];exact w3l h hb.fixO hk ht hal hd (x0a.2 (.inl hcm))
 ·have hil:i<(prA p m).params.length:=(List.getElem?_eq_some_iff.1 hx).1;have hia:i<t.args.length:=by omega
  refine ⟨t.args[i],List.getElem?_eq_getElem hia,?_⟩;rw [e4];refine XF.2 ((q0z h4).2 (.inr (.inl (q4k.2 ⟨(t.args[i],x),?_,⟨?_,by rw [hcO];exact hxo⟩,rfl⟩))))
  ·have hcp:caP p t=prA p m:=by obtain ⟨m',_,hc1',hc4,_⟩:=DY h hts h4;rw [hc4];congr 1;omega
   rw [hcp];have hz:(t.args.zip (prA p m).params)[i]? = some (t.args[i],x):=by rw [List.getElem?_zip_eq_some];exact ⟨List.getElem?_eq_getElem hia,hx⟩
   rw [List.take_of_length_le (by rw [List.length_zip];omega)];exact List.mem_of_getElem? hz
  ·have h5:((prA p m).params.map Param.ref)[i]? = (t.args.map Arg.ref)[i]? := by rw [hc3]
   rw [List.getElem?_map,List.getElem?_map,hx,List.getElem?_eq_getElem hia] at h5;have h6:x.ref=(t.args[i]).ref:=Option.some.inj h5;rw [<- h6];exact hr
 ·rw [e4,XF,q0z h4] at hd;rcases hd with ⟨h5,h6⟩|h5|⟨_,h5⟩
  ·exact List.mem_append_left _ (List.mem_cons_of_mem _ (h5▸q6p h6 (by omega)))
  ·exact List.mem_append_left _ (List.mem_cons_of_mem _ (z0r h5))
  ·rcases KI.1 h5 with rfl|h6
   ·exact List.mem_append_left _ List.mem_cons_self
   ·exact List.mem_append_right _ h6
 ·have hfi:p.procs.find? (fun g=>g.name==t.proc)=some (prA p m):=by
   have hmm:t.proc∈QH p:=List.mem_map.2 ⟨_,List.mem_of_getElem? hmk,hc2⟩;obtain ⟨m',hm',h7,_,h8,h9⟩:=q4s hmm;obtain ⟨rfl,h10⟩:=x2a h (List.getElem?_eq_getElem hm') hmk (h9.trans hc2.symm);rw [h8,h10]
  unfold procM z8a;rw [hm,hfi];rfl
theorem GM (p:Pg) (n:Int):SpecP Tryz.prog 5 [.agg p.cells,.int .i64 n] (fun r=>r = .tt):=by
 refine sB JB Tryz.func5 rfl Tryz.call5 ?_;conv=>whnf
 cases hfb:z7f p with
 | false =>
   have hno : ¬gPg p<=20000:=by unfold z7f at hfb;simpa using hfb
   repeat' (first|((first|(refine iM fun _=>?_)|refine cP (QE _) ?_|refine dA ?_|refine And.intro rfl ?_|refine aD ?_|refine aR ?_|refine bP ?_|(refine iA fun _=>?_)|refine IdxK.xs (by omega) ?_|refine QX (by omega) ?_|(refine ByteK.at (by omega) ?_)|refine wI ?_|refine cP QB ?_);conv=>whnf)|(apply bD<;>intro _<;>first|omega|conv=>whnf)|(apply bE<;>intro _<;>first|omega|conv=>whnf)|(apply bN<;>intro _<;>conv=>whnf)|(apply bB<;>intro _<;>conv=>whnf))
   all_goals first
    | exact ⟨_,.p (Sub.refl _),rfl⟩
    | (exfalso;simp_all;done)
 | true =>
   have hf:Fit p:=w4k hfb;have hfit:gPg p<=20000:=by unfold z7f at hfb;simpa using hfb
   have hS:=YL p hf 60;cases hs:x0w p 60 with
   | false =>
     rw [hs] at hS;repeat' (first|((first|(refine iM fun _=>?_)|refine cP (QE _) ?_|refine dA ?_|refine And.intro rfl ?_|refine aD ?_|refine aR ?_|refine bP ?_|(refine iA fun _=>?_)|refine IdxK.xs (by omega) ?_|refine QX (by omega) ?_|(refine ByteK.at (by omega) ?_)|refine wI ?_|refine cP QB ?_|refine cP hS ?_);conv=>whnf)|(apply bD<;>intro _<;>first|omega|conv=>whnf)|(apply bE<;>intro _<;>first|omega|conv=>whnf)|(apply bN<;>intro _<;>conv=>whnf)|(apply bB<;>intro _<;>conv=>whnf))
     all_goals first
      | contradiction
      | exact ⟨_,.p (Sub.refl _),rfl⟩
   | true =>
     rw [hs] at hS;have hc:=x5k hs;obtain ⟨hl1,hl2⟩:=w5n hc 4;have hI:=q3s p 4 hl1;have hP:=q1a (q9b p 4) n hl2;have hK:=z4g hc n;generalize NB (q9b p 4) n=id at hP hK;have hSt:=q0j p id;have hPo:=NY p id;have hDf:=q9m p hf id;generalize z3d p id=st at hSt hK;generalize q6w p id=D at hDf hK;generalize (BB p id).2.1=nm at hPo hK;have hLi:=w0y p hf nm;have hHa:=q1q (z2g p nm) id;have hO1:=DS p hf st.proc;have hO2:=DS p hf nm;generalize z2g p nm=LV at hLi hHa hK;generalize KU p st.proc=out at hO1 hK;generalize KU p nm=mine at hO2 hK;have hom:(out.map AV.str).length=out.length:=length_map _;by_cases h0:id=0
     ·subst h0;repeat' (first|((first|(refine iM fun _=>?_)|refine cP (QE _) ?_|refine dA ?_|refine And.intro rfl ?_|refine aD ?_|refine aR ?_|refine bP ?_|(refine iA fun _=>?_)|refine IdxK.xs (by omega) ?_|refine QX (by omega) ?_|(refine ByteK.at (by omega) ?_)|refine wI ?_|refine cP QB ?_|refine cP hS ?_|refine cP hI ?_|refine cP hP ?_|refine cP hSt ?_|refine cP hPo ?_);conv=>whnf)|(apply bD<;>intro _<;>first|omega|conv=>whnf)|(apply bE<;>intro _<;>first|omega|conv=>whnf)|(apply bN<;>intro _<;>conv=>whnf)|(apply bB<;>intro _<;>conv=>whnf))
      all_goals first
       | contradiction
       | exact ⟨_,.p (Sub.refl _),rfl⟩
       | exact ⟨_,.p (q2v rfl),rfl⟩
       | trace_state
     cases hlv:w6c LV id with
     | false =>
       rw [hlv] at hHa;repeat' (first|((first|(refine iM fun _=>?_)|refine cP (QE _) ?_|refine dA ?_|refine And.intro rfl ?_|refine aD ?_|refine aR ?_|refine bP ?_|(refine iA fun _=>?_)|refine IdxK.xs (by omega) ?_|refine QX (by omega) ?_|(refine ByteK.at (by omega) ?_)|refine wI ?_|refine cP QB ?_|refine cP hS ?_|refine cP hI ?_|refine cP hP ?_|refine cP hSt ?_|refine cP hPo ?_|refine cP hLi ?_|refine cP hHa ?_);conv=>whnf)|(apply bD<;>intro _<;>first|omega|conv=>whnf)|(apply bE<;>intro _<;>first|omega|conv=>whnf)|(apply bN<;>intro _<;>conv=>whnf)|(apply bB<;>intro _<;>conv=>whnf))
       all_goals first
        | contradiction
        | exact ⟨_,.p (Sub.refl _),rfl⟩
        | exact ⟨_,.p (q2v rfl),rfl⟩
        | trace_state
     | true =>
       obtain ⟨q,F⟩:=hK h0 hlv;rw [hlv] at hHa;repeat' (first|((first|(refine iM fun _=>?_)|refine cP (QE _) ?_|refine dA ?_|refine And.intro rfl ?_|refine aD ?_|refine aR ?_|refine bP ?_|(refine iA fun _=>?_)|refine IdxK.xs (by omega) ?_|refine QX (by omega) ?_|(refine ByteK.at (by omega) ?_)|refine wI ?_|refine cP QB ?_|refine cP hS ?_|refine cP hI ?_|refine cP hP ?_|refine cP hSt ?_|refine cP hPo ?_|refine cP hLi ?_|refine cP hHa ?_|refine cP hO1 ?_|refine cP hO2 ?_);conv=>whnf)|(apply bD<;>intro _<;>first|omega|conv=>whnf)|(apply bE<;>intro _<;>first|omega|conv=>whnf)|(apply bN<;>intro _<;>conv=>whnf)|(apply bB<;>intro _<;>conv=>whnf)|(refine And.intro ?_ ?_<;>conv=>whnf))
       all_goals first
        | contradiction
        | skip
       have hPr:=BZ p st.proc;rw [F.procs] at hPr;have hSd:=q1w st (by have:=F.al;omega);have hqm:(q.params.map fun x=>AV.agg x.cells).length=q.params.length:=length_map _;refine LoopK.inv QY (fun j:Nat=>⟨[(2,.p (.ip p.cells)),(5,.p (.int .i64 id)),(6,.p (.ip st.cells)),(8,.p (eStrs out)),(9,.p (eStrs mine)),(51,.p (eStrs out)),(52,.p (.int .i64 (out.map AV.str).length)),(53,.p (.int .i64 j))],[]⟩) (fun j=>j<=out.length) (fun j=>out.length-j) 0 (Le.of_eq rfl) (zero_le _) ?_;intro j hj;rcases Nat.lt_or_ge j out.length with hj2|hj2
       ·have hv:=F.up _ (List.getElem_mem hj2);have hIg:=XQ p.globals out[j];have hIm:=XQ mine out[j];have hID:=XQ D out[j];have hcs:(inS mine out[j]=true∧inS D out[j]=true)∨((out[j]==tapeS)=false∧inS p.globals out[j]=false):=by
         by_cases h1:out[j]=tapeS∨out[j]∈p.globals
         ·obtain ⟨h2,h3⟩:=hv h1;exact .inl ⟨XN.2 h2,XN.2 h3⟩
         ·rw [not_or] at h1;refine .inr ⟨by simpa using h1.1,?_⟩;cases hq:inS p.globals out[j] with
          | false=>rfl
          | true=>exact absurd (XN.1 hq) h1.2
        rcases hcs with ⟨h1,h2⟩|⟨h1,h2⟩
        ·rw [h1] at hIm;rw [h2] at hID;conv=>whnf
         repeat' (first|((first|(refine iM fun _=>?_)|refine dA ?_|refine And.intro rfl ?_|refine aD ?_|refine aR ?_|refine bP ?_|(refine iA fun _=>?_)|refine IdxK.xs (by omega) ?_|refine QX (by omega) ?_|(refine ByteK.at (by omega) ?_)|refine wI ?_|refine cP hIg ?_|refine cP hIm ?_|refine cP hDf ?_|refine cP hID ?_);conv=>whnf)|(apply bD<;>intro _<;>first|omega|conv=>whnf)|(apply bE<;>intro _<;>first|omega|conv=>whnf)|(apply bN<;>intro _<;>conv=>whnf)|(apply bB<;>intro _<;>conv=>whnf))
         all_goals first
          | contradiction
          | exact ⟨j+1,hj2,by omega,Le.of_eq rfl⟩
          | trace_state
        ·rw [h2] at hIg;conv=>whnf
         repeat' (first|((first|(refine iM fun _=>?_)|refine dA ?_|refine And.intro rfl ?_|refine aD ?_|refine aR ?_|refine bP ?_|(refine iA fun _=>?_)|refine IdxK.xs (by omega) ?_|refine QX (by omega) ?_|(refine ByteK.at (by omega) ?_)|refine wI ?_|refine cP hIg ?_);conv=>whnf)|(apply bD<;>intro _<;>first|omega|conv=>whnf)|(apply bE<;>intro _<;>first|omega|conv=>whnf)|(apply bN<;>intro _<;>conv=>whnf)|(apply bB<;>intro _<;>conv=>whnf))
         all_goals first
          | contradiction
          | exact ⟨j+1,hj2,by omega,Le.of_eq rfl⟩
          | (exfalso
             have h9:(out[j]==tapeS)=true:=by assumption
             rw [h1] at h9;cases h9)
          | trace_state
       ·conv=>whnf
        repeat' (first|((first|(refine iM fun _=>?_)|refine dA ?_|refine And.intro rfl ?_|refine aD ?_|refine aR ?_|refine bP ?_|(refine iA fun _=>?_)|refine IdxK.xs (by omega) ?_|refine QX (by omega) ?_|(refine ByteK.at (by omega) ?_)|refine wI ?_|refine cP hPr ?_);conv=>whnf)|(apply bD<;>intro _<;>first|omega|conv=>whnf)|(apply bE<;>intro _<;>first|omega|conv=>whnf)|(apply bN<;>intro _<;>conv=>whnf)|(apply bB<;>intro _<;>conv=>whnf))
        refine LoopK.inv QY (fun j:Nat=>⟨[(2,.p (.ip p.cells)),(5,.p (.int .i64 id)),(6,.p (.ip st.cells)),(8,.p (eStrs out)),(87,.p (.sl (q.params.map fun x=>AV.agg x.cells))),(88,.p (.int .i64 (q.params.map fun x=>AV.agg x.cells).length)),(89,.p (.int .i64 j))],[]⟩) (fun j=>j<=q.params.length) (fun j=>q.params.length-j) 0 (Le.of_eq rfl) (zero_le _) ?_;intro k hk;rcases Nat.lt_or_ge k q.params.length with hk2|hk2
        ·have hF:=F.ref k _ (List.getElem?_eq_getElem hk2);have hal:=F.al;have hIo:=XQ out q.params[k].name;have hka:k<st.args.length:=by omega
         have ham:(st.args.map fun a=>AV.agg a.cells).length=st.args.length:=length_map _;have hID:=XQ D st.args[k].name;have hcs:q.params[k].ref=false∨(q.params[k].ref=true∧inS out q.params[k].name=false)∨(q.params[k].ref=true∧inS out q.params[k].name=true∧inS D st.args[k].name=true):=by
          cases hr:q.params[k].ref with
          | false=>exact .inl rfl
          | true =>
            cases h2:inS out q.params[k].name with
            | false=>exact .inr (.inl ⟨rfl,rfl⟩)
            | true =>
              obtain ⟨a,h3,h4⟩:=hF hr (XN.1 h2);rw [List.getElem?_eq_getElem hka] at h3;refine .inr (.inr ⟨rfl,rfl,?_⟩);rw [Option.some.inj h3];exact XN.2 h4
         rcases hcs with hr|⟨hr,h2⟩|⟨hr,h2,h3⟩;rotate_left;rw [h2] at hIo;rotate_left;rw [h2] at hIo;rw [h3] at hID;all_goals
          conv=>whnf
          repeat' (first|((first|(refine iM fun _=>?_)|refine dA ?_|refine And.intro rfl ?_|refine aD ?_|refine aR ?_|refine bP ?_|(refine iA fun _=>?_)|refine IdxK.xs (by omega) ?_|refine QX (by omega) ?_|(refine ByteK.at (by omega) ?_)|refine wI ?_|refine cP hIo ?_|refine cP hDf ?_|refine cP hID ?_);conv=>whnf)|(apply bD<;>intro _<;>first|omega|conv=>whnf)|(apply bE<;>intro _<;>first|omega|conv=>whnf)|(apply bN<;>intro _<;>conv=>whnf)|(apply bB<;>intro _<;>conv=>whnf)|(refine And.intro ?_ ?_<;>conv=>whnf))
          all_goals first
           | exact absurd (hr.symm.trans (by assumption)) (by decide)
           | exact absurd (show false=true by assumption) (by decide)
           | exact absurd (show true=false by assumption) (by decide)
           | exact ⟨k+1,hk2,by omega,Le.of_eq rfl⟩
           | trace_state
        ·have hall:(D.all fun s=>inS (tapeS::namesT st++p.globals) s)=true:=List.all_eq_true.2 fun d hd=>XN.2 (F.sub d hd);have hSu:=NX D (tapeS::namesT st++p.globals);rw [hall] at hSu;have hnl:(namesT st).length<=30000000:=by
          have h1:=q9k st;have h2:=YR q9v st.args;have h3:st.args.length*1048577<=8*1048577:=Nat.mul_le_mul_right _ F.al.2;unfold namesT;rw [List.length_append];omega
         have hgl:=(ZZ hc).1;conv=>whnf
         repeat' (first|((first|(refine iM fun _=>?_)|refine dA ?_|refine And.intro rfl ?_|refine aD ?_|refine aR ?_|(refine iA fun _=>?_)|refine IdxK.xs (by omega) ?_|refine QX (by omega) ?_|(refine ByteK.at (by omega) ?_)|refine wI ?_|refine cP hDf ?_|refine cP hSd ?_|refine BsK.own (fun x hx=>by rcases List.mem_singleton.1 hx with rfl;rfl) rfl ?_|refine VF _ rfl (by simp;omega) ?_|refine VF _ (by simp;omega) (by simp;omega) ?_|(refine QI hSu (.cons (.p (Sub.refl _)) (.cons (.sub (.hd rfl (by simp;omega)) (Sub.of_eq (by simp [eStrs];rfl))) .nil)) (by rintro _ rfl;rfl) ?_;rintro _ rfl));conv=>whnf)|(apply bD<;>intro _<;>first|omega|conv=>whnf)|(apply bE<;>intro _<;>first|omega|conv=>whnf)|(apply bN<;>intro _<;>conv=>whnf)|(apply bB<;>intro _<;>conv=>whnf)|(refine And.intro ?_ ?_<;>conv=>whnf))
         all_goals first
          | contradiction
          | exact ⟨_,.p (Sub.refl _),rfl⟩
          | exact ⟨_,.p w4y,rfl⟩
          | exact ⟨_,.p (q2v rfl),rfl⟩
          | trace_state
end Go.Ab
