/- law21: ReachSome. -/
import Derived.Test.YtmfnbgbblkhneaaGreatRchA20
import Derived.Test.YtmfnbgbblkhneaaGreatRchA24
import Derived.Test.YtmfnbgbblkhneaaGreatRchA27
set_option linter.unusedSimpArgs false
set_option linter.unusedVariables false
set_option maxRecDepth 100000
set_option maxHeartbeats 16000000
namespace Go.Ab
open Go.Proofs
theorem ER{p:Pg}(hc:QO p=true)(n:Int){v:Str}(hv:v∈LF p (DO (Jf p 0) n)):(∀a∈VT p (DO (Jf p 0) n) v,a=0\/(Pu (PH p (WI p (DO (Jf p 0) n)).2.1) a=true/\inS (NI p a) v=true))/\
  (Pu (PH p (WI p (DO (Jf p 0) n)).2.1) (DO (Jf p 0) n)=false\/VT p (DO (Jf p 0) n) v≠[]\/RC p (WI p (DO (Jf p 0) n)).2.1 v=4):=by
 by_cases hne:Jf p 0=[]
 ·exfalso;have h0:DO (Jf p 0) n=0:=by rw[hne];rfl
  rw[h0]at hv;unfold LF at hv;rw[if_neg (by omega)]at hv;cases hv
 have hid:=OQ n hne;generalize DO (Jf p 0) n=id at*
 obtain⟨k,f,t,hk,ht,rfl,hw⟩:=Lm hc hid;obtain⟨k',f',hk',he,_,hn,hfi⟩:=KI hw;have hkk:k=k':=by
  have:(QQ p k f).j=(QQ p k' f').j:=by rw[he]
  exact this
 subst hkk;obtain rfl:f=f':=by rw[hk]at hk';exact x0m hk'
 have hb:=WG (QD hc).1 hk ht;obtain⟨_,_,_,hlen,hsp⟩:=QV p;obtain⟨_,_,hle,_⟩:=hsp k f hk;have e:VT p t.id v=YT t.id v (XM p k f):=by
  unfold VT;rw[if_pos ⟨hc,by omega,by omega⟩,MW hc hk hw]
 rw[e,<-hn];refine⟨fun a ha=>?_,?_⟩
 ·by_cases h0:a=0
  ·exact .inl h0
  ·obtain⟨h1,h2⟩:=AL hc hk ha h0;exact .inr ⟨h1,UH.2 h2⟩
 ·cases hl:Pu (PH p f.name) t.id with
  |false=>exact .inl rfl
  | true=>
    refine .inr ?_;have hkd:RC p f.name v=FY p f v:=by
     unfold RC;rw[(QD hc).1,q8g,hn,hfi]
    rw[hkd];by_cases h4:FY p f v=4
    ·exact .inr h4
    ·obtain⟨s,h1,h2,h3⟩:=A0 hc hk ht ((Lq hc hk (by omega)).1 hl) hv h4;refine .inl fun h5=>?_;have h6:s.src∈YT t.id v (XM p k f):=x1h (q8t.2 ⟨h1,by simp[h2,h3]⟩);rw[h5]at h6;cases h6
theorem Sy{p:Pg}(hf:Fit p)(id:Int)(v:Str):(VT p id v).length<=1000000000:=by
 unfold VT;split
 ·exact q8i (MU _ _ _) (Jw hf _)
 ·simp
theorem GR(p:Pg)(n:Int):SpecP Tryz.prog 7 [.agg p.cells,.int .i64 n] (fun r=>r=.tt):=by
 refine sB JE Tryz.func7 rfl Tryz.call7 ?_;conv=>whnf
 cases hfb:Md p with
 | false=>
   have hno:¬gPg p<=20000:=by unfold Md at hfb;simpa using hfb
   repeat' (first|((first|(refine iM fun _=>?_)|refine cP (XW _) ?_|refine dA ?_|refine q7p rfl ?_|refine aD ?_|refine aR ?_|refine bP ?_|(refine iA fun _=>?_)|refine IdxK.xs (by omega) ?_|refine QX (by omega) ?_|(refine ByteK.at (by omega) ?_)|refine wI ?_|refine cP QR ?_);conv=>whnf)|(apply bD<;>intro _<;>first|omega|conv=>whnf)|(apply bE<;>intro _<;>first|omega|conv=>whnf)|(apply bN<;>intro _<;>conv=>whnf)|(apply bB<;>intro _<;>conv=>whnf))
   all_goals first
    |exact⟨_,.p (Sub.refl _),rfl⟩
    |(exfalso;simp_all;done)
 | true =>
   have hf:Fit p:=S7 hfb;have hfit:gPg p<=20000:=by unfold Md at hfb;simpa using hfb
   have hS:=JV p hf 40;cases hs:K9 p 40 with
   | false=>
     rw[hs]at hS;repeat' (first|((first|(refine iM fun _=>?_)|refine cP (XW _) ?_|refine dA ?_|refine q7p rfl ?_|refine aD ?_|refine aR ?_|refine bP ?_|(refine iA fun _=>?_)|refine IdxK.xs (by omega) ?_|refine QX (by omega) ?_|(refine ByteK.at (by omega) ?_)|refine wI ?_|refine cP QR ?_|refine cP hS ?_);conv=>whnf)|(apply bD<;>intro _<;>first|omega|conv=>whnf)|(apply bE<;>intro _<;>first|omega|conv=>whnf)|(apply bN<;>intro _<;>conv=>whnf)|(apply bB<;>intro _<;>conv=>whnf))
     all_goals first
      |contradiction
      |exact⟨_,.p (Sub.refl _),rfl⟩
   | true =>
     rw[hs]at hS;have hc:=Bi hs;obtain⟨hl1,hl2⟩:=Ow hc 0;have hI:=Zd p 0 hl1;have hP:=Xw (Jf p 0) n hl2;have hL:=fun v h=>ER hc n (v:=v) h;generalize DO (Jf p 0) n=id at hP hL;have hPo:=JU p id;have hU:=RN p hf id;have hFr:=fun v=>Qc p hf id v;have hFl:=fun v=>Sy hf id v;have hKi:=fun v=>Tz p (WI p id).2.1 v;have hLi:=AQ p hf (WI p id).2.1;have hHa:=fun a=>X8 (PH p (WI p id).2.1) a;have hDe:=fun a=>RB p hf a;generalize LF p id=V at hU hL;generalize(WI p id).2.1=nm at*
     generalize PH p nm=LV at*
     have hVm:(V.map AV.str).length=V.length:=q7f _;repeat' (first|((first|(refine iM fun _=>?_)|refine cP (XW _) ?_|refine dA ?_|refine q7p rfl ?_|refine aD ?_|refine aR ?_|refine bP ?_|(refine iA fun _=>?_)|refine IdxK.xs (by omega) ?_|refine QX (by omega) ?_|(refine ByteK.at (by omega) ?_)|refine wI ?_|refine cP QR ?_|refine cP hS ?_|refine cP hI ?_|refine cP hP ?_|refine cP hPo ?_|refine cP hLi ?_|refine cP hU ?_);conv=>whnf)|(apply bD<;>intro _<;>first|omega|conv=>whnf)|(apply bE<;>intro _<;>first|omega|conv=>whnf)|(apply bN<;>intro _<;>conv=>whnf)|(apply bB<;>intro _<;>conv=>whnf))
     all_goals first
      |contradiction
      |exact⟨_,.p (Sub.refl _),rfl⟩
      |skip
     refine LoopK.inv QK (fun j:Nat=>⟨[(2,.p (.ip p.cells)),(5,.p (.int .i64 id)),(6,.p (.str nm)),(7,.p (QA LV)),(33,.p (eStrs V)),(34,.p (.int .i64 (V.map AV.str).length)),(35,.p (.int .i64 j))],[]⟩) (fun j=>j<=V.length) (fun j=>V.length-j) 0 (Le.of_eq rfl) (q7c _) ?_;intro j hj;rcases q7e j V.length with h1|h1
     ·obtain⟨hA,hB⟩:=hL V[j] (q7i h1);have hFr:=hFr V[j];have hFl:=hFl V[j];have hKi:=hKi V[j];have hIn:=fun a=>Y1 (NI p a) V[j];generalize VT p id V[j]=FR at*
      generalize RC p nm V[j]=kd at*
      have hFm:(FR.map (AV.int .i64)).length=FR.length:=q7f _;conv=>whnf
      repeat' (first|((first|(refine iM fun _=>?_)|refine dA ?_|refine q7p rfl ?_|refine aD ?_|refine aR ?_|refine bP ?_|(refine iA fun _=>?_)|refine IdxK.xs (by omega) ?_|refine QX (by omega) ?_|(refine ByteK.at (by omega) ?_)|refine wI ?_|refine cP hFr ?_);conv=>whnf)|(apply bD<;>intro _<;>first|omega|conv=>whnf)|(apply bE<;>intro _<;>first|omega|conv=>whnf)|(apply bN<;>intro _<;>conv=>whnf)|(apply bB<;>intro _<;>conv=>whnf))
      refine LoopK.inv QK (fun m:Nat=>⟨[(2,.p (.ip p.cells)),(5,.p (.int .i64 id)),(6,.p (.str nm)),(7,.p (QA LV)),(9,.p (.str V[j])),(10,.p (QA FR)),(33,.p (eStrs V)),(34,.p (.int .i64 (V.map AV.str).length)),(35,.p (.int .i64 j)),(43,.p (QA FR)),(44,.p (.int .i64 (FR.map (AV.int .i64)).length)),(45,.p (.int .i64 m))],[]⟩) (fun m=>m<=FR.length) (fun m=>FR.length-m) 0 (Le.of_eq rfl) (q7c _) ?_;intro m hm;rcases q7e m FR.length with h2|h2
      ·have hq:=hA FR[m] (q7i h2);have eF:(FR.map (AV.int .i64))[m]?=some (.int .i64 FR[m]):=by rw[q7l,q7g h2];rfl
       have hHa:=hHa FR[m];have hDe:=hDe FR[m];have hIn:=hIn FR[m];rcases hq with h0|⟨h3,h4⟩
       ·conv=>whnf
        repeat' (first|((first|(refine iM fun _=>?_)|refine dA ?_|refine q7p rfl ?_|refine aD ?_|refine aR ?_|refine bP ?_|(refine iA fun _=>?_)|refine IdxK.xs (by omega) ?_|refine QX (by omega) ?_|(refine ByteK.at (by omega) ?_)|refine wI ?_);conv=>whnf)|(apply bD<;>intro _<;>first|omega|conv=>whnf)|(apply bE<;>intro _<;>first|omega|conv=>whnf)|(apply bN<;>intro _<;>conv=>whnf)|(apply bB<;>intro _<;>conv=>whnf)|(refine IdxK.at (k:=m) rfl eF rfl ?_;conv=>whnf)|(refine q7p ?_ ?_<;>conv=>whnf))
        all_goals first
         |contradiction
         |exact⟨m+1,h2,by omega,Le.of_eq rfl⟩
         |(exfalso;omega)
       ·rw[h3]at hHa;rw[h4]at hIn;conv=>whnf
        repeat' (first|((first|(refine iM fun _=>?_)|refine dA ?_|refine q7p rfl ?_|refine aD ?_|refine aR ?_|refine bP ?_|(refine iA fun _=>?_)|refine IdxK.xs (by omega) ?_|refine QX (by omega) ?_|(refine ByteK.at (by omega) ?_)|refine wI ?_|refine cP hHa ?_|refine cP hDe ?_|refine cP hIn ?_);conv=>whnf)|(apply bD<;>intro _<;>first|omega|conv=>whnf)|(apply bE<;>intro _<;>first|omega|conv=>whnf)|(apply bN<;>intro _<;>conv=>whnf)|(apply bB<;>intro _<;>conv=>whnf)|(refine IdxK.at (k:=m) rfl eF rfl ?_;conv=>whnf)|(refine q7p ?_ ?_<;>conv=>whnf))
        all_goals first
         |contradiction
         |exact⟨m+1,h2,by omega,Le.of_eq rfl⟩
      ·have hHi:=hHa id;have hcs:Pu LV id=false\/(Pu LV id=true/\¬((FR.length:Int)=0))\/(Pu LV id=true/\kd=4):=by
        cases hb:Pu LV id with
        |false=>exact .inl rfl
        | true=>
          rcases hB with h5|h5|h5
          ·rw[hb]at h5;cases h5
          ·exact .inr (.inl ⟨rfl,fun h6=>h5 (x2h.1 (by omega))⟩)
          ·exact .inr (.inr ⟨rfl,h5⟩)
       rcases hcs with h5|⟨h5,h6⟩|⟨h5,h6⟩;all_goals
        rw[h5]at hHi;try rw[h6]at hKi
        conv=>whnf
        repeat' (first|((first|(refine iM fun _=>?_)|refine dA ?_|refine q7p rfl ?_|refine aD ?_|refine aR ?_|refine bP ?_|(refine iA fun _=>?_)|refine IdxK.xs (by omega) ?_|refine QX (by omega) ?_|(refine ByteK.at (by omega) ?_)|refine wI ?_|refine cP hHi ?_|refine cP hKi ?_);conv=>whnf)|(apply bD<;>intro _<;>first|omega|conv=>whnf)|(apply bE<;>intro _<;>first|omega|conv=>whnf)|(apply bN<;>intro _<;>conv=>whnf)|(apply bB<;>intro _<;>conv=>whnf)|(refine q7p ?_ ?_<;>conv=>whnf))
        all_goals first
         |contradiction
         |exact⟨j+1,h1,by omega,Le.of_eq rfl⟩
         |(exfalso;omega)
     ·conv=>whnf
      repeat' (first|((first|(refine iM fun _=>?_)|refine dA ?_|refine q7p rfl ?_|refine aD ?_|refine aR ?_|refine bP ?_|(refine iA fun _=>?_)|refine IdxK.xs (by omega) ?_|refine QX (by omega) ?_|(refine ByteK.at (by omega) ?_)|refine wI ?_);conv=>whnf)|(apply bD<;>intro _<;>first|omega|conv=>whnf)|(apply bE<;>intro _<;>first|omega|conv=>whnf)|(apply bN<;>intro _<;>conv=>whnf)|(apply bB<;>intro _<;>conv=>whnf))
      all_goals first
       |contradiction
       |exact⟨_,.p (Sub.refl _),rfl⟩
       |exact⟨_,.p (Wg rfl),rfl⟩
end Go.Ab
