/- run: a statement of another kind. -/
import Derived.Test.YtmfnbgbblkhneaaGreatInoR9
import Derived.Test.YtmfnbgbblkhneaaGreatInoR11
import Derived.Test.YtmfnbgbblkhneaaGreatInoR12
set_option linter.unusedSimpArgs false
set_option linter.unusedVariables false
set_option maxRecDepth 100000
set_option maxHeartbeats 16000000
namespace Go.Ab
open Go.Proofs.Tryz
open Go.Proofs
theorem Wc(l:List S)(o:Int):SpecP prog 123 [eSs l,.int .i64 o] (fun r=>r=.int .i64 (NV l o)):=by
 refine sB Dx func123 rfl call123 ?_;conv=>whnf
 cases l with
 | nil=>
   repeat' (first|(refine iM fun _=>?_;conv=>whnf)|(apply bD<;>intro _<;>first|omega|conv=>whnf))
   all_goals first
    |(exfalso;simp_all[S.avs];done)
    |exact RetK.int rfl
 | cons t r=>
   have hg:(S.avs (t::r))[0]?=some (.agg t.cells):=by rw[S.avs_eq];rfl
   have hl:(S.avs (t::r)).length=r.length+1:=by rw[S.avs_len];rfl
   have hh:NV (t::r) o=t.id:=rfl;rw[hh];repeat' (first|((first|(refine iM fun _=>?_)|(refine IdxK.at (k:=0) rfl hg rfl ?_));conv=>whnf)|(apply bD<;>intro _<;>first|omega|conv=>whnf))
   all_goals first
    |(exfalso;omega)
    |exact RetK.int rfl
def doM(p:Pg)(tape watch:List Int)(M:Mc)(f:Fm)(g:Pr)(it:Item):Int×Mc:=
 if it.s.kind=7 then((((sheetOf p).l[(it.loop-1).toNat]?).map Item.next).getD 0,QJ watch M it.s.id [])
 else if it.s.kind=8 then(it.loop,QJ watch M it.s.id [])
 else if it.s.kind=10 then((atB g it.s.name).1,QJ watch M it.s.id [])
 else if it.s.kind=2 then(if(tape.length:Int)<=M.reads then(-1,endM M 3)else(it.next,QJ watch (setM {M with reads:=M.reads+1} (varM f it.s.name) (tape.getD M.reads.toNat 0)) it.s.id [tape.getD M.reads.toNat 0]))
 else bif (QA M f it.s.x).2 then
  (if it.s.kind=1 then(it.next,setM (QJ watch M it.s.id [(QA M f it.s.x).1]) (varM f it.s.name) (QA M f it.s.x).1)
   else if it.s.kind=3 then(it.next,{QJ watch M it.s.id [(QA M f it.s.x).1]with out:=(QJ watch M it.s.id [(QA M f it.s.x).1]).out++[(QA M f it.s.x).1]})
   else if it.s.kind=5 then(if(QA M f it.s.x).1≠0 then NV it.s.thn it.next else NV it.s.els it.next,QJ watch M it.s.id [(QA M f it.s.x).1])
   else if it.s.kind=6 then(if(QA M f it.s.x).1≠0 then NV it.s.thn it.s.id else it.next,QJ watch M it.s.id [(QA M f it.s.x).1])
   else(it.next,QJ watch M it.s.id [(QA M f it.s.x).1]))
 else(-1,endM M 4)
structure DoOk(p:Pg)(f:Fm)(g:Pr)(it:Item):Prop where
 lp:it.s.kind=7->1<=it.loop/\it.loop<=100000/\∃l,(sheetOf p).l[(it.loop-1).toNat]?=some l
 pr:∃k:Nat,it.proc=k/\p.procs[k]?=some g
 nm:it.s.kind=1\/it.s.kind=2->0<=idxF (fun y=>it.s.name==y) f.names
theorem Ak{w:List Int}{M:Mc}{id:Int}{v:List Int}:(QJ w M id v).out=M.out:=by
 unfold QJ;cases w.any fun x=>decide (id=x)<;>rfl
theorem Vt(p:Pg)(hcp:cntP p.procs<=1000)(tape watch:List Int)(htp:tape.length<=10000000)(bs:List Nat)(vs:List Int)(M:Mc)(st:List Fm)(f:Fm)(hs:M.stack=st++[f])(hM:OkM p bs M)(htl:M.trace.length<=10000000)(hol:M.out.length<=10000000)(hrd:0<=M.reads)(hr2:M.reads<=10000000)(g:Pr)(it:Item)(hD:DoOk p f g it):SpecH prog 71 [.ptr 1000 0,.p (.agg it.cells)] (mH p tape watch bs vs M) (fun r H=>∃vs',r=.p (.int .i64 (doM p tape watch M f g it).1)/\H=mH p tape watch bs vs' (doM p tape watch M f g it).2):=by
 refine sH X1 func71 rfl call71 ?_;conv=>whnf
 have hE0:=XP p tape watch bs vs M it.s.id [] htl;have hf:f∈M.stack:=by rw[hs];exact q5y _ (q3r.2 rfl)
 have hF:=hM.fr f hf;obtain⟨kp,hkp,hgp⟩:=hD.pr;unfold doM;by_cases h7:it.s.kind=7
 ·obtain⟨hl1,hl2,lp,hlp⟩:=hD.lp h7;have hg:((sheetOf p).l.map fun i=>AV.agg i.cells)[(it.loop-1).toNat]?=some (.agg lp.cells):=by rw[q4x,hlp];rfl
  rw[hlp];simp only[h7,if_true,q7f,q7u];repeat' (first|((first|refine dA ?_|refine q3l rfl ?_|refine wI ?_|(refine IdxK.at (k:=(it.loop-1).toNat) (by omega) hg rfl ?_));conv=>whnf)|(apply bD<;>intro _<;>first|omega|conv=>whnf)|(refine CallK.heap [(1000,1000),(1001,1001),(2001,2001),(2002,2002),(2003,2003),(2004,2004),(2500,2500)] 0 (q3i (q3e _) (q3i (q3e _) (q3i (q4q Sub.nils) q4d))) (by refine q3h (j:=1000) rfl rfl ?_ ?_;exact CSub.refl _;refine q3h (j:=1001) rfl rfl ?_ ?_;exact CSub.refl _;refine q3h (j:=2001) rfl rfl ?_ ?_;exact CSub.refl _;refine q3h (j:=2002) rfl rfl ?_ ?_;exact CSub.refl _;refine q3h (j:=2003) rfl rfl ?_ ?_;exact CSub.refl _;refine q3h (j:=2004) rfl rfl ?_ ?_;exact CSub.refl _;refine q3h (j:=2500) rfl rfl ?_ ?_;exact CSub.refl _;exact q4b) hE0 rfl rfl ?_;rintro l' H' ⟨rfl,rfl⟩;conv=>whnf))
  all_goals first
   |(exfalso;omega)
   |exact q5u _ (q3e _) ⟨vs,rfl,rfl⟩
 by_cases h8:it.s.kind=8
 ·rw[if_neg h7,if_pos h8];repeat' (first|(refine q3l rfl ?_;conv=>whnf)|(apply bD<;>intro _<;>first|omega|conv=>whnf)|(refine CallK.heap [(1000,1000),(1001,1001),(2001,2001),(2002,2002),(2003,2003),(2004,2004),(2500,2500)] 0 (q3i (q3e _) (q3i (q3e _) (q3i (q4q Sub.nils) q4d))) (by refine q3h (j:=1000) rfl rfl ?_ ?_;exact CSub.refl _;refine q3h (j:=1001) rfl rfl ?_ ?_;exact CSub.refl _;refine q3h (j:=2001) rfl rfl ?_ ?_;exact CSub.refl _;refine q3h (j:=2002) rfl rfl ?_ ?_;exact CSub.refl _;refine q3h (j:=2003) rfl rfl ?_ ?_;exact CSub.refl _;refine q3h (j:=2004) rfl rfl ?_ ?_;exact CSub.refl _;refine q3h (j:=2500) rfl rfl ?_ ?_;exact CSub.refl _;exact q4b) hE0 rfl rfl ?_;rintro l' H' ⟨rfl,rfl⟩;conv=>whnf))
  all_goals first
   |(exfalso;omega)
   |exact q5u _ (q3e _) ⟨vs,rfl,rfl⟩
 by_cases h10:it.s.kind=10
 ·have hAt:=KO p kp g hgp hcp it.s.name;rw[if_neg h7,if_neg h8,if_pos h10];generalize atB g it.s.name=ab at*
  obtain⟨a1,a2⟩:=ab;repeat' (first|((first|refine dA ?_|refine q3l rfl ?_|(refine CallK.pure hAt (.cons (Sub.refl _) (.cons (Sub.int hkp) (.cons (Sub.refl _) .nil))) ?_;rintro _ rfl));conv=>whnf)|(apply bD<;>intro _<;>first|omega|conv=>whnf)|(refine CallK.heap [(1000,1000),(1001,1001),(2001,2001),(2002,2002),(2003,2003),(2004,2004),(2500,2500)] 0 (q3i (q3e _) (q3i (q3e _) (q3i (q4q Sub.nils) q4d))) (by refine q3h (j:=1000) rfl rfl ?_ ?_;exact CSub.refl _;refine q3h (j:=1001) rfl rfl ?_ ?_;exact CSub.refl _;refine q3h (j:=2001) rfl rfl ?_ ?_;exact CSub.refl _;refine q3h (j:=2002) rfl rfl ?_ ?_;exact CSub.refl _;refine q3h (j:=2003) rfl rfl ?_ ?_;exact CSub.refl _;refine q3h (j:=2004) rfl rfl ?_ ?_;exact CSub.refl _;refine q3h (j:=2500) rfl rfl ?_ ?_;exact CSub.refl _;exact q4b) hE0 rfl rfl ?_;rintro l' H' ⟨rfl,rfl⟩;conv=>whnf))
  all_goals first
   |(exfalso;omega)
   |exact q5u _ (q3e _) ⟨vs,rfl,rfl⟩
 rw[if_neg h7,if_neg h8,if_neg h10];have htm:(tape.map (AV.int .i64)).length=tape.length:=q3f _;by_cases h2:it.s.kind=2
 ·rw[if_pos h2];have hi:=hD.nm (.inr h2);have hvi:(idxF (fun y=>it.s.name==y) f.names).toNat<f.vars.length:=by rw[hF.len];exact Zi hi
  have hvg:f.vars[(idxF (fun y=>it.s.name==y) f.names).toNat]?=some (varM f it.s.name):=by unfold varM;rw[q3p,q3b hvi];rfl
  have hWh:=WZ p tape watch bs vs {M with reads:=M.reads+1} st f hs hM.sl it.s.name (idxF (fun y=>it.s.name==y) f.names).toNat (varM f it.s.name) (q6i hi).symm hvg;have hvr:varM f it.s.name<M.mem.length:=hF.rng _ (q4n hvg);have hcg:=JA hM.bl hvr;by_cases hrt:(tape.length:Int)<=M.reads
  ·rw[if_pos hrt];repeat' (first|((first|(refine iM fun _=>?_)|refine dA ?_|refine q3l rfl ?_);conv=>whnf)|(apply bD<;>intro _<;>first|omega|conv=>whnf))
   all_goals first
    |(exfalso;omega)
    |exact q5u _ (q3e _) ⟨vs,rfl,rfl⟩
  ·rw[if_neg hrt];have hgt:(tape.map (AV.int .i64))[M.reads.toNat]?=some (.int .i64 (tape.getD M.reads.toNat 0)):=by
    rw[q4x,q3p,q3b (by omega)];rfl
   generalize tape.getD M.reads.toNat 0=n at*
   have hsh:=K8 (p:=p) (tape:=tape) (watch:=watch) (vs:=vs) (M:={M with reads:=M.reads+1}) (v:=varM f it.s.name) (n:=n) (es:=M.stack.map (fmA bs)) hM.bl hvr;have hEv:=XP p tape watch bs vs (setM {M with reads:=M.reads+1} (varM f it.s.name) n) it.s.id [n] htl;rw[show mH p tape watch bs vs (setM {M with reads:=M.reads+1} (varM f it.s.name) n)=mHs p tape watch bs vs (setM {M with reads:=M.reads+1} (varM f it.s.name) n) (M.stack.map (fmA bs))from rfl,hsh]at hEv;generalize varM f it.s.name=vv at*
   repeat' (first|((first|(refine iM fun _=>?_)|refine dA ?_|refine q3l rfl ?_|refine aD ?_|refine bP ?_|refine wI ?_|(refine IdxK.at (k:=M.reads.toNat) (by omega) hgt rfl ?_)|refine YS rfl rfl ?_|refine HB (kc:=2500) QY rfl rfl rfl rfl rfl rfl rfl rfl hcg ?_);conv=>whnf)|(apply bD<;>intro _<;>first|omega|conv=>whnf)|(refine CallK.heap [(1000,1000),(1001,1001),(2001,2001),(2002,2002),(2003,2003),(2004,2004),(2500,2500)] 0 (by repeat' (first|exact q4d|refine q3i ?_ ?_|exact q3e _|exact q4q Sub.nils|exact q4q (Sub.tt rfl)|exact q4q (Sub.ff rfl)|exact q4q (Sub.int (by omega)))) (by refine q3h (j:=1000) rfl rfl ?_ ?_;exact CSub.refl _;refine q3h (j:=1001) rfl rfl ?_ ?_;exact CSub.refl _;refine q3h (j:=2001) rfl rfl ?_ ?_;exact CSub.refl _;refine q3h (j:=2002) rfl rfl ?_ ?_;exact CSub.refl _;refine q3h (j:=2003) rfl rfl ?_ ?_;exact CSub.refl _;refine q3h (j:=2004) rfl rfl ?_ ?_;exact CSub.refl _;refine q3h (j:=2500) rfl rfl ?_ ?_;exact CSub.refl _;exact q4b) hWh rfl rfl ?_;rintro l' H' ⟨rfl,rfl⟩;conv=>whnf)|(refine CallK.heap [(1000,1000),(1001,1001),(2001,2001),(2002,2002),(2003,2003),(2004,2004),(2500,2500)] 0 (by repeat' (first|exact q4d|refine q3i ?_ ?_|exact q3e _|exact q4q Sub.nils|exact q4q (Sub.tt rfl)|exact q4q (Sub.ff rfl)|exact q4q (Sub.int (by omega)))) (by refine q3h (j:=1000) rfl rfl ?_ ?_;exact CSub.refl _;refine q3h (j:=1001) rfl rfl ?_ ?_;exact CSub.refl _;refine q3h (j:=2001) rfl rfl ?_ ?_;exact CSub.refl _;refine q3h (j:=2002) rfl rfl ?_ ?_;exact CSub.refl _;refine q3h (j:=2003) rfl rfl ?_ ?_;exact CSub.refl _;refine q3h (j:=2004) rfl rfl ?_ ?_;exact CSub.refl _;refine q3h (j:=2500) rfl rfl ?_ ?_;exact CSub.refl _;exact q4b) hEv rfl rfl ?_;rintro l' H' ⟨rfl,rfl⟩;conv=>whnf))
   all_goals first
    |(exfalso;omega)
    |exact q5u _ (q3e _) ⟨vs,rfl,rfl⟩
 rw[if_neg h2];have hW:=UX p tape watch bs vs M st f hs hM it.s.x;unfold Fc at hW;cases hok:(QA M f it.s.x).2 with
 | false=>
   rw[hok,q4f]at hW;simp only[q4f];generalize QA M f it.s.x=ev at*
   obtain⟨n,ok⟩:=ev;simp only at hok;subst hok;repeat' (first|((first|refine q3l rfl ?_|refine Br.tt ?_);conv=>whnf)|(apply bD<;>intro _<;>first|omega|conv=>whnf)|(refine CallK.heap [(1000,1000),(1001,1001),(2001,2001),(2002,2002),(2003,2003),(2004,2004),(2500,2500)] 0 (by repeat' (first|exact q4d|refine q3i ?_ ?_|exact q3e _|exact q4q Sub.nils|exact q4q (Sub.tt rfl)|exact q4q (Sub.ff rfl)|exact q4q (Sub.int (by omega)))) (by refine q3h (j:=1000) rfl rfl ?_ ?_;exact CSub.refl _;refine q3h (j:=1001) rfl rfl ?_ ?_;exact CSub.refl _;refine q3h (j:=2001) rfl rfl ?_ ?_;exact CSub.refl _;refine q3h (j:=2002) rfl rfl ?_ ?_;exact CSub.refl _;refine q3h (j:=2003) rfl rfl ?_ ?_;exact CSub.refl _;refine q3h (j:=2004) rfl rfl ?_ ?_;exact CSub.refl _;refine q3h (j:=2500) rfl rfl ?_ ?_;exact CSub.refl _;exact q4b) hW rfl rfl ?_;rintro l' H' ⟨vs',rfl,rfl⟩;conv=>whnf))
   all_goals first
    |(exfalso;omega)
    |exact q5u _ (q3e _) ⟨vs',rfl,rfl⟩
 | true =>
   rw[hok,q4v]at hW;simp only[q4v];generalize QA M f it.s.x=ev at*
   obtain⟨n,ok⟩:=ev;simp only at hok;subst hok;simp only;have hE1:=fun vs'=>XP p tape watch bs vs' M it.s.id [n] htl;have hes:=J8 (w:=watch) (M:=M) (id:=it.s.id) (v:=[n]);have hem:=Ux (w:=watch) (M:=M) (id:=it.s.id) (v:=[n]);have heo:=Ak (w:=watch) (M:=M) (id:=it.s.id) (v:=[n]);have hM1:=hM.same hes hem;generalize QJ watch M it.s.id [n]=M1 at*
   have hol1:M1.out.length<=10000000:=by rw[heo];exact hol
   have hom:(M1.out.map (AV.int .i64)).length=M1.out.length:=q3f _;by_cases h1:it.s.kind=1
   ·rw[if_pos h1];have hi:=hD.nm (.inl h1);have hvi:(idxF (fun y=>it.s.name==y) f.names).toNat<f.vars.length:=by rw[hF.len];exact Zi hi
    have hvg:f.vars[(idxF (fun y=>it.s.name==y) f.names).toNat]?=some (varM f it.s.name):=by unfold varM;rw[q3p,q3b hvi];rfl
    have hWh:=fun vs'=>WZ p tape watch bs vs' M1 st f (hes.trans hs) hM1.sl it.s.name (idxF (fun y=>it.s.name==y) f.names).toNat (varM f it.s.name) (q6i hi).symm hvg;have hvr:varM f it.s.name<M1.mem.length:=by rw[hem];exact hF.rng _ (q4n hvg)
    have hcg:=JA hM1.bl hvr;have hsh:=fun vs'=>K8 (p:=p) (tape:=tape) (watch:=watch) (vs:=vs') (M:=M1) (v:=varM f it.s.name) (n:=n) (es:=M1.stack.map (fmA bs)) hM1.bl hvr;have hsh2:∀vs',mH p tape watch bs vs' (setM M1 (varM f it.s.name) n)=_:=fun vs'=>(show mH p tape watch bs vs' (setM M1 (varM f it.s.name) n)=mHs p tape watch bs vs' (setM M1 (varM f it.s.name) n) (M1.stack.map (fmA bs))from rfl).trans (hsh vs');clear hsh;generalize varM f it.s.name=vv at*
    repeat' (first|((first|refine q3l rfl ?_|refine aD ?_|refine bP ?_|refine YS rfl rfl ?_|refine HB (kc:=2500) QY rfl rfl rfl rfl rfl rfl rfl rfl hcg ?_|refine Br.ff ?_);conv=>whnf)|(apply bD<;>intro _<;>first|omega|conv=>whnf)|(refine CallK.heap [(1000,1000),(1001,1001),(2001,2001),(2002,2002),(2003,2003),(2004,2004),(2500,2500)] 0 (by repeat' (first|exact q4d|refine q3i ?_ ?_|exact q3e _|exact q4q Sub.nils|exact q4q (Sub.tt rfl)|exact q4q (Sub.ff rfl)|exact q4q (Sub.int (by omega)))) (by refine q3h (j:=1000) rfl rfl ?_ ?_;exact CSub.refl _;refine q3h (j:=1001) rfl rfl ?_ ?_;exact CSub.refl _;refine q3h (j:=2001) rfl rfl ?_ ?_;exact CSub.refl _;refine q3h (j:=2002) rfl rfl ?_ ?_;exact CSub.refl _;refine q3h (j:=2003) rfl rfl ?_ ?_;exact CSub.refl _;refine q3h (j:=2004) rfl rfl ?_ ?_;exact CSub.refl _;refine q3h (j:=2500) rfl rfl ?_ ?_;exact CSub.refl _;exact q4b) hW rfl rfl ?_;rintro l' H' ⟨vs',rfl,rfl⟩;conv=>whnf)|(refine CallK.heap [(1000,1000),(1001,1001),(2001,2001),(2002,2002),(2003,2003),(2004,2004),(2500,2500)] 0 (by repeat' (first|exact q4d|refine q3i ?_ ?_|exact q3e _|exact q4q Sub.nils|exact q4q (Sub.tt rfl)|exact q4q (Sub.ff rfl)|exact q4q (Sub.int (by omega)))) (by refine q3h (j:=1000) rfl rfl ?_ ?_;exact CSub.refl _;refine q3h (j:=1001) rfl rfl ?_ ?_;exact CSub.refl _;refine q3h (j:=2001) rfl rfl ?_ ?_;exact CSub.refl _;refine q3h (j:=2002) rfl rfl ?_ ?_;exact CSub.refl _;refine q3h (j:=2003) rfl rfl ?_ ?_;exact CSub.refl _;refine q3h (j:=2004) rfl rfl ?_ ?_;exact CSub.refl _;refine q3h (j:=2500) rfl rfl ?_ ?_;exact CSub.refl _;exact q4b) (hE1 vs') rfl rfl ?_;rintro l' H' ⟨rfl,rfl⟩;conv=>whnf)|(refine CallK.heap [(1000,1000),(1001,1001),(2001,2001),(2002,2002),(2003,2003),(2004,2004),(2500,2500)] 0 (by repeat' (first|exact q4d|refine q3i ?_ ?_|exact q3e _|exact q4q Sub.nils|exact q4q (Sub.tt rfl)|exact q4q (Sub.ff rfl)|exact q4q (Sub.int (by omega)))) (by refine q3h (j:=1000) rfl rfl ?_ ?_;exact CSub.refl _;refine q3h (j:=1001) rfl rfl ?_ ?_;exact CSub.refl _;refine q3h (j:=2001) rfl rfl ?_ ?_;exact CSub.refl _;refine q3h (j:=2002) rfl rfl ?_ ?_;exact CSub.refl _;refine q3h (j:=2003) rfl rfl ?_ ?_;exact CSub.refl _;refine q3h (j:=2004) rfl rfl ?_ ?_;exact CSub.refl _;refine q3h (j:=2500) rfl rfl ?_ ?_;exact CSub.refl _;exact q4b) (hWh vs') rfl rfl ?_;rintro l' H' ⟨rfl,rfl⟩;conv=>whnf))
    all_goals first
     |(exfalso;omega)
     |exact q5u _ (q3e _) ⟨vs',rfl,(hsh2 vs').symm⟩
   rw[if_neg h1];by_cases h3:it.s.kind=3
   ·rw[if_pos h3];repeat' (first|((first|refine q3l rfl ?_|refine aD ?_|refine bP ?_|refine ZD (by rw[q3f]) (by rw[q3f];omega) ?_|refine Br.ff ?_);conv=>whnf)|(apply bD<;>intro _<;>first|omega|conv=>whnf)|(refine CallK.heap [(1000,1000),(1001,1001),(2001,2001),(2002,2002),(2003,2003),(2004,2004),(2500,2500)] 0 (by repeat' (first|exact q4d|refine q3i ?_ ?_|exact q3e _|exact q4q Sub.nils|exact q4q (Sub.tt rfl)|exact q4q (Sub.ff rfl)|exact q4q (Sub.int (by omega)))) (by refine q3h (j:=1000) rfl rfl ?_ ?_;exact CSub.refl _;refine q3h (j:=1001) rfl rfl ?_ ?_;exact CSub.refl _;refine q3h (j:=2001) rfl rfl ?_ ?_;exact CSub.refl _;refine q3h (j:=2002) rfl rfl ?_ ?_;exact CSub.refl _;refine q3h (j:=2003) rfl rfl ?_ ?_;exact CSub.refl _;refine q3h (j:=2004) rfl rfl ?_ ?_;exact CSub.refl _;refine q3h (j:=2500) rfl rfl ?_ ?_;exact CSub.refl _;exact q4b) hW rfl rfl ?_;rintro l' H' ⟨vs',rfl,rfl⟩;conv=>whnf)|(refine CallK.heap [(1000,1000),(1001,1001),(2001,2001),(2002,2002),(2003,2003),(2004,2004),(2500,2500)] 0 (by repeat' (first|exact q4d|refine q3i ?_ ?_|exact q3e _|exact q4q Sub.nils|exact q4q (Sub.tt rfl)|exact q4q (Sub.ff rfl)|exact q4q (Sub.int (by omega)))) (by refine q3h (j:=1000) rfl rfl ?_ ?_;exact CSub.refl _;refine q3h (j:=1001) rfl rfl ?_ ?_;exact CSub.refl _;refine q3h (j:=2001) rfl rfl ?_ ?_;exact CSub.refl _;refine q3h (j:=2002) rfl rfl ?_ ?_;exact CSub.refl _;refine q3h (j:=2003) rfl rfl ?_ ?_;exact CSub.refl _;refine q3h (j:=2004) rfl rfl ?_ ?_;exact CSub.refl _;refine q3h (j:=2500) rfl rfl ?_ ?_;exact CSub.refl _;exact q4b) (hE1 vs') rfl rfl ?_;rintro l' H' ⟨rfl,rfl⟩;conv=>whnf))
    all_goals first
     |(exfalso;omega)
     |exact q5u _ (q3e _) ⟨vs',rfl,by unfold mH mO;simp only[q3m,q4z];rfl⟩
   rw[if_neg h3];have hF1:=Wc it.s.thn it.next;have hF2:=Wc it.s.els it.next;have hF3:=Wc it.s.thn it.s.id;by_cases h5:it.s.kind=5
   ·rw [if_pos h5];generalize NV it.s.thn it.next=q1 at*
    generalize NV it.s.els it.next=q2 at*
    repeat' (first|((first|refine q3l rfl ?_|refine aD ?_|refine bP ?_|refine cP hF1 ?_|refine cP hF2 ?_|refine Br.ff ?_);conv=>whnf)|(apply bD<;>intro _<;>first|omega|conv=>whnf)|(apply bE<;>intro _<;>first|omega|conv=>whnf)|(refine CallK.heap [(1000,1000),(1001,1001),(2001,2001),(2002,2002),(2003,2003),(2004,2004),(2500,2500)] 0 (by repeat' (first|exact q4d|refine q3i ?_ ?_|exact q3e _|exact q4q Sub.nils|exact q4q (Sub.tt rfl)|exact q4q (Sub.ff rfl)|exact q4q (Sub.int (by omega)))) (by refine q3h (j:=1000) rfl rfl ?_ ?_;exact CSub.refl _;refine q3h (j:=1001) rfl rfl ?_ ?_;exact CSub.refl _;refine q3h (j:=2001) rfl rfl ?_ ?_;exact CSub.refl _;refine q3h (j:=2002) rfl rfl ?_ ?_;exact CSub.refl _;refine q3h (j:=2003) rfl rfl ?_ ?_;exact CSub.refl _;refine q3h (j:=2004) rfl rfl ?_ ?_;exact CSub.refl _;refine q3h (j:=2500) rfl rfl ?_ ?_;exact CSub.refl _;exact q4b) hW rfl rfl ?_;rintro l' H' ⟨vs',rfl,rfl⟩;conv=>whnf)|(refine CallK.heap [(1000,1000),(1001,1001),(2001,2001),(2002,2002),(2003,2003),(2004,2004),(2500,2500)] 0 (by repeat' (first|exact q4d|refine q3i ?_ ?_|exact q3e _|exact q4q Sub.nils|exact q4q (Sub.tt rfl)|exact q4q (Sub.ff rfl)|exact q4q (Sub.int (by omega)))) (by refine q3h (j:=1000) rfl rfl ?_ ?_;exact CSub.refl _;refine q3h (j:=1001) rfl rfl ?_ ?_;exact CSub.refl _;refine q3h (j:=2001) rfl rfl ?_ ?_;exact CSub.refl _;refine q3h (j:=2002) rfl rfl ?_ ?_;exact CSub.refl _;refine q3h (j:=2003) rfl rfl ?_ ?_;exact CSub.refl _;refine q3h (j:=2004) rfl rfl ?_ ?_;exact CSub.refl _;refine q3h (j:=2500) rfl rfl ?_ ?_;exact CSub.refl _;exact q4b) (hE1 vs') rfl rfl ?_;rintro l' H' ⟨rfl,rfl⟩;conv=>whnf))
    all_goals first
     |(exfalso;omega)
     | (have h9:¬n=0:=(by assumption)
        exact q5u _ (q4q (Sub.int (if_pos h9).symm)) ⟨vs',rfl,rfl⟩)
     | (have h9:n=0:=(by assumption)
        exact q5u _ (q4q (Sub.int (if_neg (fun hh=>hh h9)).symm)) ⟨vs',rfl,rfl⟩)
     |(exfalso;simp_all;done)
   by_cases h6:it.s.kind=6
   ·rw [if_neg h5,if_pos h6];generalize NV it.s.thn it.s.id=q3 at*
    repeat' (first|((first|refine q3l rfl ?_|refine aD ?_|refine bP ?_|refine cP hF3 ?_|refine Br.ff ?_);conv=>whnf)|(apply bD<;>intro _<;>first|omega|conv=>whnf)|(apply bE<;>intro _<;>first|omega|conv=>whnf)|(refine CallK.heap [(1000,1000),(1001,1001),(2001,2001),(2002,2002),(2003,2003),(2004,2004),(2500,2500)] 0 (by repeat' (first|exact q4d|refine q3i ?_ ?_|exact q3e _|exact q4q Sub.nils|exact q4q (Sub.tt rfl)|exact q4q (Sub.ff rfl)|exact q4q (Sub.int (by omega)))) (by refine q3h (j:=1000) rfl rfl ?_ ?_;exact CSub.refl _;refine q3h (j:=1001) rfl rfl ?_ ?_;exact CSub.refl _;refine q3h (j:=2001) rfl rfl ?_ ?_;exact CSub.refl _;refine q3h (j:=2002) rfl rfl ?_ ?_;exact CSub.refl _;refine q3h (j:=2003) rfl rfl ?_ ?_;exact CSub.refl _;refine q3h (j:=2004) rfl rfl ?_ ?_;exact CSub.refl _;refine q3h (j:=2500) rfl rfl ?_ ?_;exact CSub.refl _;exact q4b) hW rfl rfl ?_;rintro l' H' ⟨vs',rfl,rfl⟩;conv=>whnf)|(refine CallK.heap [(1000,1000),(1001,1001),(2001,2001),(2002,2002),(2003,2003),(2004,2004),(2500,2500)] 0 (by repeat' (first|exact q4d|refine q3i ?_ ?_|exact q3e _|exact q4q Sub.nils|exact q4q (Sub.tt rfl)|exact q4q (Sub.ff rfl)|exact q4q (Sub.int (by omega)))) (by refine q3h (j:=1000) rfl rfl ?_ ?_;exact CSub.refl _;refine q3h (j:=1001) rfl rfl ?_ ?_;exact CSub.refl _;refine q3h (j:=2001) rfl rfl ?_ ?_;exact CSub.refl _;refine q3h (j:=2002) rfl rfl ?_ ?_;exact CSub.refl _;refine q3h (j:=2003) rfl rfl ?_ ?_;exact CSub.refl _;refine q3h (j:=2004) rfl rfl ?_ ?_;exact CSub.refl _;refine q3h (j:=2500) rfl rfl ?_ ?_;exact CSub.refl _;exact q4b) (hE1 vs') rfl rfl ?_;rintro l' H' ⟨rfl,rfl⟩;conv=>whnf))
    all_goals first
     |(exfalso;omega)
     | (have h9:¬n=0:=(by assumption)
        exact q5u _ (q4q (Sub.int (if_pos h9).symm)) ⟨vs',rfl,rfl⟩)
     | (have h9:n=0:=(by assumption)
        exact q5u _ (q4q (Sub.int (if_neg (fun hh=>hh h9)).symm)) ⟨vs',rfl,rfl⟩)
     |(exfalso;simp_all;done)
   rw[if_neg h5,if_neg h6];repeat' (first|((first|refine q3l rfl ?_|refine aD ?_|refine bP ?_|refine Br.ff ?_);conv=>whnf)|(apply bD<;>intro _<;>first|omega|conv=>whnf)|(refine CallK.heap [(1000,1000),(1001,1001),(2001,2001),(2002,2002),(2003,2003),(2004,2004),(2500,2500)] 0 (by repeat' (first|exact q4d|refine q3i ?_ ?_|exact q3e _|exact q4q Sub.nils|exact q4q (Sub.tt rfl)|exact q4q (Sub.ff rfl)|exact q4q (Sub.int (by omega)))) (by refine q3h (j:=1000) rfl rfl ?_ ?_;exact CSub.refl _;refine q3h (j:=1001) rfl rfl ?_ ?_;exact CSub.refl _;refine q3h (j:=2001) rfl rfl ?_ ?_;exact CSub.refl _;refine q3h (j:=2002) rfl rfl ?_ ?_;exact CSub.refl _;refine q3h (j:=2003) rfl rfl ?_ ?_;exact CSub.refl _;refine q3h (j:=2004) rfl rfl ?_ ?_;exact CSub.refl _;refine q3h (j:=2500) rfl rfl ?_ ?_;exact CSub.refl _;exact q4b) hW rfl rfl ?_;rintro l' H' ⟨vs',rfl,rfl⟩;conv=>whnf)|(refine CallK.heap [(1000,1000),(1001,1001),(2001,2001),(2002,2002),(2003,2003),(2004,2004),(2500,2500)] 0 (by repeat' (first|exact q4d|refine q3i ?_ ?_|exact q3e _|exact q4q Sub.nils|exact q4q (Sub.tt rfl)|exact q4q (Sub.ff rfl)|exact q4q (Sub.int (by omega)))) (by refine q3h (j:=1000) rfl rfl ?_ ?_;exact CSub.refl _;refine q3h (j:=1001) rfl rfl ?_ ?_;exact CSub.refl _;refine q3h (j:=2001) rfl rfl ?_ ?_;exact CSub.refl _;refine q3h (j:=2002) rfl rfl ?_ ?_;exact CSub.refl _;refine q3h (j:=2003) rfl rfl ?_ ?_;exact CSub.refl _;refine q3h (j:=2004) rfl rfl ?_ ?_;exact CSub.refl _;refine q3h (j:=2500) rfl rfl ?_ ?_;exact CSub.refl _;exact q4b) (hE1 vs') rfl rfl ?_;rintro l' H' ⟨rfl,rfl⟩;conv=>whnf))
   all_goals first
    |(exfalso;omega)
    |exact q5u _ (q3e _) ⟨vs',rfl,rfl⟩
def F2(x:X):Bool:=decide (X8 x.op=(x.kids.length:Int))&&(decide (x.op=1)||decide (x.n=0))&&decide (0<=x.n)&&(decide (x.op=2) == !(x.name==[]))&&((x.name==[])||isName x.name)
def SI:Nat->X->Bool
 |0,_=>true
 |k+1,x=>F2 x&&x.kids.all (SI k)
def IU:List Nat->Nat
 |[]=>0
 |a::r=>max a (IU r)
def Ri:Nat->X->Nat
 |0,_=>1
 |m+1,x=>1+IU (x.kids.map (Ri m))
theorem Eb{l:List Nat}{m:Nat}(h:∀a∈l,a<=m):IU l<=m:=by
 induction l with
 |nil=>exact q3o _
 | cons a r ih=>
   have:=ih fun b hb=>h b (q3n _ hb);have:=h a q3d;rw[IU];omega
def mayXR(x:X):Bool:=decide (Ri 20 x<=20)&&SI (wX x+1) x
theorem LQ:∀(n:Nat)(x:X),ZO n x=true->Ri n x<=n/\∀k,SI k x=true
 |0,x,h=>by rw[ZO]at h;cases h
 | n+1,x,h=>by
   rw [ZO]at h;simp only[q4k,q4o]at h;obtain⟨h1,h2⟩:=h;have hkids:(∀y∈x.kids,ZO n y=true)/\F2 x=true:=by
    split at h2
    ·rename_i ho;simp only[q4k,q4o]at h2;have hk0:x.kids=[]:=by
      rw[ho]at h1;have:X8 1=0:=by decide
      rw[this]at h1;exact List.length_eq_zero_iff.1 (by omega)
     refine⟨by rw[hk0];simp,?_⟩;unfold F2;rw[h1,ho,h2.2];simp[h2.1]
    split at h2
    ·rename_i ho;simp only[q4k,q4o]at h2;have hk0:x.kids=[]:=by
      rw[ho]at h1;have:X8 2=0:=by decide
      rw[this]at h1;exact List.length_eq_zero_iff.1 (by omega)
     have hne:(x.name==[])=false:=by
      cases hq:x.name with
      | nil=>
        have:=h2.2;rw[hq]at this;unfold isName at this;rw[dif_neg (by simp)]at this;cases this
      |cons a r=>rfl
     refine⟨by rw[hk0];simp,?_⟩;unfold F2;rw[h1,ho,h2.2,hne,h2.1];simp
    ·rename_i ho1 ho2;simp only[q4k,q4o,q5k]at h2;refine⟨h2.2,?_⟩;unfold F2;rw[h1,h2.1.1,h2.1.2];simp[ho1,ho2]
   refine⟨?_,fun k=>?_⟩
   ·rw[Ri];have:IU (x.kids.map (Ri n))<=n:=Eb fun a ha=>by
     obtain⟨y,hy,rfl⟩:=q3s.1 ha;exact(LQ n y (hkids.1 y hy)).1
    omega
   ·cases k with
    |zero=>rfl
    | succ k=>
      rw[SI,hkids.2,Bool.true_and,q5k];exact fun y hy=>(LQ n y (hkids.1 y hy)).2 k
theorem Al{x:X}(h:Li x=true):mayXR x=true:=by
 obtain⟨h1,h2⟩:=LQ 20 x h;unfold mayXR;rw[q6t h1,h2];rfl
def argR(a:Arg):Bool:=bif a.ref then isName a.name&&noneB a.x else(a.name==[])&&mayXR a.x
theorem Ex{a:Arg}(h:Ze a=true):argR a=true:=by
 unfold Ze GS DN at h;unfold argR;cases hr:a.ref with
 | true=>
   rw[hr]at h;simpa using h
 | false=>
   rw[hr]at h;simp only[q4f,Bool.not_false,q4v,q4k]at h;rw[h.1,Al h.2];rfl
def oneOk(s:S):Bool:=VF s&&namesB s.labels
def hasXB(s:S):Bool:=decide (s.kind=1)||decide (s.kind=3)||decide (s.kind=5)||decide (s.kind=6)||(decide (s.kind=9)&&s.has)
structure OneF(s:S):Prop where
 labels:namesB s.labels=true
 lo:1<=s.kind
 hi:s.kind<=10
 x:hasXB s=true->mayXR s.x=true
 nox:hasXB s=false->noneB s.x=true
 has:s.has=true->s.kind=9
 name:s.kind=1\/s.kind=2\/s.kind=10->isName s.name=true
 noname:¬(s.kind=1\/s.kind=2\/s.kind=10)->(s.name==[])=true\/(s.kind=4/\isName s.name=true)
 proc:s.kind=4->isName s.proc=true
 noproc:s.kind≠4->(s.proc==[])=true
 args:s.args.all argR=true
 noargs:s.kind≠4->s.args.length=0
 thn:s.thn.length=0\/s.kind=5\/s.kind=6
 els:s.els.length=0\/s.kind=5
theorem Mt{s:Str}(h:isName s=true):(s==[])=false:=by
 cases s with
 |nil=>unfold isName at h;rw[dif_neg (by simp)]at h;cases h
 |cons a r=>rfl
theorem Tc{s:S}(h:oneOk s=true):OneF s:=by
 unfold oneOk at h;rw[q4k]at h;obtain⟨h,hlab⟩:=h;have hargs:s.args.all Ze=true->s.args.all argR=true:=fun h=>by
  rw[q5k]at h⊢;exact fun a ha=>Ex (h a ha)
 have key:∀(k:Int)(f:Flds),s.kind=k->Qf s.kind s.has (s.name==[])=some f->f.has=false/\(f.thn=false->s.thn.length=0)/\(f.els=false->s.els.length=0)/\(s.kind≠4->s.args.length=0)/\GS s.name f.name=true/\GS s.proc f.proc=true/\DN s.x f.x=true/\s.args.all argR=true:=fun k f hk hf=>by
  rw[Mh hf]at h;simp only[q4k,q6y,q8r,q8p,Bool.not_eq_false',q6z,q4o]at h;obtain⟨⟨⟨⟨⟨⟨⟨h1,h2⟩,h3⟩,h4⟩,h5⟩,h6⟩,h7⟩,h8⟩:=h;refine⟨h1,fun hq=>?_,fun hq=>?_,fun hq=>?_,h5,h6,h7,hargs h8⟩
  ·rcases h2 with h2|h2
   ·rw[hq]at h2;cases h2
   ·omega
  ·rcases h3 with h3|h3
   ·rw[hq]at h3;cases h3
   ·omega
  ·rcases h4 with h4|h4
   ·exact absurd h4 hq
   ·omega
 have hkind:s.kind=1\/s.kind=2\/s.kind=3\/s.kind=4\/s.kind=5\/s.kind=6\/s.kind=7\/s.kind=8\/s.kind=9\/s.kind=10:=by
  unfold VF at h;split at h
  ·cases h
  ·rename_i f hf;unfold Qf at hf
   (repeat' split at hf)<;>first|(cases hf;done)|omega
 have fin:∀(k:Int)(f:Flds),s.kind=k->Qf s.kind s.has (s.name==[])=some f->(1<=k/\k<=10)->f.x=hasXB s->(s.has=true->f.has=true\/k=9)->((k=1\/k=2\/k=10)->f.name=true)->(¬(k=1\/k=2\/k=10)->f.name=false\/(k=4/\f.name = !(s.name==[])))->f.proc=decide (k=4)->(f.thn=true->k=5\/k=6)->(f.els=true->k=5)->OneF s:=fun k f hk hf hkk hfx hfh hfn hfnn hfp hft hfe=>by
  obtain⟨h1,h2,h3,h4,h5,h6,h7,h8⟩:=key k f hk hf;unfold DN at h7;refine⟨hlab,by omega,by omega,fun hq=>?_,fun hq=>?_,fun hq=>?_,fun hq=>?_,fun hq=>?_,fun hq=>?_,fun hq=>?_,h8,h4,?_,?_⟩
  ·rw[hfx,hq]at h7;exact Al h7
  ·rw[hfx,hq]at h7;exact h7
  ·rcases hfh hq with h9|h9
   ·rw[h1]at h9;cases h9
   ·omega
  ·rw[hfn (by omega)]at h5;exact h5
  ·rcases hfnn (by omega)with h9|⟨h9,h10⟩
   ·rw[h9]at h5;exact .inl h5
   ·cases hq2:s.name==[]with
    |true=>exact .inl rfl
    | false=>
      rw[h10,hq2]at h5;exact .inr ⟨by omega,h5⟩
  ·rw[hfp,q6t (by omega)]at h6;exact h6
  ·rw[hfp,q6f (by omega)]at h6;exact h6
  ·cases ht:f.thn with
   |true=>exact .inr (by have:=hft ht;omega)
   |false=>exact .inl (h2 ht)
  ·cases he:f.els with
   |true=>exact .inr (by have:=hfe he;omega)
   |false=>exact .inl (h3 he)
 rcases hkind with hk|hk|hk|hk|hk|hk|hk|hk|hk|hk
 ·exact fin 1 ⟨true,false,true,s.has,false,false⟩ hk (by rw[hk];rfl) (by omega) (by unfold hasXB;rw[hk];rfl) (fun h=>.inl h) (fun _=>rfl) (fun h=>absurd (by omega) h) rfl (fun h=>by cases h) (fun h=>by cases h)
 ·exact fin 2 ⟨true,false,false,s.has,false,false⟩ hk (by rw[hk];rfl) (by omega) (by unfold hasXB;rw[hk];rfl) (fun h=>.inl h) (fun _=>rfl) (fun h=>absurd (by omega) h) rfl (fun h=>by cases h) (fun h=>by cases h)
 ·exact fin 3 ⟨false,false,true,s.has,false,false⟩ hk (by rw[hk];rfl) (by omega) (by unfold hasXB;rw[hk];rfl) (fun h=>.inl h) (fun h=>by omega) (fun _=>.inl rfl) rfl (fun h=>by cases h) (fun h=>by cases h)
 ·exact fin 4 ⟨!(s.name==[]),true,false,s.has,false,false⟩ hk (by rw[hk];rfl) (by omega) (by unfold hasXB;rw[hk];rfl) (fun h=>.inl h) (fun h=>by omega) (fun _=>.inr ⟨rfl,rfl⟩) rfl (fun h=>by cases h) (fun h=>by cases h)
 ·exact fin 5 ⟨false,false,true,s.has,true,true⟩ hk (by rw[hk];rfl) (by omega) (by unfold hasXB;rw[hk];rfl) (fun h=>.inl h) (fun h=>by omega) (fun _=>.inl rfl) rfl (fun _=>.inl rfl) (fun _=>rfl)
 ·exact fin 6 ⟨false,false,true,s.has,true,false⟩ hk (by rw[hk];rfl) (by omega) (by unfold hasXB;rw[hk];rfl) (fun h=>.inl h) (fun h=>by omega) (fun _=>.inl rfl) rfl (fun _=>.inr rfl) (fun h=>by cases h)
 ·exact fin 7 ⟨false,false,false,s.has,false,false⟩ hk (by rw[hk];rfl) (by omega) (by unfold hasXB;rw[hk];rfl) (fun h=>.inl h) (fun h=>by omega) (fun _=>.inl rfl) rfl (fun h=>by cases h) (fun h=>by cases h)
 ·exact fin 8 ⟨false,false,false,s.has,false,false⟩ hk (by rw[hk];rfl) (by omega) (by unfold hasXB;rw[hk];rfl) (fun h=>.inl h) (fun h=>by omega) (fun _=>.inl rfl) rfl (fun h=>by cases h) (fun h=>by cases h)
 ·exact fin 9 ⟨false,false,s.has,false,false,false⟩ hk (by rw[hk];rfl) (by omega) (by unfold hasXB;rw[hk];cases s.has<;>rfl) (fun _=>.inr rfl) (fun h=>by omega) (fun _=>.inl rfl) rfl (fun h=>by cases h) (fun h=>by cases h)
 ·exact fin 10 ⟨true,false,false,s.has,false,false⟩ hk (by rw[hk];rfl) (by omega) (by unfold hasXB;rw[hk];rfl) (fun h=>.inl h) (fun _=>rfl) (fun h=>absurd (by omega) h) rfl (fun h=>by cases h) (fun h=>by cases h)
def Xg(n c:Nat):List Int:=(List.range' (n+1) c).map fun(k:Nat)=>(k:Int)
theorem Xh(n a b:Nat):Xg n (a+b)=Xg n a++Xg (n+a) b:=by
 unfold Xg;rw[<-q4z,show n+a+1=n+1+1*a by omega,List.range'_append]
theorem C4(n:Nat):Xg n 1=[((n+1:Nat):Int)]:=by simp[Xg]
mutual
theorem CK(nest:Int):∀(t:S){n:Nat}{m:Int},Fx nest n t=some m->(flS t).map S.id=Xg n (WJ t)
 | .mk id kind labels name proc x has args thn els,n,m,h=>by
   simp only[Fx]at h;split at h
   ·cases h
   split at h
   ·cases h
   rename_i hid;cases hn:namesB labels<;>rw[hn]at h
   ·cases h
   cases hf:VF (.mk id kind labels name proc x has args thn els)<;>rw[hf]at h
   ·cases h
   simp only[q4v]at h;split at h
   ·rename_i m1 h1;have h1':YM (nest+1) ((n+1:Nat):Int) thn=some m1:=by rw[<-h1];rfl
    have h2:=JQ _ _ thn h1';have h3:=NR (nest+1) thn h1';have h':YM (nest+1) ((n+1+cntL thn:Nat):Int) els=some m:=by rw[<-h,h2];rfl
    have h4:=NR (nest+1) els h';rw[flS,WJ,q4t,q4z,h3,h4,show 1+cntL thn+cntL els=1+(cntL thn+cntL els) by omega,Xh,C4,Xh];have:id=((n+1:Nat):Int):=by omega
    rw[show(S.mk id kind labels name proc x has args thn els).id=id from rfl,this];rfl
   ·cases h
theorem NR(nest:Int):∀(l:List S){n:Nat}{m:Int},YM nest n l=some m->(flL l).map S.id=Xg n (cntL l)
 |[],n,m,h=>by rw[flL,cntL];rfl
 | t::r,n,m,h=>by
   simp only[YM]at h;split at h
   ·cases h
   split at h
   ·rename_i m1 h1;have h2:=Nu _ _ t h1;have h3:=CK nest t h1;have h':YM nest ((n+WJ t:Nat):Int) r=some m:=by rw[<-h,h2];rfl
    have h4:=NR nest r h';rw[flL,cntL,q4z,h3,h4,Xh]
   ·cases h
end
theorem Ul:∀(l:List Pr){n:Nat}{m:Int},XE n l=some m->∀(j:Nat)(f:Pr),l[j]?=some f->(flL f.body).map S.id=Xg (n+QL l j) (cntL f.body)
 |[],_,_,_,j,f,hj=>by simp at hj
 | g::r,n,m,h,j,f,hj=>by
   rw[XE]at h;cases hm:DY g<;>rw[hm]at h
   ·cases h
   simp only[q4v]at h;split at h
   ·rename_i m1 h1;cases j with
    | zero=>
      simp at hj;subst hj;exact NR 1 g.body h1
    | succ j=>
      have h2:=JQ _ _ g.body h1;have h':XE ((n+cntL g.body:Nat):Int) r=some m:=by rw[<-h,h2];rfl
      have:=Ul r h' j f (by simpa using hj);rw[QL,this,q5e]
   ·cases h
theorem Tk{p:Pg}(h:HE p=true){j:Nat}{f:Pr}(hj:p.procs[j]?=some f):(flL f.body).map S.id=Xg (QL p.procs j) (cntL f.body):=by
 unfold HE at h;simp only[q4k]at h;cases hm:XE 0 p.procs with
 |none=>rw[hm]at h;cases h.2
 | some m=>
   have:=Ul p.procs (n:=0) hm j f hj;simpa using this
theorem C3{n c:Nat}{a:Int}(h:a∈Xg n c):(n:Int)+1<=a/\a<=n+c:=by
 unfold Xg at h;obtain⟨k,hk,rfl⟩:=q3s.1 h;rw[List.mem_range']at hk;obtain⟨i,hi,rfl⟩:=hk;omega
def okI(lo hi:Nat)(x:Int):Prop:=x = -1\/((lo:Int)+1<=x/\x<=hi)
mutual
theorem Ek(proc:Int)(lo hi:Nat):∀(t:S)(up nx loop:Int)(n:Nat)(it:Item),it∈itS proc up nx loop n t->okI lo hi nx->(loop=0\/((lo:Int)+1<=loop/\loop<=hi))->lo<=n->n+WJ t<=hi->
  okI lo hi it.next/\(it.loop=0\/((lo:Int)+1<=it.loop/\it.loop<=hi))
 | .mk id kind labels name pr x has args thn els,up,nx,loop,n,it,h,h1,h2,h3,h4=>by
   rw[itS]at h;rw[WJ]at h4;rcases q3t.1 h with rfl|h
   ·exact⟨h1,h2⟩
   ·have h5:okI lo hi (if kind=6 then((n:Int)+1)else nx):=by
     split
     ·exact .inr ⟨by omega,by omega⟩
     ·exact h1
    have h6:(if kind=6 then((n:Int)+1)else loop)=0\/((lo:Int)+1<=(if kind=6 then((n:Int)+1)else loop)/\(if kind=6 then((n:Int)+1)else loop)<=hi):=by
     split
     ·exact .inr ⟨by omega,by omega⟩
     ·exact h2
    rcases q3a.1 h with h|h
    ·exact Jh proc lo hi thn _ _ _ _ it h h5 h6 (by omega) (by omega)
    ·exact Jh proc lo hi els _ _ _ _ it h h5 h6 (by omega) (by omega)
theorem Jh(proc:Int)(lo hi:Nat):∀(l:List S)(up nx loop:Int)(n:Nat)(it:Item),it∈itL proc up nx loop n l->okI lo hi nx->(loop=0\/((lo:Int)+1<=loop/\loop<=hi))->lo<=n->n+cntL l<=hi->
  okI lo hi it.next/\(it.loop=0\/((lo:Int)+1<=it.loop/\it.loop<=hi))
 |[],up,nx,loop,n,it,h,h1,h2,h3,h4=>by rw[itL]at h;cases h
 | t::r,up,nx,loop,n,it,h,h1,h2,h3,h4=>by
   rw[itL]at h;rw[cntL]at h4;rcases q3a.1 h with h|h
   ·refine Ek proc lo hi t _ _ _ _ it h ?_ h2 h3 (by omega);cases r with
    |nil=>exact h1
    | cons u r=>
      have:1<=cntL (u::r):=by rw[cntL,WK];omega
      exact .inr ⟨by simp;omega,by simp;omega⟩
   ·exact Jh proc lo hi r _ _ _ _ it h h1 h2 (by omega) (by omega)
end
theorem NQ:∀(l:List S)(v:S),v∈l->v∈flL l
 |[],v,h=>by cases h
 | t::r,v,h=>by
   rw[flL];rcases q3t.1 h with rfl|h
   ·refine q3a.2 (.inl ?_);rw[RK];exact q3d
   ·exact q3a.2 (.inr (NQ r v h))
structure RI where
 s:S
 deep:Int
 inn:Int
 els:Bool
def flF:Nat->Int->Bool->List S->List RI->List RI
 |0,i,e,l,out=>l.foldl (fun o s=>if o.length<=200 then o++[⟨s,13,i,e⟩]else o) out
 |m+1,i,e,l,out=>l.foldl (fun o s=>if o.length<=200 then flF m s.id true s.els (flF m s.id false s.thn (o++[⟨s,13-((m+1:Nat):Int),i,e⟩]))else o) out
mutual
def fuS(d i:Int)(e:Bool):S->List RI
 |.mk id kind labels name proc x has args thn els=>⟨.mk id kind labels name proc x has args thn els,d,i,e⟩::(fuL (d+1) id false thn++fuL (d+1) id true els)
def fuL(d i:Int)(e:Bool):List S->List RI
 |[]=>[]
 |t::r=>fuS d i e t++fuL d i e r
end
theorem Ia(d i:Int)(e:Bool)(t:S):fuS d i e t=⟨t,d,i,e⟩::(fuL (d+1) t.id false t.thn++fuL (d+1) t.id true t.els):=by
 cases t;rw[fuS];rfl
mutual
theorem OU(d i:Int)(e:Bool):∀t:S,(fuS d i e t).map RI.s=flS t
 | .mk id kind labels name proc x has args thn els=>by
   rw[fuS,flS,q4t,q4z,RM _ _ _ thn,RM _ _ _ els]
theorem RM(d i:Int)(e:Bool):∀l:List S,(fuL d i e l).map RI.s=flL l
 |[]=>by rw[fuL,flL];rfl
 |t::r=>by rw[fuL,flL,q4z,OU _ _ _ t,RM _ _ _ r]
end
theorem J9(d i:Int)(e:Bool)(l:List S):(fuL d i e l).length=cntL l:=by
 rw[<-Zn,<-RM d i e l,q3f]
theorem LC{nest seen m:Int}{s:S}(h:Fx nest seen s=some m):oneOk s=true/\s.id=seen+1/\∃m1,YM (nest+1) (seen+1) s.thn=some m1/\YM (nest+1) m1 s.els=some m:=by
 rw[TF]at h;split at h
 ·cases h
 split at h
 ·cases h
 rename_i hid;cases hn:namesB s.labels<;>rw[hn]at h
 ·cases h
 cases hf:VF s<;>rw[hf]at h
 ·cases h
 simp only[q4v]at h;split at h
 ·rename_i m1 h1;exact⟨by unfold oneOk;rw[hn,hf];rfl,by omega,m1,h1,h⟩
 ·cases h
theorem DX{nest seen m:Int}{s:S}{r:List S}(h:YM nest seen (s::r)=some m):nest<=12/\∃m1,Fx nest seen s=some m1/\YM nest m1 r=some m:=by
 rw[YM]at h;split at h
 ·cases h
 rename_i h0;split at h
 ·rename_i m1 h1;exact⟨by omega,m1,h1,h⟩
 ·cases h
mutual
theorem Ie(d i:Int)(e:Bool):∀(t:S){n m:Int},d<=12->Fx d n t=some m->∀x∈fuS d i e t,x.deep<=12/\oneOk x.s=true
 | .mk id kind labels name proc x has args thn els,n,m,hd,h,y,hy=>by
   obtain⟨h1,_,m1,h2,h3⟩:=LC h;rw[fuS]at hy;rcases q3t.1 hy with rfl|hy
   ·exact⟨hd,h1⟩
   ·rcases q3a.1 hy with hy|hy
    ·exact Py _ _ _ thn h2 y hy
    ·exact Py _ _ _ els h3 y hy
theorem Py(d i:Int)(e:Bool):∀(l:List S){n m:Int},YM d n l=some m->∀x∈fuL d i e l,x.deep<=12/\oneOk x.s=true
 |[],n,m,h,y,hy=>by rw[fuL]at hy;cases hy
 | t::r,n,m,h,y,hy=>by
   obtain⟨h1,m1,h2,h3⟩:=DX h;rw[fuL]at hy;rcases q3a.1 hy with hy|hy
   ·exact Ie _ _ _ t h1 h2 y hy
   ·exact Py _ _ _ r h3 y hy
end
theorem It:∀(k:Nat)(l:List S)(i:Int)(e:Bool)(out:List RI)(seen m:Int),YM (13-(k:Int)) seen l=some m->out.length+cntL l<=200->flF k i e l out=out++fuL (13-(k:Int)) i e l:=by
 intro k;induction k with
 | zero=>
   intro l i e out seen m h hl;cases l with
   |nil=>rw[fuL,q5c];rfl
   | cons s r=>
     have:=(DX h).1;simp at this
 | succ k ih=>
   intro l;induction l with
   |nil=>intro i e out seen m h hl;rw[fuL,q5c];rfl
   | cons s r ihr=>
     intro i e out seen m h hl;obtain⟨h1,m1,h2,h3⟩:=DX h;obtain⟨_,_,m2,h4,h5⟩:=LC h2;have ed:(13:Int)-((k+1:Nat):Int)+1=13-(k:Int):=by omega
     rw[ed]at h4 h5;rw[cntL,WK]at hl;show flF (k+1) i e r (if out.length<=200 then flF k s.id true s.els (flF k s.id false s.thn (out++[⟨s,13-((k+1:Nat):Int),i,e⟩]))else out)=_;rw[if_pos (by omega),ih s.thn s.id false _ _ _ h4 (by simp;omega),ih s.els s.id true _ _ _ h5 (by simp[J9];omega),ihr i e _ _ _ h3 (by simp[J9];omega),fuL,Ia,ed];simp
def RG(f:Pr):List RI:=flF 12 0 false f.body []
def AS(l:List Pr)(out:List RI):List RI:=l.foldl (fun o f=>if o.length<=200 then o++RG f else o) out
def allR(p:Pg):List RI:=AS p.procs []
def flatU(f:Pr):List RI:=fuL 1 0 false f.body
theorem Wz:∀(l:List Pr){n m:Int},XE n l=some m->∀f∈l,DY f=true/\∃a b,YM 1 a f.body=some b
 |[],_,_,_,f,hf=>by cases hf
 | g::r,n,m,h,f,hf=>by
   rw[XE]at h;cases hm:DY g<;>rw[hm]at h
   ·cases h
   simp only[q4v]at h;split at h
   ·rename_i m1 h1;rcases q3t.1 hf with rfl|hf
    ·exact⟨hm,_,_,h1⟩
    ·exact Wz r h f hf
   ·cases h
theorem LN{p:Pg}(h:HE p=true):p.globals.length<=16/\p.procs.length<=16/\namesB p.globals=true/\∀f∈p.procs,DY f=true/\∃a b,YM 1 a f.body=some b:=by
 unfold HE at h;simp only[q4k,q4o]at h;obtain⟨⟨⟨h1,h2⟩,h3⟩,h4⟩:=h;refine⟨h1,h2,h3,?_⟩;cases hm:XE 0 p.procs with
 |none=>rw[hm]at h4;cases h4
 |some m=>exact Wz p.procs hm
theorem J3:∀(l:List Pr)(f:Pr),f∈l->cntL f.body<=cntP l
 |[],f,h=>by cases h
 | g::r,f,h=>by
   rw[cntP];rcases q3t.1 h with rfl|h
   ·omega
   ·have:=J3 r f h;omega
theorem SA{p:Pg}(h:HE p=true){f:Pr}(hf:f∈p.procs):RG f=flatU f:=by
 obtain⟨_,_,_,h4⟩:=LN h;obtain⟨_,a,b,h5⟩:=h4 f hf;have h6:=(WT h).2.2;have h7:=J3 _ f hf;have:=It 12 f.body 0 false [] a b h5 (by simp;omega);simpa[RG,flatU]using this
theorem Bo:∀(l:List Pr)(out:List RI),(∀f∈l,RG f=flatU f)->out.length+cntP l<=200->AS l out=out++l.flatMap flatU
 |[],out,_,_=>by show out=_;simp
 | f::r,out,h,hl=>by
   rw[cntP]at hl;show AS r (if out.length<=200 then out++RG f else out)=_;have e:=J9 1 0 false f.body;rw[if_pos (by omega),h f q3d,Bo r _ (fun g hg=>h g (q3n _ hg)) (by simp only[flatU,q3m,e];omega)];simp
theorem Ry{p:Pg}(h:HE p=true):allR p=p.procs.flatMap flatU:=by
 have:=Bo p.procs [] (fun f hf=>SA h hf) (by have:=(WT h).2.2;simpa using this);simpa[allR]using this
theorem AC{p:Pg}(h:HE p=true):∀x∈p.procs.flatMap flatU,x.deep<=12/\oneOk x.s=true:=by
 intro x hx;obtain⟨f,hf,hx⟩:=q5g.1 hx;obtain⟨_,_,_,h4⟩:=LN h;obtain⟨_,a,b,h5⟩:=h4 f hf;exact Py 1 0 false f.body h5 x hx
theorem NH:∀(l:List Pr){n:Nat}{m:Int},XE n l=some m->(l.flatMap fun f=>flL f.body).map S.id=Xg n (cntP l)
 |[],n,m,_=>by rw[cntP];rfl
 | g::r,n,m,h=>by
   rw[XE]at h;cases hm:DY g<;>rw[hm]at h
   ·cases h
   simp only[q4v]at h;split at h
   ·rename_i m1 h1;have h2:=JQ _ _ g.body h1;have h':XE ((n+cntL g.body:Nat):Int) r=some m:=by rw[<-h,h2];rfl
    have h3:=NH r h';rw[q5o,q4z,NR 1 g.body h1,h3,cntP,Xh]
   ·cases h
theorem I3(l:List Pr):(l.flatMap flatU).map RI.s=l.flatMap fun f=>flL f.body:=by
 induction l with
 |nil=>rfl
 | cons f r ih=>
   rw[q5o,q5o,q4z,ih];congr 1;exact RM _ _ _ _
theorem P0(l:List Pr):(l.flatMap flatU).length=cntP l:=by
 induction l with
 |nil=>rfl
 |cons f r ih=>rw[q5o,q3m,ih,cntP];congr 1;exact J9 _ _ _ _
theorem SG{p:Pg}(h:HE p=true){k:Nat}{x:RI}(hk:(p.procs.flatMap flatU)[k]?=some x):x.s.id=(k:Int)+1:=by
 unfold HE at h;simp only[q4k,q4o]at h;cases hm:XE 0 p.procs with
 |none=>rw[hm]at h;cases h.2
 | some m=>
   have h1:=NH p.procs (n:=0) hm;rw[<-I3]at h1;have h2:(((p.procs.flatMap flatU).map RI.s).map S.id)[k]?=some x.s.id:=by simp[hk]
   rw[h1]at h2;unfold Xg at h2;have hlt:k<cntP p.procs:=by rw[<-P0];exact(q3c.1 hk).1
   rw[q4x,List.getElem?_range' hlt]at h2;simp at h2;omega
structure MayF(p:Pg):Prop where
 gl:p.globals.length<=16
 pl:p.procs.length<=16
 gn:namesB p.globals=true
 pr:∀f∈p.procs,f.params.length<=8/\f.vars.length<=16/\isName f.name=true/\namesB f.vars=true/\namesB f.fin=true/\(f.params.all fun a=>isName a.name)=true
 len:(allR p).length<=200
 its:∀(k:Nat)(x:RI),(allR p)[k]?=some x->x.s.id=(k:Int)+1/\x.deep<=12/\oneOk x.s=true
theorem NF{p:Pg}(h:HE p=true):MayF p:=by
 obtain⟨h1,h2,h3,h4⟩:=LN h;refine⟨h1,h2,h3,fun f hf=>KZ.1 (h4 f hf).1,?_,fun k x hk=>?_⟩
 ·rw[Ry h,P0];exact(WT h).2.2
 ·rw[Ry h]at hk;exact⟨SG h hk,AC h x (q4n hk)⟩
def Pr0:Pr:=⟨[],[],[],[],[]⟩
theorem ZM(l:List Str)(hl:l.length<=1000000):SpecP prog 65 [eStrs l] (fun r=>r=eStrs l):=by
 refine sB DV func65 rfl call65 ?_;conv=>whnf
 have hlm:(l.map AV.str).length=l.length:=q3f _;repeat' (refine aD ?_;conv=>whnf)
 refine q6g rfl rfl (by rw[hlm];show(0+l.length)*16<=140737488355328;omega) (by rw[hlm];show 0+l.length<=9223372036854775807;omega) (fun x hx=>by obtain⟨s,_,rfl⟩:=q3s.1 hx;exact⟨rfl,rfl⟩) ?_;conv=>whnf
 skip
 exact⟨_,.hd rfl (by simp),rfl⟩
def DD:List Str->Nat
 |[]=>0
 |s::r=>1+s.length+DD r
mutual
def gX:X->Nat
 |.mk _ _ name kids=>1+name.length+gXs kids
def gXs:List X->Nat
 |[]=>0
 |x::r=>gX x+gXs r
end
def Vf:List Arg->Nat
 |[]=>0
 |a::r=>gX a.x+(1+a.name.length)+Vf r
mutual
def gS:S->Nat
 |.mk _ _ labels name proc x _ args thn els=>gX x+DD labels+(1+name.length)+(1+proc.length)+Vf args+gL thn+gL els
def gL:List S->Nat
 |[]=>0
 |s::r=>gS s+gL r
end
def Sc:List Param->Nat
 |[]=>0
 |a::r=>1+a.name.length+Sc r
def gPr(f:Pr):Nat:=1+f.name.length+DD f.vars+DD f.fin+Sc f.params+gL f.body
def Ds:List Pr->Nat
 |[]=>0
 |f::r=>gPr f+Ds r
def gPg(p:Pg):Nat:=DD p.globals+Ds p.procs
theorem OY(s:S):gS s=gX s.x+DD s.labels+(1+s.name.length)+(1+s.proc.length)+Vf s.args+gL s.thn+gL s.els:=by
 cases s;rw[gS];rfl
theorem Ft:∀l:List Str,SQ l<=DD l
 |[]=>q4h _
 |s::r=>by have:=Ft r;simp only[SQ,DD];omega
mutual
theorem q1d:∀x:X,wX x<=gX x
 |.mk _ _ name kids=>by have:=O4 kids;rw[wX,gX];omega
theorem O4:∀l:List X,wXs l<=gXs l
 |[]=>by rw[wXs];omega
 |x::r=>by have:=q1d x;have:=O4 r;rw[wXs,gXs];omega
end
theorem Ss:∀l:List Arg,Kf l<=Vf l
 |[]=>q4h _
 |a::r=>by have:=Ss r;have:=q1d a.x;simp only[Kf,Vf];omega
mutual
theorem q3j:∀s:S,wS s<=gS s
 | .mk _ _ labels name proc x _ args thn els=>by
   have:=q1d x;have:=Ft labels;have:=Ss args;have:=Oh thn;have:=Oh els;rw[wS,gS];omega
theorem Oh:∀l:List S,wL l<=gL l
 |[]=>by rw[wL];omega
 |s::r=>by have:=q3j s;have:=Oh r;rw[wL,gL];omega
end
theorem AD:∀l:List Param,Ok l<=Sc l
 |[]=>q4h _
 |a::r=>by have:=AD r;simp only[Ok,Sc];omega
theorem AB:∀l:List Pr,EI l<=Ds l
 |[]=>q4h _
 | f::r=>by
   have:=AB r;have:=Ft f.vars;have:=Ft f.fin;have:=AD f.params;have:=Oh f.body;simp only[EI,Ds,wPr,gPr];omega
theorem q1f(p:Pg):wPg p<=gPg p:=by
 have:=Ft p.globals;have:=AB p.procs;unfold wPg gPg;omega
def XJ(x:Int):Int:=if x>20000 then 20001 else x
theorem ZQ{a b:Int}(hb:0<=b):XJ (XJ a+b)=XJ (a+b):=by
 unfold XJ;split<;>split<;>(try split)<;>omega
theorem XR{a:Int}(h:0<=a):0<=XJ a/\XJ a<=20001:=by
 unfold XJ;split<;>omega
theorem K5{a:Int}(h:a<=20001):XJ a=a:=by
 unfold XJ;split<;>omega
theorem UG{a b:Int}(h:a>20000)(h1:a<=20001)(hb:0<=b):a=XJ (a+b):=by
 unfold XJ;split<;>omega
theorem QT(s:Str)(n:Int)(hn:0<=n/\n<=20001):SpecP prog 44 [.str s,.int .i64 n] (fun r=>r=.int .i64 (XJ (n+(1+s.length:Nat)))):=by
 refine sB JL func44 rfl call44 ?_;conv=>whnf
 repeat' (first|((first|(refine iM fun _=>?_)|refine wI ?_);conv=>whnf)|(apply bD<;>intro _<;>first|omega|conv=>whnf))
 all_goals exact RetK.int (by unfold XJ;(repeat' split)<;>omega)
theorem XB(l:List Str)(n:Int)(hn:0<=n/\n<=20001):SpecP prog 43 [eStrs l,.int .i64 n] (fun r=>r=.int .i64 (XJ (n+DD l))):=by
 refine sB JK func43 rfl call43 ?_;conv=>whnf
 skip
 have hl:(l.map AV.str).length=l.length:=q3f _;refine LoopK.inv QY (fun x:Nat×Int=>⟨[(0,.p (eStrs l)),(1,.p (.int .i64 x.2)),(5,.p (.int .i64 x.1))],[]⟩) (fun x=>x.1<=l.length/\(0<=x.2/\x.2<=20001)/\XJ (x.2+DD (l.drop x.1))=XJ (n+DD l)) (fun x=>l.length-x.1) (0,n) (Le.of_eq rfl) ⟨q3o _,hn,rfl⟩ ?_;rintro⟨j,m⟩ ⟨h2,h3,h4⟩;simp only at h2 h3 h4⊢;rcases q4w j l.length with hj|hj
 ·rw[q4a hj,DD]at h4;conv=>whnf
  repeat' (first|((first|(refine iM fun _=>?_)|refine cP (QT _ _ h3) ?_|(refine iA fun _=>?_)|refine wI ?_);conv=>whnf)|(apply bD<;>intro _<;>first|omega|conv=>whnf))
  ·have h5:XJ (XJ (m+(1+l[j].length:Nat))+DD (l.drop (j+1)))=XJ (n+DD l):=by
    rw[ZQ (by omega),<-h4];congr 1;omega
   exact⟨(j+1,XJ (m+(1+l[j].length:Nat))),⟨by simp only;omega,XR (by omega),h5⟩,by simp only;omega,Le.of_eq rfl⟩
  ·exact RetK.int (by rw[<-h4];exact UG (by omega) h3.2 (by omega))
 ·rw[q4j hj,DD]at h4;conv=>whnf
  repeat' (first|(refine iM fun _=>?_;conv=>whnf)|(apply bD<;>intro _<;>first|omega|conv=>whnf))
  exact RetK.int (by rw[<-h4,K5 (by omega)];simp)
theorem VS:∀(k:Nat)(x:X)(_:gX x<k)(n:Int)(_:0<=n/\n<=20001),SpecP prog 80 [.agg x.cells,.int .i64 n] (fun r=>r=.int .i64 (XJ (n+gX x))):=by
 intro k;induction k with
 |zero=>intro x h;omega
 | succ k ih=>
   intro x hx n hn;have hxe:gX x=1+x.name.length+gXs x.kids:=by cases x;rw[gX];rfl
   have hkl:=X.avs_len x.kids;refine sB JM func80 rfl call80 ?_;conv=>whnf
   repeat' (refine cP (QT _ _ hn) ?_;conv=>whnf)
   refine LoopK.inv QY (fun y:Nat×Int=>⟨[(1,.p (.int .i64 y.2)),(2,.p (.ip x.cells)),(5,.p (.int .i64 y.1))],[]⟩) (fun y=>y.1<=x.kids.length/\(0<=y.2/\y.2<=20001)/\XJ (y.2+gXs (x.kids.drop y.1))=XJ (n+gX x)) (fun y=>x.kids.length-y.1) (0,XJ (n+(1+x.name.length:Nat))) (Le.of_eq rfl) ⟨q3o _,XR (by omega),by
    show XJ (XJ (n+(1+x.name.length:Nat))+gXs x.kids)=_;rw[ZQ (by omega),hxe];congr 1;omega⟩ ?_
   rintro⟨j,m⟩ ⟨h2,h3,h4⟩;simp only at h2 h3 h4⊢;rcases q4w j x.kids.length with hj|hj
   ·rw [q4a hj,gXs]at h4;have hkw:gX x.kids[j]<k:=by
     have:∀(l:List X)(y:X),y∈l->gX y<=gXs l:=fun l=>by
      induction l with
      |nil=>intro y h;cases h
      | cons a r ih=>
        intro y h;rw[gXs];rcases q3t.1 h with rfl|h
        ·omega
        ·have:=ih y h;omega
     have:=this x.kids _ (q4u hj);omega
    conv=>whnf
    repeat' (first|((first|(refine iM fun _=>?_)|refine IdxK.xs (by omega) ?_|refine wI ?_|refine cP (ih (x.kids[j]'hj) hkw m h3) ?_);conv=>whnf)|(apply bD<;>intro _<;>first|omega|conv=>whnf))
    ·have h5:XJ (XJ (m+gX x.kids[j])+gXs (x.kids.drop (j+1)))=XJ (n+gX x):=by
      rw[ZQ (by omega),<-h4];congr 1;omega
     exact⟨(j+1,XJ (m+gX x.kids[j])),⟨by simp only;omega,XR (by omega),h5⟩,by simp only;omega,Le.of_eq rfl⟩
    ·exact RetK.int (by rw[<-h4];exact UG (by omega) h3.2 (by omega))
   ·rw[q4j hj,gXs]at h4;conv=>whnf
    repeat' (first|(refine iM fun _=>?_;conv=>whnf)|(apply bD<;>intro _<;>first|omega|conv=>whnf))
    exact RetK.int (by rw[<-h4,K5 (by omega)];simp)
theorem Af:∀(l:List S)(y:S),y∈l->gS y<=gL l
 |[],y,h=>by cases h
 | a::r,y,h=>by
   rw[gL];rcases q3t.1 h with rfl|h
   ·omega
   ·have:=Af r y h;omega
theorem VL:∀(k:Nat)(l:List S)(_:gL l<k)(n:Int)(_:0<=n/\n<=20001),SpecP prog 45 [eSs l,.int .i64 n] (fun r=>r=.int .i64 (XJ (n+gL l))):=by
 intro k;induction k with
 |zero=>intro l h;omega
 | succ k ih=>
   intro l hl n hn;have hkl:=S.avs_len l;refine sB JJ func45 rfl call45 ?_;conv=>whnf
   skip
   refine LoopK.inv QY (fun y:Nat×Int=>⟨[(0,.p (eSs l)),(1,.p (.int .i64 y.2)),(5,.p (.int .i64 y.1))],[]⟩) (fun y=>y.1<=l.length/\(0<=y.2/\y.2<=20001)/\XJ (y.2+gL (l.drop y.1))=XJ (n+gL l)) (fun y=>l.length-y.1) (0,n) (Le.of_eq rfl) ⟨q3o _,hn,rfl⟩ ?_;rintro⟨j,m⟩ ⟨h2,h3,h4⟩;simp only at h2 h3 h4⊢;rcases q4w j l.length with hj|hj;rotate_left 1
   ·rw[q4j hj,gL]at h4;conv=>whnf
    repeat' (first|(refine iM fun _=>?_;conv=>whnf)|(apply bD<;>intro _<;>first|omega|conv=>whnf))
    exact RetK.int (by rw[<-h4,K5 (by omega)];simp)
   rw[q4a hj,gL]at h4;have hsw:=Af l _ (q4u hj);have hse:=OY l[j];have q1:=XR (a:=m+gX l[j].x) (by omega);have q2:=XR (a:=XJ (m+gX l[j].x)+DD l[j].labels) (by omega);have q3:=XR (a:=XJ (XJ (m+gX l[j].x)+DD l[j].labels)+(1+l[j].name.length:Nat)) (by omega);conv=>whnf
   repeat' (first|((first|(refine iM fun _=>?_)|refine dA ?_|refine q3l rfl ?_|refine QN (by omega) ?_|(refine CallK.pure (VS (gX l[j].x+1) l[j].x (by omega) m h3) (.cons (Sub.refl _) (.cons (Sub.refl _) .nil)) ?_;rintro _ rfl)|refine cP (XB l[j].labels _ q1) ?_|refine cP (QT l[j].name _ q2) ?_|refine cP (QT l[j].proc _ q3) ?_);conv=>whnf)|(apply bD<;>intro _<;>first|omega|conv=>whnf))
   rotate_left 1
   ·exact RetK.int (by rw[<-h4];exact UG (by omega) h3.2 (by omega))
   have q4:=XR (a:=XJ (XJ (XJ (m+gX l[j].x)+DD l[j].labels)+(1+l[j].name.length:Nat))+(1+l[j].proc.length:Nat)) (by omega);have h5:XJ (XJ (XJ (XJ (XJ (m+gX l[j].x)+DD l[j].labels)+(1+l[j].name.length:Nat))+(1+l[j].proc.length:Nat))+(Vf l[j].args+(gL l[j].thn+gL l[j].els+gL (l.drop (j+1))):Nat))=XJ (n+gL l):=by
    rw[ZQ (by omega),q8z,ZQ (by omega),q8z,ZQ (by omega),q8z,ZQ (by omega),<-h4,hse];congr 1;omega
   generalize XJ (XJ (XJ (XJ (m+gX l[j].x)+DD l[j].labels)+(1+l[j].name.length:Nat))+(1+l[j].proc.length:Nat))=m0 at q4 h5⊢;have hal:(l[j].args.map fun a=>AV.agg a.cells).length=l[j].args.length:=q3f _;refine LoopK.inv QY (fun y:Nat×Int=>⟨[(0,.p (eSs l)),(1,.p (.int .i64 y.2)),(5,.p (.int .i64 j)),(6,.p (.ip l[j].cells)),(7,.p (.int .i64 y.1))],[]⟩) (fun y=>y.1<=l[j].args.length/\(0<=y.2/\y.2<=20001)/\XJ (y.2+(Vf (l[j].args.drop y.1)+(gL l[j].thn+gL l[j].els+gL (l.drop (j+1))):Nat))=XJ (n+gL l)) (fun y=>l[j].args.length-y.1) (0,m0) (Le.of_eq rfl) ⟨q3o _,q4,h5⟩ ?_;rintro⟨a,m2⟩ ⟨h6,h7,h8⟩;simp only at h6 h7 h8⊢;have fin:XJ (m2+(gL l[j].thn+gL l[j].els+gL (l.drop (j+1)):Nat))=XJ (n+gL l)->(0<=XJ (XJ (m2+gL l[j].thn)+gL l[j].els)/\XJ (XJ (m2+gL l[j].thn)+gL l[j].els)<=20001)/\XJ (XJ (XJ (m2+gL l[j].thn)+gL l[j].els)+gL (l.drop (j+1)))=XJ (n+gL l):=fun h=>by
    have:=XR (a:=m2+gL l[j].thn) (by omega);refine⟨XR (by omega),?_⟩;rw[ZQ (by omega),q8z,ZQ (by omega),<-h];congr 1;omega
   have r1:=XR (a:=m2+gL l[j].thn) (by omega);have full:m2>20000->XJ (m2+(gL l[j].thn+gL l[j].els+gL (l.drop (j+1)):Nat))=XJ (n+gL l):=fun h=>by
    rw[<-h8,<-UG h h7.2 (by omega),<-UG h h7.2 (by omega)]
   rcases q4w a l[j].args.length with ha|ha;rotate_left 1
   ·have h9:XJ (m2+(gL l[j].thn+gL l[j].els+gL (l.drop (j+1)):Nat))=XJ (n+gL l):=by
     rw[q4j ha,Vf,q5n]at h8;exact h8
    obtain⟨f1,f2⟩:=fin h9;conv=>whnf
    repeat' (first|((first|(refine iM fun _=>?_)|refine dA ?_|refine wI ?_|(refine CallK.pure (ih l[j].thn (by omega) m2 h7) (.cons (Sub.refl _) (.cons (Sub.refl _) .nil)) ?_;rintro _ rfl)|(refine CallK.pure (ih l[j].els (by omega) _ r1) (.cons (Sub.refl _) (.cons (Sub.refl _) .nil)) ?_;rintro _ rfl));conv=>whnf)|(apply bD<;>intro _<;>first|omega|conv=>whnf))
    all_goals exact⟨(j+1,XJ (XJ (m2+gL l[j].thn)+gL l[j].els)),⟨by simp only;omega,f1,f2⟩,by simp only;omega,Le.of_eq rfl⟩
   rw[q4a ha,Vf]at h8;have q5:=XR (a:=m2+gX l[j].args[a].x) (by omega);conv=>whnf
   repeat' (first|((first|(refine iM fun _=>?_)|refine dA ?_|(refine iA fun _=>?_)|refine wI ?_|(refine CallK.pure (VS (gX l[j].args[a].x+1) l[j].args[a].x (by omega) m2 h7) (.cons (Sub.refl _) (.cons (Sub.refl _) .nil)) ?_;rintro _ rfl)|refine cP (QT l[j].args[a].name _ q5) ?_|(refine CallK.pure (ih l[j].thn (by omega) m2 h7) (.cons (Sub.refl _) (.cons (Sub.refl _) .nil)) ?_;rintro _ rfl)|(refine CallK.pure (ih l[j].els (by omega) _ r1) (.cons (Sub.refl _) (.cons (Sub.refl _) .nil)) ?_;rintro _ rfl));conv=>whnf)|(apply bD<;>intro _<;>first|omega|conv=>whnf))
   ·have h10:XJ (XJ (XJ (m2+gX l[j].args[a].x)+(1+l[j].args[a].name.length:Nat))+(Vf (l[j].args.drop (a+1))+(gL l[j].thn+gL l[j].els+gL (l.drop (j+1))):Nat))=XJ (n+gL l):=by
     rw[ZQ (by omega),q8z,ZQ (by omega),<-h8];congr 1;omega
    exact⟨(a+1,XJ (XJ (m2+gX l[j].args[a].x)+(1+l[j].args[a].name.length:Nat))),⟨by simp only;omega,XR (by omega),h10⟩,by simp only;omega,Le.of_eq rfl⟩
   ·obtain⟨f1,f2⟩:=fin (full (by omega));exact⟨(j+1,XJ (XJ (m2+gL l[j].thn)+gL l[j].els)),⟨by simp only;omega,f1,f2⟩,by simp only;omega,Le.of_eq rfl⟩
theorem AF:∀{l:List X}{y:X},y∈l->wX y<=wXs l
 |[],_,h=>by cases h
 | a::r,y,h=>by
   rw[wXs];rcases q3t.1 h with rfl|h
   ·omega
   ·have:=AF h;omega
theorem O3(x:X):1<=wX x:=by cases x;rw[wX];omega
theorem Sm:∀l:List X,l.length<=wXs l
 |[]=>by simp
 | a::r=>by
   rw[wXs,q4m];have:=Sm r;have:=O3 a;omega
end Go.Ab
