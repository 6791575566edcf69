/- run: a statement of another kind. -/
import Derived.Test.YtiaikoimoonlmaaGreatCfgD9
import Derived.Test.YtiaikoimoonlmaaGreatCfgD11
import Derived.Test.YtiaikoimoonlmaaGreatCfgD12
set_option linter.unusedSimpArgs false
set_option linter.unusedVariables false
set_option maxRecDepth 100000
set_option maxHeartbeats 16000000
open List (drop_eq_nil_of_le flatMap_cons length_append length_map map_cons mem_cons_self)
open Nat (zero_le)
namespace Go.Ab
open Go.Proofs
theorem q0f (l:List S) (o:Int):SpecP Tryz.prog 182 [eSs l,.int .i64 o] (fun r=>r = .int .i64 (HN l o)):=by
 refine sB x1b Tryz.func182 rfl Tryz.call182 ?_;conv=>whnf
 cases l with
 | nil =>
   repeat' (first|(refine iM fun _=>?_;conv=>whnf)|(apply bD<;>intro _<;>first|omega|conv=>whnf))
   all_goals first
    | (exfalso;simp_all [S.avs];done)
    | exact RetK.int rfl
 | cons t r =>
   have hg:(S.avs (t::r))[0]? = some (.agg t.cells):=by rw [S.avs_eq];rfl
   have hl:(S.avs (t::r)).length=r.length+1:=by rw [S.avs_len];rfl
   have hh:HN (t::r) o=t.id:=rfl;rw [hh];repeat' (first|((first|(refine iM fun _=>?_)|(refine IdxK.at (k:=0) rfl hg rfl ?_));conv=>whnf)|(apply bD<;>intro _<;>first|omega|conv=>whnf))
   all_goals first
    | (exfalso;omega)
    | exact RetK.int rfl
def doM (p:Pg) (tape watch:List Int) (M:Mc) (f:Fm) (g:Pr) (it:Item):Int×Mc :=
 if it.s.kind=7 then ((((sheetOf p).l[(it.loop-1).toNat]?).map Item.next).getD 0,QG watch M it.s.id [])
 else if it.s.kind=8 then (it.loop,QG watch M it.s.id [])
 else if it.s.kind=10 then ((atB g it.s.name).1,QG watch M it.s.id [])
 else if it.s.kind=2 then (if (tape.length:Int)<=M.reads then (-1,endM M 3) else (it.next,QG watch (setM { M with reads:=M.reads+1 } (varM f it.s.name) (tape.getD M.reads.toNat 0)) it.s.id [tape.getD M.reads.toNat 0]))
 else bif (QS M f it.s.x).2 then
  (if it.s.kind=1 then (it.next,setM (QG watch M it.s.id [(QS M f it.s.x).1]) (varM f it.s.name) (QS M f it.s.x).1)
   else if it.s.kind=3 then (it.next,{ QG watch M it.s.id [(QS M f it.s.x).1] with out:=(QG watch M it.s.id [(QS M f it.s.x).1]).out++[(QS M f it.s.x).1] })
   else if it.s.kind=5 then (if (QS M f it.s.x).1≠0 then HN it.s.thn it.next else HN it.s.els it.next,QG watch M it.s.id [(QS M f it.s.x).1])
   else if it.s.kind=6 then (if (QS M f it.s.x).1≠0 then HN it.s.thn it.s.id else it.next,QG watch M it.s.id [(QS M f it.s.x).1])
   else (it.next,QG watch M it.s.id [(QS M f it.s.x).1]))
 else (-1,endM M 4)
structure DoOk (p:Pg) (f:Fm) (g:Pr) (it:Item):Prop where
 lp:it.s.kind=7->1<=it.loop∧it.loop<=100000 ∧ ∃ l,(sheetOf p).l[(it.loop-1).toNat]? = some l
 pr : ∃ k:Nat,it.proc=k∧p.procs[k]? = some g
 nm:it.s.kind=1∨it.s.kind=2->0<=idxF (fun y=>it.s.name==y) f.names
theorem z7b {w:List Int} {M:Mc} {id:Int} {v:List Int}:(QG w M id v).out=M.out:=by
 unfold QG;cases w.any fun x=>decide (id=x)<;>rfl
theorem q2m (p:Pg) (hcp:VU p.procs<=1000) (tape watch:List Int) (htp:tape.length<=10000000) (bs:List Nat) (vs:List Int) (M:Mc) (st:List Fm) (f:Fm) (hs:M.stack=st++[f]) (hM:OkM p bs M) (htl:M.trace.length<=10000000) (hol:M.out.length<=10000000) (hrd:0<=M.reads) (hr2:M.reads<=10000000) (g:Pr) (it:Item) (hD:DoOk p f g it):SpecH Tryz.prog 113 [.ptr 1000 0,.p (.agg it.cells)] (mH p tape watch bs vs M) (fun r H => ∃ vs',r = .p (.int .i64 (doM p tape watch M f g it).1)∧H=mH p tape watch bs vs' (doM p tape watch M f g it).2):=by
 refine sH LQ Tryz.func113 rfl Tryz.call113 ?_;conv=>whnf
 have hE0:=XH p tape watch bs vs M it.s.id [] htl;have hf:f∈M.stack:=by rw [hs];exact List.mem_append_right _ (List.mem_singleton.2 rfl)
 have hF:=hM.fr f hf;obtain ⟨kp,hkp,hgp⟩:=hD.pr;unfold doM;by_cases h7:it.s.kind=7
 ·obtain ⟨hl1,hl2,lp,hlp⟩:=hD.lp h7;have hg:((sheetOf p).l.map fun i=>AV.agg i.cells)[(it.loop-1).toNat]? = some (.agg lp.cells):=by rw [List.getElem?_map,hlp];rfl
  rw [hlp];simp only [h7,if_true,Option.map_some,Option.getD_some];repeat' (first|((first|refine dA ?_|refine And.intro rfl ?_|refine wI ?_|(refine IdxK.at (k:=(it.loop-1).toNat) (by omega) hg rfl ?_));conv=>whnf)|(apply bD<;>intro _<;>first|omega|conv=>whnf)|(refine CallK.heap [(1000,1000),(1001,1001),(2001,2001),(2002,2002),(2003,2003),(2004,2004),(2500,2500)] 0 (ArgsH.cons (LSub.refl _) (ArgsH.cons (LSub.refl _) (ArgsH.cons (LSub.p Sub.nils) ArgsH.nil))) (by refine BlksH.cons (j:=1000) rfl rfl ?_ ?_;exact CSub.refl _;refine BlksH.cons (j:=1001) rfl rfl ?_ ?_;exact CSub.refl _;refine BlksH.cons (j:=2001) rfl rfl ?_ ?_;exact CSub.refl _;refine BlksH.cons (j:=2002) rfl rfl ?_ ?_;exact CSub.refl _;refine BlksH.cons (j:=2003) rfl rfl ?_ ?_;exact CSub.refl _;refine BlksH.cons (j:=2004) rfl rfl ?_ ?_;exact CSub.refl _;refine BlksH.cons (j:=2500) rfl rfl ?_ ?_;exact CSub.refl _;exact BlksH.nil) hE0 rfl rfl ?_;rintro l' H' ⟨rfl,rfl⟩;conv=>whnf))
  all_goals first
   | (exfalso;omega)
   | exact RetHK.mk _ (LSub.refl _) ⟨vs,rfl,rfl⟩
 by_cases h8:it.s.kind=8
 ·rw [if_neg h7,if_pos h8];repeat' (first|(refine And.intro rfl ?_;conv=>whnf)|(apply bD<;>intro _<;>first|omega|conv=>whnf)|(refine CallK.heap [(1000,1000),(1001,1001),(2001,2001),(2002,2002),(2003,2003),(2004,2004),(2500,2500)] 0 (ArgsH.cons (LSub.refl _) (ArgsH.cons (LSub.refl _) (ArgsH.cons (LSub.p Sub.nils) ArgsH.nil))) (by refine BlksH.cons (j:=1000) rfl rfl ?_ ?_;exact CSub.refl _;refine BlksH.cons (j:=1001) rfl rfl ?_ ?_;exact CSub.refl _;refine BlksH.cons (j:=2001) rfl rfl ?_ ?_;exact CSub.refl _;refine BlksH.cons (j:=2002) rfl rfl ?_ ?_;exact CSub.refl _;refine BlksH.cons (j:=2003) rfl rfl ?_ ?_;exact CSub.refl _;refine BlksH.cons (j:=2004) rfl rfl ?_ ?_;exact CSub.refl _;refine BlksH.cons (j:=2500) rfl rfl ?_ ?_;exact CSub.refl _;exact BlksH.nil) hE0 rfl rfl ?_;rintro l' H' ⟨rfl,rfl⟩;conv=>whnf))
  all_goals first
   | (exfalso;omega)
   | exact RetHK.mk _ (LSub.refl _) ⟨vs,rfl,rfl⟩
 by_cases h10:it.s.kind=10
 ·have hAt:=JR p kp g hgp hcp it.s.name;rw [if_neg h7,if_neg h8,if_pos h10];generalize atB g it.s.name=ab at *
  obtain ⟨a1,a2⟩:=ab;repeat' (first|((first|refine dA ?_|refine And.intro rfl ?_|(refine CallK.pure hAt (.cons (Sub.refl _) (.cons (Sub.int hkp) (.cons (Sub.refl _) .nil))) ?_;rintro _ rfl));conv=>whnf)|(apply bD<;>intro _<;>first|omega|conv=>whnf)|(refine CallK.heap [(1000,1000),(1001,1001),(2001,2001),(2002,2002),(2003,2003),(2004,2004),(2500,2500)] 0 (ArgsH.cons (LSub.refl _) (ArgsH.cons (LSub.refl _) (ArgsH.cons (LSub.p Sub.nils) ArgsH.nil))) (by refine BlksH.cons (j:=1000) rfl rfl ?_ ?_;exact CSub.refl _;refine BlksH.cons (j:=1001) rfl rfl ?_ ?_;exact CSub.refl _;refine BlksH.cons (j:=2001) rfl rfl ?_ ?_;exact CSub.refl _;refine BlksH.cons (j:=2002) rfl rfl ?_ ?_;exact CSub.refl _;refine BlksH.cons (j:=2003) rfl rfl ?_ ?_;exact CSub.refl _;refine BlksH.cons (j:=2004) rfl rfl ?_ ?_;exact CSub.refl _;refine BlksH.cons (j:=2500) rfl rfl ?_ ?_;exact CSub.refl _;exact BlksH.nil) hE0 rfl rfl ?_;rintro l' H' ⟨rfl,rfl⟩;conv=>whnf))
  all_goals first
   | (exfalso;omega)
   | exact RetHK.mk _ (LSub.refl _) ⟨vs,rfl,rfl⟩
 rw [if_neg h7,if_neg h8,if_neg h10];have htm:(tape.map (AV.int .i64)).length=tape.length:=length_map _;by_cases h2:it.s.kind=2
 ·rw [if_pos h2];have hi:=hD.nm (.inr h2);have hvi:(idxF (fun y=>it.s.name==y) f.names).toNat<f.vars.length:=by rw [hF.len];exact q0u hi
  have hvg:f.vars[(idxF (fun y=>it.s.name==y) f.names).toNat]? = some (varM f it.s.name):=by unfold varM;rw [List.getD_eq_getElem?_getD,List.getElem?_eq_getElem hvi];rfl
  have hWh:=ZB p tape watch bs vs { M with reads:=M.reads+1 } st f hs hM.sl it.s.name (idxF (fun y=>it.s.name==y) f.names).toNat (varM f it.s.name) (Int.toNat_of_nonneg hi).symm hvg;have hvr:varM f it.s.name<M.mem.length:=hF.rng _ (List.mem_of_getElem? hvg);have hcg:=YO hM.bl hvr;by_cases hrt:(tape.length:Int)<=M.reads
  ·rw [if_pos hrt];repeat' (first|((first|(refine iM fun _=>?_)|refine dA ?_|refine And.intro rfl ?_);conv=>whnf)|(apply bD<;>intro _<;>first|omega|conv=>whnf))
   all_goals first
    | (exfalso;omega)
    | exact RetHK.mk _ (LSub.refl _) ⟨vs,rfl,rfl⟩
  ·rw [if_neg hrt];have hgt:(tape.map (AV.int .i64))[M.reads.toNat]? = some (.int .i64 (tape.getD M.reads.toNat 0)):=by
    rw [List.getElem?_map,List.getD_eq_getElem?_getD,List.getElem?_eq_getElem (by omega)];rfl
   generalize tape.getD M.reads.toNat 0=n at *
   have hsh:=q5w (p:=p) (tape:=tape) (watch:=watch) (vs:=vs) (M:={ M with reads:=M.reads+1 }) (v:=varM f it.s.name) (n:=n) (es:=M.stack.map (fmA bs)) hM.bl hvr;have hEv:=XH p tape watch bs vs (setM { M with reads:=M.reads+1 } (varM f it.s.name) n) it.s.id [n] htl;rw [show mH p tape watch bs vs (setM { M with reads:=M.reads+1 } (varM f it.s.name) n)=mHs p tape watch bs vs (setM { M with reads:=M.reads+1 } (varM f it.s.name) n) (M.stack.map (fmA bs)) from rfl,hsh] at hEv;generalize varM f it.s.name=vv at *
   repeat' (first|((first|(refine iM fun _=>?_)|refine dA ?_|refine And.intro rfl ?_|refine aD ?_|refine bP ?_|refine wI ?_|(refine IdxK.at (k:=M.reads.toNat) (by omega) hgt rfl ?_)|refine YD rfl rfl ?_|refine GI (kc:=2500) QU rfl rfl rfl rfl rfl rfl rfl rfl hcg ?_);conv=>whnf)|(apply bD<;>intro _<;>first|omega|conv=>whnf)|(refine CallK.heap [(1000,1000),(1001,1001),(2001,2001),(2002,2002),(2003,2003),(2004,2004),(2500,2500)] 0 (by repeat' (first|exact ArgsH.nil|refine ArgsH.cons ?_ ?_|exact LSub.refl _|exact LSub.p Sub.nils|exact LSub.p (Sub.tt rfl)|exact LSub.p (Sub.ff rfl)|exact LSub.p (Sub.int (by omega)))) (by refine BlksH.cons (j:=1000) rfl rfl ?_ ?_;exact CSub.refl _;refine BlksH.cons (j:=1001) rfl rfl ?_ ?_;exact CSub.refl _;refine BlksH.cons (j:=2001) rfl rfl ?_ ?_;exact CSub.refl _;refine BlksH.cons (j:=2002) rfl rfl ?_ ?_;exact CSub.refl _;refine BlksH.cons (j:=2003) rfl rfl ?_ ?_;exact CSub.refl _;refine BlksH.cons (j:=2004) rfl rfl ?_ ?_;exact CSub.refl _;refine BlksH.cons (j:=2500) rfl rfl ?_ ?_;exact CSub.refl _;exact BlksH.nil) hWh rfl rfl ?_;rintro l' H' ⟨rfl,rfl⟩;conv=>whnf)|(refine CallK.heap [(1000,1000),(1001,1001),(2001,2001),(2002,2002),(2003,2003),(2004,2004),(2500,2500)] 0 (by repeat' (first|exact ArgsH.nil|refine ArgsH.cons ?_ ?_|exact LSub.refl _|exact LSub.p Sub.nils|exact LSub.p (Sub.tt rfl)|exact LSub.p (Sub.ff rfl)|exact LSub.p (Sub.int (by omega)))) (by refine BlksH.cons (j:=1000) rfl rfl ?_ ?_;exact CSub.refl _;refine BlksH.cons (j:=1001) rfl rfl ?_ ?_;exact CSub.refl _;refine BlksH.cons (j:=2001) rfl rfl ?_ ?_;exact CSub.refl _;refine BlksH.cons (j:=2002) rfl rfl ?_ ?_;exact CSub.refl _;refine BlksH.cons (j:=2003) rfl rfl ?_ ?_;exact CSub.refl _;refine BlksH.cons (j:=2004) rfl rfl ?_ ?_;exact CSub.refl _;refine BlksH.cons (j:=2500) rfl rfl ?_ ?_;exact CSub.refl _;exact BlksH.nil) hEv rfl rfl ?_;rintro l' H' ⟨rfl,rfl⟩;conv=>whnf))
   all_goals first
    | (exfalso;omega)
    | exact RetHK.mk _ (LSub.refl _) ⟨vs,rfl,rfl⟩
 rw [if_neg h2];have hW:=VQ p tape watch bs vs M st f hs hM it.s.x;unfold x0n at hW;cases hok:(QS M f it.s.x).2 with
 | false =>
   rw [hok,cond_false] at hW;simp only [cond_false];generalize QS M f it.s.x=ev at *
   obtain ⟨n,ok⟩:=ev;simp only at hok;subst hok;repeat' (first|((first|refine And.intro rfl ?_|refine Br.tt ?_);conv=>whnf)|(apply bD<;>intro _<;>first|omega|conv=>whnf)|(refine CallK.heap [(1000,1000),(1001,1001),(2001,2001),(2002,2002),(2003,2003),(2004,2004),(2500,2500)] 0 (by repeat' (first|exact ArgsH.nil|refine ArgsH.cons ?_ ?_|exact LSub.refl _|exact LSub.p Sub.nils|exact LSub.p (Sub.tt rfl)|exact LSub.p (Sub.ff rfl)|exact LSub.p (Sub.int (by omega)))) (by refine BlksH.cons (j:=1000) rfl rfl ?_ ?_;exact CSub.refl _;refine BlksH.cons (j:=1001) rfl rfl ?_ ?_;exact CSub.refl _;refine BlksH.cons (j:=2001) rfl rfl ?_ ?_;exact CSub.refl _;refine BlksH.cons (j:=2002) rfl rfl ?_ ?_;exact CSub.refl _;refine BlksH.cons (j:=2003) rfl rfl ?_ ?_;exact CSub.refl _;refine BlksH.cons (j:=2004) rfl rfl ?_ ?_;exact CSub.refl _;refine BlksH.cons (j:=2500) rfl rfl ?_ ?_;exact CSub.refl _;exact BlksH.nil) hW rfl rfl ?_;rintro l' H' ⟨vs',rfl,rfl⟩;conv=>whnf))
   all_goals first
    | (exfalso;omega)
    | exact RetHK.mk _ (LSub.refl _) ⟨vs',rfl,rfl⟩
 | true =>
   rw [hok,cond_true] at hW;simp only [cond_true];generalize QS M f it.s.x=ev at *
   obtain ⟨n,ok⟩:=ev;simp only at hok;subst hok;simp only;have hE1:=fun vs'=>XH p tape watch bs vs' M it.s.id [n] htl;have hes:=q6h (w:=watch) (M:=M) (id:=it.s.id) (v:=[n]);have hem:=q4j (w:=watch) (M:=M) (id:=it.s.id) (v:=[n]);have heo:=z7b (w:=watch) (M:=M) (id:=it.s.id) (v:=[n]);have hM1:=hM.same hes hem;generalize QG watch M it.s.id [n]=M1 at *
   have hol1:M1.out.length<=10000000:=by rw [heo];exact hol
   have hom:(M1.out.map (AV.int .i64)).length=M1.out.length:=length_map _;by_cases h1:it.s.kind=1
   ·rw [if_pos h1];have hi:=hD.nm (.inl h1);have hvi:(idxF (fun y=>it.s.name==y) f.names).toNat<f.vars.length:=by rw [hF.len];exact q0u hi
    have hvg:f.vars[(idxF (fun y=>it.s.name==y) f.names).toNat]? = some (varM f it.s.name):=by unfold varM;rw [List.getD_eq_getElem?_getD,List.getElem?_eq_getElem hvi];rfl
    have hWh:=fun vs'=>ZB p tape watch bs vs' M1 st f (hes.trans hs) hM1.sl it.s.name (idxF (fun y=>it.s.name==y) f.names).toNat (varM f it.s.name) (Int.toNat_of_nonneg hi).symm hvg;have hvr:varM f it.s.name<M1.mem.length:=by rw [hem];exact hF.rng _ (List.mem_of_getElem? hvg)
    have hcg:=YO hM1.bl hvr;have hsh:=fun vs'=>q5w (p:=p) (tape:=tape) (watch:=watch) (vs:=vs') (M:=M1) (v:=varM f it.s.name) (n:=n) (es:=M1.stack.map (fmA bs)) hM1.bl hvr;have hsh2 : ∀ vs',mH p tape watch bs vs' (setM M1 (varM f it.s.name) n)=_:=fun vs'=>(show mH p tape watch bs vs' (setM M1 (varM f it.s.name) n)=mHs p tape watch bs vs' (setM M1 (varM f it.s.name) n) (M1.stack.map (fmA bs)) from rfl).trans (hsh vs');clear hsh;generalize varM f it.s.name=vv at *
    repeat' (first|((first|refine And.intro rfl ?_|refine aD ?_|refine bP ?_|refine YD rfl rfl ?_|refine GI (kc:=2500) QU rfl rfl rfl rfl rfl rfl rfl rfl hcg ?_|refine Br.ff ?_);conv=>whnf)|(apply bD<;>intro _<;>first|omega|conv=>whnf)|(refine CallK.heap [(1000,1000),(1001,1001),(2001,2001),(2002,2002),(2003,2003),(2004,2004),(2500,2500)] 0 (by repeat' (first|exact ArgsH.nil|refine ArgsH.cons ?_ ?_|exact LSub.refl _|exact LSub.p Sub.nils|exact LSub.p (Sub.tt rfl)|exact LSub.p (Sub.ff rfl)|exact LSub.p (Sub.int (by omega)))) (by refine BlksH.cons (j:=1000) rfl rfl ?_ ?_;exact CSub.refl _;refine BlksH.cons (j:=1001) rfl rfl ?_ ?_;exact CSub.refl _;refine BlksH.cons (j:=2001) rfl rfl ?_ ?_;exact CSub.refl _;refine BlksH.cons (j:=2002) rfl rfl ?_ ?_;exact CSub.refl _;refine BlksH.cons (j:=2003) rfl rfl ?_ ?_;exact CSub.refl _;refine BlksH.cons (j:=2004) rfl rfl ?_ ?_;exact CSub.refl _;refine BlksH.cons (j:=2500) rfl rfl ?_ ?_;exact CSub.refl _;exact BlksH.nil) hW rfl rfl ?_;rintro l' H' ⟨vs',rfl,rfl⟩;conv=>whnf)|(refine CallK.heap [(1000,1000),(1001,1001),(2001,2001),(2002,2002),(2003,2003),(2004,2004),(2500,2500)] 0 (by repeat' (first|exact ArgsH.nil|refine ArgsH.cons ?_ ?_|exact LSub.refl _|exact LSub.p Sub.nils|exact LSub.p (Sub.tt rfl)|exact LSub.p (Sub.ff rfl)|exact LSub.p (Sub.int (by omega)))) (by refine BlksH.cons (j:=1000) rfl rfl ?_ ?_;exact CSub.refl _;refine BlksH.cons (j:=1001) rfl rfl ?_ ?_;exact CSub.refl _;refine BlksH.cons (j:=2001) rfl rfl ?_ ?_;exact CSub.refl _;refine BlksH.cons (j:=2002) rfl rfl ?_ ?_;exact CSub.refl _;refine BlksH.cons (j:=2003) rfl rfl ?_ ?_;exact CSub.refl _;refine BlksH.cons (j:=2004) rfl rfl ?_ ?_;exact CSub.refl _;refine BlksH.cons (j:=2500) rfl rfl ?_ ?_;exact CSub.refl _;exact BlksH.nil) (hE1 vs') rfl rfl ?_;rintro l' H' ⟨rfl,rfl⟩;conv=>whnf)|(refine CallK.heap [(1000,1000),(1001,1001),(2001,2001),(2002,2002),(2003,2003),(2004,2004),(2500,2500)] 0 (by repeat' (first|exact ArgsH.nil|refine ArgsH.cons ?_ ?_|exact LSub.refl _|exact LSub.p Sub.nils|exact LSub.p (Sub.tt rfl)|exact LSub.p (Sub.ff rfl)|exact LSub.p (Sub.int (by omega)))) (by refine BlksH.cons (j:=1000) rfl rfl ?_ ?_;exact CSub.refl _;refine BlksH.cons (j:=1001) rfl rfl ?_ ?_;exact CSub.refl _;refine BlksH.cons (j:=2001) rfl rfl ?_ ?_;exact CSub.refl _;refine BlksH.cons (j:=2002) rfl rfl ?_ ?_;exact CSub.refl _;refine BlksH.cons (j:=2003) rfl rfl ?_ ?_;exact CSub.refl _;refine BlksH.cons (j:=2004) rfl rfl ?_ ?_;exact CSub.refl _;refine BlksH.cons (j:=2500) rfl rfl ?_ ?_;exact CSub.refl _;exact BlksH.nil) (hWh vs') rfl rfl ?_;rintro l' H' ⟨rfl,rfl⟩;conv=>whnf))
    all_goals first
     | (exfalso;omega)
     | exact RetHK.mk _ (LSub.refl _) ⟨vs',rfl,(hsh2 vs').symm⟩
   rw [if_neg h1];by_cases h3:it.s.kind=3
   ·rw [if_pos h3];repeat' (first|((first|refine And.intro rfl ?_|refine aD ?_|refine bP ?_|refine YQ (by rw [length_map]) (by rw [length_map];omega) ?_|refine Br.ff ?_);conv=>whnf)|(apply bD<;>intro _<;>first|omega|conv=>whnf)|(refine CallK.heap [(1000,1000),(1001,1001),(2001,2001),(2002,2002),(2003,2003),(2004,2004),(2500,2500)] 0 (by repeat' (first|exact ArgsH.nil|refine ArgsH.cons ?_ ?_|exact LSub.refl _|exact LSub.p Sub.nils|exact LSub.p (Sub.tt rfl)|exact LSub.p (Sub.ff rfl)|exact LSub.p (Sub.int (by omega)))) (by refine BlksH.cons (j:=1000) rfl rfl ?_ ?_;exact CSub.refl _;refine BlksH.cons (j:=1001) rfl rfl ?_ ?_;exact CSub.refl _;refine BlksH.cons (j:=2001) rfl rfl ?_ ?_;exact CSub.refl _;refine BlksH.cons (j:=2002) rfl rfl ?_ ?_;exact CSub.refl _;refine BlksH.cons (j:=2003) rfl rfl ?_ ?_;exact CSub.refl _;refine BlksH.cons (j:=2004) rfl rfl ?_ ?_;exact CSub.refl _;refine BlksH.cons (j:=2500) rfl rfl ?_ ?_;exact CSub.refl _;exact BlksH.nil) hW rfl rfl ?_;rintro l' H' ⟨vs',rfl,rfl⟩;conv=>whnf)|(refine CallK.heap [(1000,1000),(1001,1001),(2001,2001),(2002,2002),(2003,2003),(2004,2004),(2500,2500)] 0 (by repeat' (first|exact ArgsH.nil|refine ArgsH.cons ?_ ?_|exact LSub.refl _|exact LSub.p Sub.nils|exact LSub.p (Sub.tt rfl)|exact LSub.p (Sub.ff rfl)|exact LSub.p (Sub.int (by omega)))) (by refine BlksH.cons (j:=1000) rfl rfl ?_ ?_;exact CSub.refl _;refine BlksH.cons (j:=1001) rfl rfl ?_ ?_;exact CSub.refl _;refine BlksH.cons (j:=2001) rfl rfl ?_ ?_;exact CSub.refl _;refine BlksH.cons (j:=2002) rfl rfl ?_ ?_;exact CSub.refl _;refine BlksH.cons (j:=2003) rfl rfl ?_ ?_;exact CSub.refl _;refine BlksH.cons (j:=2004) rfl rfl ?_ ?_;exact CSub.refl _;refine BlksH.cons (j:=2500) rfl rfl ?_ ?_;exact CSub.refl _;exact BlksH.nil) (hE1 vs') rfl rfl ?_;rintro l' H' ⟨rfl,rfl⟩;conv=>whnf))
    all_goals first
     | (exfalso;omega)
     | exact RetHK.mk _ (LSub.refl _) ⟨vs',rfl,by unfold mH mO;simp only [length_append,List.map_append];rfl⟩
   rw [if_neg h3];have hF1:=q0f it.s.thn it.next;have hF2:=q0f it.s.els it.next;have hF3:=q0f it.s.thn it.s.id;by_cases h5:it.s.kind=5
   ·rw [if_pos h5];generalize HN it.s.thn it.next=q1 at *
    generalize HN it.s.els it.next=q2 at *
    repeat' (first|((first|refine And.intro rfl ?_|refine aD ?_|refine bP ?_|refine cP hF1 ?_|refine cP hF2 ?_|refine Br.ff ?_);conv=>whnf)|(apply bD<;>intro _<;>first|omega|conv=>whnf)|(apply bE<;>intro _<;>first|omega|conv=>whnf)|(refine CallK.heap [(1000,1000),(1001,1001),(2001,2001),(2002,2002),(2003,2003),(2004,2004),(2500,2500)] 0 (by repeat' (first|exact ArgsH.nil|refine ArgsH.cons ?_ ?_|exact LSub.refl _|exact LSub.p Sub.nils|exact LSub.p (Sub.tt rfl)|exact LSub.p (Sub.ff rfl)|exact LSub.p (Sub.int (by omega)))) (by refine BlksH.cons (j:=1000) rfl rfl ?_ ?_;exact CSub.refl _;refine BlksH.cons (j:=1001) rfl rfl ?_ ?_;exact CSub.refl _;refine BlksH.cons (j:=2001) rfl rfl ?_ ?_;exact CSub.refl _;refine BlksH.cons (j:=2002) rfl rfl ?_ ?_;exact CSub.refl _;refine BlksH.cons (j:=2003) rfl rfl ?_ ?_;exact CSub.refl _;refine BlksH.cons (j:=2004) rfl rfl ?_ ?_;exact CSub.refl _;refine BlksH.cons (j:=2500) rfl rfl ?_ ?_;exact CSub.refl _;exact BlksH.nil) hW rfl rfl ?_;rintro l' H' ⟨vs',rfl,rfl⟩;conv=>whnf)|(refine CallK.heap [(1000,1000),(1001,1001),(2001,2001),(2002,2002),(2003,2003),(2004,2004),(2500,2500)] 0 (by repeat' (first|exact ArgsH.nil|refine ArgsH.cons ?_ ?_|exact LSub.refl _|exact LSub.p Sub.nils|exact LSub.p (Sub.tt rfl)|exact LSub.p (Sub.ff rfl)|exact LSub.p (Sub.int (by omega)))) (by refine BlksH.cons (j:=1000) rfl rfl ?_ ?_;exact CSub.refl _;refine BlksH.cons (j:=1001) rfl rfl ?_ ?_;exact CSub.refl _;refine BlksH.cons (j:=2001) rfl rfl ?_ ?_;exact CSub.refl _;refine BlksH.cons (j:=2002) rfl rfl ?_ ?_;exact CSub.refl _;refine BlksH.cons (j:=2003) rfl rfl ?_ ?_;exact CSub.refl _;refine BlksH.cons (j:=2004) rfl rfl ?_ ?_;exact CSub.refl _;refine BlksH.cons (j:=2500) rfl rfl ?_ ?_;exact CSub.refl _;exact BlksH.nil) (hE1 vs') rfl rfl ?_;rintro l' H' ⟨rfl,rfl⟩;conv=>whnf))
    all_goals first
     | (exfalso;omega)
     | (have h9 : ¬n=0:=(by assumption)
        exact RetHK.mk _ (LSub.p (Sub.int (if_pos h9).symm)) ⟨vs',rfl,rfl⟩)
     | (have h9:n=0:=(by assumption)
        exact RetHK.mk _ (LSub.p (Sub.int (if_neg (fun hh=>hh h9)).symm)) ⟨vs',rfl,rfl⟩)
     | (exfalso;simp_all;done)
   by_cases h6:it.s.kind=6
   ·rw [if_neg h5,if_pos h6];generalize HN it.s.thn it.s.id=q3 at *
    repeat' (first|((first|refine And.intro rfl ?_|refine aD ?_|refine bP ?_|refine cP hF3 ?_|refine Br.ff ?_);conv=>whnf)|(apply bD<;>intro _<;>first|omega|conv=>whnf)|(apply bE<;>intro _<;>first|omega|conv=>whnf)|(refine CallK.heap [(1000,1000),(1001,1001),(2001,2001),(2002,2002),(2003,2003),(2004,2004),(2500,2500)] 0 (by repeat' (first|exact ArgsH.nil|refine ArgsH.cons ?_ ?_|exact LSub.refl _|exact LSub.p Sub.nils|exact LSub.p (Sub.tt rfl)|exact LSub.p (Sub.ff rfl)|exact LSub.p (Sub.int (by omega)))) (by refine BlksH.cons (j:=1000) rfl rfl ?_ ?_;exact CSub.refl _;refine BlksH.cons (j:=1001) rfl rfl ?_ ?_;exact CSub.refl _;refine BlksH.cons (j:=2001) rfl rfl ?_ ?_;exact CSub.refl _;refine BlksH.cons (j:=2002) rfl rfl ?_ ?_;exact CSub.refl _;refine BlksH.cons (j:=2003) rfl rfl ?_ ?_;exact CSub.refl _;refine BlksH.cons (j:=2004) rfl rfl ?_ ?_;exact CSub.refl _;refine BlksH.cons (j:=2500) rfl rfl ?_ ?_;exact CSub.refl _;exact BlksH.nil) hW rfl rfl ?_;rintro l' H' ⟨vs',rfl,rfl⟩;conv=>whnf)|(refine CallK.heap [(1000,1000),(1001,1001),(2001,2001),(2002,2002),(2003,2003),(2004,2004),(2500,2500)] 0 (by repeat' (first|exact ArgsH.nil|refine ArgsH.cons ?_ ?_|exact LSub.refl _|exact LSub.p Sub.nils|exact LSub.p (Sub.tt rfl)|exact LSub.p (Sub.ff rfl)|exact LSub.p (Sub.int (by omega)))) (by refine BlksH.cons (j:=1000) rfl rfl ?_ ?_;exact CSub.refl _;refine BlksH.cons (j:=1001) rfl rfl ?_ ?_;exact CSub.refl _;refine BlksH.cons (j:=2001) rfl rfl ?_ ?_;exact CSub.refl _;refine BlksH.cons (j:=2002) rfl rfl ?_ ?_;exact CSub.refl _;refine BlksH.cons (j:=2003) rfl rfl ?_ ?_;exact CSub.refl _;refine BlksH.cons (j:=2004) rfl rfl ?_ ?_;exact CSub.refl _;refine BlksH.cons (j:=2500) rfl rfl ?_ ?_;exact CSub.refl _;exact BlksH.nil) (hE1 vs') rfl rfl ?_;rintro l' H' ⟨rfl,rfl⟩;conv=>whnf))
    all_goals first
     | (exfalso;omega)
     | (have h9 : ¬n=0:=(by assumption)
        exact RetHK.mk _ (LSub.p (Sub.int (if_pos h9).symm)) ⟨vs',rfl,rfl⟩)
     | (have h9:n=0:=(by assumption)
        exact RetHK.mk _ (LSub.p (Sub.int (if_neg (fun hh=>hh h9)).symm)) ⟨vs',rfl,rfl⟩)
     | (exfalso;simp_all;done)
   rw [if_neg h5,if_neg h6];repeat' (first|((first|refine And.intro rfl ?_|refine aD ?_|refine bP ?_|refine Br.ff ?_);conv=>whnf)|(apply bD<;>intro _<;>first|omega|conv=>whnf)|(refine CallK.heap [(1000,1000),(1001,1001),(2001,2001),(2002,2002),(2003,2003),(2004,2004),(2500,2500)] 0 (by repeat' (first|exact ArgsH.nil|refine ArgsH.cons ?_ ?_|exact LSub.refl _|exact LSub.p Sub.nils|exact LSub.p (Sub.tt rfl)|exact LSub.p (Sub.ff rfl)|exact LSub.p (Sub.int (by omega)))) (by refine BlksH.cons (j:=1000) rfl rfl ?_ ?_;exact CSub.refl _;refine BlksH.cons (j:=1001) rfl rfl ?_ ?_;exact CSub.refl _;refine BlksH.cons (j:=2001) rfl rfl ?_ ?_;exact CSub.refl _;refine BlksH.cons (j:=2002) rfl rfl ?_ ?_;exact CSub.refl _;refine BlksH.cons (j:=2003) rfl rfl ?_ ?_;exact CSub.refl _;refine BlksH.cons (j:=2004) rfl rfl ?_ ?_;exact CSub.refl _;refine BlksH.cons (j:=2500) rfl rfl ?_ ?_;exact CSub.refl _;exact BlksH.nil) hW rfl rfl ?_;rintro l' H' ⟨vs',rfl,rfl⟩;conv=>whnf)|(refine CallK.heap [(1000,1000),(1001,1001),(2001,2001),(2002,2002),(2003,2003),(2004,2004),(2500,2500)] 0 (by repeat' (first|exact ArgsH.nil|refine ArgsH.cons ?_ ?_|exact LSub.refl _|exact LSub.p Sub.nils|exact LSub.p (Sub.tt rfl)|exact LSub.p (Sub.ff rfl)|exact LSub.p (Sub.int (by omega)))) (by refine BlksH.cons (j:=1000) rfl rfl ?_ ?_;exact CSub.refl _;refine BlksH.cons (j:=1001) rfl rfl ?_ ?_;exact CSub.refl _;refine BlksH.cons (j:=2001) rfl rfl ?_ ?_;exact CSub.refl _;refine BlksH.cons (j:=2002) rfl rfl ?_ ?_;exact CSub.refl _;refine BlksH.cons (j:=2003) rfl rfl ?_ ?_;exact CSub.refl _;refine BlksH.cons (j:=2004) rfl rfl ?_ ?_;exact CSub.refl _;refine BlksH.cons (j:=2500) rfl rfl ?_ ?_;exact CSub.refl _;exact BlksH.nil) (hE1 vs') rfl rfl ?_;rintro l' H' ⟨rfl,rfl⟩;conv=>whnf))
   all_goals first
    | (exfalso;omega)
    | exact RetHK.mk _ (LSub.refl _) ⟨vs',rfl,rfl⟩
def x0e (x:X):Bool:=decide (MA x.op=(x.kids.length:Int))&&(decide (x.op=1)||decide (x.n=0))&&decide (0<=x.n)&&(decide (x.op=2) == !(x.name==[]))&&((x.name==[])||isName x.name)
def z4a:Nat->X->Bool
 | 0,_=>true
 | k+1,x=>x0e x&&x.kids.all (z4a k)
def w1x:List Nat->Nat
 | []=>0
 | a::r=>max a (w1x r)
def z2l:Nat->X->Nat
 | 0,_=>1
 | m+1,x=>1+w1x (x.kids.map (z2l m))
theorem z9t {l:List Nat} {m:Nat} (h : ∀ a∈l,a<=m):w1x l<=m:=by
 induction l with
 | nil=>exact zero_le _
 | cons a r ih =>
   have:=ih fun b hb=>h b (List.mem_cons_of_mem _ hb);have:=h a mem_cons_self;rw [w1x];omega
def mayXR (x:X):Bool:=decide (z2l 20 x<=20)&&z4a (wX x+1) x
theorem NJ : ∀ (n:Nat) (x:X),ZF n x=true->z2l n x<=n ∧ ∀ k,z4a k x=true
 | 0,x,h=>by rw [ZF] at h;cases h
 | n+1,x,h=>by
   rw [ZF] at h;simp only [Bool.and_eq_true,decide_eq_true_eq] at h;obtain ⟨h1,h2⟩:=h;have hkids:(∀ y∈x.kids,ZF n y=true)∧x0e x=true:=by
    split at h2
    ·rename_i ho;simp only [Bool.and_eq_true,decide_eq_true_eq] at h2;have hk0:x.kids=[]:=by
      rw [ho] at h1;have:MA 1=0:=by decide
      rw [this] at h1;exact List.length_eq_zero_iff.1 (by omega)
     refine ⟨by rw [hk0];simp,?_⟩;unfold x0e;rw [h1,ho,h2.2];simp [h2.1]
    split at h2
    ·rename_i ho;simp only [Bool.and_eq_true,decide_eq_true_eq] at h2;have hk0:x.kids=[]:=by
      rw [ho] at h1;have:MA 2=0:=by decide
      rw [this] at h1;exact List.length_eq_zero_iff.1 (by omega)
     have hne:(x.name==[])=false:=by
      cases hq:x.name with
      | nil =>
        have:=h2.2;rw [hq] at this;unfold isName at this;rw [dif_neg (by simp)] at this;cases this
      | cons a r=>rfl
     refine ⟨by rw [hk0];simp,?_⟩;unfold x0e;rw [h1,ho,h2.2,hne,h2.1];simp
    ·rename_i ho1 ho2;simp only [Bool.and_eq_true,decide_eq_true_eq,List.all_eq_true] at h2;refine ⟨h2.2,?_⟩;unfold x0e;rw [h1,h2.1.1,h2.1.2];simp [ho1,ho2]
   refine ⟨?_,fun k => ?_⟩
   ·rw [z2l];have:w1x (x.kids.map (z2l n))<=n:=z9t fun a ha=>by
     obtain ⟨y,hy,rfl⟩:=List.mem_map.1 ha;exact (NJ n y (hkids.1 y hy)).1
    omega
   ·cases k with
    | zero=>rfl
    | succ k =>
      rw [z4a,hkids.2,Bool.true_and,List.all_eq_true];exact fun y hy=>(NJ n y (hkids.1 y hy)).2 k
theorem z7y {x:X} (h:x8n x=true):mayXR x=true:=by
 obtain ⟨h1,h2⟩:=NJ 20 x h;unfold mayXR;rw [decide_eq_true h1,h2];rfl
def argR (a:Arg):Bool:=bif a.ref then isName a.name&&noneB a.x else (a.name==[])&&mayXR a.x
theorem z9o {a:Arg} (h:q0p a=true):argR a=true:=by
 unfold q0p KF JZ at h;unfold argR;cases hr:a.ref with
 | true =>
   rw [hr] at h;simpa using h
 | false =>
   rw [hr] at h;simp only [cond_false,Bool.not_false,cond_true,Bool.and_eq_true] at h;rw [h.1,z7y h.2];rfl
def oneOk (s:S):Bool:=ZX s&&namesB s.labels
def hasXB (s:S):Bool:=decide (s.kind=1)||decide (s.kind=3)||decide (s.kind=5)||decide (s.kind=6)||(decide (s.kind=9)&&s.has)
structure OneF (s:S):Prop where
 labels:namesB s.labels=true
 lo:1<=s.kind
 hi:s.kind<=10
 x:hasXB s=true->mayXR s.x=true
 nox:hasXB s=false->noneB s.x=true
 has:s.has=true->s.kind=9
 name:s.kind=1∨s.kind=2∨s.kind=10->isName s.name=true
 noname : ¬(s.kind=1∨s.kind=2∨s.kind=10)->(s.name==[])=true∨(s.kind=4∧isName s.name=true)
 proc:s.kind=4->isName s.proc=true
 noproc:s.kind≠4->(s.proc==[])=true
 args:s.args.all argR=true
 noargs:s.kind≠4->s.args.length=0
 thn:s.thn.length=0∨s.kind=5∨s.kind=6
 els:s.els.length=0∨s.kind=5
theorem x8v {s:Str} (h:isName s=true):(s==[])=false:=by
 cases s with
 | nil=>unfold isName at h;rw [dif_neg (by simp)] at h;cases h
 | cons a r=>rfl
theorem x0b {s:S} (h:oneOk s=true):OneF s:=by
 unfold oneOk at h;rw [Bool.and_eq_true] at h;obtain ⟨h,hlab⟩:=h;have hargs:s.args.all q0p=true->s.args.all argR=true:=fun h=>by
  rw [List.all_eq_true] at h ⊢;exact fun a ha=>z9o (h a ha)
 have key : ∀ (k:Int) (f:Flds),s.kind=k->DN s.kind s.has (s.name==[])=some f->f.has=false∧(f.thn=false->s.thn.length=0)∧(f.els=false->s.els.length=0)∧(s.kind≠4->s.args.length=0)∧KF s.name f.name=true∧KF s.proc f.proc=true∧JZ s.x f.x=true∧s.args.all argR=true:=fun k f hk hf=>by
  rw [NX hf] at h;simp only [Bool.and_eq_true,Bool.not_eq_true',Bool.or_eq_false_iff,Bool.and_eq_false_iff,Bool.not_eq_false',decide_eq_false_iff_not,decide_eq_true_eq] at h;obtain ⟨⟨⟨⟨⟨⟨⟨h1,h2⟩,h3⟩,h4⟩,h5⟩,h6⟩,h7⟩,h8⟩:=h;refine ⟨h1,fun hq => ?_,fun hq => ?_,fun hq => ?_,h5,h6,h7,hargs h8⟩
  ·rcases h2 with h2|h2
   ·rw [hq] at h2;cases h2
   ·omega
  ·rcases h3 with h3|h3
   ·rw [hq] at h3;cases h3
   ·omega
  ·rcases h4 with h4|h4
   ·exact absurd h4 hq
   ·omega
 have hkind:s.kind=1∨s.kind=2∨s.kind=3∨s.kind=4∨s.kind=5∨s.kind=6∨s.kind=7∨s.kind=8∨s.kind=9∨s.kind=10:=by
  unfold ZX at h;split at h
  ·cases h
  ·rename_i f hf;unfold DN at hf
   (repeat' split at hf)<;>first|(cases hf;done)|omega
 have fin : ∀ (k:Int) (f:Flds),s.kind=k->DN s.kind s.has (s.name==[])=some f->(1<=k∧k<=10)->f.x=hasXB s->(s.has=true->f.has=true∨k=9)->((k=1∨k=2∨k=10)->f.name=true)->(¬(k=1∨k=2∨k=10)->f.name=false∨(k=4∧f.name = !(s.name==[])))->f.proc=decide (k=4)->(f.thn=true->k=5∨k=6)->(f.els=true->k=5)->OneF s:=fun k f hk hf hkk hfx hfh hfn hfnn hfp hft hfe=>by
  obtain ⟨h1,h2,h3,h4,h5,h6,h7,h8⟩:=key k f hk hf;unfold JZ at h7;refine ⟨hlab,by omega,by omega,fun hq => ?_,fun hq => ?_,fun hq => ?_,fun hq => ?_,fun hq => ?_,fun hq => ?_,fun hq => ?_,h8,h4,?_,?_⟩
  ·rw [hfx,hq] at h7;exact z7y h7
  ·rw [hfx,hq] at h7;exact h7
  ·rcases hfh hq with h9|h9
   ·rw [h1] at h9;cases h9
   ·omega
  ·rw [hfn (by omega)] at h5;exact h5
  ·rcases hfnn (by omega) with h9|⟨h9,h10⟩
   ·rw [h9] at h5;exact .inl h5
   ·cases hq2:s.name==[] with
    | true=>exact .inl rfl
    | false =>
      rw [h10,hq2] at h5;exact .inr ⟨by omega,h5⟩
  ·rw [hfp,decide_eq_true (by omega)] at h6;exact h6
  ·rw [hfp,decide_eq_false (by omega)] at h6;exact h6
  ·cases ht:f.thn with
   | true=>exact .inr (by have:=hft ht;omega)
   | false=>exact .inl (h2 ht)
  ·cases he:f.els with
   | true=>exact .inr (by have:=hfe he;omega)
   | false=>exact .inl (h3 he)
 rcases hkind with hk|hk|hk|hk|hk|hk|hk|hk|hk|hk
 ·exact fin 1 ⟨true,false,true,s.has,false,false⟩ hk (by rw [hk];rfl) (by omega) (by unfold hasXB;rw [hk];rfl) (fun h => .inl h) (fun _=>rfl) (fun h=>absurd (by omega) h) rfl (fun h=>by cases h) (fun h=>by cases h)
 ·exact fin 2 ⟨true,false,false,s.has,false,false⟩ hk (by rw [hk];rfl) (by omega) (by unfold hasXB;rw [hk];rfl) (fun h => .inl h) (fun _=>rfl) (fun h=>absurd (by omega) h) rfl (fun h=>by cases h) (fun h=>by cases h)
 ·exact fin 3 ⟨false,false,true,s.has,false,false⟩ hk (by rw [hk];rfl) (by omega) (by unfold hasXB;rw [hk];rfl) (fun h => .inl h) (fun h=>by omega) (fun _ => .inl rfl) rfl (fun h=>by cases h) (fun h=>by cases h)
 ·exact fin 4 ⟨!(s.name==[]),true,false,s.has,false,false⟩ hk (by rw [hk];rfl) (by omega) (by unfold hasXB;rw [hk];rfl) (fun h => .inl h) (fun h=>by omega) (fun _ => .inr ⟨rfl,rfl⟩) rfl (fun h=>by cases h) (fun h=>by cases h)
 ·exact fin 5 ⟨false,false,true,s.has,true,true⟩ hk (by rw [hk];rfl) (by omega) (by unfold hasXB;rw [hk];rfl) (fun h => .inl h) (fun h=>by omega) (fun _ => .inl rfl) rfl (fun _ => .inl rfl) (fun _=>rfl)
 ·exact fin 6 ⟨false,false,true,s.has,true,false⟩ hk (by rw [hk];rfl) (by omega) (by unfold hasXB;rw [hk];rfl) (fun h => .inl h) (fun h=>by omega) (fun _ => .inl rfl) rfl (fun _ => .inr rfl) (fun h=>by cases h)
 ·exact fin 7 ⟨false,false,false,s.has,false,false⟩ hk (by rw [hk];rfl) (by omega) (by unfold hasXB;rw [hk];rfl) (fun h => .inl h) (fun h=>by omega) (fun _ => .inl rfl) rfl (fun h=>by cases h) (fun h=>by cases h)
 ·exact fin 8 ⟨false,false,false,s.has,false,false⟩ hk (by rw [hk];rfl) (by omega) (by unfold hasXB;rw [hk];rfl) (fun h => .inl h) (fun h=>by omega) (fun _ => .inl rfl) rfl (fun h=>by cases h) (fun h=>by cases h)
 ·exact fin 9 ⟨false,false,s.has,false,false,false⟩ hk (by rw [hk];rfl) (by omega) (by unfold hasXB;rw [hk];cases s.has<;>rfl) (fun _ => .inr rfl) (fun h=>by omega) (fun _ => .inl rfl) rfl (fun h=>by cases h) (fun h=>by cases h)
 ·exact fin 10 ⟨true,false,false,s.has,false,false⟩ hk (by rw [hk];rfl) (by omega) (by unfold hasXB;rw [hk];rfl) (fun h => .inl h) (fun _=>rfl) (fun h=>absurd (by omega) h) rfl (fun h=>by cases h) (fun h=>by cases h)
def q6i (n c:Nat):List Int:=(List.range' (n+1) c).map fun (k:Nat)=>(k:Int)
theorem LJ (n a b:Nat):q6i n (a+b)=q6i n a++q6i (n+a) b:=by
 unfold q6i;rw [<- List.map_append,show n+a+1=n+1+1*a by omega,List.range'_append]
theorem z5m (n:Nat):q6i n 1=[((n+1:Nat):Int)]:=by simp [q6i]
mutual
theorem z5g (nest:Int) : ∀ (t:S) {n:Nat} {m:Int},q5g nest n t=some m->(flS t).map S.id=q6i n (ZM t)
 | .mk id kind labels name proc x has args thn els,n,m,h=>by
   simp only [q5g] at h;split at h
   ·cases h
   split at h
   ·cases h
   rename_i hid;cases hn:namesB labels<;>rw [hn] at h
   ·cases h
   cases hf:ZX (.mk id kind labels name proc x has args thn els)<;>rw [hf] at h
   ·cases h
   simp only [cond_true] at h;split at h
   ·rename_i m1 h1;have h1':VH (nest+1) ((n+1:Nat):Int) thn=some m1:=by rw [<- h1];rfl
    have h2:=YH _ _ thn h1';have h3:=DS (nest+1) thn h1';have h':VH (nest+1) ((n+1+cntL thn:Nat):Int) els=some m:=by rw [<- h,h2];rfl
    have h4:=DS (nest+1) els h';rw [flS,ZM,map_cons,List.map_append,h3,h4,show 1+cntL thn+cntL els=1+(cntL thn+cntL els) by omega,LJ,z5m,LJ];have:id=((n+1:Nat):Int):=by omega
    rw [show (S.mk id kind labels name proc x has args thn els).id=id from rfl,this];rfl
   ·cases h
theorem DS (nest:Int) : ∀ (l:List S) {n:Nat} {m:Int},VH nest n l=some m->(flL l).map S.id=q6i n (cntL l)
 | [],n,m,h=>by rw [flL,cntL];rfl
 | t::r,n,m,h=>by
   simp only [VH] at h;split at h
   ·cases h
   split at h
   ·rename_i m1 h1;have h2:=x5x _ _ t h1;have h3:=z5g nest t h1;have h':VH nest ((n+ZM t:Nat):Int) r=some m:=by rw [<- h,h2];rfl
    have h4:=DS nest r h';rw [flL,cntL,List.map_append,h3,h4,LJ]
   ·cases h
end
theorem q3e : ∀ (l:List Pr) {n:Nat} {m:Int},XJ n l=some m -> ∀ (j:Nat) (f:Pr),l[j]? = some f->(flL f.body).map S.id=q6i (n+QR l j) (cntL f.body)
 | [],_,_,_,j,f,hj=>by simp at hj
 | g::r,n,m,h,j,f,hj=>by
   rw [XJ] at h;cases hm:JT g<;>rw [hm] at h
   ·cases h
   simp only [cond_true] at h;split at h
   ·rename_i m1 h1;cases j with
    | zero =>
      simp at hj;subst hj;exact DS 1 g.body h1
    | succ j =>
      have h2:=YH _ _ g.body h1;have h':XJ ((n+cntL g.body:Nat):Int) r=some m:=by rw [<- h,h2];rfl
      have:=q3e r h' j f (by simpa using hj);rw [QR,this,Nat.add_assoc]
   ·cases h
theorem x9t {p:Pg} (h:JA p=true) {j:Nat} {f:Pr} (hj:p.procs[j]? = some f):(flL f.body).map S.id=q6i (QR p.procs j) (cntL f.body):=by
 unfold JA at h;simp only [Bool.and_eq_true] at h;cases hm:XJ 0 p.procs with
 | none=>rw [hm] at h;cases h.2
 | some m =>
   have:=q3e p.procs (n:=0) hm j f hj;simpa using this
theorem z3r {n c:Nat} {a:Int} (h:a∈q6i n c):(n:Int)+1<=a∧a<=n+c:=by
 unfold q6i at h;obtain ⟨k,hk,rfl⟩:=List.mem_map.1 h;rw [List.mem_range'] at hk;obtain ⟨i,hi,rfl⟩:=hk;omega
def okI (lo hi:Nat) (x:Int):Prop:=x = -1∨((lo:Int)+1<=x∧x<=hi)
mutual
theorem w0g (proc:Int) (lo hi:Nat) : ∀ (t:S) (up nx loop:Int) (n:Nat) (it:Item),it∈itS proc up nx loop n t->okI lo hi nx->(loop=0∨((lo:Int)+1<=loop∧loop<=hi))->lo<=n->n+ZM t<=hi ->
  okI lo hi it.next∧(it.loop=0∨((lo:Int)+1<=it.loop∧it.loop<=hi))
 | .mk id kind labels name pr x has args thn els,up,nx,loop,n,it,h,h1,h2,h3,h4=>by
   rw [itS] at h;rw [ZM] at h4;rcases List.mem_cons.1 h with rfl|h
   ·exact ⟨h1,h2⟩
   ·have h5:okI lo hi (if kind=6 then ((n:Int)+1) else nx):=by
     split
     ·exact .inr ⟨by omega,by omega⟩
     ·exact h1
    have h6:(if kind=6 then ((n:Int)+1) else loop)=0∨((lo:Int)+1<=(if kind=6 then ((n:Int)+1) else loop)∧(if kind=6 then ((n:Int)+1) else loop)<=hi):=by
     split
     ·exact .inr ⟨by omega,by omega⟩
     ·exact h2
    rcases List.mem_append.1 h with h|h
    ·exact q5p proc lo hi thn _ _ _ _ it h h5 h6 (by omega) (by omega)
    ·exact q5p proc lo hi els _ _ _ _ it h h5 h6 (by omega) (by omega)
theorem q5p (proc:Int) (lo hi:Nat) : ∀ (l:List S) (up nx loop:Int) (n:Nat) (it:Item),it∈itL proc up nx loop n l->okI lo hi nx->(loop=0∨((lo:Int)+1<=loop∧loop<=hi))->lo<=n->n+cntL l<=hi ->
  okI lo hi it.next∧(it.loop=0∨((lo:Int)+1<=it.loop∧it.loop<=hi))
 | [],up,nx,loop,n,it,h,h1,h2,h3,h4=>by rw [itL] at h;cases h
 | t::r,up,nx,loop,n,it,h,h1,h2,h3,h4=>by
   rw [itL] at h;rw [cntL] at h4;rcases List.mem_append.1 h with h|h
   ·refine w0g proc lo hi t _ _ _ _ it h ?_ h2 h3 (by omega);cases r with
    | nil=>exact h1
    | cons u r =>
      have:1<=cntL (u::r):=by rw [cntL,ZO];omega
      exact .inr ⟨by simp;omega,by simp;omega⟩
   ·exact q5p proc lo hi r _ _ _ _ it h h1 h2 (by omega) (by omega)
end
theorem LD : ∀ (l:List S) (v:S),v∈l->v∈flL l
 | [],v,h=>by cases h
 | t::r,v,h=>by
   rw [flL];rcases List.mem_cons.1 h with rfl|h
   ·refine List.mem_append.2 (.inl ?_);rw [z7o];exact mem_cons_self
   ·exact List.mem_append.2 (.inr (LD r v h))
structure RI where
 s:S
 deep:Int
 inn:Int
 els:Bool
def RI.cells (i:RI):List AV:=i.s.cells++[.int .i64 i.deep,.int .i64 i.inn,.bool i.els]
def w0r (l:List RI):AV := .sl (l.map fun i => .agg i.cells)
def flF:Nat->Int->Bool->List S->List RI->List RI
 | 0,i,e,l,out=>l.foldl (fun o s=>if o.length<=200 then o++[⟨s,13,i,e⟩] else o) out
 | m+1,i,e,l,out=>l.foldl (fun o s=>if o.length<=200 then flF m s.id true s.els (flF m s.id false s.thn (o++[⟨s,13-((m+1:Nat):Int),i,e⟩])) else o) out
theorem q1x : ∀ (m:Nat) (i:Int) (e:Bool) (l:List S) (out:List RI),out.length<=(flF m i e l out).length∧(flF m i e l out).length<=max out.length 201
 | 0,i,e,[],out=>by show out.length<=out.length∧_;exact ⟨Nat.le_refl _,Nat.le_max_left _ _⟩
 | m+1,i,e,[],out=>by show out.length<=out.length∧_;exact ⟨Nat.le_refl _,Nat.le_max_left _ _⟩
 | 0,i,e,s::r,out=>by
   have h:=q1x 0 i e r (if out.length<=200 then out++[⟨s,13,i,e⟩] else out);show out.length<=(flF 0 i e r (if out.length<=200 then out++[⟨s,13,i,e⟩] else out)).length∧(flF 0 i e r (if out.length<=200 then out++[⟨s,13,i,e⟩] else out)).length<=_;split at h
   ·rw [if_pos (by assumption)];simp only [length_append,List.length_singleton] at h;omega
   ·rw [if_neg (by assumption)];exact h
 | m+1,i,e,s::r,out=>by
   have h:=q1x (m+1) i e r (if out.length<=200 then flF m s.id true s.els (flF m s.id false s.thn (out++[⟨s,13-((m+1:Nat):Int),i,e⟩])) else out);show out.length<=(flF (m+1) i e r (if out.length<=200 then flF m s.id true s.els (flF m s.id false s.thn (out++[⟨s,13-((m+1:Nat):Int),i,e⟩])) else out)).length∧(flF (m+1) i e r (if out.length<=200 then flF m s.id true s.els (flF m s.id false s.thn (out++[⟨s,13-((m+1:Nat):Int),i,e⟩])) else out)).length<=_;split at h
   ·rw [if_pos (by assumption)];have h1:=q1x m s.id false s.thn (out++[⟨s,13-((m+1:Nat):Int),i,e⟩]);have h2:=q1x m s.id true s.els (flF m s.id false s.thn (out++[⟨s,13-((m+1:Nat):Int),i,e⟩]));simp only [length_append,List.length_singleton] at h1;omega
   ·rw [if_neg (by assumption)];exact h
mutual
def fuS (d i:Int) (e:Bool):S->List RI
 | .mk id kind labels name proc x has args thn els=>⟨.mk id kind labels name proc x has args thn els,d,i,e⟩::(fuL (d+1) id false thn++fuL (d+1) id true els)
def fuL (d i:Int) (e:Bool):List S->List RI
 | []=>[]
 | t::r=>fuS d i e t++fuL d i e r
end
theorem w2b (d i:Int) (e:Bool) (t:S):fuS d i e t=⟨t,d,i,e⟩::(fuL (d+1) t.id false t.thn++fuL (d+1) t.id true t.els):=by
 cases t;rw [fuS];rfl
mutual
theorem w4v (d i:Int) (e:Bool) : ∀ t:S,(fuS d i e t).map RI.s=flS t
 | .mk id kind labels name proc x has args thn els=>by
   rw [fuS,flS,map_cons,List.map_append,q9g _ _ _ thn,q9g _ _ _ els]
theorem q9g (d i:Int) (e:Bool) : ∀ l:List S,(fuL d i e l).map RI.s=flL l
 | []=>by rw [fuL,flL];rfl
 | t::r=>by rw [fuL,flL,List.map_append,w4v _ _ _ t,q9g _ _ _ r]
end
theorem q6f (d i:Int) (e:Bool) (l:List S):(fuL d i e l).length=cntL l:=by
 rw [<- q2d,<- q9g d i e l,length_map]
theorem HJ {nest seen m:Int} {s:S} (h:q5g nest seen s=some m):oneOk s=true∧s.id=seen+1 ∧ ∃ m1,VH (nest+1) (seen+1) s.thn=some m1∧VH (nest+1) m1 s.els=some m:=by
 rw [q6x] at h;split at h
 ·cases h
 split at h
 ·cases h
 rename_i hid;cases hn:namesB s.labels<;>rw [hn] at h
 ·cases h
 cases hf:ZX s<;>rw [hf] at h
 ·cases h
 simp only [cond_true] at h;split at h
 ·rename_i m1 h1;exact ⟨by unfold oneOk;rw [hn,hf];rfl,by omega,m1,h1,h⟩
 ·cases h
theorem JJ {nest seen m:Int} {s:S} {r:List S} (h:VH nest seen (s::r)=some m):nest<=12 ∧ ∃ m1,q5g nest seen s=some m1∧VH nest m1 r=some m:=by
 rw [VH] at h;split at h
 ·cases h
 rename_i h0;split at h
 ·rename_i m1 h1;exact ⟨by omega,m1,h1,h⟩
 ·cases h
mutual
theorem w1m (d i:Int) (e:Bool) : ∀ (t:S) {n m:Int},d<=12->q5g d n t=some m -> ∀ x∈fuS d i e t,x.deep<=12∧oneOk x.s=true
 | .mk id kind labels name proc x has args thn els,n,m,hd,h,y,hy=>by
   obtain ⟨h1,_,m1,h2,h3⟩:=HJ h;rw [fuS] at hy;rcases List.mem_cons.1 hy with rfl|hy
   ·exact ⟨hd,h1⟩
   ·rcases List.mem_append.1 hy with hy|hy
    ·exact x5y _ _ _ thn h2 y hy
    ·exact x5y _ _ _ els h3 y hy
theorem x5y (d i:Int) (e:Bool) : ∀ (l:List S) {n m:Int},VH d n l=some m -> ∀ x∈fuL d i e l,x.deep<=12∧oneOk x.s=true
 | [],n,m,h,y,hy=>by rw [fuL] at hy;cases hy
 | t::r,n,m,h,y,hy=>by
   obtain ⟨h1,m1,h2,h3⟩:=JJ h;rw [fuL] at hy;rcases List.mem_append.1 hy with hy|hy
   ·exact w1m _ _ _ t h1 h2 y hy
   ·exact x5y _ _ _ r h3 y hy
end
theorem w2h : ∀ (k:Nat) (l:List S) (i:Int) (e:Bool) (out:List RI) (seen m:Int),VH (13-(k:Int)) seen l=some m->out.length+cntL l<=200->flF k i e l out=out++fuL (13-(k:Int)) i e l:=by
 intro k;induction k with
 | zero =>
   intro l i e out seen m h hl;cases l with
   | nil=>rw [fuL,List.append_nil];rfl
   | cons s r =>
     have:=(JJ h).1;simp at this
 | succ k ih =>
   intro l;induction l with
   | nil=>intro i e out seen m h hl;rw [fuL,List.append_nil];rfl
   | cons s r ihr =>
     intro i e out seen m h hl;obtain ⟨h1,m1,h2,h3⟩:=JJ h;obtain ⟨_,_,m2,h4,h5⟩:=HJ h2;have ed:(13:Int)-((k+1:Nat):Int)+1=13-(k:Int):=by omega
     rw [ed] at h4 h5;rw [cntL,ZO] at hl;show flF (k+1) i e r (if out.length<=200 then flF k s.id true s.els (flF k s.id false s.thn (out++[⟨s,13-((k+1:Nat):Int),i,e⟩])) else out)=_;rw [if_pos (by omega),ih s.thn s.id false _ _ _ h4 (by simp;omega),ih s.els s.id true _ _ _ h5 (by simp [q6f];omega),ihr i e _ _ _ h3 (by simp [q6f];omega),fuL,w2b,ed];simp
def GR (f:Pr):List RI:=flF 12 0 false f.body []
def q2t (l:List Pr) (out:List RI):List RI:=l.foldl (fun o f=>if o.length<=200 then o++GR f else o) out
def allR (p:Pg):List RI:=q2t p.procs []
def flatU (f:Pr):List RI:=fuL 1 0 false f.body
theorem q0o : ∀ (l:List Pr) {n m:Int},XJ n l=some m -> ∀ f∈l,JT f=true ∧ ∃ a b,VH 1 a f.body=some b
 | [],_,_,_,f,hf=>by cases hf
 | g::r,n,m,h,f,hf=>by
   rw [XJ] at h;cases hm:JT g<;>rw [hm] at h
   ·cases h
   simp only [cond_true] at h;split at h
   ·rename_i m1 h1;rcases List.mem_cons.1 hf with rfl|hf
    ·exact ⟨hm,_,_,h1⟩
    ·exact q0o r h f hf
   ·cases h
theorem PV {p:Pg} (h:JA p=true):p.globals.length<=16∧p.procs.length<=16∧namesB p.globals=true ∧ ∀ f∈p.procs,JT f=true ∧ ∃ a b,VH 1 a f.body=some b:=by
 unfold JA at h;simp only [Bool.and_eq_true,decide_eq_true_eq] at h;obtain ⟨⟨⟨h1,h2⟩,h3⟩,h4⟩:=h;refine ⟨h1,h2,h3,?_⟩;cases hm:XJ 0 p.procs with
 | none=>rw [hm] at h4;cases h4
 | some m=>exact q0o p.procs hm
theorem LY : ∀ (l:List Pr) (f:Pr),f∈l->cntL f.body<=VU l
 | [],f,h=>by cases h
 | g::r,f,h=>by
   rw [VU];rcases List.mem_cons.1 h with rfl|h
   ·omega
   ·have:=LY r f h;omega
theorem BX {p:Pg} (h:JA p=true) {f:Pr} (hf:f∈p.procs):GR f=flatU f:=by
 obtain ⟨_,_,_,h4⟩:=PV h;obtain ⟨_,a,b,h5⟩:=h4 f hf;have h6:=(ZI h).2.2;have h7:=LY _ f hf;have:=w2h 12 f.body 0 false [] a b h5 (by simp;omega);simpa [GR,flatU] using this
theorem x5f : ∀ (l:List Pr) (out:List RI),(∀ f∈l,GR f=flatU f)->out.length+VU l<=200->q2t l out=out++l.flatMap flatU
 | [],out,_,_=>by show out=_;simp
 | f::r,out,h,hl=>by
   rw [VU] at hl;show q2t r (if out.length<=200 then out++GR f else out)=_;have e:=q6f 1 0 false f.body;rw [if_pos (by omega),h f mem_cons_self,x5f r _ (fun g hg=>h g (List.mem_cons_of_mem _ hg)) (by simp only [flatU,length_append,e];omega)];simp
theorem q1p {p:Pg} (h:JA p=true):allR p=p.procs.flatMap flatU:=by
 have:=x5f p.procs [] (fun f hf=>BX h hf) (by have:=(ZI h).2.2;simpa using this);simpa [allR] using this
theorem z8p {p:Pg} (h:JA p=true) : ∀ x∈p.procs.flatMap flatU,x.deep<=12∧oneOk x.s=true:=by
 intro x hx;obtain ⟨f,hf,hx⟩:=List.mem_flatMap.1 hx;obtain ⟨_,_,_,h4⟩:=PV h;obtain ⟨_,a,b,h5⟩:=h4 f hf;exact x5y 1 0 false f.body h5 x hx
theorem BV : ∀ (l:List Pr) {n:Nat} {m:Int},XJ n l=some m->(l.flatMap fun f=>flL f.body).map S.id=q6i n (VU l)
 | [],n,m,_=>by rw [VU];rfl
 | g::r,n,m,h=>by
   rw [XJ] at h;cases hm:JT g<;>rw [hm] at h
   ·cases h
   simp only [cond_true] at h;split at h
   ·rename_i m1 h1;have h2:=YH _ _ g.body h1;have h':XJ ((n+cntL g.body:Nat):Int) r=some m:=by rw [<- h,h2];rfl
    have h3:=BV r h';rw [flatMap_cons,List.map_append,DS 1 g.body h1,h3,VU,LJ]
   ·cases h
theorem z7h (l:List Pr):(l.flatMap flatU).map RI.s=l.flatMap fun f=>flL f.body:=by
 induction l with
 | nil=>rfl
 | cons f r ih =>
   rw [flatMap_cons,flatMap_cons,List.map_append,ih];congr 1;exact q9g _ _ _ _
theorem x4q (l:List Pr):(l.flatMap flatU).length=VU l:=by
 induction l with
 | nil=>rfl
 | cons f r ih=>rw [flatMap_cons,length_append,ih,VU];congr 1;exact q6f _ _ _ _
theorem z4s {p:Pg} (h:JA p=true) {k:Nat} {x:RI} (hk:(p.procs.flatMap flatU)[k]? = some x):x.s.id=(k:Int)+1:=by
 unfold JA at h;simp only [Bool.and_eq_true,decide_eq_true_eq] at h;cases hm:XJ 0 p.procs with
 | none=>rw [hm] at h;cases h.2
 | some m =>
   have h1:=BV p.procs (n:=0) hm;rw [<- z7h] at h1;have h2:(((p.procs.flatMap flatU).map RI.s).map S.id)[k]? = some x.s.id:=by simp [hk]
   rw [h1] at h2;unfold q6i at h2;have hlt:k<VU p.procs:=by rw [<- x4q];exact (List.getElem?_eq_some_iff.1 hk).1
   rw [List.getElem?_map,List.getElem?_range' hlt] at h2;simp at h2;omega
def riH (t:Nat) (out:List RI):Heap:=[(2000,.own t 16 (out.map fun i => .agg i.cells))]
theorem w0d {t:Nat} {out:List RI} {x:RI}:riH t (out++[x])=[(2000,.own t 16 ((out.map fun i => .agg i.cells)++[.agg x.cells]))]:=by simp [riH]
theorem q4q (l:List RI):(l.map fun i=>AV.agg i.cells).length=l.length:=length_map _
theorem z6y {i:Int} {e:Bool} {l:List S} {j:Nat} {o:List RI} (hj:j<l.length) (h:o.length<=200):flF 0 i e (l.drop j) o=flF 0 i e (l.drop (j+1)) (o++[⟨l[j],13,i,e⟩]):=by
 rw [QJ hj];show flF 0 i e (l.drop (j+1)) (if o.length<=200 then _ else _)=_;rw [if_pos h]
theorem w0w {m:Nat} {i:Int} {e:Bool} {l:List S} {j:Nat} {o:List RI} (hj:j<l.length) (h:o.length<=200):flF (m+1) i e (l.drop j) o=flF (m+1) i e (l.drop (j+1)) (flF m l[j].id true l[j].els (flF m l[j].id false l[j].thn (o++[RI.mk l[j] (13-((m+1:Nat):Int)) i e]))):=by
 rw [QJ hj];show flF (m+1) i e (l.drop (j+1)) (if o.length<=200 then _ else _)=_;rw [if_pos h]
theorem LU : ∀ (m:Nat) {i:Int} {e:Bool} {l:List S} {o:List RI},¬o.length<=200->flF m i e l o=o
 | 0,i,e,[],o,_=>rfl
 | m+1,i,e,[],o,_=>rfl
 | 0,i,e,s::r,o,h=>by
   show flF 0 i e r (if o.length<=200 then _ else o)=o;rw [if_neg h];exact LU 0 h
 | m+1,i,e,s::r,o,h=>by
   show flF (m+1) i e r (if o.length<=200 then _ else o)=o;rw [if_neg h];exact LU (m+1) h
theorem z2k (m:Nat) {i:Int} {e:Bool} {o:List RI}:flF m i e [] o=o:=by cases m<;>rfl
theorem PP : ∀ (m:Nat) (_:m<=12) (l:List S) (i:Int) (e:Bool) (out:List RI),
  SpecH Tryz.prog 108 [.p (eSs l),.p (.int .i64 (13-(m:Int))),.p (.int .i64 i),.p (.bool e),.hd 2000 0 out.length] (riH 42 out)
   (fun r H=>r = .hd 2000 0 (flF m i e l out).length∧H=riH 42 (flF m i e l out)):=by
 intro m;induction m with
 | zero =>
   intro _ l i e out;have hll:=S.avs_len l;refine sH UI Tryz.func108 rfl Tryz.call108 ?_;conv=>whnf
   skip
   refine LoopK.inv QU (fun x:Nat×List RI=>⟨[(0,.p (eSs l)),(1,.p (.int .i64 (13-((0:Nat):Int)))),(2,.p (.int .i64 i)),(3,.p (.bool e)),(4,.hd 2000 0 x.2.length),(11,.p (.int .i64 x.1))],riH 42 x.2⟩) (fun x=>x.1<=l.length∧flF 0 i e (l.drop x.1) x.2=flF 0 i e l out) (fun x=>l.length-x.1) (0,out) (Le.of_eq rfl) ⟨zero_le _,rfl⟩ ?_;rintro ⟨j,o⟩ ⟨h2,h3⟩;simp only at h2 h3 ⊢;have hol:=q4q o;rcases Nat.lt_or_ge j l.length with hj|hj
   ·conv=>whnf
    repeat' (first|((first|(refine iM fun _=>?_)|refine And.intro rfl ?_|refine aD ?_|refine bP ?_|refine QF (by omega) ?_|refine wI ?_|refine AppK.mk (by simp) rfl (by show (o.length+1)*232<=140737488355328;omega) (by show o.length+1<=9223372036854775807;omega) (fun x hx=>by rcases List.mem_singleton.1 hx with rfl;exact ⟨rfl,rfl⟩) ?_);conv=>whnf)|(apply bD<;>intro _<;>first|omega|conv=>whnf))
    ·exact ⟨(j+1,o++[⟨l[j],13,i,e⟩]),⟨hj,by rw [<- h3,z6y hj (by omega)]⟩,by simp only;omega,Le.of_eq (by simp only [w0d,length_append,List.length_singleton];rfl)⟩
    ·rw [LU 0 (by omega)] at h3;exact ⟨_,.refl _,by rw [<- h3];exact ⟨rfl,rfl⟩⟩
   ·conv=>whnf
    repeat' (first|(refine iM fun _=>?_;conv=>whnf)|(apply bD<;>intro _<;>first|omega|conv=>whnf))
    rw [drop_eq_nil_of_le hj,z2k] at h3;exact ⟨_,.refl _,by rw [<- h3];exact ⟨rfl,rfl⟩⟩
 | succ m ih =>
   intro hm l i e out;have hll:=S.avs_len l;refine sH UI Tryz.func108 rfl Tryz.call108 ?_;conv=>whnf
   skip
   refine LoopK.inv QU (fun x:Nat×List RI=>⟨[(0,.p (eSs l)),(1,.p (.int .i64 (13-((m+1:Nat):Int)))),(2,.p (.int .i64 i)),(3,.p (.bool e)),(4,.hd 2000 0 x.2.length),(11,.p (.int .i64 x.1))],riH 42 x.2⟩) (fun x=>x.1<=l.length∧flF (m+1) i e (l.drop x.1) x.2=flF (m+1) i e l out) (fun x=>l.length-x.1) (0,out) (Le.of_eq rfl) ⟨zero_le _,rfl⟩ ?_;rintro ⟨j,o⟩ ⟨h2,h3⟩;simp only at h2 h3 ⊢;have hol:=q4q o;rcases Nat.lt_or_ge j l.length with hj|hj
   ·conv=>whnf
    repeat' (first|((first|(refine iM fun _=>?_)|refine dA ?_|refine And.intro rfl ?_|refine aD ?_|refine bP ?_|refine QF (by omega) ?_|refine wI ?_|refine AppK.mk (by simp) rfl (by show (o.length+1)*232<=140737488355328;omega) (by show o.length+1<=9223372036854775807;omega) (fun x hx=>by rcases List.mem_singleton.1 hx with rfl;exact ⟨rfl,rfl⟩) ?_);conv=>whnf)|(apply bD<;>intro _<;>first|omega|conv=>whnf))
    ·refine CallK.heap [(2000,2000)] 0 (ArgsH.cons (LSub.refl _) (ArgsH.cons (LSub.p (Sub.int (by omega))) (ArgsH.cons (LSub.refl _) (ArgsH.cons (LSub.p (Sub.ff rfl)) (ArgsH.cons (LSub.of_eq (by rw [length_append];rfl)) ArgsH.nil))))) (by exact BlksH.cons (j:=2000) rfl rfl (CSub.of_eq (by rw [List.map_append];first|done|rfl)) BlksH.nil) (ih (by omega) l[j].thn l[j].id false (o++[RI.mk l[j] (13-((m+1:Nat):Int)) i e])) rfl rfl ?_;rintro l' H' ⟨rfl,rfl⟩;conv=>whnf
     repeat' ((first|refine dA ?_|refine QF (by omega) ?_|refine wI ?_);conv=>whnf)
     refine CallK.heap [(2000,2000)] 0 (ArgsH.cons (LSub.refl _) (ArgsH.cons (LSub.p (Sub.int (by omega))) (ArgsH.cons (LSub.refl _) (ArgsH.cons (LSub.p (Sub.tt rfl)) (ArgsH.cons (LSub.refl _) ArgsH.nil))))) (by exact BlksH.cons (j:=2000) rfl rfl (CSub.refl _) BlksH.nil) (ih (by omega) l[j].els l[j].id true (flF m l[j].id false l[j].thn (o++[RI.mk l[j] (13-((m+1:Nat):Int)) i e]))) rfl rfl ?_;rintro l' H' ⟨rfl,rfl⟩;conv=>whnf
     repeat' (refine wI ?_;conv=>whnf)
     exact ⟨(j+1,flF m l[j].id true l[j].els (flF m l[j].id false l[j].thn (o++[RI.mk l[j] (13-((m+1:Nat):Int)) i e]))),⟨hj,by rw [<- h3,w0w hj (by omega)]⟩,by simp only;omega,Le.of_eq rfl⟩
    ·rw [LU (m+1) (by omega)] at h3;exact ⟨_,.refl _,by rw [<- h3];exact ⟨rfl,rfl⟩⟩
   ·conv=>whnf
    repeat' (first|(refine iM fun _=>?_;conv=>whnf)|(apply bD<;>intro _<;>first|omega|conv=>whnf))
    rw [drop_eq_nil_of_le hj,z2k] at h3;exact ⟨_,.refl _,by rw [<- h3];exact ⟨rfl,rfl⟩⟩
theorem JF (f:Pr):SpecP Tryz.prog 58 [.agg f.cells] (fun r=>r=w0r (GR f)):=by
 refine sB FI Tryz.func58 rfl Tryz.call58 ?_;conv=>whnf
 skip
 refine CallK.nil 5 42 16 rfl (.cons rfl (.cons rfl (.cons rfl (.cons rfl (.row .nil))))) ?_;refine CallK.heap [(2000,5)] 0 (by repeat' (first|exact ArgsH.nil|refine ArgsH.cons ?_ ?_|exact LSub.refl _|exact LSub.p Sub.nils|exact LSub.p (Sub.tt rfl)|exact LSub.p (Sub.ff rfl)|exact LSub.p (Sub.int (by omega)))) (by refine BlksH.cons (j:=5) rfl rfl ?_ ?_;exact CSub.refl _;exact BlksH.nil) (PP 12 (by omega) f.body 0 false []) rfl rfl ?_;rintro l' H' ⟨rfl,rfl⟩;conv=>whnf
 exact ⟨_,.hd rfl (by simp [GR]),rfl⟩
theorem x7i {l:List Pr} {j:Nat} {o:List RI} (hj:j<l.length) (h:o.length<=200):q2t (l.drop j) o=q2t (l.drop (j+1)) (o++GR l[j]):=by
 rw [QJ hj];show q2t (l.drop (j+1)) (if o.length<=200 then _ else _)=_;rw [if_pos h]
theorem q3d : ∀ {l:List Pr} {o:List RI},¬o.length<=200->q2t l o=o
 | [],o,_=>rfl
 | f::r,o,h=>by
   show q2t r (if o.length<=200 then _ else o)=o;rw [if_neg h];exact q3d h
theorem q9h (f:Pr):(GR f).length<=201:=by
 have:=(q1x 12 0 false f.body []).2;simpa [GR] using this
theorem KP (p:Pg):SpecP Tryz.prog 37 [.agg p.cells] (fun r=>r=w0r (allR p)):=by
 refine sB DI Tryz.func37 rfl Tryz.call37 ?_;conv=>whnf
 repeat' (refine iM fun _=>?_;conv=>whnf)
 have hl2:(p.procs.map fun f=>AV.agg f.cells).length=p.procs.length:=length_map _;refine LoopK.inv QU (fun x:Nat×List RI=>⟨[(3,.hd 1 0 x.2.length),(7,.p (.sl (p.procs.map fun f => .agg f.cells))),(8,.p (.int .i64 (p.procs.map fun f=>AV.agg f.cells).length)),(9,.p (.int .i64 x.1))],[(1,.own 42 16 (x.2.map fun i => .agg i.cells))]⟩) (fun x=>x.1<=p.procs.length∧x.2.length<=200∧q2t (p.procs.drop x.1) x.2=allR p) (fun x=>p.procs.length-x.1) (0,[])
  (Le.mk [(1,.own 42 16 [])] (by simp [Chunk.new0];rfl) (by simp) (by simp) (.cons (.nil mem_cons_self) (.cons (.refl _) (.cons (.refl _) (.cons (.refl _) .nil)))) (.new mem_cons_self .nil)) ⟨zero_le _,zero_le _,rfl⟩ ?_
 rintro ⟨j,o⟩ ⟨h2,h4,h3⟩;simp only at h2 h3 h4 ⊢;have hol:=q4q o;rcases Nat.lt_or_ge j p.procs.length with hj|hj
 ·have hfl:=q9h p.procs[j];have hst:=fun (h:o.length<=200)=>x7i hj h;have hF:=JF p.procs[j];generalize hL:GR p.procs[j]=L at hfl hst hF;have hfl2:=q4q L;conv=>whnf
  repeat' (first|((first|(refine iM fun _=>?_)|refine And.intro rfl ?_|refine aD ?_|(refine iA fun _=>?_)|refine wI ?_|refine cP hF ?_|refine AppK.mk (by simp) rfl (by rw [hfl2];show (o.length+L.length)*232<=140737488355328;omega) (by rw [hfl2];show o.length+L.length<=9223372036854775807;omega) (fun x hx=>by obtain ⟨y,_,rfl⟩:=List.mem_map.1 hx;exact ⟨rfl,rfl⟩) ?_);conv=>whnf)|(apply bD<;>intro _<;>first|omega|conv=>whnf))
  ·refine ⟨_,.hd rfl (by simp),?_⟩;rw [<- h3,hst h4,q3d (by simp;omega),<- List.map_append];rfl
  ·exact ⟨(j+1,o++L),⟨hj,by simp;omega,by rw [<- h3,hst h4]⟩,by simp only;omega,Le.of_eq (by simp only [length_append,List.map_append,length_map];rfl)⟩
 ·conv=>whnf
  repeat' (apply bD<;>intro _<;>first|omega|conv=>whnf)
  rw [drop_eq_nil_of_le hj] at h3;refine ⟨_,.hd rfl (by simp),?_⟩;rw [<- h3];simp [w0r,q2t]
structure MayF (p:Pg):Prop where
 gl:p.globals.length<=16
 pl:p.procs.length<=16
 gn:namesB p.globals=true
 pr : ∀ f∈p.procs,f.params.length<=8∧f.vars.length<=16∧isName f.name=true∧namesB f.vars=true∧namesB f.fin=true∧(f.params.all fun a=>isName a.name)=true
 len:(allR p).length<=200
 its : ∀ (k:Nat) (x:RI),(allR p)[k]? = some x->x.s.id=(k:Int)+1∧x.deep<=12∧oneOk x.s=true
theorem GN {p:Pg} (h:JA p=true):MayF p:=by
 obtain ⟨h1,h2,h3,h4⟩:=PV h;refine ⟨h1,h2,h3,fun f hf=>KA.1 (h4 f hf).1,?_,fun k x hk => ?_⟩
 ·rw [q1p h,x4q];exact (ZI h).2.2
 ·rw [q1p h] at hk;exact ⟨z4s h hk,z8p h x (List.mem_of_getElem? hk)⟩
def Pr0:Pr:=⟨[],[],[],[],[]⟩
theorem ZW (l:List Str) (hl:l.length<=1000000):SpecP Tryz.prog 89 [QP l] (fun r=>r=QP l):=by
 refine sB HL Tryz.func89 rfl Tryz.call89 ?_;conv=>whnf
 have hlm:(l.map AV.str).length=l.length:=length_map _;repeat' (refine aD ?_;conv=>whnf)
 refine AppK.mk rfl rfl (by rw [hlm];show (0+l.length)*16<=140737488355328;omega) (by rw [hlm];show 0+l.length<=9223372036854775807;omega) (fun x hx=>by obtain ⟨s,_,rfl⟩:=List.mem_map.1 hx;exact ⟨rfl,rfl⟩) ?_;conv=>whnf
 skip
 exact ⟨_,.hd rfl (by simp),rfl⟩
def FX:List Str->Nat
 | []=>0
 | s::r=>1+s.length+FX r
mutual
def gX:X->Nat
 | .mk _ _ name kids=>1+name.length+gXs kids
def gXs:List X->Nat
 | []=>0
 | x::r=>gX x+gXs r
end
def q2r:List Arg->Nat
 | []=>0
 | a::r=>gX a.x+(1+a.name.length)+q2r r
mutual
def gS:S->Nat
 | .mk _ _ labels name proc x _ args thn els=>gX x+FX labels+(1+name.length)+(1+proc.length)+q2r args+gL thn+gL els
def gL:List S->Nat
 | []=>0
 | s::r=>gS s+gL r
end
def z3p:List Param->Nat
 | []=>0
 | a::r=>1+a.name.length+z3p r
def gPr (f:Pr):Nat:=1+f.name.length+FX f.vars+FX f.fin+z3p f.params+gL f.body
def x3j:List Pr->Nat
 | []=>0
 | f::r=>gPr f+x3j r
def gPg (p:Pg):Nat:=FX p.globals+x3j p.procs
theorem w4t (s:S):gS s=gX s.x+FX s.labels+(1+s.name.length)+(1+s.proc.length)+q2r s.args+gL s.thn+gL s.els:=by
 cases s;rw [gS];rfl
theorem q8a : ∀ l:List Str,x7k l<=FX l
 | []=>Nat.le_refl _
 | s::r=>by have:=q8a r;simp only [x7k,FX];omega
mutual
theorem w4g : ∀ x:X,wX x<=gX x
 | .mk _ _ name kids=>by have:=w0e kids;rw [wX,gX];omega
theorem w0e : ∀ l:List X,wXs l<=gXs l
 | []=>by rw [wXs];omega
 | x::r=>by have:=w4g x;have:=w0e r;rw [wXs,gXs];omega
end
theorem z2u : ∀ l:List Arg,q2z l<=q2r l
 | []=>Nat.le_refl _
 | a::r=>by have:=z2u r;have:=w4g a.x;simp only [q2z,q2r];omega
mutual
theorem w6l : ∀ s:S,wS s<=gS s
 | .mk _ _ labels name proc x _ args thn els=>by
   have:=w4g x;have:=q8a labels;have:=z2u args;have:=w2a thn;have:=w2a els;rw [wS,gS];omega
theorem w2a : ∀ l:List S,wL l<=gL l
 | []=>by rw [wL];omega
 | s::r=>by have:=w6l s;have:=w2a r;rw [wL,gL];omega
end
theorem z7k : ∀ l:List Param,z9n l<=z3p l
 | []=>Nat.le_refl _
 | a::r=>by have:=z7k r;simp only [z9n,z3p];omega
theorem z7r : ∀ l:List Pr,x9f l<=x3j l
 | []=>Nat.le_refl _
 | f::r=>by
   have:=z7r r;have:=q8a f.vars;have:=q8a f.fin;have:=z7k f.params;have:=w2a f.body;simp only [x9f,x3j,wPr,gPr];omega
theorem w3t (p:Pg):wPg p<=gPg p:=by
 have:=q8a p.globals;have:=z7r p.procs;unfold wPg gPg;omega
def XX (x:Int):Int:=if x>20000 then 20001 else x
theorem XP {a b:Int} (hb:0<=b):XX (XX a+b)=XX (a+b):=by
 unfold XX;split<;>split<;>(try split)<;>omega
theorem XD {a:Int} (h:0<=a):0<=XX a∧XX a<=20001:=by
 unfold XX;split<;>omega
theorem q5c {a:Int} (h:a<=20001):XX a=a:=by
 unfold XX;split<;>omega
theorem VP {a b:Int} (h:a>20000) (h1:a<=20001) (hb:0<=b):a=XX (a+b):=by
 unfold XX;split<;>omega
theorem QN (s:Str) (n:Int) (hn:0<=n∧n<=20001):SpecP Tryz.prog 71 [.str s,.int .i64 n] (fun r=>r = .int .i64 (XX (n+(1+s.length:Nat)))):=by
 refine sB YT Tryz.func71 rfl Tryz.call71 ?_;conv=>whnf
 repeat' (first|((first|(refine iM fun _=>?_)|refine wI ?_);conv=>whnf)|(apply bD<;>intro _<;>first|omega|conv=>whnf))
 all_goals exact RetK.int (by unfold XX;(repeat' split)<;>omega)
theorem XK (l:List Str) (n:Int) (hn:0<=n∧n<=20001):SpecP Tryz.prog 70 [QP l,.int .i64 n] (fun r=>r = .int .i64 (XX (n+FX l))):=by
 refine sB YM Tryz.func70 rfl Tryz.call70 ?_;conv=>whnf
 skip
 have hl:(l.map AV.str).length=l.length:=length_map _;refine LoopK.inv QU (fun x:Nat×Int=>⟨[(0,.p (QP l)),(1,.p (.int .i64 x.2)),(5,.p (.int .i64 x.1))],[]⟩) (fun x=>x.1<=l.length∧(0<=x.2∧x.2<=20001)∧XX (x.2+FX (l.drop x.1))=XX (n+FX l)) (fun x=>l.length-x.1) (0,n) (Le.of_eq rfl) ⟨zero_le _,hn,rfl⟩ ?_;rintro ⟨j,m⟩ ⟨h2,h3,h4⟩;simp only at h2 h3 h4 ⊢;rcases Nat.lt_or_ge j l.length with hj|hj
 ·rw [List.drop_eq_getElem_cons hj,FX] at h4;conv=>whnf
  repeat' (first|((first|(refine iM fun _=>?_)|refine cP (QN _ _ h3) ?_|(refine iA fun _=>?_)|refine wI ?_);conv=>whnf)|(apply bD<;>intro _<;>first|omega|conv=>whnf))
  ·have h5:XX (XX (m+(1+l[j].length:Nat))+FX (l.drop (j+1)))=XX (n+FX l):=by
    rw [XP (by omega),<- h4];congr 1;omega
   exact ⟨(j+1,XX (m+(1+l[j].length:Nat))),⟨by simp only;omega,XD (by omega),h5⟩,by simp only;omega,Le.of_eq rfl⟩
  ·exact RetK.int (by rw [<- h4];exact VP (by omega) h3.2 (by omega))
 ·rw [drop_eq_nil_of_le hj,FX] at h4;conv=>whnf
  repeat' (first|(refine iM fun _=>?_;conv=>whnf)|(apply bD<;>intro _<;>first|omega|conv=>whnf))
  exact RetK.int (by rw [<- h4,q5c (by omega)];simp)
theorem WE : ∀ (k:Nat) (x:X) (_:gX x<k) (n:Int) (_:0<=n∧n<=20001),SpecP Tryz.prog 123 [.agg x.cells,.int .i64 n] (fun r=>r = .int .i64 (XX (n+gX x))):=by
 intro k;induction k with
 | zero=>intro x h;omega
 | succ k ih =>
   intro x hx n hn;have hxe:gX x=1+x.name.length+gXs x.kids:=by cases x;rw [gX];rfl
   have hkl:=X.avs_len x.kids;refine sB JU Tryz.func123 rfl Tryz.call123 ?_;conv=>whnf
   repeat' (refine cP (QN _ _ hn) ?_;conv=>whnf)
   refine LoopK.inv QU (fun y:Nat×Int=>⟨[(1,.p (.int .i64 y.2)),(2,.p (.ip x.cells)),(5,.p (.int .i64 y.1))],[]⟩) (fun y=>y.1<=x.kids.length∧(0<=y.2∧y.2<=20001)∧XX (y.2+gXs (x.kids.drop y.1))=XX (n+gX x)) (fun y=>x.kids.length-y.1) (0,XX (n+(1+x.name.length:Nat))) (Le.of_eq rfl) ⟨zero_le _,XD (by omega),by
    show XX (XX (n+(1+x.name.length:Nat))+gXs x.kids)=_;rw [XP (by omega),hxe];congr 1;omega⟩ ?_
   rintro ⟨j,m⟩ ⟨h2,h3,h4⟩;simp only at h2 h3 h4 ⊢;rcases Nat.lt_or_ge j x.kids.length with hj|hj
   ·rw [List.drop_eq_getElem_cons hj,gXs] at h4;have hkw:gX x.kids[j]<k:=by
     have : ∀ (l:List X) (y:X),y∈l->gX y<=gXs l:=fun l=>by
      induction l with
      | nil=>intro y h;cases h
      | cons a r ih =>
        intro y h;rw [gXs];rcases List.mem_cons.1 h with rfl|h
        ·omega
        ·have:=ih y h;omega
     have:=this x.kids _ (List.getElem_mem hj);omega
    conv=>whnf
    repeat' (first|((first|(refine iM fun _=>?_)|refine IdxK.xs (by omega) ?_|refine wI ?_|refine cP (ih (x.kids[j]'hj) hkw m h3) ?_);conv=>whnf)|(apply bD<;>intro _<;>first|omega|conv=>whnf))
    ·have h5:XX (XX (m+gX x.kids[j])+gXs (x.kids.drop (j+1)))=XX (n+gX x):=by
      rw [XP (by omega),<- h4];congr 1;omega
     exact ⟨(j+1,XX (m+gX x.kids[j])),⟨by simp only;omega,XD (by omega),h5⟩,by simp only;omega,Le.of_eq rfl⟩
    ·exact RetK.int (by rw [<- h4];exact VP (by omega) h3.2 (by omega))
   ·rw [drop_eq_nil_of_le hj,gXs] at h4;conv=>whnf
    repeat' (first|(refine iM fun _=>?_;conv=>whnf)|(apply bD<;>intro _<;>first|omega|conv=>whnf))
    exact RetK.int (by rw [<- h4,q5c (by omega)];simp)
theorem z7e : ∀ (l:List S) (y:S),y∈l->gS y<=gL l
 | [],y,h=>by cases h
 | a::r,y,h=>by
   rw [gL];rcases List.mem_cons.1 h with rfl|h
   ·omega
   ·have:=z7e r y h;omega
theorem WN : ∀ (k:Nat) (l:List S) (_:gL l<k) (n:Int) (_:0<=n∧n<=20001),SpecP Tryz.prog 72 [eSs l,.int .i64 n] (fun r=>r = .int .i64 (XX (n+gL l))):=by
 intro k;induction k with
 | zero=>intro l h;omega
 | succ k ih =>
   intro l hl n hn;have hkl:=S.avs_len l;refine sB YN Tryz.func72 rfl Tryz.call72 ?_;conv=>whnf
   skip
   refine LoopK.inv QU (fun y:Nat×Int=>⟨[(0,.p (eSs l)),(1,.p (.int .i64 y.2)),(5,.p (.int .i64 y.1))],[]⟩) (fun y=>y.1<=l.length∧(0<=y.2∧y.2<=20001)∧XX (y.2+gL (l.drop y.1))=XX (n+gL l)) (fun y=>l.length-y.1) (0,n) (Le.of_eq rfl) ⟨zero_le _,hn,rfl⟩ ?_;rintro ⟨j,m⟩ ⟨h2,h3,h4⟩;simp only at h2 h3 h4 ⊢;rcases Nat.lt_or_ge j l.length with hj|hj;rotate_left 1
   ·rw [drop_eq_nil_of_le hj,gL] at h4;conv=>whnf
    repeat' (first|(refine iM fun _=>?_;conv=>whnf)|(apply bD<;>intro _<;>first|omega|conv=>whnf))
    exact RetK.int (by rw [<- h4,q5c (by omega)];simp)
   rw [List.drop_eq_getElem_cons hj,gL] at h4;have hsw:=z7e l _ (List.getElem_mem hj);have hse:=w4t l[j];have q1:=XD (a:=m+gX l[j].x) (by omega);have q2:=XD (a:=XX (m+gX l[j].x)+FX l[j].labels) (by omega);have q3:=XD (a:=XX (XX (m+gX l[j].x)+FX l[j].labels)+(1+l[j].name.length:Nat)) (by omega);conv=>whnf
   repeat' (first|((first|(refine iM fun _=>?_)|refine dA ?_|refine And.intro rfl ?_|refine QF (by omega) ?_|(refine CallK.pure (WE (gX l[j].x+1) l[j].x (by omega) m h3) (.cons (Sub.refl _) (.cons (Sub.refl _) .nil)) ?_;rintro _ rfl)|refine cP (XK l[j].labels _ q1) ?_|refine cP (QN l[j].name _ q2) ?_|refine cP (QN l[j].proc _ q3) ?_);conv=>whnf)|(apply bD<;>intro _<;>first|omega|conv=>whnf))
   rotate_left 1
   ·exact RetK.int (by rw [<- h4];exact VP (by omega) h3.2 (by omega))
   have q4:=XD (a:=XX (XX (XX (m+gX l[j].x)+FX l[j].labels)+(1+l[j].name.length:Nat))+(1+l[j].proc.length:Nat)) (by omega);have h5:XX (XX (XX (XX (XX (m+gX l[j].x)+FX l[j].labels)+(1+l[j].name.length:Nat))+(1+l[j].proc.length:Nat))+(q2r l[j].args+(gL l[j].thn+gL l[j].els+gL (l.drop (j+1))):Nat))=XX (n+gL l):=by
    rw [XP (by omega),Int.add_assoc,XP (by omega),Int.add_assoc,XP (by omega),Int.add_assoc,XP (by omega),<- h4,hse];congr 1;omega
   generalize XX (XX (XX (XX (m+gX l[j].x)+FX l[j].labels)+(1+l[j].name.length:Nat))+(1+l[j].proc.length:Nat))=m0 at q4 h5 ⊢;have hal:(l[j].args.map fun a=>AV.agg a.cells).length=l[j].args.length:=length_map _;refine LoopK.inv QU (fun y:Nat×Int=>⟨[(0,.p (eSs l)),(1,.p (.int .i64 y.2)),(5,.p (.int .i64 j)),(6,.p (.ip l[j].cells)),(7,.p (.int .i64 y.1))],[]⟩) (fun y=>y.1<=l[j].args.length∧(0<=y.2∧y.2<=20001)∧XX (y.2+(q2r (l[j].args.drop y.1)+(gL l[j].thn+gL l[j].els+gL (l.drop (j+1))):Nat))=XX (n+gL l)) (fun y=>l[j].args.length-y.1) (0,m0) (Le.of_eq rfl) ⟨zero_le _,q4,h5⟩ ?_;rintro ⟨a,m2⟩ ⟨h6,h7,h8⟩;simp only at h6 h7 h8 ⊢;have fin:XX (m2+(gL l[j].thn+gL l[j].els+gL (l.drop (j+1)):Nat))=XX (n+gL l)->(0<=XX (XX (m2+gL l[j].thn)+gL l[j].els)∧XX (XX (m2+gL l[j].thn)+gL l[j].els)<=20001)∧XX (XX (XX (m2+gL l[j].thn)+gL l[j].els)+gL (l.drop (j+1)))=XX (n+gL l):=fun h=>by
    have:=XD (a:=m2+gL l[j].thn) (by omega);refine ⟨XD (by omega),?_⟩;rw [XP (by omega),Int.add_assoc,XP (by omega),<- h];congr 1;omega
   have r1:=XD (a:=m2+gL l[j].thn) (by omega);have full:m2>20000->XX (m2+(gL l[j].thn+gL l[j].els+gL (l.drop (j+1)):Nat))=XX (n+gL l):=fun h=>by
    rw [<- h8,<- VP h h7.2 (by omega),<- VP h h7.2 (by omega)]
   rcases Nat.lt_or_ge a l[j].args.length with ha|ha;rotate_left 1
   ·have h9:XX (m2+(gL l[j].thn+gL l[j].els+gL (l.drop (j+1)):Nat))=XX (n+gL l):=by
     rw [drop_eq_nil_of_le ha,q2r,Nat.zero_add] at h8;exact h8
    obtain ⟨f1,f2⟩:=fin h9;conv=>whnf
    repeat' (first|((first|(refine iM fun _=>?_)|refine dA ?_|refine wI ?_|(refine CallK.pure (ih l[j].thn (by omega) m2 h7) (.cons (Sub.refl _) (.cons (Sub.refl _) .nil)) ?_;rintro _ rfl)|(refine CallK.pure (ih l[j].els (by omega) _ r1) (.cons (Sub.refl _) (.cons (Sub.refl _) .nil)) ?_;rintro _ rfl));conv=>whnf)|(apply bD<;>intro _<;>first|omega|conv=>whnf))
    all_goals exact ⟨(j+1,XX (XX (m2+gL l[j].thn)+gL l[j].els)),⟨by simp only;omega,f1,f2⟩,by simp only;omega,Le.of_eq rfl⟩
   rw [List.drop_eq_getElem_cons ha,q2r] at h8;have q5:=XD (a:=m2+gX l[j].args[a].x) (by omega);conv=>whnf
   repeat' (first|((first|(refine iM fun _=>?_)|refine dA ?_|(refine iA fun _=>?_)|refine wI ?_|(refine CallK.pure (WE (gX l[j].args[a].x+1) l[j].args[a].x (by omega) m2 h7) (.cons (Sub.refl _) (.cons (Sub.refl _) .nil)) ?_;rintro _ rfl)|refine cP (QN l[j].args[a].name _ q5) ?_|(refine CallK.pure (ih l[j].thn (by omega) m2 h7) (.cons (Sub.refl _) (.cons (Sub.refl _) .nil)) ?_;rintro _ rfl)|(refine CallK.pure (ih l[j].els (by omega) _ r1) (.cons (Sub.refl _) (.cons (Sub.refl _) .nil)) ?_;rintro _ rfl));conv=>whnf)|(apply bD<;>intro _<;>first|omega|conv=>whnf))
   ·have h10:XX (XX (XX (m2+gX l[j].args[a].x)+(1+l[j].args[a].name.length:Nat))+(q2r (l[j].args.drop (a+1))+(gL l[j].thn+gL l[j].els+gL (l.drop (j+1))):Nat))=XX (n+gL l):=by
     rw [XP (by omega),Int.add_assoc,XP (by omega),<- h8];congr 1;omega
    exact ⟨(a+1,XX (XX (m2+gX l[j].args[a].x)+(1+l[j].args[a].name.length:Nat))),⟨by simp only;omega,XD (by omega),h10⟩,by simp only;omega,Le.of_eq rfl⟩
   ·obtain ⟨f1,f2⟩:=fin (full (by omega));exact ⟨(j+1,XX (XX (m2+gL l[j].thn)+gL l[j].els)),⟨by simp only;omega,f1,f2⟩,by simp only;omega,Le.of_eq rfl⟩
theorem z8w : ∀ {l:List X} {y:X},y∈l->wX y<=wXs l
 | [],_,h=>by cases h
 | a::r,y,h=>by
   rw [wXs];rcases List.mem_cons.1 h with rfl|h
   ·omega
   ·have:=z8w h;omega
theorem z7a (x:X):1<=wX x:=by cases x;rw [wX];omega
theorem x8e : ∀ l:List X,l.length<=wXs l
 | []=>by simp
 | a::r=>by
   rw [wXs,List.length_cons];have:=x8e r;have:=z7a a;omega
end Go.Ab
