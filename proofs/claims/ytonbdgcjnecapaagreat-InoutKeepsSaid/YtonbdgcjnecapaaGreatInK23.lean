/- run: a statement of another kind. -/
import Derived.Test.YtonbdgcjnecapaaGreatInK11
import Derived.Test.YtonbdgcjnecapaaGreatInK17
import Derived.Test.YtonbdgcjnecapaaGreatInK21
import Derived.Test.YtonbdgcjnecapaaGreatInK22
set_option linter.all false
set_option maxRecDepth 100000
set_option maxHeartbeats 16000000
open Nat (succ_pos)
namespace Go.Ab
open Go.Proofs.Tryz
open Go.Proofs
variable {H:Heap}{M':Mc}
def Kn(l:List S)(o:Int):SpecP prog 141 [eSs l,.int .i64 o] (fun r=>r=.int .i64 (KE l o)):=by
 refine sB Rh func141 rfl call141 ?_;conv=>whnf
 cases l with
 | nil=>
   repeat' (first|(refine iM fun _=>?_;conv=>whnf)|(apply bD<;>intro _<;>first|omega|conv=>whnf))
   all_goals first
    |(exfalso;simp_all[S.avs];done)
    |exact RetK.int rfl
 | cons t r=>
   have h:(S.avs (t::r))[0]?=some (.agg t.cells):=by rw[S.avs_eq];rfl
   have j:(S.avs (t::r)).length=r.length+1:=by rw[S.avs_len];rfl
   have i:KE (t::r) o=t.id:=rfl;rw[i];repeat' (first|((first|(refine iM fun _=>?_)|(refine IdxK.at (k:=0) rfl h rfl ?_));conv=>whnf)|(apply bD<;>intro _<;>first|omega|conv=>whnf))
   all_goals first
    |(exfalso;omega)
    |exact RetK.int rfl
def doM(p:Pg)(tape watch:List Int)(M:Mc)(f:Fm)(g:Pr)(it:Item):Int×Mc:=
 if it.s.kind=7 then((((sheetOf p).l[(it.loop-1).toNat]?).map Item.next).getD 0,QK watch M it.s.id [])
 else if it.s.kind=8 then(it.loop,QK watch M it.s.id [])
 else if it.s.kind=10 then((atB g it.s.name).1,QK watch M it.s.id [])
 else if it.s.kind=2 then(if(tape.length:Int)<=M.reads then(-1,endM M 3)else(it.next,QK watch (setM {M with reads:=M.reads+1} (varM f it.s.name) (tape.getD M.reads.toNat 0)) it.s.id [tape.getD M.reads.toNat 0]))
 else bif (QM M f it.s.x).2 then
  (if it.s.kind=1 then(it.next,setM (QK watch M it.s.id [(QM M f it.s.x).1]) (varM f it.s.name) (QM M f it.s.x).1)
   else if it.s.kind=3 then(it.next,{QK watch M it.s.id [(QM M f it.s.x).1]with out:=(QK watch M it.s.id [(QM M f it.s.x).1]).out++[(QM M f it.s.x).1]})
   else if it.s.kind=5 then(if(QM M f it.s.x).1≠0 then KE it.s.I it.next else KE it.s.L it.next,QK watch M it.s.id [(QM M f it.s.x).1])
   else if it.s.kind=6 then(if(QM M f it.s.x).1≠0 then KE it.s.I it.s.id else it.next,QK watch M it.s.id [(QM M f it.s.x).1])
   else(it.next,QK watch M it.s.id [(QM M f it.s.x).1]))
 else(-1,endM M 4)
structure DoOk(p:Pg)(f:Fm)(g:Pr)(it:Item):Prop where
 lp:it.s.kind=7->1<=it.loop/\it.loop<=100000/\∃l,(sheetOf p).l[(it.loop-1).toNat]?=some l
 pr:∃k:Nat,it.D=k/\p.A[k]?=some g
 nm:it.s.kind=1\/it.s.kind=2->0<=idxF (fun y=>it.s.name==y) f.names
def q2g{w:List Int}{M:Mc}{id:Int}{v:List Int}:(QK w M id v).out=M.out:=by
 unfold QK;cases w.any fun x=>decide (id=x)<;>rfl
def Gi(p:Pg)(hcp:cntP p.A<=1000)(tape watch:List Int)(htp:tape.length<=10000000)(bs:List Nat)(vs:List Int)(M:Mc)(st:List Fm)(f:Fm)(V:M.stack=st++[f])(D:OkM p bs M)(B:M.trace.length<=10000000)(hol:M.out.length<=10000000)(hrd:0<=M.reads)(hr2:M.reads<=10000000)(g:Pr)(it:Item)(T:DoOk p f g it):SpecH prog 79 [.ptr 1000 0,.p (.agg it.cells)] (mH p tape watch bs vs M) (fun r H=>∃h,r=.p (.int .i64 (doM p tape watch M f g it).1)/\H=mH p tape watch bs h (doM p tape watch M f g it).2):=by
 refine sH Uh func79 rfl call79 ?_;conv=>whnf
 have b:=XA p tape watch bs vs M it.s.id [] B;have hf:f∈M.stack:=by rw[V];exact x8u _ (x6p.2 rfl)
 have U:=D.fr f hf;obtain⟨kp,hkp,hgp⟩:=T.pr;unfold doM;by_cases G:it.s.kind=7
 .obtain ⟨hl1,hl2,lp,P⟩:=T.lp G;have hg:((sheetOf p).l.map fun i=>AV.agg i.cells)[(it.loop-1).toNat]?=some (.agg lp.cells):=by rw[x6a,P];rfl
  rw[P];simp only[G,if_true,x9m,x9h];repeat' (first|((first|refine dA ?_|refine x6d rfl ?_|refine wI ?_|(refine IdxK.at (k:=(it.loop-1).toNat) (by omega) hg rfl ?_));conv=>whnf)|(apply bD<;>intro _<;>first|omega|conv=>whnf)|(refine CallK.heap [(1000,1000),(1001,1001),(2001,2001),(2002,2002),(2003,2003),(2004,2004),(2500,2500)] 0 (x6i (x6e _) (x6i (x6e _) (x6i (x7q Sub.nils) x7h))) (by refine x6y (j:=1000) rfl rfl ?_ ?_;exact CSub.refl _;refine x6y (j:=1001) rfl rfl ?_ ?_;exact CSub.refl _;refine x6y (j:=2001) rfl rfl ?_ ?_;exact CSub.refl _;refine x6y (j:=2002) rfl rfl ?_ ?_;exact CSub.refl _;refine x6y (j:=2003) rfl rfl ?_ ?_;exact CSub.refl _;refine x6y (j:=2004) rfl rfl ?_ ?_;exact CSub.refl _;refine x6y (j:=2500) rfl rfl ?_ ?_;exact CSub.refl _;exact x7f) b rfl rfl ?_;rintro l' H' ⟨rfl,rfl⟩;conv=>whnf))
  all_goals first
   |(exfalso;omega)
   |exact x8y _ (x6e _) ⟨vs,rfl,rfl⟩
 by_cases h8:it.s.kind=8
 .rw [if_neg G,if_pos h8];repeat' (first|(refine x6d rfl ?_;conv=>whnf)|(apply bD<;>intro _<;>first|omega|conv=>whnf)|(refine CallK.heap [(1000,1000),(1001,1001),(2001,2001),(2002,2002),(2003,2003),(2004,2004),(2500,2500)] 0 (x6i (x6e _) (x6i (x6e _) (x6i (x7q Sub.nils) x7h))) (by refine x6y (j:=1000) rfl rfl ?_ ?_;exact CSub.refl _;refine x6y (j:=1001) rfl rfl ?_ ?_;exact CSub.refl _;refine x6y (j:=2001) rfl rfl ?_ ?_;exact CSub.refl _;refine x6y (j:=2002) rfl rfl ?_ ?_;exact CSub.refl _;refine x6y (j:=2003) rfl rfl ?_ ?_;exact CSub.refl _;refine x6y (j:=2004) rfl rfl ?_ ?_;exact CSub.refl _;refine x6y (j:=2500) rfl rfl ?_ ?_;exact CSub.refl _;exact x7f) b rfl rfl ?_;rintro l' H' ⟨rfl,rfl⟩;conv=>whnf))
  all_goals first
   |(exfalso;omega)
   |exact x8y _ (x6e _) ⟨vs,rfl,rfl⟩
 by_cases F:it.s.kind=10
 .have hAt:=FI p kp g hgp hcp it.s.name;rw[if_neg G,if_neg h8,if_pos F];generalize atB g it.s.name=ab at*
  obtain⟨a1,a2⟩:=ab;repeat' (first|((first|refine dA ?_|refine x6d rfl ?_|(refine CallK.pure hAt (.cons (Sub.refl _) (.cons (Sub.int hkp) (.cons (Sub.refl _) .nil))) ?_;rintro _ rfl));conv=>whnf)|(apply bD<;>intro _<;>first|omega|conv=>whnf)|(refine CallK.heap [(1000,1000),(1001,1001),(2001,2001),(2002,2002),(2003,2003),(2004,2004),(2500,2500)] 0 (x6i (x6e _) (x6i (x6e _) (x6i (x7q Sub.nils) x7h))) (by refine x6y (j:=1000) rfl rfl ?_ ?_;exact CSub.refl _;refine x6y (j:=1001) rfl rfl ?_ ?_;exact CSub.refl _;refine x6y (j:=2001) rfl rfl ?_ ?_;exact CSub.refl _;refine x6y (j:=2002) rfl rfl ?_ ?_;exact CSub.refl _;refine x6y (j:=2003) rfl rfl ?_ ?_;exact CSub.refl _;refine x6y (j:=2004) rfl rfl ?_ ?_;exact CSub.refl _;refine x6y (j:=2500) rfl rfl ?_ ?_;exact CSub.refl _;exact x7f) b rfl rfl ?_;rintro l' H' ⟨rfl,rfl⟩;conv=>whnf))
  all_goals first
   |(exfalso;omega)
   |exact x8y _ (x6e _) ⟨vs,rfl,rfl⟩
 rw[if_neg G,if_neg h8,if_neg F];have htm:(tape.map (AV.int .i64)).length=tape.length:=x6j _;by_cases Z:it.s.kind=2
 .rw [if_pos Z];have O:=T.nm (.inr Z);have C:(idxF (fun y=>it.s.name==y) f.names).toNat<f.E.length:=by rw[U.len];exact Wc O
  have q:f.E[(idxF (fun y=>it.s.name==y) f.names).toNat]?=some (varM f it.s.name):=by unfold varM;rw[x6h,x6k C];rfl
  have d:=WE p tape watch bs vs {M with reads:=M.reads+1} st f V D.sl it.s.name (idxF (fun y=>it.s.name==y) f.names).toNat (varM f it.s.name) (z0g O).symm q;have t:varM f it.s.name<M.mem.length:=U.rng _ (x7j q);have e:=HJ D.bl t;by_cases Q:(tape.length:Int)<=M.reads
  .rw [if_pos Q];repeat' (first|((first|(refine iM fun _=>?_)|refine dA ?_|refine x6d rfl ?_);conv=>whnf)|(apply bD<;>intro _<;>first|omega|conv=>whnf))
   all_goals first
    |(exfalso;omega)
    |exact x8y _ (x6e _) ⟨vs,rfl,rfl⟩
  .rw [if_neg Q];have hgt:(tape.map (AV.int .i64))[M.reads.toNat]?=some (.int .i64 (tape.getD M.reads.toNat 0)):=by
    rw[x6a,x6h,x6k (by omega)];rfl
   generalize tape.getD M.reads.toNat 0=n at*
   have z:=P3 (p:=p) (tape:=tape) (watch:=watch) (vs:=vs) (M:={M with reads:=M.reads+1}) (v:=varM f it.s.name) (n:=n) (es:=M.stack.map (fmA bs)) D.bl t;have J:=XA p tape watch bs vs (setM {M with reads:=M.reads+1} (varM f it.s.name) n) it.s.id [n] B;rw[show mH p tape watch bs vs (setM {M with reads:=M.reads+1} (varM f it.s.name) n)=mHs p tape watch bs vs (setM {M with reads:=M.reads+1} (varM f it.s.name) n) (M.stack.map (fmA bs))from rfl,z]at J;generalize varM f it.s.name=vv at*
   repeat' (first|((first|(refine iM fun _=>?_)|refine dA ?_|refine x6d rfl ?_|refine aD ?_|refine bP ?_|refine wI ?_|(refine IdxK.at (k:=M.reads.toNat) (by omega) hgt rfl ?_)|refine GZ rfl rfl ?_|refine BT (kc:=2500) QW rfl rfl rfl rfl rfl rfl rfl rfl e ?_);conv=>whnf)|(apply bD<;>intro _<;>first|omega|conv=>whnf)|(refine CallK.heap [(1000,1000),(1001,1001),(2001,2001),(2002,2002),(2003,2003),(2004,2004),(2500,2500)] 0 (by repeat' (first|exact x7h|refine x6i ?_ ?_|exact x6e _|exact x7q Sub.nils|exact x7q (Sub.tt rfl)|exact x7q (Sub.ff rfl)|exact x7q (Sub.int (by omega)))) (by refine x6y (j:=1000) rfl rfl ?_ ?_;exact CSub.refl _;refine x6y (j:=1001) rfl rfl ?_ ?_;exact CSub.refl _;refine x6y (j:=2001) rfl rfl ?_ ?_;exact CSub.refl _;refine x6y (j:=2002) rfl rfl ?_ ?_;exact CSub.refl _;refine x6y (j:=2003) rfl rfl ?_ ?_;exact CSub.refl _;refine x6y (j:=2004) rfl rfl ?_ ?_;exact CSub.refl _;refine x6y (j:=2500) rfl rfl ?_ ?_;exact CSub.refl _;exact x7f) d rfl rfl ?_;rintro l' H' ⟨rfl,rfl⟩;conv=>whnf)|(refine CallK.heap [(1000,1000),(1001,1001),(2001,2001),(2002,2002),(2003,2003),(2004,2004),(2500,2500)] 0 (by repeat' (first|exact x7h|refine x6i ?_ ?_|exact x6e _|exact x7q Sub.nils|exact x7q (Sub.tt rfl)|exact x7q (Sub.ff rfl)|exact x7q (Sub.int (by omega)))) (by refine x6y (j:=1000) rfl rfl ?_ ?_;exact CSub.refl _;refine x6y (j:=1001) rfl rfl ?_ ?_;exact CSub.refl _;refine x6y (j:=2001) rfl rfl ?_ ?_;exact CSub.refl _;refine x6y (j:=2002) rfl rfl ?_ ?_;exact CSub.refl _;refine x6y (j:=2003) rfl rfl ?_ ?_;exact CSub.refl _;refine x6y (j:=2004) rfl rfl ?_ ?_;exact CSub.refl _;refine x6y (j:=2500) rfl rfl ?_ ?_;exact CSub.refl _;exact x7f) J rfl rfl ?_;rintro l' H' ⟨rfl,rfl⟩;conv=>whnf))
   all_goals first
    |(exfalso;omega)
    |exact x8y _ (x6e _) ⟨vs,rfl,rfl⟩
 rw[if_neg Z];have u:=YF p tape watch bs vs M st f V D it.s.x;unfold R2 at u;cases m:(QM M f it.s.x).2 with
 | false=>
   rw[m,x7k]at u;simp only[x7k];generalize QM M f it.s.x=ev at*
   obtain⟨n,ok⟩:=ev;simp only at m;subst m;repeat' (first|((first|refine x6d rfl ?_|refine Br.tt ?_);conv=>whnf)|(apply bD<;>intro _<;>first|omega|conv=>whnf)|(refine CallK.heap [(1000,1000),(1001,1001),(2001,2001),(2002,2002),(2003,2003),(2004,2004),(2500,2500)] 0 (by repeat' (first|exact x7h|refine x6i ?_ ?_|exact x6e _|exact x7q Sub.nils|exact x7q (Sub.tt rfl)|exact x7q (Sub.ff rfl)|exact x7q (Sub.int (by omega)))) (by refine x6y (j:=1000) rfl rfl ?_ ?_;exact CSub.refl _;refine x6y (j:=1001) rfl rfl ?_ ?_;exact CSub.refl _;refine x6y (j:=2001) rfl rfl ?_ ?_;exact CSub.refl _;refine x6y (j:=2002) rfl rfl ?_ ?_;exact CSub.refl _;refine x6y (j:=2003) rfl rfl ?_ ?_;exact CSub.refl _;refine x6y (j:=2004) rfl rfl ?_ ?_;exact CSub.refl _;refine x6y (j:=2500) rfl rfl ?_ ?_;exact CSub.refl _;exact x7f) u rfl rfl ?_;rintro l' H' ⟨h,rfl,rfl⟩;conv=>whnf))
   all_goals first
    |(exfalso;omega)
    |exact x8y _ (x6e _) ⟨h,rfl,rfl⟩
 | true =>
   rw[m,x7z]at u;simp only[x7z];generalize QM M f it.s.x=ev at*
   obtain⟨n,ok⟩:=ev;simp only at m;subst m;simp only;have o:=fun h=>XA p tape watch bs h M it.s.id [n] B;have N:=B2 (w:=watch) (M:=M) (id:=it.s.id) (v:=[n]);have K:=ML (w:=watch) (M:=M) (id:=it.s.id) (v:=[n]);have heo:=q2g (w:=watch) (M:=M) (id:=it.s.id) (v:=[n]);have c:=D.same N K;generalize QK watch M it.s.id [n]=M1 at*
   have hol1:M1.out.length<=10000000:=by rw[heo];exact hol
   have hom:(M1.out.map (AV.int .i64)).length=M1.out.length:=x6j _;by_cases Y:it.s.kind=1
   .rw [if_pos Y];have O:=T.nm (.inl Y);have C:(idxF (fun y=>it.s.name==y) f.names).toNat<f.E.length:=by rw[U.len];exact Wc O
    have q:f.E[(idxF (fun y=>it.s.name==y) f.names).toNat]?=some (varM f it.s.name):=by unfold varM;rw[x6h,x6k C];rfl
    have d:=fun h=>WE p tape watch bs h M1 st f (N.trans V) c.sl it.s.name (idxF (fun y=>it.s.name==y) f.names).toNat (varM f it.s.name) (z0g O).symm q;have t:varM f it.s.name<M1.mem.length:=by rw[K];exact U.rng _ (x7j q)
    have e:=HJ c.bl t;have z:=fun h=>P3 (p:=p) (tape:=tape) (watch:=watch) (vs:=h) (M:=M1) (v:=varM f it.s.name) (n:=n) (es:=M1.stack.map (fmA bs)) c.bl t;have R:∀h,mH p tape watch bs h (setM M1 (varM f it.s.name) n)=_:=fun h=>(show mH p tape watch bs h (setM M1 (varM f it.s.name) n)=mHs p tape watch bs h (setM M1 (varM f it.s.name) n) (M1.stack.map (fmA bs))from rfl).trans (z h);clear z;generalize varM f it.s.name=vv at*
    repeat' (first|((first|refine x6d rfl ?_|refine aD ?_|refine bP ?_|refine GZ rfl rfl ?_|refine BT (kc:=2500) QW rfl rfl rfl rfl rfl rfl rfl rfl e ?_|refine Br.ff ?_);conv=>whnf)|(apply bD<;>intro _<;>first|omega|conv=>whnf)|(refine CallK.heap [(1000,1000),(1001,1001),(2001,2001),(2002,2002),(2003,2003),(2004,2004),(2500,2500)] 0 (by repeat' (first|exact x7h|refine x6i ?_ ?_|exact x6e _|exact x7q Sub.nils|exact x7q (Sub.tt rfl)|exact x7q (Sub.ff rfl)|exact x7q (Sub.int (by omega)))) (by refine x6y (j:=1000) rfl rfl ?_ ?_;exact CSub.refl _;refine x6y (j:=1001) rfl rfl ?_ ?_;exact CSub.refl _;refine x6y (j:=2001) rfl rfl ?_ ?_;exact CSub.refl _;refine x6y (j:=2002) rfl rfl ?_ ?_;exact CSub.refl _;refine x6y (j:=2003) rfl rfl ?_ ?_;exact CSub.refl _;refine x6y (j:=2004) rfl rfl ?_ ?_;exact CSub.refl _;refine x6y (j:=2500) rfl rfl ?_ ?_;exact CSub.refl _;exact x7f) u rfl rfl ?_;rintro l' H' ⟨h,rfl,rfl⟩;conv=>whnf)|(refine CallK.heap [(1000,1000),(1001,1001),(2001,2001),(2002,2002),(2003,2003),(2004,2004),(2500,2500)] 0 (by repeat' (first|exact x7h|refine x6i ?_ ?_|exact x6e _|exact x7q Sub.nils|exact x7q (Sub.tt rfl)|exact x7q (Sub.ff rfl)|exact x7q (Sub.int (by omega)))) (by refine x6y (j:=1000) rfl rfl ?_ ?_;exact CSub.refl _;refine x6y (j:=1001) rfl rfl ?_ ?_;exact CSub.refl _;refine x6y (j:=2001) rfl rfl ?_ ?_;exact CSub.refl _;refine x6y (j:=2002) rfl rfl ?_ ?_;exact CSub.refl _;refine x6y (j:=2003) rfl rfl ?_ ?_;exact CSub.refl _;refine x6y (j:=2004) rfl rfl ?_ ?_;exact CSub.refl _;refine x6y (j:=2500) rfl rfl ?_ ?_;exact CSub.refl _;exact x7f) (o h) rfl rfl ?_;rintro l' H' ⟨rfl,rfl⟩;conv=>whnf)|(refine CallK.heap [(1000,1000),(1001,1001),(2001,2001),(2002,2002),(2003,2003),(2004,2004),(2500,2500)] 0 (by repeat' (first|exact x7h|refine x6i ?_ ?_|exact x6e _|exact x7q Sub.nils|exact x7q (Sub.tt rfl)|exact x7q (Sub.ff rfl)|exact x7q (Sub.int (by omega)))) (by refine x6y (j:=1000) rfl rfl ?_ ?_;exact CSub.refl _;refine x6y (j:=1001) rfl rfl ?_ ?_;exact CSub.refl _;refine x6y (j:=2001) rfl rfl ?_ ?_;exact CSub.refl _;refine x6y (j:=2002) rfl rfl ?_ ?_;exact CSub.refl _;refine x6y (j:=2003) rfl rfl ?_ ?_;exact CSub.refl _;refine x6y (j:=2004) rfl rfl ?_ ?_;exact CSub.refl _;refine x6y (j:=2500) rfl rfl ?_ ?_;exact CSub.refl _;exact x7f) (d h) rfl rfl ?_;rintro l' H' ⟨rfl,rfl⟩;conv=>whnf))
    all_goals first
     |(exfalso;omega)
     |exact x8y _ (x6e _) ⟨h,rfl,(R h).symm⟩
   rw[if_neg Y];by_cases h3:it.s.kind=3
   .rw [if_pos h3];repeat' (first|((first|refine x6d rfl ?_|refine aD ?_|refine bP ?_|refine WZ (by rw[x6j]) (by rw[x6j];omega) ?_|refine Br.ff ?_);conv=>whnf)|(apply bD<;>intro _<;>first|omega|conv=>whnf)|(refine CallK.heap [(1000,1000),(1001,1001),(2001,2001),(2002,2002),(2003,2003),(2004,2004),(2500,2500)] 0 (by repeat' (first|exact x7h|refine x6i ?_ ?_|exact x6e _|exact x7q Sub.nils|exact x7q (Sub.tt rfl)|exact x7q (Sub.ff rfl)|exact x7q (Sub.int (by omega)))) (by refine x6y (j:=1000) rfl rfl ?_ ?_;exact CSub.refl _;refine x6y (j:=1001) rfl rfl ?_ ?_;exact CSub.refl _;refine x6y (j:=2001) rfl rfl ?_ ?_;exact CSub.refl _;refine x6y (j:=2002) rfl rfl ?_ ?_;exact CSub.refl _;refine x6y (j:=2003) rfl rfl ?_ ?_;exact CSub.refl _;refine x6y (j:=2004) rfl rfl ?_ ?_;exact CSub.refl _;refine x6y (j:=2500) rfl rfl ?_ ?_;exact CSub.refl _;exact x7f) u rfl rfl ?_;rintro l' H' ⟨h,rfl,rfl⟩;conv=>whnf)|(refine CallK.heap [(1000,1000),(1001,1001),(2001,2001),(2002,2002),(2003,2003),(2004,2004),(2500,2500)] 0 (by repeat' (first|exact x7h|refine x6i ?_ ?_|exact x6e _|exact x7q Sub.nils|exact x7q (Sub.tt rfl)|exact x7q (Sub.ff rfl)|exact x7q (Sub.int (by omega)))) (by refine x6y (j:=1000) rfl rfl ?_ ?_;exact CSub.refl _;refine x6y (j:=1001) rfl rfl ?_ ?_;exact CSub.refl _;refine x6y (j:=2001) rfl rfl ?_ ?_;exact CSub.refl _;refine x6y (j:=2002) rfl rfl ?_ ?_;exact CSub.refl _;refine x6y (j:=2003) rfl rfl ?_ ?_;exact CSub.refl _;refine x6y (j:=2004) rfl rfl ?_ ?_;exact CSub.refl _;refine x6y (j:=2500) rfl rfl ?_ ?_;exact CSub.refl _;exact x7f) (o h) rfl rfl ?_;rintro l' H' ⟨rfl,rfl⟩;conv=>whnf))
    all_goals first
     |(exfalso;omega)
     |exact x8y _ (x6e _) ⟨h,rfl,by unfold mH mO;simp only[x6f,x6l];rfl⟩
   rw[if_neg h3];have hF1:=Kn it.s.I it.next;have hF2:=Kn it.s.L it.next;have hF3:=Kn it.s.I it.s.id;by_cases h5:it.s.kind=5
   .rw [if_pos h5];generalize KE it.s.I it.next=q1 at*
    generalize KE it.s.L it.next=q2 at*
    repeat' (first|((first|refine x6d rfl ?_|refine aD ?_|refine bP ?_|refine cP hF1 ?_|refine cP hF2 ?_|refine Br.ff ?_);conv=>whnf)|(apply bD<;>intro _<;>first|omega|conv=>whnf)|(apply bE<;>intro _<;>first|omega|conv=>whnf)|(refine CallK.heap [(1000,1000),(1001,1001),(2001,2001),(2002,2002),(2003,2003),(2004,2004),(2500,2500)] 0 (by repeat' (first|exact x7h|refine x6i ?_ ?_|exact x6e _|exact x7q Sub.nils|exact x7q (Sub.tt rfl)|exact x7q (Sub.ff rfl)|exact x7q (Sub.int (by omega)))) (by refine x6y (j:=1000) rfl rfl ?_ ?_;exact CSub.refl _;refine x6y (j:=1001) rfl rfl ?_ ?_;exact CSub.refl _;refine x6y (j:=2001) rfl rfl ?_ ?_;exact CSub.refl _;refine x6y (j:=2002) rfl rfl ?_ ?_;exact CSub.refl _;refine x6y (j:=2003) rfl rfl ?_ ?_;exact CSub.refl _;refine x6y (j:=2004) rfl rfl ?_ ?_;exact CSub.refl _;refine x6y (j:=2500) rfl rfl ?_ ?_;exact CSub.refl _;exact x7f) u rfl rfl ?_;rintro l' H' ⟨h,rfl,rfl⟩;conv=>whnf)|(refine CallK.heap [(1000,1000),(1001,1001),(2001,2001),(2002,2002),(2003,2003),(2004,2004),(2500,2500)] 0 (by repeat' (first|exact x7h|refine x6i ?_ ?_|exact x6e _|exact x7q Sub.nils|exact x7q (Sub.tt rfl)|exact x7q (Sub.ff rfl)|exact x7q (Sub.int (by omega)))) (by refine x6y (j:=1000) rfl rfl ?_ ?_;exact CSub.refl _;refine x6y (j:=1001) rfl rfl ?_ ?_;exact CSub.refl _;refine x6y (j:=2001) rfl rfl ?_ ?_;exact CSub.refl _;refine x6y (j:=2002) rfl rfl ?_ ?_;exact CSub.refl _;refine x6y (j:=2003) rfl rfl ?_ ?_;exact CSub.refl _;refine x6y (j:=2004) rfl rfl ?_ ?_;exact CSub.refl _;refine x6y (j:=2500) rfl rfl ?_ ?_;exact CSub.refl _;exact x7f) (o h) rfl rfl ?_;rintro l' H' ⟨rfl,rfl⟩;conv=>whnf))
    all_goals first
     |(exfalso;omega)
     | (have a:¬n=0:=(by assumption)
        exact x8y _ (x7q (Sub.int (if_pos a).symm)) ⟨h,rfl,rfl⟩)
     | (have a:n=0:=(by assumption)
        exact x8y _ (x7q (Sub.int (if_neg (fun hh=>hh a)).symm)) ⟨h,rfl,rfl⟩)
     |(exfalso;simp_all;done)
   by_cases h6:it.s.kind=6
   .rw [if_neg h5,if_pos h6];generalize KE it.s.I it.s.id=q3 at*
    repeat' (first|((first|refine x6d rfl ?_|refine aD ?_|refine bP ?_|refine cP hF3 ?_|refine Br.ff ?_);conv=>whnf)|(apply bD<;>intro _<;>first|omega|conv=>whnf)|(apply bE<;>intro _<;>first|omega|conv=>whnf)|(refine CallK.heap [(1000,1000),(1001,1001),(2001,2001),(2002,2002),(2003,2003),(2004,2004),(2500,2500)] 0 (by repeat' (first|exact x7h|refine x6i ?_ ?_|exact x6e _|exact x7q Sub.nils|exact x7q (Sub.tt rfl)|exact x7q (Sub.ff rfl)|exact x7q (Sub.int (by omega)))) (by refine x6y (j:=1000) rfl rfl ?_ ?_;exact CSub.refl _;refine x6y (j:=1001) rfl rfl ?_ ?_;exact CSub.refl _;refine x6y (j:=2001) rfl rfl ?_ ?_;exact CSub.refl _;refine x6y (j:=2002) rfl rfl ?_ ?_;exact CSub.refl _;refine x6y (j:=2003) rfl rfl ?_ ?_;exact CSub.refl _;refine x6y (j:=2004) rfl rfl ?_ ?_;exact CSub.refl _;refine x6y (j:=2500) rfl rfl ?_ ?_;exact CSub.refl _;exact x7f) u rfl rfl ?_;rintro l' H' ⟨h,rfl,rfl⟩;conv=>whnf)|(refine CallK.heap [(1000,1000),(1001,1001),(2001,2001),(2002,2002),(2003,2003),(2004,2004),(2500,2500)] 0 (by repeat' (first|exact x7h|refine x6i ?_ ?_|exact x6e _|exact x7q Sub.nils|exact x7q (Sub.tt rfl)|exact x7q (Sub.ff rfl)|exact x7q (Sub.int (by omega)))) (by refine x6y (j:=1000) rfl rfl ?_ ?_;exact CSub.refl _;refine x6y (j:=1001) rfl rfl ?_ ?_;exact CSub.refl _;refine x6y (j:=2001) rfl rfl ?_ ?_;exact CSub.refl _;refine x6y (j:=2002) rfl rfl ?_ ?_;exact CSub.refl _;refine x6y (j:=2003) rfl rfl ?_ ?_;exact CSub.refl _;refine x6y (j:=2004) rfl rfl ?_ ?_;exact CSub.refl _;refine x6y (j:=2500) rfl rfl ?_ ?_;exact CSub.refl _;exact x7f) (o h) rfl rfl ?_;rintro l' H' ⟨rfl,rfl⟩;conv=>whnf))
    all_goals first
     |(exfalso;omega)
     | (have a:¬n=0:=(by assumption)
        exact x8y _ (x7q (Sub.int (if_pos a).symm)) ⟨h,rfl,rfl⟩)
     | (have a:n=0:=(by assumption)
        exact x8y _ (x7q (Sub.int (if_neg (fun hh=>hh a)).symm)) ⟨h,rfl,rfl⟩)
     |(exfalso;simp_all;done)
   rw[if_neg h5,if_neg h6];repeat' (first|((first|refine x6d rfl ?_|refine aD ?_|refine bP ?_|refine Br.ff ?_);conv=>whnf)|(apply bD<;>intro _<;>first|omega|conv=>whnf)|(refine CallK.heap [(1000,1000),(1001,1001),(2001,2001),(2002,2002),(2003,2003),(2004,2004),(2500,2500)] 0 (by repeat' (first|exact x7h|refine x6i ?_ ?_|exact x6e _|exact x7q Sub.nils|exact x7q (Sub.tt rfl)|exact x7q (Sub.ff rfl)|exact x7q (Sub.int (by omega)))) (by refine x6y (j:=1000) rfl rfl ?_ ?_;exact CSub.refl _;refine x6y (j:=1001) rfl rfl ?_ ?_;exact CSub.refl _;refine x6y (j:=2001) rfl rfl ?_ ?_;exact CSub.refl _;refine x6y (j:=2002) rfl rfl ?_ ?_;exact CSub.refl _;refine x6y (j:=2003) rfl rfl ?_ ?_;exact CSub.refl _;refine x6y (j:=2004) rfl rfl ?_ ?_;exact CSub.refl _;refine x6y (j:=2500) rfl rfl ?_ ?_;exact CSub.refl _;exact x7f) u rfl rfl ?_;rintro l' H' ⟨h,rfl,rfl⟩;conv=>whnf)|(refine CallK.heap [(1000,1000),(1001,1001),(2001,2001),(2002,2002),(2003,2003),(2004,2004),(2500,2500)] 0 (by repeat' (first|exact x7h|refine x6i ?_ ?_|exact x6e _|exact x7q Sub.nils|exact x7q (Sub.tt rfl)|exact x7q (Sub.ff rfl)|exact x7q (Sub.int (by omega)))) (by refine x6y (j:=1000) rfl rfl ?_ ?_;exact CSub.refl _;refine x6y (j:=1001) rfl rfl ?_ ?_;exact CSub.refl _;refine x6y (j:=2001) rfl rfl ?_ ?_;exact CSub.refl _;refine x6y (j:=2002) rfl rfl ?_ ?_;exact CSub.refl _;refine x6y (j:=2003) rfl rfl ?_ ?_;exact CSub.refl _;refine x6y (j:=2004) rfl rfl ?_ ?_;exact CSub.refl _;refine x6y (j:=2500) rfl rfl ?_ ?_;exact CSub.refl _;exact x7f) (o h) rfl rfl ?_;rintro l' H' ⟨rfl,rfl⟩;conv=>whnf))
   all_goals first
    |(exfalso;omega)
    |exact x8y _ (x6e _) ⟨h,rfl,rfl⟩
inductive Cf
 |next (a:Int) (M:Mc)
 |back (gave:Int) (M:Mc)
 |fin (M:Mc)
def XM(M:Mc):Fm:=M.stack.getLast?.getD ⟨0,[],[],0⟩
def Mv(r:Int×Mc):Cf:=if r.2.fin=0 then .next r.1 r.2 else .fin r.2
def Nh(r:Int×Mc):Cf:=if r.2.fin=0 then .back r.1 r.2 else .fin r.2
def XS(M:Mc):Mc:={M with steps:=M.steps+1}
def HU(p:Pg)(t:S):Nat:=(idxF (fun g=>g.name==t.D) p.A).toNat
def stI(p:Pg)(tape watch:List Int)(M:Mc)(it:Item):Cf:=
 if it.s.kind=4 then Mv (HY p watch M (XM M) it.s (HU p it.s) (prA p (HU p it.s)))
 else if it.s.kind=9 then Nh (Pn watch M (XM M) it.s)
 else Mv (doM p tape watch M (XM M) (prA p (XM M).D) it)
def JD(p:Pg)(h:Int)(M:Mc):Cf:=
 if(XM M).call=0 then .fin (endM (popM M M.stack.dropLast) 1)
 else match(sheetOf p).l[((XM M).call-1).toNat]?with
 |none=>.fin M
 |some it=>.next it.next (if it.s.name=[]then popM M M.stack.dropLast else setM (popM M M.stack.dropLast) (varM (XM (popM M M.stack.dropLast)) it.s.name) h)
def goC(p:Pg)(tape watch:List Int)(fuel:Int):Cf->Cf
 | .next a M=>if a = -1 then .back 0 M else if M.steps=fuel then .fin (endM M 2)else match(sheetOf p).l[(a-1).toNat]?with
   |none=>.fin M
   |some it=>stI p tape watch (XS M) it
 |.back g M=>JD p g M
 |.fin M=>.fin M
def Ut(p:Pg)(tape watch:List Int)(fuel:Int):Nat->Cf->Cf
 |0,c=>c
 |n+1,c=>goC p tape watch fuel (Ut p tape watch fuel n c)
structure FrameOk(p:Pg)(M:Mc)(f:Fm):Prop where
 pr:∃g,p.A[f.D]?=some g/\f.names=varsS p g
 len:f.E.length=f.names.length
 rng:∀v∈f.E,v<M.mem.length
inductive Chain(p:Pg):List Fm->Prop
 |one {f:Fm} (h:f.call=0):Chain p [f]
 |push {l:List Fm} {g f:Fm} {q:Pr} {it:Item} (hl:Chain p (l++[g])) (h1:1<=f.call) (hle:f.call<=100000) (hit:(sheetOf p).l[(f.call-1).toNat]?=some it) (hk:it.s.kind=4) (hp:p.A[g.D]?=some q) (hi:it∈itsOf p g.D q) (hid:it.s.id=f.call):Chain p (l++[g]++[f])
structure Good(p:Pg)(M:Mc)(b:Int):Prop where
 ch:Chain p M.stack
 fr:∀f∈M.stack,FrameOk p M f
 gl:p.B.length<=M.mem.length
 sl:M.stack.length<=101
 fin:M.fin=0
 r0:0<=M.reads
 rd:M.reads<=b
 tr:(M.trace.length:Int)<=b
 ou:(M.out.length:Int)<=b
def AtOk(p:Pg)(a:Int)(k:Nat):Prop:=a = -1\/∃g it,p.A[k]?=some g/\1<=a/\(sheetOf p).l[(a-1).toNat]?=some it/\it∈itsOf p k g/\it.s.id=a
def Qt(p:Pg)(fuel:Int):Cf->Prop
 |.next a M=>Good p M M.steps/\0<=M.steps/\M.steps<=fuel/\AtOk p a (XM M).D
 |.back _ M=>Good p M M.steps/\0<=M.steps/\M.steps<=fuel
 |.fin _=>True
def cfμ(fuel:Int):Cf->Nat
 |.next _ M=>6*(fuel-M.steps).toNat+2*M.stack.length+2
 |.back _ M=>6*(fuel-M.steps).toNat+2*M.stack.length+1
 |.fin _=>0
theorem Chain.ne{p:Pg}{l:List Fm}(h:Chain p l):∃st f,l=st++[f]:=by
 cases h with
 |one h=>exact⟨[],_,rfl⟩
 |push=>exact⟨_,_,rfl⟩
def YL{M:Mc}{st:List Fm}{f:Fm}(h:M.stack=st++[f]):XM M=f:=by
 unfold XM;rw[h,List.getLast?_concat];rfl
theorem Good.top{p:Pg}{M:Mc}{b:Int}(h:Good p M b):∃st,M.stack=st++[XM M]:=by
 obtain⟨st,f,e⟩:=h.ch.ne;exact⟨st,by rw[YL e];exact e⟩
def Lb{M:Mc}(h:M'.stack=M.stack):XM M'=XM M:=by unfold XM;rw[h]
def EG{p:Pg}(hc:QS p=true){k:Nat}{g:Pr}(h:p.A[k]?=some g):(varsS p g).length<=100:=by
 have i:=(XZ hc).1;have j:=(ZG (QJ hc).1).pr g (x7j h);unfold varsS V5;simp only[x6f,x6j];omega
theorem Good.okM{p:Pg}{M:Mc}{b:Int}(hc:QS p=true)(h:Good p M b){bs:List Nat}(m:bs.length=M.mem.length):OkM p bs M:=
 ⟨m,fun f i=>⟨(h.fr f i).len,(h.fr f i).rng⟩,h.gl,x8s h.sl (by decide),fun f i=>by
   obtain⟨g,j,l⟩:=(h.fr f i).pr;have:=EG hc j;rw[l];omega⟩
theorem Good.same{p:Pg}{M:Mc}{b i:Int}(h:Good p M b)(l:M'.stack=M.stack)(m:M.mem.length<=M'.mem.length)(u:M'.fin=0)(o:0<=M'.reads)(q:M'.reads<=i)(r:(M'.trace.length:Int)<=i)(t:(M'.out.length:Int)<=i):Good p M' i:=
 ⟨by rw[l];exact h.ch,fun f j=>by
   rw[l]at j;exact⟨(h.fr f j).pr,(h.fr f j).len,fun v w=>x9o ((h.fr f j).rng v w) m⟩,x8s h.gl m,by rw[l];exact h.sl,u,o,q,r,t⟩
def XO(w:List Int)(M:Mc)(id:Int)(v:List Int):(QK w M id v).stack=M.stack/\(QK w M id v).mem=M.mem/\(QK w M id v).fin=M.fin/\(QK w M id v).steps=M.steps/\(QK w M id v).reads=M.reads/\(QK w M id v).out=M.out/\(QK w M id v).trace.length<=M.trace.length+1:=by
 refine⟨B2,ML,?_,?_,?_,q2g,Od⟩<;>(unfold QK;cases w.any fun x=>decide (id=x)<;>rfl)
theorem Good.event{p:Pg}{M:Mc}{b:Int}(h:Good p M b)(w:List Int)(id:Int)(v:List Int):Good p (QK w M id v) (b+1):=by
 obtain⟨j,l,m,q,i,o,r⟩:=XO w M id v;have:=h.tr;have:=h.ou;have:=h.rd;exact h.same j (by rw[l];exact x7u _) (m.trans h.fin) (by rw[i];exact h.r0) (by rw[i];omega) (by omega) (by rw[o];omega)
section
variable {p:Pg}
theorem AtOk.of(hc:QS p=true){k:Nat}{g:Pr}(i:p.A[k]?=some g){a:Int}(h:okI (QH p.A k) (QH p.A k+cntL g.body) a):AtOk p a k:=by
 rcases h with h|⟨m,o⟩
 .exact .inl h
 .obtain ⟨it,j,l⟩:=Zv i (k:=(a-1).toNat) (by omega) (by omega);have q:=Se hc i (by omega) (by omega) j;exact .inr ⟨g,it,i,by omega,j,l,by omega⟩
def Xi(hc:QS p=true){k:Nat}{g:Pr}(m:p.A[k]?=some g){t:S}(q:t∈flL g.body){n:Str}(o:n∈ZJ t):n∈varsS p g:=by
 have i:=KP (QJ hc).2.1 (x7j m) q;unfold knownB at i;rw[x7y]at i;have j:=x8h.1 i.1 n o;have l:KI p g n≠0:=by simpa using j
 unfold varsS;rcases OR l with h|h
 .exact x7e _ h
 .exact x8u _ h
def Bq{l:List Str}{n:Str}(h:n∈l):0<=idxF (fun y=>n==y) l:=by
 unfold idxF;have:l.any (fun y=>n==y)=true:=x8z.2 ⟨n,h,by simp⟩;rw[this,x7z];omega
def Sw{t:S}(h:t.kind≠10)(i:t.name≠[]):t.name∈ZJ t:=by
 unfold ZJ HL;have:(decide (t.kind≠10) && !(t.name==[]))=true:=by simp[h,i]
 rw[this];simp
def Ac{t:S}{a:Arg}(h:a∈t.args)(i:a.ref=true):a.name∈ZJ t:=by
 unfold ZJ;refine x8u _ (x8w.2 ⟨a,h,?_⟩);unfold YA;rw[i];simp
def q1p{f:Fm}(j:f.E.length=f.names.length){n:Str}(h:n∈f.names):varM f n∈f.E:=by
 have i:=Wc (Bq h);unfold varM;rw[x6h,x6k (by omega)];exact x6o _
end
theorem Ww{f:Fm}:∀(l:List Arg)(ps:List Nat)(M:Mc),(∀a∈l,a.ref=true->varM f a.name<M.mem.length)->(∀v∈ps,v<M.mem.length)->
  (argsM f l ps M).2.1.stack=M.stack/\M.mem.length<=(argsM f l ps M).2.1.mem.length/\(argsM f l ps M).2.1.steps=M.steps/\(argsM f l ps M).2.1.reads=M.reads/\(argsM f l ps M).2.1.out=M.out/\(argsM f l ps M).2.1.trace=M.trace/\
  ((argsM f l ps M).2.2=true->(argsM f l ps M).2.1.fin=M.fin/\(argsM f l ps M).1.length=ps.length+l.length/\∀v∈(argsM f l ps M).1,v<(argsM f l ps M).2.1.mem.length)/\((argsM f l ps M).2.2=false->(argsM f l ps M).2.1.fin=4)
 |[],ps,M,_,hp=>⟨rfl,x7u _,rfl,rfl,rfl,rfl,fun _=>⟨rfl,rfl,hp⟩,(fun h=>(by cases h))⟩
 | a::r,ps,M,ha,hp=>by
   rw[argsM];cases c:a.ref with
   | true=>
     rw[x7z];obtain⟨n,o,q,s,t,u,w,y⟩:=Ww r (ps++[varM f a.name]) M (fun b z=>ha b (x6b _ z)) fun v i=>by
      rcases x6s.1 i with i|i
      .exact hp v i
      .rw [x6p.1 i];exact ha a x6g c
     refine⟨n,o,q,s,t,u,fun h=>?_,y⟩;obtain⟨g1,k,m⟩:=w h;exact⟨g1,by rw[k,x6f,x7g,x7g,x9y];omega,m⟩
   | false=>
     rw[x7k];cases d:(QM M f a.x).2 with
     |false=>exact⟨rfl,x7u _,rfl,rfl,rfl,rfl,(fun h=>(by cases h)),fun _=>rfl⟩
     | true=>
       rw[x7z];have j:({M with mem:=M.mem++[(QM M f a.x).1]}:Mc).mem.length=M.mem.length+1:=by simp
       obtain⟨n,o,q,s,t,u,w,y⟩:=Ww (f:=f) r (ps++[M.mem.length]) {M with mem:=M.mem++[(QM M f a.x).1]} (fun b z h=>by
         have:=ha b (x6b _ z) h;rw[j];omega) fun v i=>by
        rw[j];rcases x6s.1 i with i|i
        .have:=hp v i;omega
        .rw [x6p.1 i];omega
       rw[j]at o;refine⟨n,by omega,q,s,t,u,fun h=>?_,y⟩;obtain⟨g1,k,m⟩:=w h;exact⟨g1,by rw[k,x6f,x7g,x7g,x9y];omega,m⟩
section
variable {p:Pg}(hc:QS p=true)
include hc
def G9{M:Mc}{b:Int}(k:Good p M b){g:Pr}(l:p.A[(XM M).D]?=some g){t:S}(r:t∈flL g.body){n:Str}(o:n∈ZJ t):0<=idxF (fun y=>n==y) (XM M).names/\varM (XM M) n<M.mem.length:=by
 obtain⟨st,q⟩:=k.top;have i:=k.fr (XM M) (by rw[q];exact x8u _ (x6p.2 rfl));obtain⟨s,j,m⟩:=i.pr;rw[l]at j;cases j;have h:=Xi hc l r o;rw[<-m]at h;exact⟨Bq h,i.rng _ (q1p i.len h)⟩
def TX{k:Nat}{g:Pr}(n:p.A[k]?=some g){t:S}(o:t∈flL g.body)(l:t.kind=4):idxF (fun g=>g.name==t.D) p.A=(HU p t:Nat)/\p.A[HU p t]?=some (prA p (HU p t))/\(prA p (HU p t)).C.length=t.args.length:=by
 obtain⟨i,j,h,_,_,m⟩:=FL hc (x8w.2 ⟨g,x7j n,o⟩) l;have e:HU p t=i:=by
  unfold HU;show(caI p t).toNat=i;rw[h];rfl
 refine⟨by rw[e];exact h,by rw[e];exact Fy j,?_⟩;rw[e];have:=x8m List.length m;simpa using this
def EA{M:Mc}{b:Int}(j:∀f∈M.stack,FrameOk p M f)(n:p.B.length<=M.mem.length)(m:M.fin=0)(s:0<=M.reads)(t:M.reads<=b)(u:(M.trace.length:Int)<=b)(q:(M.out.length:Int)<=b)(y:M.stack.length<=100){k:Nat}{g:Pr}(w:p.A[k]?=some g){ps:List Nat}(x:ps.length=g.C.length)(r:∀v∈ps,v<M.mem.length){call:Int}(o:Chain p (M.stack++[⟨k,varsS p g,List.range p.B.length++ps++List.range' M.mem.length g.E.length,call⟩])):Good p (GL p k g ps call M) b/\AtOk p (Um p k g) (XM (GL p k g ps call M)).D/\(GL p k g ps call M).stack.length=M.stack.length+1:=by
 have l:(GL p k g ps call M).mem.length=M.mem.length+g.E.length:=by unfold GL;simp
 refine⟨⟨o,fun f i=>?_,by rw[l];have:=n;omega,by unfold GL;simp;omega,m,s,t,u,q⟩,?_,by unfold GL;simp⟩
 .rcases x6s.1 i with i|i
  .exact ⟨(j f i).pr,(j f i).len,fun v h=>by have:=(j f i).rng v h;rw[l];omega⟩
  .rw [x6p.1 i];refine⟨⟨g,w,rfl⟩,?_,fun v h=>?_⟩
   .show (List.range p.B.length++ps++List.range' M.mem.length g.E.length).length=(varsS p g).length;unfold varsS V5;simp only[x6f,x9c,List.length_range',x6j];omega
   .have h:v∈List.range p.B.length++ps++List.range' M.mem.length g.E.length:=h;rw[l];rcases x6s.1 h with h|h
    .rcases x6s.1 h with h|h
     .have:=x9l.1 h;have:=n;omega
     .have:=r v h;omega
    .have:=List.mem_range'_1.1 h;omega
 .rw [YL (M:=GL p k g ps call M) (st:=M.stack) rfl];refine AtOk.of hc w ?_;unfold Um;split
  .exact .inr ⟨by omega,by omega⟩
  .exact .inl rfl
def q3a(watch:List Int){M:Mc}{b:Int}(j:Good p M b){g:Pr}(l:p.A[(XM M).D]?=some g){it:Item}(x:it∈itsOf p (XM M).D g)(F:it.s.kind=4){r:Int×Mc}(y:r=HY p watch M (XM M) it.s (HU p it.s) (prA p (HU p it.s))):
  r.2.steps=M.steps/\(r.2.fin=0->Good p r.2 (b+1)/\AtOk p r.1 (XM r.2).D/\r.2.stack.length=M.stack.length+1):=by
 subst y;have z:=JC x;obtain⟨_,T,U⟩:=TX hc l z F;obtain⟨st,m⟩:=j.top;obtain⟨o,d,q,t,e,B,C,E⟩:=Ww (f:=XM M) it.s.args [] M (fun a N y=>(G9 hc j l z (Ac N y)).2) (fun v c=>by cases c);unfold HY;generalize argsM (XM M) it.s.args [] M=ar at*
 obtain⟨ps,n,V⟩:=ar;simp only at o d q t e B C E⊢;cases V with
 | false=>
   refine⟨q,fun h=>?_⟩;have h:n.fin=0:=h;have:=E rfl;omega
 | true=>
   obtain⟨G,I,J⟩:=C rfl;rw[x7z];split
   .refine ⟨q,fun h=>?_⟩;have h:(5:Int)=0:=h;cases h
   .rename_i R;have w:Good p n b:=j.same o d (G.trans j.fin) (by rw[t];exact j.r0) (by rw[t];exact j.rd) (by rw[B];exact j.tr) (by rw[e];exact j.ou);have i:=w.event watch it.s.id [];obtain⟨u,K,Y,L,Z,e6,e7⟩:=XO watch n it.s.id [];have P:=WD (QJ hc).1 l z;have O:=(XZ hc).2.2;have Q:=((QY p).2.2.2.2 _ _ l).2.2.1;have k:=EA hc i.fr i.gl i.fin i.r0 i.rd i.tr i.ou (by rw[u];omega) T (ps:=ps) (by rw[I,U];simp) (fun v c=>by rw[K];exact J v c) (call:=it.s.id) (by
     rw[u,o,m];exact .push (it:=it) (m▸j.ch) (by show 1<=it.s.id;omega) (by show it.s.id<=100000;omega) (OF hc l x) F l x rfl)
    refine⟨?_,fun _=>⟨k.1,k.2.1,?_⟩⟩
    .show (QK watch n it.s.id []).steps=M.steps;rw[L,q]
    .rw [<-o,<-u];exact k.2.2
omit hc in
def I8(watch:List Int){M:Mc}{b:Int}(j:Good p M b)(t:S){r:Int×Mc}(k:r=Pn watch M (XM M) t):r.2.steps=M.steps/\(r.2.fin=0->Good p r.2 (b+1)/\r.2.stack=M.stack):=by
 subst k;have i:=fun v=>XO watch M t.id v;unfold Pn;cases t.has with
 |false=>exact⟨(i []).2.2.2.1,fun _=>⟨j.event watch t.id [],(i []).1⟩⟩
 | true=>
   rw[x7z];cases l:(QM M (XM M) t.x).2 with
   | false=>
     refine⟨rfl,fun h=>?_⟩;have h:(4:Int)=0:=h;cases h
   |true=>exact⟨(i _).2.2.2.1,fun _=>⟨j.event watch t.id _,(i _).1⟩⟩
omit hc in
def AM(tape watch:List Int){M:Mc}{f:Fm}{g:Pr}{it:Item}(y:it.s.kind≠4)(u:it.s.kind≠9){r:Int×Mc}(v:r=doM p tape watch M f g it)(i:r.2.fin=0):r.1∈UC (sheetOf p) g it:=by
 subst v;unfold doM at i⊢;unfold UC;by_cases q:it.s.kind=7
 .simp [q]
 by_cases t:it.s.kind=8
 .simp [t]
 by_cases j:it.s.kind=10
 .simp [j]
 simp only[if_neg q,if_neg t,if_neg j,if_neg u]at i⊢;by_cases o:it.s.kind=2
 .have k:¬it.s.kind=5:=by omega
  have l:¬it.s.kind=6:=by omega
  simp only[if_pos o,if_neg k,if_neg l]at i⊢;split at i
  .have i:(3:Int)=0:=i;cases i
  .rename_i h;rw[if_neg h];exact x6g
 simp only[if_neg o]at i⊢;cases w:(QM M f it.s.x).2 with
 | false=>
   rw[w]at i;have i:(4:Int)=0:=i;cases i
 | true=>
   clear i;simp only[x7z];by_cases k:it.s.kind=5
   .have m:¬it.s.kind=1:=by omega
    have n:¬it.s.kind=3:=by omega
    simp only[if_neg m,if_neg n,if_pos k];split<;>simp
   by_cases l:it.s.kind=6
   .have m:¬it.s.kind=1:=by omega
    have n:¬it.s.kind=3:=by omega
    simp only[if_neg m,if_neg n,if_neg k,if_pos l];split<;>simp
   simp only[if_neg k,if_neg l];split
   .exact x6g
   split
   .exact x6g
   .exact x6g
def q4z(tape watch:List Int){M:Mc}{b:Int}(j:Good p M b){g:Pr}(J:p.A[(XM M).D]?=some g){it:Item}(P:it∈itsOf p (XM M).D g)(N:it.s.kind≠4)(O:it.s.kind≠9){r:Int×Mc}(K:r=doM p tape watch M (XM M) g it):
  r.2.steps=M.steps/\(r.2.fin=0->Good p r.2 (b+1)/\AtOk p r.1 (XM M).D/\r.2.stack=M.stack):=by
 have t:=AM (p:=p) tape watch (M:=M) (f:=XM M) (g:=g) N O K;have q:r.2.fin=0->AtOk p r.1 (XM M).D:=fun m=>AtOk.of hc J ((BI hc J).2.1 _ (q2a P (t m))).2
 suffices h:r.2.steps=M.steps/\(r.2.fin=0->Good p r.2 (b+1)/\r.2.stack=M.stack)from⟨h.1,fun m=>⟨(h.2 m).1,q m,(h.2 m).2⟩⟩
 clear t q;subst K;have c:=fun v=>XO watch M it.s.id v;have key:∀(a:Int) v,(QK watch M it.s.id v).steps=M.steps/\((QK watch M it.s.id v).fin=0->Good p (QK watch M it.s.id v) (b+1)/\(QK watch M it.s.id v).stack=M.stack):=fun _ v=>⟨(c v).2.2.2.1,fun _=>⟨j.event watch it.s.id v,(c v).1⟩⟩;unfold doM;by_cases z:it.s.kind=7
 .rw [if_pos z];exact key 0 []
 by_cases C:it.s.kind=8
 .rw [if_neg z,if_pos C];exact key 0 []
 by_cases o:it.s.kind=10
 .rw [if_neg z,if_neg C,if_pos o];exact key 0 []
 rw[if_neg z,if_neg C,if_neg o];by_cases F:it.s.kind=2
 .rw [if_pos F];split
  .refine ⟨rfl,fun h=>?_⟩;have h:(3:Int)=0:=h;cases h
  .generalize varM (XM M) it.s.name=v;generalize tape.getD M.reads.toNat 0=n;obtain⟨k,d,e,l,u,w,y⟩:=XO watch (setM {M with reads:=M.reads+1} v n) it.s.id [n];refine⟨l,fun _=>⟨j.same k (by rw[d];unfold setM;simp) (e.trans j.fin) ?_ ?_ ?_ ?_,k⟩⟩
   .rw [u];have:=j.r0;show 0<=M.reads+1;omega
   .rw [u];have:=j.rd;show M.reads+1<=b+1;omega
   .have:=j.tr;have y:(QK watch (setM {M with reads:=M.reads+1} v n) it.s.id [n]).trace.length<=M.trace.length+1:=y;have L:((QK watch (setM {M with reads:=M.reads+1} v n) it.s.id [n]).trace.length:Int)<=b+1:=by omega
    exact L
   .rw [w];have:=j.ou;show(M.out.length:Int)<=b+1;omega
 rw[if_neg F];cases Q:(QM M (XM M) it.s.x).2 with
 | false=>
   refine⟨rfl,fun h=>?_⟩;have h:(4:Int)=0:=h;cases h
 | true=>
   rw[x7z];generalize(QM M (XM M) it.s.x).1=n;by_cases E:it.s.kind=1
   .rw [if_pos E];obtain⟨k,d,e,l,u,w,y⟩:=c [n];have i:=j.event watch it.s.id [n];exact⟨l,fun _=>⟨i.same rfl (by unfold setM;simp) i.fin i.r0 i.rd i.tr i.ou,k⟩⟩
   rw[if_neg E];by_cases G:it.s.kind=3
   .rw [if_pos G];obtain⟨k,d,e,l,u,w,y⟩:=c [n];have i:=j.event watch it.s.id [n];refine⟨l,fun _=>⟨i.same rfl (x7u _) i.fin i.r0 i.rd i.tr ?_,k⟩⟩;show(((QK watch M it.s.id [n]).out++[n]).length:Int)<=b+1;rw[w,x6f];have:=j.ou;simp only[x7g,x9y];omega
   rw[if_neg G];by_cases B:it.s.kind=5
   .rw [if_pos B];exact key 0 [n]
   by_cases I:it.s.kind=6
   .rw [if_neg B,if_pos I];exact key 0 [n]
   rw[if_neg B,if_neg I];exact key 0 [n]
def TW{M:Mc}{b:Int}(k:Good p M b){st:List Fm}(o:M.stack=st++[XM M])(i:Int):(XM M).call<=100000/\
  ((∃M',JD p i M=.fin M'/\CloseP p M st (XM M) i (-1) M'/\M'.fin=1)\/
  ∃a M',JD p i M=.next a M'/\CloseP p M st (XM M) i a M'/\Good p M' b/\AtOk p a (XM M').D/\M'.stack.length+1=M.stack.length/\M'.steps=M.steps):=by
 have B:M.stack.dropLast=st:=by rw[o,z1l]
 have t:=k.ch;rw[o]at t;generalize J:XM M=F at*
 unfold JD;rw[B,J];generalize E:st++[F]=L at t;cases t with
 | one h=>
   rename_i f;obtain⟨rfl,r⟩:=z1h (show st++[F]=[]++[f]from E) rfl;have r:F=f:=by simpa using r
   subst r;rw[if_pos h];exact⟨by omega,.inl ⟨_,rfl,.done h,rfl⟩⟩
 | push N C d u P A G K=>
   rename_i l g f q it;obtain⟨rfl,r⟩:=z1h E rfl;have r:F=f:=by simpa using r
   subst r;have c:g∈M.stack:=by rw[o];simp
   have z:=k.fr g c;refine⟨d,.inr ?_⟩;rw[if_neg (by omega),u];have m:XM (popM M (l++[g]))=g:=YL (st:=l) rfl;have x:AtOk p it.next g.D:=AtOk.of hc A (Q6 G).1;have j:Good p (popM M (l++[g])) b:=⟨N,fun f y=>⟨(k.fr f (by rw[o];exact x7e _ y)).pr,(k.fr f (by rw[o];exact x7e _ y)).len,(k.fr f (by rw[o];exact x7e _ y)).rng⟩,k.gl,by
    have h:=k.sl;rw[o,x6f]at h;show(l++[g]).length<=101;omega,k.fin,k.r0,k.rd,k.tr,k.ou⟩
   have n:(popM M (l++[g])).stack.length+1=M.stack.length:=by
    rw[o,x6f];rfl
   by_cases v:it.s.name=[]
   .refine ⟨it.next,_,rfl,?_,?_⟩
    .rw [if_pos v];exact .drop C u v
    .rw [if_pos v];exact⟨j,by rw[m];exact x,n,rfl⟩
   .obtain ⟨Q,I,O⟩:=z.pr;rw[A]at I;cases I;have w:=Xi hc A (JC G) (Sw (by omega) v);rw[<-O]at w;refine⟨it.next,_,rfl,?_,?_⟩
    .rw [if_neg v,m];exact .keep C u v rfl (Bq w)
    .rw [if_neg v];refine⟨j.same rfl (by unfold setM;simp) j.fin j.r0 j.rd j.tr j.ou,?_,n,rfl⟩;have e:XM (setM (popM M (l++[g])) (varM (XM (popM M (l++[g]))) it.s.name) i)=g:=(Lb (M:=popM M (l++[g])) rfl).trans m;rw[e];exact x
end
def mainN(p:Pg):Nat:=(idxF (fun f=>f.name==mainS) p.A).toNat
def M00(p:Pg):Mc:=⟨[],List.replicate p.B.length 0,0,0,0,[],[]⟩
def PA(p:Pg):Cf:=.next (Um p (mainN p) (prA p (mainN p))) (GL p (mainN p) (prA p (mainN p)) [] 0 (M00 p))
def Fq{p:Pg}(hc:QS p=true):idxF (fun f=>f.name==mainS) p.A=(mainN p:Nat)/\p.A[mainN p]?=some (prA p (mainN p))/\(prA p (mainN p)).C=[]:=by
 obtain⟨k,f,h,_,j,m⟩:=Sz hc;obtain⟨r,i,l,_,_,o⟩:=Wa (p:=p) (n:=mainS) (x6r.2 ⟨f,x7j h,j⟩);obtain⟨rfl,q⟩:=NN hc h (x6k i) (j.trans o.symm);have e:mainN p=k:=by unfold mainN;rw[l];rfl
 rw[e,WP h];exact⟨l,h,m⟩
def SZ{p:Pg}(hc:QS p=true){fuel:Int}(i:0<=fuel):Qt p fuel (PA p):=by
 obtain⟨n,j,k⟩:=Fq hc;have h:=EA hc (M:=M00 p) (b:=0) (fun f l=>by cases l) (by simp[M00]) rfl (z2z _) (z2z _) (z2z _) (z2z _) (x6t _) j (ps:=[]) (by rw[k];rfl) (fun v m=>by cases m) (call:=0) (.one rfl);exact⟨h.1,z2z _,i,h.2.1⟩
def PK(p:Pg)(tape watch:List Int)(fuel:Int)(n:Nat)(c:Cf):Ut p tape watch fuel (n+1) c=goC p tape watch fuel (Ut p tape watch fuel n c):=rfl
def Yp:Info:={keep:=fun i=>VC [(27,[8,9]),(26,[2,8,10,11,12,13,126]),(25,[2,8,10,11,12,13]),(24,[2,8,10,11,12,13,117]),(20,[2,8,10,11,12,13]),(23,[2,8,10,11,12,13,111]),(22,[2,8,10,11,12,13]),(18,[2,8,10,11,12,13]),(21,[2,8,10,11,12,13,100]),(19,[2,8,10,11,12,13,90,94]),(17,[2,8,10,11,12,13,90]),(16,[2,8,10,11,12,13]),(15,[2,8,10,11,12,13]),(14,[2,8,10,11,12,13]),(13,[2,8,10,11,12,13,63]),(12,[2,8,10,11,12,13]),(11,[2,8,10,11,12,13,56]),(10,[2,8,10,11,12,13]),(9,[2,8,10,11,12]),(8,[2,8,10,11]),(7,[2,8,10,34,35]),(6,[2,8,10,34,35]),(5,[2,8,10,34,35,36]),(4,[2,8,10,34,35]),(3,[2,4,8,10]),(2,[8,9]),(1,[1,2,3,4,8,24]),(0,[1,2,3,4,8])] i,sched:=I_run_Of.sched,frz:=I_run_Of.frz}
def q2q:Code->Code
 | .seq a b=>match a with
   |.scope c=>c
   |_=>q2q b
 |.scope c=>c
 |c=>c
noncomputable def q7z:Code:=q2q (Tryz.f38.body.getD .skip)
noncomputable def I7(l:Nat):Code:=(findLabel q7z l).getD .skip
def q3q{P:Program}{N:Nat}{K:Exit->St->Prop}{s:St}(h:ScopeK P tab N Yp q7z K s):ScopeK P tab N Yp q7z K s:=h
def rO:Chunk:=.obj 65 [.p (.int .i64 0),.p (.int .i64 0),.p (.int .i64 0),.p .nils,.p .nils]
def rM(p:Pg)(tape watch:List Int)(v:Nat)(M:Mc):Chunk:=.obj 145 [.p (.ip (sheetOf p).cells),.hd 2 0 p.B.length,.p (XL tape),.p (XL watch),.hd 3 0 M.stack.length,.hd 4 0 v,.p (.int .i64 M.fin),.p (.int .i64 M.steps),.p (.int .i64 M.reads),.hd 5 0 M.out.length,.hd 6 0 M.trace.length]
def rH(p:Pg)(tape watch:List Int)(bs:List Nat)(vs:List Int)(M:Mc)(it:Item):Heap:=[(0,rM p tape watch vs.length M),(2,.own 146 1 (YN bs (List.range p.B.length))),(3,.own 194 1 (M.stack.map (fmA bs))),(4,.own 2 1 (vs.map (.int .i64))),
 (5,.own 2 1 (M.out.map (.int .i64))),(6,.own 76 2 (M.trace.map evA)),(2500,.ext (.cells 2 (ZI bs M.mem))),(1,rO),(7,.obj 130 (it.cells.map .p))]
def Oo(l r:List (Nat×LV))(i:Nat):getS l i=getS (l++r) i\/getS l i=.p .any:=by
 induction l with
 |nil=>exact .inr rfl
 | cons x l h=>
   obtain⟨j,v⟩:=x;show(bif j==i then v else getS l i)=(bif j==i then v else getS (l++r) i)\/(bif j==i then v else getS l i)=.p .any;cases j==i
   .exact h
   .exact .inl rfl
def JT{N:Nat}(l r:List (Nat×LV)):Le N ⟨l++r,H⟩ ⟨l,H⟩:=Ye (Oo l r) (z1n _)
def CA(p:Pg)(tape watch:List Int)(fuel h i:Int)(bs:List Nat)(vs:List Int)(M:Mc)(it:Item):St:=⟨[(2,.p (.int .i64 fuel)),(8,.ptr 1 0),(10,.ptr 0 0),(11,.ptr 7 0),(12,.p (.int .i64 h)),(13,.p (.int .i64 i))],rH p tape watch bs vs M it⟩
structure RIx where
 c:Cf
 gv:Int
 at_:Int
 bs:List Nat
 vs:List Int
 it:Item
def RIx.st(p:Pg)(tape watch:List Int)(fuel:Int)(i:RIx):St:=match i.c with
 |.next a M=>CA p tape watch fuel i.gv a i.bs i.vs M i.it
 |.back g M=>CA p tape watch fuel g i.at_ i.bs i.vs M i.it
 |.fin M=>CA p tape watch fuel i.gv i.at_ i.bs i.vs M i.it
def RIx.lab(i:RIx):Nat:=match i.c with
 |.next _ _=>1
 |.back _ _=>0
 |.fin _=>2
def RIx.bok(i:RIx):Prop:=match i.c with
 |.next _ M=>i.bs.length=M.mem.length
 |.back _ M=>i.bs.length=M.mem.length
 |.fin _=>True
def Kgo(p:Pg)(tape watch:List Int)(fuel:Int)(c:Cf)(K:Exit->St->Prop):Prop:=∀(i:RIx)(s':St),i.c=goC p tape watch fuel c->i.bok->Le Tryz.f38.ntmps s' (i.st p tape watch fuel)->K (.goto i.lab) s'
def Lt{p:Pg}(hc:QS p=true){k:Nat}{g:Pr}(h:p.A[k]?=some g):SpecP prog 135 [.agg p.cells,.str g.name] (fun r=>r=eStrs (varsS p g)):=by
 have n:=(XZ hc).1;have o:=(ZG (QJ hc).1).pr g (x7j h);exact CD p (QJ hc).1 k g h (fun j m l i=>(NN hc l h i).1) (by omega) (by omega) (by omega)
def q7c{p:Pg}{tape watch:List Int}{M:Mc}{f:Fm}{g:Pr}{it:Item}:(doM p tape watch M f g it).2.mem.length=M.mem.length:=by
 have h:∀(M:Mc) v,(QK watch M it.s.id v).mem=M.mem:=fun M v=>ML;unfold doM;split
 .show (QK watch M it.s.id []).mem.length=_;rw[h]
 split
 .show (QK watch M it.s.id []).mem.length=_;rw[h]
 split
 .show (QK watch M it.s.id []).mem.length=_;rw[h]
 split
 .split
  .rfl
  .show (QK watch _ it.s.id _).mem.length=_;rw[h];simp[setM]
 cases(QM M f it.s.x).2 with
 |false=>rfl
 | true=>
   rw[x7z];split
   .show ((QK watch M it.s.id _).mem.set _ _).length=_;rw[x8i,h]
   split
   .show (QK watch M it.s.id _).mem.length=_;rw[h]
   split
   .show (QK watch M it.s.id _).mem.length=_;rw[h]
   split
   .show (QK watch M it.s.id _).mem.length=_;rw[h]
   .show (QK watch M it.s.id _).mem.length=_;rw[h]
def L8(p:Pg)(hc:QS p=true)(tape watch:List Int)(htp:tape.length<=10000000)(fuel:Int)(hfu:fuel<=1000000)(q:Int)(bs:List Nat)(vs:List Int)(w:Item)(a:Int)(M:Mc)(hG:Qt p fuel (.next a M))(G:bs.length=M.mem.length)(K:Exit->St->Prop)(n:Kgo p tape watch fuel (.next a M) K):
  W prog tab Tryz.f38.ntmps Yp (I7 1) K (CA p tape watch fuel q a bs vs M w):=by
 obtain⟨o,hs0,hs1,hat⟩:=hG;have hOk:=o.okM hc G;obtain⟨st,hst⟩:=o.top;have hcn:=(XZ hc).2.2;have hgc:=(XZ hc).1;have hll:=(QY p).2.2.2.1;have htr:=o.tr;have hou:=o.ou;have hrd:=o.rd;have T:=o.r0;have P:=o.fin;have U:=o.sl;unfold Kgo at n;simp only[goC]at n;by_cases ha:a = -1
 .rw [if_pos ha]at n;conv=>whnf
  repeat' (apply bD<;>intro _<;>first|omega|conv=>whnf)
  all_goals first
   |(exfalso;omega)
   |exact n ⟨.back 0 M,0,a,bs,vs,w⟩ _ rfl G (Le.of_eq rfl)
   |exact n ⟨.back 0 M,0,a,bs,vs,w⟩ _ rfl G (JT (RIx.st p tape watch fuel ⟨.back 0 M,0,a,bs,vs,w⟩).sl [_])
 rw[if_neg ha]at n;by_cases I:M.steps=fuel
 .rw [if_pos I]at n;conv=>whnf
  repeat' (first|(refine x6d rfl ?_;conv=>whnf)|(apply bD<;>intro _<;>first|omega|conv=>whnf))
  all_goals first
   |(exfalso;omega)
   |exact n ⟨.fin (endM M 2),q,a,bs,vs,w⟩ _ rfl trivial (Le.of_eq rfl)
   |exact n ⟨.fin (endM M 2),q,a,bs,vs,w⟩ _ rfl trivial (JT (RIx.st p tape watch fuel ⟨.fin (endM M 2),q,a,bs,vs,w⟩).sl [_])
 rw[if_neg I]at n;rcases hat with h|⟨g,it,hg,h1,N,hi,hid⟩
 .exact absurd h ha
 rw[N]at n;simp only at n;have c:((sheetOf p).l.map fun i=>AV.agg i.cells)[(a-1).toNat]?=some (.agg it.cells):=by rw[x6a,N];rfl
 have hlt:(a-1).toNat<(sheetOf p).l.length:=(x6n.1 N).1;have J:Good p (XS M) M.steps:=o.same rfl (x7u _) P T hrd htr hou;have e:OkM p bs (XS M):=J.okM hc G;have C:(XS M).stack=st++[XM (XS M)]:=hst;have O:(XS M).stack.length<=101:=U;have E:(XS M).trace.length<=10000000:=by show M.trace.length<=_;omega
 have R:(XS M).out.length<=10000000:=by show M.out.length<=_;omega
 have d:p.A[(XM (XS M)).D]?=some g:=hg;have Y:=JC hi;have Q:it∈itsOf p (XM (XS M)).D g:=hi;unfold stI at n;by_cases Z:it.s.kind=4
 .rw [if_pos Z]at n;obtain⟨k1,k2,k3⟩:=TX hc hg Y Z;have hpar:=V0 hc (HU p it.s);have hmf:=(ZG (QJ hc).1).pr _ (x7j k2);have v:=Uc p tape watch bs vs (XS M) st (XM (XS M)) C e O E it.s (by omega) (fun b G V=>(G9 hc J d Y (Ac G V)).1) (HU p it.s) (prA p (HU p it.s)) k2 k1 (Lt hc k2) (by omega) (by omega);generalize V:HY p watch (XS M) (XM (XS M)) it.s (HU p it.s) (prA p (HU p it.s))=r at*
  obtain⟨y,M'⟩:=r;unfold Mv at n;simp only at n v;by_cases F:M'.fin=0
  .rw [if_pos F]at n;conv=>whnf
   repeat' (first|((first|refine x6d rfl ?_|refine wI ?_|(refine IdxK.at (k:=(a-1).toNat) (by omega) c rfl ?_));conv=>whnf)|(apply bD<;>intro _<;>first|omega|conv=>whnf)|(refine CallK.heap [(1000,0),(1001,2),(2001,3),(2002,4),(2003,5),(2004,6),(2500,2500)] 0 (by repeat' (first|exact x7h|refine x6i ?_ ?_|exact x6e _|exact x7q Sub.nils|exact x7q (Sub.tt rfl)|exact x7q (Sub.ff rfl)|exact x7q (Sub.int (by omega)))) (by refine x6y (j:=0) rfl rfl ?_ ?_;exact CSub.refl _;refine x6y (j:=2) rfl rfl ?_ ?_;exact CSub.refl _;refine x6y (j:=3) rfl rfl ?_ ?_;exact CSub.refl _;refine x6y (j:=4) rfl rfl ?_ ?_;exact CSub.refl _;refine x6y (j:=5) rfl rfl ?_ ?_;exact CSub.refl _;refine x6y (j:=6) rfl rfl ?_ ?_;exact CSub.refl _;refine x6y (j:=2500) rfl rfl ?_ ?_;exact CSub.refl _;exact x7f) v rfl rfl ?_;rintro l' H' ⟨t,m,rfl,rfl,u⟩;conv=>whnf))
   all_goals first
    |(exfalso;omega)
    |exact n ⟨.next y M',q,0,t,m,it⟩ _ rfl (by assumption) (Le.of_eq rfl)
    |exact n ⟨.next y M',q,0,t,m,it⟩ _ rfl (by assumption) (JT (RIx.st p tape watch fuel ⟨.next y M',q,0,t,m,it⟩).sl [_])
  .rw [if_neg F]at n;conv=>whnf
   repeat' (first|((first|refine x6d rfl ?_|refine wI ?_|(refine IdxK.at (k:=(a-1).toNat) (by omega) c rfl ?_));conv=>whnf)|(apply bD<;>intro _<;>first|omega|conv=>whnf)|(refine CallK.heap [(1000,0),(1001,2),(2001,3),(2002,4),(2003,5),(2004,6),(2500,2500)] 0 (by repeat' (first|exact x7h|refine x6i ?_ ?_|exact x6e _|exact x7q Sub.nils|exact x7q (Sub.tt rfl)|exact x7q (Sub.ff rfl)|exact x7q (Sub.int (by omega)))) (by refine x6y (j:=0) rfl rfl ?_ ?_;exact CSub.refl _;refine x6y (j:=2) rfl rfl ?_ ?_;exact CSub.refl _;refine x6y (j:=3) rfl rfl ?_ ?_;exact CSub.refl _;refine x6y (j:=4) rfl rfl ?_ ?_;exact CSub.refl _;refine x6y (j:=5) rfl rfl ?_ ?_;exact CSub.refl _;refine x6y (j:=6) rfl rfl ?_ ?_;exact CSub.refl _;refine x6y (j:=2500) rfl rfl ?_ ?_;exact CSub.refl _;exact x7f) v rfl rfl ?_;rintro l' H' ⟨t,m,rfl,rfl,u⟩;conv=>whnf))
   all_goals first
    |(exfalso;omega)
    |exact n ⟨.fin M',q,y,t,m,it⟩ _ rfl trivial (Le.of_eq rfl)
    |exact n ⟨.fin M',q,y,t,m,it⟩ _ rfl trivial (JT (RIx.st p tape watch fuel ⟨.fin M',q,y,t,m,it⟩).sl [_])
 rw[if_neg Z]at n;by_cases h9:it.s.kind=9
 .rw [if_pos h9]at n;have B:=Vx p tape watch bs vs (XS M) st (XM (XS M)) C e E it.s;have f:(Pn watch (XS M) (XM (XS M)) it.s).2.fin=0->(Pn watch (XS M) (XM (XS M)) it.s).2.mem=(XS M).mem:=fun _=>by
   unfold Pn;cases it.s.has with
   |false=>exact ML
   | true=>cases hw:(QM (XS M) (XM (XS M)) it.s.x).2 with
     |false=>rfl
     |true=>exact ML
  generalize V:Pn watch (XS M) (XM (XS M)) it.s=r at*
  obtain⟨z,M'⟩:=r;unfold Nh at n;simp only at n B f;by_cases F:M'.fin=0
  .rw [if_pos F]at n;have u:bs.length=M'.mem.length:=by rw[f F];exact G
   conv=>whnf
   repeat' (first|((first|refine x6d rfl ?_|refine wI ?_|(refine IdxK.at (k:=(a-1).toNat) (by omega) c rfl ?_));conv=>whnf)|(apply bD<;>intro _<;>first|omega|conv=>whnf)|(refine CallK.heap [(1000,0),(1001,2),(2001,3),(2002,4),(2003,5),(2004,6),(2500,2500)] 0 (by repeat' (first|exact x7h|refine x6i ?_ ?_|exact x6e _|exact x7q Sub.nils|exact x7q (Sub.tt rfl)|exact x7q (Sub.ff rfl)|exact x7q (Sub.int (by omega)))) (by refine x6y (j:=0) rfl rfl ?_ ?_;exact CSub.refl _;refine x6y (j:=2) rfl rfl ?_ ?_;exact CSub.refl _;refine x6y (j:=3) rfl rfl ?_ ?_;exact CSub.refl _;refine x6y (j:=4) rfl rfl ?_ ?_;exact CSub.refl _;refine x6y (j:=5) rfl rfl ?_ ?_;exact CSub.refl _;refine x6y (j:=6) rfl rfl ?_ ?_;exact CSub.refl _;refine x6y (j:=2500) rfl rfl ?_ ?_;exact CSub.refl _;exact x7f) B rfl rfl ?_;rintro l' H' ⟨m,rfl,rfl⟩;conv=>whnf))
   all_goals first
    |(exfalso;omega)
    |exact n ⟨.back z M',0,a,bs,m,it⟩ _ rfl u (Le.of_eq rfl)
    |exact n ⟨.back z M',0,a,bs,m,it⟩ _ rfl u (JT (RIx.st p tape watch fuel ⟨.back z M',0,a,bs,m,it⟩).sl [_])
  .rw [if_neg F]at n;conv=>whnf
   repeat' (first|((first|refine x6d rfl ?_|refine wI ?_|(refine IdxK.at (k:=(a-1).toNat) (by omega) c rfl ?_));conv=>whnf)|(apply bD<;>intro _<;>first|omega|conv=>whnf)|(refine CallK.heap [(1000,0),(1001,2),(2001,3),(2002,4),(2003,5),(2004,6),(2500,2500)] 0 (by repeat' (first|exact x7h|refine x6i ?_ ?_|exact x6e _|exact x7q Sub.nils|exact x7q (Sub.tt rfl)|exact x7q (Sub.ff rfl)|exact x7q (Sub.int (by omega)))) (by refine x6y (j:=0) rfl rfl ?_ ?_;exact CSub.refl _;refine x6y (j:=2) rfl rfl ?_ ?_;exact CSub.refl _;refine x6y (j:=3) rfl rfl ?_ ?_;exact CSub.refl _;refine x6y (j:=4) rfl rfl ?_ ?_;exact CSub.refl _;refine x6y (j:=5) rfl rfl ?_ ?_;exact CSub.refl _;refine x6y (j:=6) rfl rfl ?_ ?_;exact CSub.refl _;refine x6y (j:=2500) rfl rfl ?_ ?_;exact CSub.refl _;exact x7f) B rfl rfl ?_;rintro l' H' ⟨m,rfl,rfl⟩;conv=>whnf))
   all_goals first
    |(exfalso;omega)
    |exact n ⟨.fin M',z,a,bs,m,it⟩ _ rfl trivial (Le.of_eq rfl)
    |exact n ⟨.fin M',z,a,bs,m,it⟩ _ rfl trivial (JT (RIx.st p tape watch fuel ⟨.fin M',z,a,bs,m,it⟩).sl [_])
 rw[if_neg h9]at n;have hpA:=WP d;rw[hpA]at n;have hDo:DoOk p (XM (XS M)) g it:=⟨fun h7=>by
   have hl:=(BI hc d).1 it Q h7;exact⟨hl.1,by omega,_,x6k (by omega)⟩,⟨_,NF _ _ _ _ _ _ it Q,d⟩,fun h12=>by
   have hO:=Dr hc d Y;have hn:=HP (hO.name (by omega));exact(G9 hc J d Y (Sw (by omega) (by simpa using hn))).1⟩
 have L:=Gi p (by omega) tape watch htp bs vs (XS M) st (XM (XS M)) C e E R T (by show M.reads<=_;omega) g it hDo;have f:(doM p tape watch (XS M) (XM (XS M)) g it).2.mem.length=(XS M).mem.length:=q7c;generalize V:doM p tape watch (XS M) (XM (XS M)) g it=r at*
 obtain⟨y,M'⟩:=r;unfold Mv at n;simp only at n L f;by_cases F:M'.fin=0
 .rw [if_pos F]at n;have u:bs.length=M'.mem.length:=by rw[f];exact G
  conv=>whnf
  repeat' (first|((first|refine x6d rfl ?_|refine wI ?_|(refine IdxK.at (k:=(a-1).toNat) (by omega) c rfl ?_));conv=>whnf)|(apply bD<;>intro _<;>first|omega|conv=>whnf)|(refine CallK.heap [(1000,0),(1001,2),(2001,3),(2002,4),(2003,5),(2004,6),(2500,2500)] 0 (by repeat' (first|exact x7h|refine x6i ?_ ?_|exact x6e _|exact x7q Sub.nils|exact x7q (Sub.tt rfl)|exact x7q (Sub.ff rfl)|exact x7q (Sub.int (by omega)))) (by refine x6y (j:=0) rfl rfl ?_ ?_;exact CSub.refl _;refine x6y (j:=2) rfl rfl ?_ ?_;exact CSub.refl _;refine x6y (j:=3) rfl rfl ?_ ?_;exact CSub.refl _;refine x6y (j:=4) rfl rfl ?_ ?_;exact CSub.refl _;refine x6y (j:=5) rfl rfl ?_ ?_;exact CSub.refl _;refine x6y (j:=6) rfl rfl ?_ ?_;exact CSub.refl _;refine x6y (j:=2500) rfl rfl ?_ ?_;exact CSub.refl _;exact x7f) L rfl rfl ?_;rintro l' H' ⟨m,rfl,rfl⟩;conv=>whnf))
  all_goals first
   |(exfalso;omega)
   |exact n ⟨.next y M',q,0,bs,m,it⟩ _ rfl u (Le.of_eq rfl)
   |exact n ⟨.next y M',q,0,bs,m,it⟩ _ rfl u (JT (RIx.st p tape watch fuel ⟨.next y M',q,0,bs,m,it⟩).sl [_])
 .rw [if_neg F]at n;conv=>whnf
  repeat' (first|((first|refine x6d rfl ?_|refine wI ?_|(refine IdxK.at (k:=(a-1).toNat) (by omega) c rfl ?_));conv=>whnf)|(apply bD<;>intro _<;>first|omega|conv=>whnf)|(refine CallK.heap [(1000,0),(1001,2),(2001,3),(2002,4),(2003,5),(2004,6),(2500,2500)] 0 (by repeat' (first|exact x7h|refine x6i ?_ ?_|exact x6e _|exact x7q Sub.nils|exact x7q (Sub.tt rfl)|exact x7q (Sub.ff rfl)|exact x7q (Sub.int (by omega)))) (by refine x6y (j:=0) rfl rfl ?_ ?_;exact CSub.refl _;refine x6y (j:=2) rfl rfl ?_ ?_;exact CSub.refl _;refine x6y (j:=3) rfl rfl ?_ ?_;exact CSub.refl _;refine x6y (j:=4) rfl rfl ?_ ?_;exact CSub.refl _;refine x6y (j:=5) rfl rfl ?_ ?_;exact CSub.refl _;refine x6y (j:=6) rfl rfl ?_ ?_;exact CSub.refl _;refine x6y (j:=2500) rfl rfl ?_ ?_;exact CSub.refl _;exact x7f) L rfl rfl ?_;rintro l' H' ⟨m,rfl,rfl⟩;conv=>whnf))
  all_goals first
   |(exfalso;omega)
   |exact n ⟨.fin M',q,y,bs,m,it⟩ _ rfl trivial (Le.of_eq rfl)
   |exact n ⟨.fin M',q,y,bs,m,it⟩ _ rfl trivial (JT (RIx.st p tape watch fuel ⟨.fin M',q,y,bs,m,it⟩).sl [_])
def B6{p:Pg}(hc:QS p=true)(tape watch:List Int){fuel:Int}{c:Cf}(h:Qt p fuel c)(G:∀M,c ≠ .fin M):Qt p fuel (goC p tape watch fuel c)/\cfμ fuel (goC p tape watch fuel c)<cfμ fuel c:=by
 cases c with
 |fin M=>exact absurd rfl (G M)
 | back g M=>
   obtain⟨j,d,f⟩:=h;obtain⟨st,b⟩:=j.top;obtain⟨_,⟨M',e,_,_⟩|⟨a,M',e,_,x,o,F,k⟩⟩:=TW hc j b g
   .show Qt p fuel (JD p g M)/\cfμ fuel (JD p g M)<_;rw[e];exact⟨trivial,succ_pos _⟩
   .show Qt p fuel (JD p g M)/\cfμ fuel (JD p g M)<_;rw[e];refine⟨⟨by rw[k];exact x,by omega,by omega,o⟩,?_⟩;show 6*(fuel-M'.steps).toNat+2*M'.stack.length+2<6*(fuel-M.steps).toNat+2*M.stack.length+1;rw[k];omega
 | next a M=>
   obtain⟨j,d,f,o⟩:=h;simp only[goC];by_cases y:a = -1
   .rw [if_pos y];exact⟨⟨j,d,f⟩,by show _+1<_+2;omega⟩
   rw[if_neg y];by_cases B:M.steps=fuel
   .rw [if_pos B];exact⟨trivial,succ_pos _⟩
   rw[if_neg B];rcases o with h|⟨g,it,C,_,z,E,_⟩
   .exact absurd h y
   rw[z];simp only;have n:Good p (XS M) M.steps:=j.same rfl (x7u _) j.fin j.r0 j.rd j.tr j.ou;have key:∀(r:Int×Mc),r.2.steps=(XS M).steps->(r.2.fin=0->Good p r.2 (M.steps+1)/\AtOk p r.1 (XM r.2).D/\r.2.stack.length<=M.stack.length+1)->Qt p fuel (Mv r)/\cfμ fuel (Mv r)<cfμ fuel (.next a M):=fun r k I=>by
    have k:r.2.steps=M.steps+1:=k;unfold Mv;by_cases m:r.2.fin=0
    .rw [if_pos m];obtain⟨t,i,L⟩:=I m;refine⟨⟨by rw[k];exact t,by omega,by omega,i⟩,?_⟩;show 6*(fuel-r.2.steps).toNat+2*r.2.stack.length+2<6*(fuel-M.steps).toNat+2*M.stack.length+2;omega
    .rw [if_neg m];exact⟨trivial,succ_pos _⟩
   unfold stI;have q:p.A[(XM (XS M)).D]?=some g:=C;have u:it∈itsOf p (XM (XS M)).D g:=E;by_cases v:it.s.kind=4
   .rw [if_pos v];obtain⟨t,i⟩:=q3a hc watch n q u v rfl;exact key _ t fun l=>⟨(i l).1,(i l).2.1,Nat.le_of_eq (i l).2.2⟩
   rw[if_neg v];by_cases w:it.s.kind=9
   .rw [if_pos w];obtain⟨t,i⟩:=I8 watch n it.s rfl;generalize Pn watch (XS M) (XM (XS M)) it.s=r at*
    have k:r.2.steps=M.steps+1:=t;unfold Nh;by_cases m:r.2.fin=0
    .rw [if_pos m];obtain⟨J,K⟩:=i m;have F:r.2.stack.length=M.stack.length:=by rw[K];rfl
     refine⟨⟨by rw[k];exact J,by omega,by omega⟩,?_⟩;show 6*(fuel-r.2.steps).toNat+2*r.2.stack.length+1<6*(fuel-M.steps).toNat+2*M.stack.length+2;omega
    .rw [if_neg m];exact⟨trivial,succ_pos _⟩
   rw[if_neg w,WP q];obtain⟨t,i⟩:=q4z hc tape watch n q u v w rfl;refine key _ t fun l=>⟨(i l).1,?_,?_⟩
   .rw [Lb (i l).2.2];exact(i l).2.1
   .rw [(i l).2.2];exact Nat.le_succ _
def Nm{p:Pg}{M:Mc}{st:List Fm}{f:Fm}{g a:Int}(h:CloseP p M st f g a M'):M'.stack=st:=by
 cases h<;>rfl
def Cw{p:Pg}{M:Mc}{st:List Fm}{f:Fm}{g a:Int}(h:CloseP p M st f g a M'):M'.mem.length=M.mem.length:=by
 cases h<;>first|rfl|simp[setM,popM]
def Hj(p:Pg)(tape watch:List Int)(bs:List Nat)(vs:List Int)(M:Mc)(st:List Fm)(f:Fm)(s:M.stack=st++[f])(n:OkM p bs M)(j:f.call<=100000)(h:Int)(i:Int)(M':Mc)(k:CloseP p M st f h i M'):
  SpecH prog 80 [.ptr 1000 0,.p (.int .i64 h)] (mH p tape watch bs vs M) (fun r H=>r=.p (.int .i64 i)/\H=mH p tape watch bs vs M'):=
 (Vq p tape watch bs vs M st f s n j h i M' k).post fun l H' ⟨es,o,q,m⟩=>⟨mH p tape watch bs vs M',⟨q,rfl⟩,by
   subst m;have e:M'.stack=st:=Nm k;refine Le.cut ?_;show CutH (mHs p tape watch bs vs M' es) (mHs p tape watch bs vs M' (M'.stack.map (fmA bs)));rw[e];exact .same (.same (.cut o (.same (.same (.same (.same .nil))))))⟩
def q8u(bs:List Nat)(M:Mc):St:=⟨[(8,.ptr 1 0),(9,.p (.int .i64 0))],[(5,.own 2 1 (M.out.map (.int .i64))),(6,.own 76 2 (M.trace.map evA)),(2500,.ext (.cells 2 (ZI bs M.mem))),
 (1,.obj 65 [.p (.int .i64 M.fin),.p (.int .i64 M.steps),.p (.int .i64 M.reads),.hd 5 0 M.out.length,.hd 6 0 M.trace.length])]⟩
def q7x(M:Mc):AV:=.agg [.int .i64 M.fin,.int .i64 M.steps,.int .i64 M.reads,XL M.out,.sl (M.trace.map evA)]
def x4v(p:Pg)(tape watch:List Int)(fuel:Int)(r:AV):Prop:=∃n M,Ut p tape watch fuel n (PA p)=.fin M/\r=.tup [q7x M,.int .i64 0]
def EO(p:Pg)(hc:QS p=true)(tape watch:List Int)(fuel:Int)(b:fuel<=1000000)(g:Int)(bs:List Nat)(vs:List Int)(h:Item)(u:Int)(M:Mc)(y:Qt p fuel (.back g M))(x:bs.length=M.mem.length)(K:Exit->St->Prop)(m:Kgo p tape watch fuel (.back g M) K)(t:∀(M':Mc),goC p tape watch fuel (.back g M)=.fin M'->K .ret (q8u bs M')):
  W prog tab Tryz.f38.ntmps Yp (I7 0) K (CA p tape watch fuel g u bs vs M h):=by
 obtain⟨i,c,d⟩:=y;have n:=i.okM hc x;obtain⟨st,l⟩:=i.top;unfold Kgo at m;simp only[goC]at m t;obtain⟨q,⟨M',e,s,r⟩|⟨a,M',e,s,v,z,f,A⟩⟩:=TW hc i l g
 .have k:=Hj p tape watch bs vs M st (XM M) l n q g (-1) M' s;have w:=t M' e;clear t m;conv=>whnf
  repeat' (first|(refine x6d rfl ?_;conv=>whnf)|(apply bD<;>intro _<;>first|omega|conv=>whnf)|(refine CallK.heap [(1000,0),(1001,2),(2001,3),(2002,4),(2003,5),(2004,6),(2500,2500)] 0 (by repeat' (first|exact x7h|refine x6i ?_ ?_|exact x6e _|exact x7q Sub.nils|exact x7q (Sub.tt rfl)|exact x7q (Sub.ff rfl)|exact x7q (Sub.int (by omega)))) (by refine x6y (j:=0) rfl rfl ?_ ?_;exact CSub.refl _;refine x6y (j:=2) rfl rfl ?_ ?_;exact CSub.refl _;refine x6y (j:=3) rfl rfl ?_ ?_;exact CSub.refl _;refine x6y (j:=4) rfl rfl ?_ ?_;exact CSub.refl _;refine x6y (j:=5) rfl rfl ?_ ?_;exact CSub.refl _;refine x6y (j:=6) rfl rfl ?_ ?_;exact CSub.refl _;refine x6y (j:=2500) rfl rfl ?_ ?_;exact CSub.refl _;exact x7f) k rfl rfl ?_;rintro l' H' ⟨rfl,rfl⟩;conv=>whnf))
  all_goals first
   |(exfalso;omega)
   |exact w
 .have k:=Hj p tape watch bs vs M st (XM M) l n q g a M' s;have o:bs.length=M'.mem.length:=by rw[Cw s];exact x
  have r:=v.fin;rw[e]at m;clear t;conv=>whnf
  repeat' (first|(apply bD<;>intro _<;>first|omega|conv=>whnf)|(refine CallK.heap [(1000,0),(1001,2),(2001,3),(2002,4),(2003,5),(2004,6),(2500,2500)] 0 (by repeat' (first|exact x7h|refine x6i ?_ ?_|exact x6e _|exact x7q Sub.nils|exact x7q (Sub.tt rfl)|exact x7q (Sub.ff rfl)|exact x7q (Sub.int (by omega)))) (by refine x6y (j:=0) rfl rfl ?_ ?_;exact CSub.refl _;refine x6y (j:=2) rfl rfl ?_ ?_;exact CSub.refl _;refine x6y (j:=3) rfl rfl ?_ ?_;exact CSub.refl _;refine x6y (j:=4) rfl rfl ?_ ?_;exact CSub.refl _;refine x6y (j:=5) rfl rfl ?_ ?_;exact CSub.refl _;refine x6y (j:=6) rfl rfl ?_ ?_;exact CSub.refl _;refine x6y (j:=2500) rfl rfl ?_ ?_;exact CSub.refl _;exact x7f) k rfl rfl ?_;rintro l' H' ⟨rfl,rfl⟩;conv=>whnf))
  all_goals first
   |(exfalso;omega)
   |exact m ⟨.next a M',g,0,bs,vs,h⟩ _ rfl o (Le.of_eq rfl)
   |exact m ⟨.next a M',g,0,bs,vs,h⟩ _ rfl o (JT (RIx.st p tape watch fuel ⟨.next a M',g,0,bs,vs,h⟩).sl [_])
def q0h(p:Pg)(tape watch:List Int)(fuel j h:Int)(bs:List Nat)(vs:List Int)(i:Item)(M:Mc)(K:Exit->St->Prop)(k:K .ret (q8u bs M)):
  W prog tab Tryz.f38.ntmps Yp (I7 2) K (CA p tape watch fuel j h bs vs M i):=by
 conv=>whnf
 repeat' (refine x6d rfl ?_;conv=>whnf)
 all_goals first
  |exact k
def q0b{bs:List Nat}{n:Nat}(h:bs.length=n):YN bs (List.range n)=bs.map cpA:=by
 have:=Sm (bs:=[]) (nb:=bs);rw[x9z,x9y,h,<-List.range_eq_range']at this;exact this
def AY{bs:List Nat}{n:Nat}(h:bs.length=n):ZI bs (List.replicate n 0)=bs.map fun b=>(b,.int .i64 0):=by
 have:=Nn (bs:=[]) (mem:=[]) (nb:=bs) rfl;rw[h]at this;exact this
def x4b:Item:=⟨⟨0,0,[],[],[],⟨0,0,[],[]⟩,false,[],[],[]⟩,0,0,0,0⟩
def Mz:Mc:=⟨[],[],0,0,0,[],[]⟩
def x6u:Sub (.agg [.int .i64 0,.int .i64 0,.int .i64 0,.nils,.nils]) (q7x Mz):=
 Sub.agg (.cons (Sub.refl _) (.cons (Sub.refl _) (.cons (Sub.refl _) (.cons Sub.nils (.cons Sub.nils .nil)))))
def x6v{k:Int}{R:AV->Prop}(h:R (.tup [q7x Mz,.int .i64 k])):RetK H (.p (.tup [.agg [.int .i64 0,.int .i64 0,.int .i64 0,.nils,.nils],.int .i64 k])) R:=
 ⟨_,.p (Sub.tup (.cons x6u (.cons (Sub.refl _) .nil))),h⟩
def q2k{M:Mc}{R:AV->Prop}{i k:TypeId}(m:getH H 5=some (.own i 1 (M.out.map (.int .i64))))(n:getH H 6=some (.own k 2 (M.trace.map evA)))(o:R (.tup [q7x M,.int .i64 0])):
  RetK H (.tup [.agg [.p (.int .i64 M.fin),.p (.int .i64 M.steps),.p (.int .i64 M.reads),.hd 5 0 M.out.length,.hd 6 0 M.trace.length],.p (.int .i64 0)]) R:=
 ⟨_,.tup (cs:=[q7x M,.int .i64 0]) rfl (fun j l c h hc=>by
   match j,h,hc with
   | 0,h,hc=>
     cases h;cases hc;refine .agg rfl fun j l c h hc=>?_
     match j,h,hc with
     |0,h,hc=>cases h;cases hc;exact .p (Sub.refl _)
     |1,h,hc=>cases h;cases hc;exact .p (Sub.refl _)
     |2,h,hc=>cases h;cases hc;exact .p (Sub.refl _)
     |3,h,hc=>cases h;cases hc;exact .hd m (by rw[x6j])
     |4,h,hc=>cases h;cases hc;exact .hd n (by rw[x6j])
     |j+5,h,_=>cases h
   |1,h,hc=>cases h;cases hc;exact .p (Sub.refl _)
   |j+2,h,_=>cases h),o⟩
def gSt(p:Pg)(tape watch:List Int)(fuel:Int)(j:Nat)(bs:List Nat):St:=⟨[(2,.p (.int .i64 fuel)),(8,.ptr 1 0),(10,.ptr 0 0),(34,.p (.int .i64 (p.B.map AV.str).length)),(35,.p (.int .i64 j))],
 [(2500,.ext (.cells 2 (bs.map fun b=>(b,.int .i64 0)))),(0,.obj 145 [.p (.ip (sheetOf p).cells),.hd 2 0 j,.p (XL tape),.p (XL watch),.hd 3 0 0,.hd 4 0 0,.p (.int .i64 0),.p (.int .i64 0),.p (.int .i64 0),.hd 5 0 0,.hd 6 0 0]),(2,.own 146 1 (bs.map cpA)),(3,.own 194 1 []),(4,.own 2 1 []),(5,.own 2 1 []),(6,.own 76 2 []),(1,rO)]⟩
structure GIx where
 j:Nat
 bs:List Nat
def q9l(p:Pg)(e:Fit p)(tape watch:List Int)(C:tape.length<=10000000)(fuel:Int):SpecP prog 38 [.agg p.cells,XL tape,.int .i64 fuel,XL watch] (fun r=>(QS p=true/\0<=fuel/\fuel<=1000000->x4v p tape watch fuel r)/\(¬(QS p=true/\0<=fuel/\fuel<=1000000)->r=.tup [q7x Mz,.int .i64 1])):=by
 refine sB Yp func38 rfl call38 ?_;conv=>whnf
 have D:=J8 p e;by_cases s:QS p=true/\0<=fuel/\fuel<=1000000
 .obtain ⟨hc,w,o⟩:=s;rw[hc]at D;obtain⟨hg,hpl,V⟩:=XZ hc;have G:=FE p (by omega) (by omega);have z:=ZQ (sheetOf p) mainS;obtain⟨m1,N,m3⟩:=Fq hc;have t:=SZ hc w;rw[show(sheetOf p).p=p from(QY p).1,m1]at z;have Z:=(ZG (QJ hc).1).pr _ (x7j N);have Y:(p.B.map AV.str).length=p.B.length:=x6j _
  skip
  refine q3q ?_;refine ScopeK.inv QW (c:=q7z) (RIx.st p tape watch fuel) RIx.lab (fun i=>Qt p fuel i.c/\i.bok/\∃n,Ut p tape watch fuel n (PA p)=i.c) (fun i=>cfμ fuel i.c) I7 ?_ ?_ ?_
  .rintro ⟨c,F,u,bs,vs,it⟩ _;cases c<;>rfl
  .refine (show ∀(K:Exit->St->Prop),(∀l s',(∃i:RIx,i.lab=l/\(Qt p fuel i.c/\i.bok/\∃n,Ut p tape watch fuel n (PA p)=i.c)/\Le Tryz.f38.ntmps s' (i.st p tape watch fuel))->K (.goto l) s')->W prog tab Tryz.f38.ntmps Yp q7z K _ from ?_) _ (fun _ _ h=>h);intro K T;conv=>whnf
   repeat' (first|((first|(refine iM fun _=>?_)|refine x6d rfl ?_|refine cP D ?_|refine cP G ?_);conv=>whnf)|(apply bD<;>intro _<;>first|omega|conv=>whnf)|(apply bN<;>intro _<;>conv=>whnf))
   all_goals try (exfalso;omega)
   all_goals try contradiction
   refine LoopK.inv QW (fun i:GIx=>gSt p tape watch fuel i.j i.bs) (fun i=>i.j<=p.B.length/\i.bs.length=i.j) (fun i=>p.B.length-i.j) ⟨0,[]⟩ ?_ ⟨x6t _,rfl⟩ ?_
   .refine Le.trans (Le.mk (H':=(gSt p tape watch fuel 0 []).H.tail) [(2,.own 146 1 []),(3,.own 194 1 []),(4,.own 2 1 []),(5,.own 2 1 []),(6,.own 76 2 [])] (by intro c hc;simp only[x6m,List.not_mem_nil,or_false]at hc;rcases hc with rfl|rfl|rfl|rfl|rfl<;>exact⟨rfl,rfl⟩) (by decide) (by show(List.map _ _).Nodup;simp[gSt]) (sl':=(gSt p tape watch fuel 0 []).sl)
     (.r (.r (.r (.r (.r .nil)))))
     (.cons rfl (.obj (.r (.cons (.nil (.head _)) (.r (.r (.cons (.nil (.tail _ (.head _))) (.cons (.nil (.tail _ (.tail _ (.head _)))) (.r (.r (.r (.cons (.nil (.tail _ (.tail _ (.tail _ (.head _))))) (.cons (.nil (.tail _ (.tail _ (.tail _ (.tail _ (.head _)))))) .nil)))))))))))) (.new (by simp) (.new (by simp) (.new (by simp) (.new (by simp) (.new (by simp) (.cons rfl (.refl _) .nil)))))))) (Av 2500 2 (by rfl) (by decide))
   rintro⟨j,bs⟩ ⟨k,m⟩;simp only at k m⊢;have U:(bs.map cpA).length=bs.length:=x6j _;rcases x6c j p.B.length with Q|Q
   .unfold gSt;conv=>whnf
    repeat' (first|((first|refine x6d rfl ?_|refine aD ?_|refine bP ?_|refine wI ?_|refine x8e (n:=j) (by omega) rfl (by show(j+1)*8<=140737488355328;omega) (by show j+1<=9223372036854775807;omega) (fun x hx=>by rcases x6p.1 hx with rfl;exact⟨rfl,rfl⟩) ?_);conv=>whnf)|(apply bD<;>intro _<;>first|omega|conv=>whnf)|(refine Wx QW 7 2500 ?_;conv=>whnf)|(refine⟨⟨rfl,rfl⟩,fun b L=>?_⟩;conv=>whnf))
    all_goals first
     |(exfalso;omega)
     |exact⟨⟨j+1,bs++[b]⟩,⟨Q,by simp[m]⟩,by simp only;omega,Le.of_eq (by simp only[x6l];rfl)⟩
   .obtain rfl:j=p.B.length:=by omega
    have J:OkM p bs (M00 p):=⟨by simp[M00,m],(fun f e=>by cases e),by simp[M00],x6t _,fun f e=>by cases e⟩;have q:=DA p tape watch bs [] (M00 p) J (x6t _) (mainN p) (prA p (mainN p)) N (Lt hc N) (by omega) (by omega) [] (x6t _) (fun v hv=>by cases hv) 0;have hq:mHq p tape watch bs [] (M00 p) (YN bs [])=[(1000,.obj 145 [.p (.ip (sheetOf p).cells),.hd 1001 0 p.B.length,.p (XL tape),.p (XL watch),.hd 2001 0 0,.hd 2002 0 0,.p (.int .i64 0),.p (.int .i64 0),.p (.int .i64 0),.hd 2003 0 0,.hd 2004 0 0]),(1001,.own 146 1 (bs.map cpA)),(2001,.own 194 1 []),(2002,.own 2 1 []),
      (2003,.own 2 1 []),(2004,.own 76 2 []),(2500,.ext (.cells 2 (bs.map fun b=>(b,.int .i64 0)))),(2005,.own 146 1 [])]:=by
     unfold mHq mH mO M00;simp only;rw[q0b m,AY m];rfl
    rw[hq]at q;unfold gSt;conv=>whnf
    repeat' (first|(refine cP z ?_;conv=>whnf)|(apply bD<;>intro _<;>first|omega|conv=>whnf))
    all_goals try (exfalso;omega)
    refine CallK.le ?_;refine CallK.nil 8 146 1 rfl (.cons rfl (.cons rfl (.row (.cons rfl .nil)))) ?_;refine CallK.heap [(1000,0),(1001,2),(2001,3),(2002,4),(2003,5),(2004,6),(2500,2500),(2005,8)] 0 (x6i (x6e _) (x6i (x6e _) (x6i (x6e _) (x6i (x6e _) x7h)))) (by refine x6y (j:=0) rfl rfl ?_ ?_;exact CSub.refl _;refine x6y (j:=2) rfl rfl ?_ ?_;exact CSub.refl _;refine x6y (j:=3) rfl rfl ?_ ?_;exact CSub.refl _;refine x6y (j:=4) rfl rfl ?_ ?_;exact CSub.refl _;refine x6y (j:=5) rfl rfl ?_ ?_;exact CSub.refl _;refine x6y (j:=6) rfl rfl ?_ ?_;exact CSub.refl _;refine x6y (j:=2500) rfl rfl ?_ ?_;exact CSub.refl _;refine x6y (j:=8) rfl rfl ?_ ?_;exact CSub.refl _;exact x7f) q rfl rfl ?_;rintro l' H' ⟨nb,rfl,rfl,hnb⟩;conv=>whnf
    have d:(bs++nb).length=(GL p (mainN p) (prA p (mainN p)) [] 0 (M00 p)).mem.length:=by
     unfold GL M00;simp only[x6f,x8j];omega
    refine⟨⟨[(2,.p (.int .i64 fuel)),(8,.ptr 1 0),(10,.ptr 0 0),(11,.ptr 7 0),(12,.p (.int .i64 0)),(54,.p (.int .i64 (Um p (mainN p) (prA p (mainN p)))))],rH p tape watch (bs++nb) [] (GL p (mainN p) (prA p (mainN p)) [] 0 (M00 p)) x4b⟩,?_,?_⟩
    .have R:=L8 p hc tape watch C fuel o 0 (bs++nb) [] x4b _ _ t d K (fun i s' k m y=>T i.lab s' ⟨i,rfl,⟨k▸(B6 hc tape watch t (fun _ h=>by cases h)).1,m,1,k.symm⟩,y⟩);conv=>whnf
     conv at R=>whnf
     exact R
    .exact Le.mk [] (by simp) (by simp) (by show(List.map _ _).Nodup;simp[rH]) (.r (.r (.r (.r (.r (.r .nil))))))
      (.cons rfl (.refl _) (.cons rfl (.refl _) (.cons rfl (.refl _) (.cons rfl (.refl _) (.cons rfl (.refl _) (.cons rfl (.refl _) (.cons rfl (.refl _) (.cons rfl (.refl _) (.cons rfl (.obj (.r (.r (.cons (.p Sub.nils) (.r (.r (.r (.r (.r (.cons (.p Sub.nils) (.cons (.p (Sub.ff rfl)) (.cons (.p Sub.nils) (.cons (.p Sub.nils) (.cons (.p Sub.nils) (.r (.r (.r (.r .nil)))))))))))))))))) .nil)))))))))
  .rintro ⟨c,F,u,bs,vs,it⟩ ⟨I,L,n,E⟩;have A:=B6 hc tape watch (p:=p) (fuel:=fuel) (c:=c) I;cases c with
   | next a M=>
     refine L8 p hc tape watch C fuel o F bs vs it a M I L _ fun i s' k m y=>?_;obtain⟨O,P⟩:=A (fun _ h=>by cases h);exact⟨i,rfl,⟨k▸O,m,n+1,by rw[PK,E,k]⟩,k▸P,y⟩
   | back g M=>
     refine EO p hc tape watch fuel o g bs vs it u M I L _ (fun i s' k m y=>?_) fun M' k=>?_
     .obtain ⟨O,P⟩:=A (fun _ h=>by cases h);exact⟨i,rfl,⟨k▸O,m,n+1,by rw[PK,E,k]⟩,k▸P,y⟩
     .exact q2k rfl rfl ⟨fun _=>⟨n+1,M',by rw[PK,E,k],rfl⟩,fun h=>absurd ⟨hc,w,o⟩ h⟩
   | fin M=>
     refine q0h p tape watch fuel F u bs vs it M _ ?_;exact q2k rfl rfl ⟨fun _=>⟨n,M,E,rfl⟩,fun h=>absurd ⟨hc,w,o⟩ h⟩
 .skip
  skip
  refine q3q ?_;refine ScopeK.inv QW (c:=q7z) (fun i:Nat=>⟨[],[]⟩) (fun i=>0) (fun _=>False) (fun i=>0) I7 (fun _ h=>h.elim) ?_ (fun _ h=>h.elim);cases hc:QS p;all_goals
   rw[hc]at D s;conv=>whnf
   repeat' (first|((first|refine x6d rfl ?_|refine cP D ?_);conv=>whnf)|(apply bD<;>intro _<;>first|omega|conv=>whnf)|(apply bN<;>intro _<;>conv=>whnf))
   all_goals first
    |contradiction
    |exact x6v ⟨fun h=>absurd h s,fun _=>rfl⟩
    |exact absurd ⟨rfl,by omega,by omega⟩ s
end Go.Ab
