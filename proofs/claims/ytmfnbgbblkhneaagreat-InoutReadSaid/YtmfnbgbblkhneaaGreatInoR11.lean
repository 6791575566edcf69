/- run: a call. -/
import Derived.Test.YtmfnbgbblkhneaaGreatInoR10
set_option linter.unusedSimpArgs false
set_option linter.unusedVariables false
set_option maxRecDepth 100000
set_option maxHeartbeats 16000000
namespace Go.Ab
open Go.Proofs.Tryz
open Go.Proofs
variable {w:List Int}
def varM(f:Fm)(name:Str):Nat:=f.vars.getD (idxF (fun y=>name==y) f.names).toNat 0
def argsM(f:Fm):List Arg->List Nat->Mc->List Nat×Mc×Bool
 |[],ps,M=>(ps,M,true)
 |a::r,ps,M=>bif a.ref then argsM f r (ps++[varM f a.name]) M else bif (QA M f a.x).2 then argsM f r (ps++[M.mem.length]) {M with mem:=M.mem++[(QA M f a.x).1]}else(ps,endM M 4,false)
theorem Zi{α:Type}{q:α->Bool}{l:List α}(h:0<=idxF q l):(idxF q l).toNat<l.length:=by
 unfold idxF at*
 cases hq:l.any q with
 |false=>rw[hq,q4f]at h;omega
 | true=>
   rw[q4v];obtain⟨x,hx,hxq⟩:=q5l.1 hq;have:=List.findIdx_lt_length_of_exists ⟨x,hx,hxq⟩;omega
theorem J8{M:Mc}{id:Int}{v:List Int}:(QJ w M id v).stack=M.stack:=by
 unfold QJ;cases w.any fun x=>decide (id=x)<;>rfl
theorem Ux{M:Mc}{id:Int}{v:List Int}:(QJ w M id v).mem=M.mem:=by
 unfold QJ;cases w.any fun x=>decide (id=x)<;>rfl
theorem ST{M:Mc}{id:Int}{v:List Int}:(QJ w M id v).trace.length<=M.trace.length+1:=by
 unfold QJ;cases w.any fun x=>decide (id=x)
 ·exact Nat.le_succ _
 ·show(M.trace++[(id,v)]).length<=_;rw[q3m];exact q4h _
theorem OkM.same{p:Pg}{bs:List Nat}{M M':Mc}(h:OkM p bs M)(hs:M'.stack=M.stack)(hm:M'.mem=M.mem):OkM p bs M':=
 ⟨by rw[hm];exact h.bl,fun f hf=>⟨(h.fr f (hs▸hf)).len,fun v hv=>by rw[hm];exact(h.fr f (hs▸hf)).rng v hv⟩,by rw[hm];exact h.gl,by rw[hs];exact h.sl,fun f hf=>h.nl f (hs▸hf)⟩
theorem OkM.cell{p:Pg}{bs:List Nat}{M:Mc}(h:OkM p bs M)(b:Nat)(n:Int):OkM p (bs++[b]) {M with mem:=M.mem++[n]}:=
 ⟨by simp[h.bl],fun f hf=>⟨(h.fr f hf).len,fun v hv=>by have:=(h.fr f hf).rng v hv;simp;omega⟩,by have:=h.gl;simp;omega,h.sl,h.nl⟩
theorem Rl{p:Pg}{tape watch:List Int}{bs:List Nat}{vs:List Int}{M:Mc}{n:Int}{b:Nat}(hM:OkM p bs M):
  mH p tape watch (bs++[b]) vs {M with mem:=M.mem++[n]}=[(1000,mO p tape watch p.globals.length M.stack.length vs.length M),(1001,.own 130 1 (UV bs (List.range p.globals.length))),(2001,.own 174 1 (M.stack.map (fmA bs))),(2002,.own 2 1 (vs.map (.int .i64))),
 (2003,.own 2 1 (M.out.map (.int .i64))),(2004,.own 78 2 (M.trace.map evA)),(2500,.ext (.cells 2 (ZH bs M.mem++[(b,.int .i64 n)])))]:=by
 have e1:=NM (bs:=bs) (nb:=[b]) (vs:=List.range p.globals.length) fun v hv=>by
  have:=q6r.1 hv;have:=hM.gl;have:=hM.bl;omega
 have e3:M.stack.map (fmA (bs++[b]))=M.stack.map (fmA bs):=List.map_congr_left fun f hf=>RB fun v hv=>by rw[hM.bl];exact(hM.fr f hf).rng v hv
 have e4:ZH (bs++[b]) (M.mem++[n])=ZH bs M.mem++[(b,.int .i64 n)]:=by
  unfold ZH;rw[q4z,List.zip_append (by rw[q3f];exact hM.bl)];rfl
 unfold mH;simp only;rw[e1,e3,e4];rfl
def KS(p:Pg)(watch:List Int)(M:Mc)(f:Fm)(t:S)(k:Nat)(g:Pr):Int×Mc:=bif (argsM f t.args [] M).2.2 then(if 100<(argsM f t.args [] M).2.1.stack.length then(-1,endM (argsM f t.args [] M).2.1 5)else(Vh p k g,KV p k g (argsM f t.args [] M).1 t.id (QJ watch (argsM f t.args [] M).2.1 t.id [])))else(-1,(argsM f t.args [] M).2.1)
structure CallI(p:Pg)(M0:Mc)(f:Fm)(t:S)(j:Nat)(ps bs:List Nat)(M:Mc):Prop where
 le:j<=t.args.length
 ok:OkM p bs M
 sk:M.stack=M0.stack
 tr:M.trace=M0.trace
 ag:argsM f (t.args.drop j) ps M=argsM f t.args [] M0
 pl:ps.length=j
 pr:∀v∈ps,v<M.mem.length
def AN:Info:={keep:=I_run_machine_call.keep,sched:=I_run_machine_call.sched,frz:=fun i=>bif Nat.beq i 10 then []else I_run_machine_call.frz i}
theorem Xx(p:Pg)(tape watch:List Int)(bs:List Nat)(vs:List Int)(M:Mc)(st:List Fm)(f:Fm)(hs:M.stack=st++[f])(hM:OkM p bs M)(hsl:M.stack.length<=101)(htl:M.trace.length<=10000000)(t:S)(hal:t.args.length<=100)(har:∀a∈t.args,a.ref=true->0<=idxF (fun y=>a.name==y) f.names)(k:Nat)(g:Pr)(hk:p.procs[k]?=some g)(hki:idxF (fun f=>f.name==t.proc) p.procs=k)(hV:SpecP prog 117 [.agg p.cells,.str g.name] (fun r=>r=eStrs (varsS p g)))(hgl:p.globals.length<=1000)(hvl:g.vars.length<=1000):SpecH prog 69 [.ptr 1000 0,.p (.agg t.cells)] (mH p tape watch bs vs M) (fun r H=>∃bs' vs',r=.p (.int .i64 (KS p watch M f t k g).1)/\H=mH p tape watch bs' vs' (KS p watch M f t k g).2/\bs'.length=(KS p watch M f t k g).2.mem.length):=by
 refine sH AN func69 rfl call69 ?_;conv=>whnf
 have hlA:(t.args.map fun a=>AV.agg a.cells).length=t.args.length:=q3f _;have hPr:SpecP prog 49 [.ip (sheetOf p).cells,.str t.proc] (fun r=>r=.int .i64 k):=by
  have:=XN (sheetOf p) t.proc;rw[show(sheetOf p).p=p from rfl,hki]at this;exact this
 repeat' (refine iM fun _=>?_;conv=>whnf)
 refine LoopK.inv QY (fun x:Nat×List Nat×List Nat×List Int×Mc=>⟨[(0,.ptr 1000 0),(3,.p (.ip t.cells)),(5,.hd 0 0 x.2.1.length),(12,.p (.sl (t.args.map fun a=>.agg a.cells))),(13,.p (.int .i64 (t.args.map fun a=>AV.agg a.cells).length)),(14,.p (.int .i64 x.1))],mH p tape watch x.2.2.1 x.2.2.2.1 x.2.2.2.2++[(0,.own 130 1 (UV x.2.2.1 x.2.1))]⟩)
  (fun x=>CallI p M f t x.1 x.2.1 x.2.2.1 x.2.2.2.2) (fun x=>t.args.length-x.1) (0,[],bs,vs,M) ?_ ⟨q3o _,hM,rfl,rfl,rfl,rfl,by simp⟩ ?_
 ·exact Le.mk [(0,.own 130 1 [])] (by simp[Chunk.new0];rfl) (by simp) (by simp[mH]) (.r (.r (.cons (.nil q3d) (.r (.r (.r .nil)))))) (.cons rfl (.refl _) (.cons rfl (.refl _) (.cons rfl (.refl _) (.cons rfl (.refl _) (.cons rfl (.refl _) (.cons rfl (.refl _) (.cons rfl (.refl _) (.new q3d .nil))))))))
 rintro⟨j,ps,bs1,vs1,M1⟩ hI;simp only at hI⊢;obtain⟨h1,hM1,hsk,htr,hag,hpl,hpr⟩:=hI;have hs1:M1.stack=st++[f]:=hsk.trans hs;rcases q4w j t.args.length with hj|hj
 ·have hdr:t.args.drop j=t.args[j]::t.args.drop (j+1):=QH hj;rw[hdr,argsM]at hag;have hW:=UX p tape watch bs1 vs1 M1 st f hs1 hM1 t.args[j].x;have hArl:=har t.args[j] (q4u hj);have hf:f∈M1.stack:=by rw[hs1];exact q5y _ (q3r.2 rfl)
  have hF:=hM1.fr f hf;have hpll:(UV bs1 ps).length=ps.length:=q3f _;cases hrf:t.args[j].ref with
  | true=>
    rw[hrf,q4v]at hag;have h0:=hArl hrf;have hlt:=Zi h0;have hvi:(idxF (fun y=>t.args[j].name==y) f.names).toNat<f.vars.length:=by rw[hF.len];exact hlt
    have hWh:=WZ p tape watch bs1 vs1 M1 st f hs1 hM1.sl t.args[j].name (idxF (fun y=>t.args[j].name==y) f.names).toNat (varM f t.args[j].name) (q6i h0).symm (by unfold varM;rw[q3p,q3b hvi];rfl);have hvr:varM f t.args[j].name<M1.mem.length:=by
     refine hF.rng _ ?_;unfold varM;rw[q3p,q3b hvi];exact q4u hvi
    have hpn:UV bs1 (ps++[varM f t.args[j].name])=UV bs1 ps++[cpA (bs1.getD (varM f t.args[j].name) 0)]:=q4z;have fin:∃x:Nat×List Nat×List Nat×List Int×Mc,CallI p M f t x.1 x.2.1 x.2.2.1 x.2.2.2.2/\t.args.length-x.1<t.args.length-j/\x=(j+1,ps++[varM f t.args[j].name],bs1,vs1,M1):=
     ⟨(j+1,ps++[varM f t.args[j].name],bs1,vs1,M1),⟨hj,hM1,hsk,htr,hag,by simp[hpl],fun v hv=>by
       rcases q3a.1 hv with hv|hv
       ·exact hpr v hv
       ·rw[q3r.1 hv];exact hvr⟩,by simp only;omega,rfl⟩
    clear hag;generalize varM f t.args[j].name=vv at*
    generalize bs1.getD vv 0=cb at*
    generalize UV bs1 ps=R at*
    conv=>whnf
    repeat' (first|((first|refine q3l rfl ?_|refine aD ?_|refine bP ?_|(refine iA fun _=>?_)|refine wI ?_|refine q6g (n:=ps.length) hpll.symm rfl (by show(ps.length+1)*8<=140737488355328;omega) (by show ps.length+1<=9223372036854775807;omega) (fun x hx=>by rcases q3r.1 hx with rfl;exact⟨rfl,rfl⟩) ?_);conv=>whnf)|(apply bD<;>intro _<;>first|omega|conv=>whnf)|(apply bB<;>intro _<;>conv=>whnf)|(refine CallK.heap [(1000,1000),(1001,1001),(2001,2001),(2002,2002),(2003,2003),(2004,2004),(2500,2500)] 0 (by repeat' (first|exact q4d|refine q3i ?_ ?_|exact q3e _|exact q4q Sub.nils|exact q4q (Sub.tt rfl)|exact q4q (Sub.ff rfl)|exact q4q (Sub.int (by omega)))) (by refine q3h (j:=1000) rfl rfl ?_ ?_;exact CSub.refl _;refine q3h (j:=1001) rfl rfl ?_ ?_;exact CSub.refl _;refine q3h (j:=2001) rfl rfl ?_ ?_;exact CSub.refl _;refine q3h (j:=2002) rfl rfl ?_ ?_;exact CSub.refl _;refine q3h (j:=2003) rfl rfl ?_ ?_;exact CSub.refl _;refine q3h (j:=2004) rfl rfl ?_ ?_;exact CSub.refl _;refine q3h (j:=2500) rfl rfl ?_ ?_;exact CSub.refl _;exact q4b) hWh rfl rfl ?_;rintro l' H' ⟨rfl,rfl⟩;conv=>whnf))
    all_goals first
     | (have h9:t.args[j].ref=false:=by assumption
        rw[hrf]at h9;cases h9)
     | (obtain⟨x,hx,hμ,rfl⟩:=fin
        exact⟨_,hx,hμ,Le.of_eq (by simp only[hpn,q3m,q4m,q6m]<;>rfl)⟩)
  | false =>
    rw[hrf,q4f]at hag;have hch:=fun(vs2:List Int) (b:Nat)=>Rl (tape:=tape) (watch:=watch) (vs:=vs2) (n:=(QA M1 f t.args[j].x).1) (b:=b) hM1;have hpe:=fun(b:Nat)=>NM (bs:=bs1) (nb:=[b]) (vs:=ps) fun v hv=>by rw[hM1.bl];exact hpr v hv
    have hpb:∀b,UV (bs1++[b]) [M1.mem.length]=[cpA b]:=fun b=>by
     unfold UV;rw[q4t,q8a,q3p,<-hM1.bl,q5x (q4h _),Nat.sub_self];rfl
    have hpn:∀b,UV (bs1++[b]) (ps++[M1.mem.length])=UV bs1 ps++[cpA b]:=fun b=>by
     rw[show UV (bs1++[b]) (ps++[M1.mem.length])=UV (bs1++[b]) ps++UV (bs1++[b]) [M1.mem.length]from q4z,hpe,hpb]
    unfold Fc at hW;cases hok:(QA M1 f t.args[j].x).2 with
    | false=>
      rw[hok,q4f]at hag hW;have hres:KS p watch M f t k g=(-1,endM M1 4):=by
       unfold KS;rw[<-hag];rfl
      have hbl:bs1.length=(KS p watch M f t k g).2.mem.length:=by rw[hres];exact hM1.bl
      rw[hres]at hbl⊢;generalize hev:QA M1 f t.args[j].x=ev at*
      obtain⟨n,ok⟩:=ev;simp only at hok;subst hok;clear hag hch;conv=>whnf
      repeat' (first|((first|refine q3l rfl ?_|(refine iA fun _=>?_)|refine Br.tt ?_);conv=>whnf)|(apply bD<;>intro _<;>first|omega|conv=>whnf)|(apply bB<;>intro _<;>conv=>whnf)|(refine CallK.heap [(1000,1000),(1001,1001),(2001,2001),(2002,2002),(2003,2003),(2004,2004),(2500,2500)] 0 (by repeat' (first|exact q4d|refine q3i ?_ ?_|exact q3e _|exact q4q Sub.nils|exact q4q (Sub.tt rfl)|exact q4q (Sub.ff rfl)|exact q4q (Sub.int (by omega)))) (by refine q3h (j:=1000) rfl rfl ?_ ?_;exact CSub.refl _;refine q3h (j:=1001) rfl rfl ?_ ?_;exact CSub.refl _;refine q3h (j:=2001) rfl rfl ?_ ?_;exact CSub.refl _;refine q3h (j:=2002) rfl rfl ?_ ?_;exact CSub.refl _;refine q3h (j:=2003) rfl rfl ?_ ?_;exact CSub.refl _;refine q3h (j:=2004) rfl rfl ?_ ?_;exact CSub.refl _;refine q3h (j:=2500) rfl rfl ?_ ?_;exact CSub.refl _;exact q4b) hW rfl rfl ?_;rintro l' H' ⟨vs',rfl,rfl⟩;conv=>whnf))
      all_goals first
       |contradiction
       |(exfalso;simp_all;done)
       |exact q5u _ (q3e _) ⟨bs1,vs',rfl,rfl,hbl⟩
    | true=>
      rw [hok,q4v]at hag hW;have fin:∀(vs2:List Int)(b:Nat),∃x:Nat×List Nat×List Nat×List Int×Mc,CallI p M f t x.1 x.2.1 x.2.2.1 x.2.2.2.2/\t.args.length-x.1<t.args.length-j/\x=(j+1,ps++[M1.mem.length],bs1++[b],vs2,{M1 with mem:=M1.mem++[(QA M1 f t.args[j].x).1]}):=fun vs2 b=>
       ⟨(j+1,ps++[M1.mem.length],bs1++[b],vs2,{M1 with mem:=M1.mem++[(QA M1 f t.args[j].x).1]}),⟨hj,hM1.cell b _,hsk,htr,hag,by simp[hpl],fun v hv=>by
         rcases q3a.1 hv with hv|hv
         ·have:=hpr v hv;simp;omega
         ·rw[q3r.1 hv];simp⟩,by simp only;omega,rfl⟩
      generalize hev:QA M1 f t.args[j].x=ev at*
      obtain⟨n,ok⟩:=ev;simp only at hok;subst hok;have hpll:(UV bs1 ps).length=ps.length:=q3f _;clear hag;conv=>whnf
      repeat' (first|((first|refine q3l rfl ?_|refine aD ?_|refine bP ?_|(refine iA fun _=>?_)|refine wI ?_|refine q6g (n:=ps.length) hpll.symm rfl (by show(ps.length+1)*8<=140737488355328;omega) (by show ps.length+1<=9223372036854775807;omega) (fun x hx=>by rcases q3r.1 hx with rfl;exact⟨rfl,rfl⟩) ?_|refine Br.ff ?_);conv=>whnf)|(apply bD<;>intro _<;>first|omega|conv=>whnf)|(apply bB<;>intro _<;>conv=>whnf)|(refine CallK.heap [(1000,1000),(1001,1001),(2001,2001),(2002,2002),(2003,2003),(2004,2004),(2500,2500)] 0 (by repeat' (first|exact q4d|refine q3i ?_ ?_|exact q3e _|exact q4q Sub.nils|exact q4q (Sub.tt rfl)|exact q4q (Sub.ff rfl)|exact q4q (Sub.int (by omega)))) (by refine q3h (j:=1000) rfl rfl ?_ ?_;exact CSub.refl _;refine q3h (j:=1001) rfl rfl ?_ ?_;exact CSub.refl _;refine q3h (j:=2001) rfl rfl ?_ ?_;exact CSub.refl _;refine q3h (j:=2002) rfl rfl ?_ ?_;exact CSub.refl _;refine q3h (j:=2003) rfl rfl ?_ ?_;exact CSub.refl _;refine q3h (j:=2004) rfl rfl ?_ ?_;exact CSub.refl _;refine q3h (j:=2500) rfl rfl ?_ ?_;exact CSub.refl _;exact q4b) hW rfl rfl ?_;rintro l' H' ⟨vs',rfl,rfl⟩;conv=>whnf)|(refine MT QY 1 2500 ?_;conv=>whnf)|(refine⟨⟨rfl,rfl⟩,fun b hb=>?_⟩;conv=>whnf))
      all_goals first
       |contradiction
       | (have h9:t.args[j].ref=true:=(by assumption)
          rw[hrf]at h9;cases h9)
       | (have h9:(!true)=true:=(by assumption)
          cases h9)
       | (obtain⟨x,hx,hμ,rfl⟩:=fin vs' b
          exact⟨_,hx,hμ,Le.of_eq (by simp only[hpn,hch,q3m,q4m,q6m]<;>rfl)⟩)
 ·obtain rfl:j=t.args.length:=by omega
  rw[q4j (q4h _),argsM]at hag;have hevs:=J8 (w:=watch) (M:=M1) (id:=t.id) (v:=[]);have hevm:=Ux (w:=watch) (M:=M1) (id:=t.id) (v:=[]);have hsl1:M1.stack.length<=101:=by rw[hsk];exact hsl
  have hE0:=XP p tape watch bs1 vs1 M1 t.id [] (by rw[htr];exact htl);have hOp:=GC p tape watch bs1 vs1 (QJ watch M1 t.id []) (hM1.same hevs hevm) (by rw[hevs];omega) k g hk hV hgl hvl ps (by omega) (fun v hv=>by rw[hevm];exact hpr v hv) t.id;have hML:(M1.stack.map (fmA bs1)).length=M1.stack.length:=q3f _;by_cases hbig:100<M1.stack.length
  ·have hres:KS p watch M f t k g=(-1,endM M1 5):=by
    unfold KS;rw[<-hag];simp only[q4v];rw[if_pos hbig]
   have hbl:bs1.length=(KS p watch M f t k g).2.mem.length:=by rw[hres];exact hM1.bl
   rw[hres]at hbl⊢;clear hag;conv=>whnf
   repeat' (first|((first|(refine iM fun _=>?_)|refine q3l rfl ?_);conv=>whnf)|(apply bD<;>intro _<;>first|omega|conv=>whnf))
   all_goals first
    |(exfalso;omega)
    |exact q5u _ (q3e _) ⟨bs1,vs1,rfl,rfl,hbl⟩
  ·have hres:KS p watch M f t k g=(Vh p k g,KV p k g ps t.id (QJ watch M1 t.id [])):=by
    unfold KS;rw[<-hag];simp only[q4v];rw[if_neg hbig]
   have hbl:∀nb:List Nat,nb.length=g.vars.length->(bs1++nb).length=(KS p watch M f t k g).2.mem.length:=fun nb hnb=>by
    rw[hres];unfold KV;simp only[q3m,q5d];rw[hevm,hM1.bl,hnb]
   rw[hres]at hbl⊢;clear hag;conv=>whnf
   repeat' (first|((first|(refine iM fun _=>?_)|refine dA ?_|refine cP hPr ?_);conv=>whnf)|(apply bD<;>intro _<;>first|omega|conv=>whnf)|(refine CallK.heap [(1000,1000),(1001,1001),(2001,2001),(2002,2002),(2003,2003),(2004,2004),(2500,2500)] 0 (q3i (q3e _) (q3i (q3e _) (q3i (q4q Sub.nils) q4d))) (by refine q3h (j:=1000) rfl rfl ?_ ?_;exact CSub.refl _;refine q3h (j:=1001) rfl rfl ?_ ?_;exact CSub.refl _;refine q3h (j:=2001) rfl rfl ?_ ?_;exact CSub.refl _;refine q3h (j:=2002) rfl rfl ?_ ?_;exact CSub.refl _;refine q3h (j:=2003) rfl rfl ?_ ?_;exact CSub.refl _;refine q3h (j:=2004) rfl rfl ?_ ?_;exact CSub.refl _;refine q3h (j:=2500) rfl rfl ?_ ?_;exact CSub.refl _;exact q4b) hE0 rfl rfl ?_;rintro l' H' ⟨rfl,rfl⟩;conv=>whnf)|(refine CallK.heap [(1000,1000),(1001,1001),(2001,2001),(2002,2002),(2003,2003),(2004,2004),(2500,2500),(2005,0)] 0 (by repeat' (first|exact q4d|refine q3i ?_ ?_|exact q3e _|exact q4q Sub.nils|exact q4q (Sub.tt rfl)|exact q4q (Sub.ff rfl)|exact q4q (Sub.int (by omega)))) (by refine q3h (j:=1000) rfl rfl ?_ ?_;exact CSub.refl _;refine q3h (j:=1001) rfl rfl ?_ ?_;exact CSub.refl _;refine q3h (j:=2001) rfl rfl ?_ ?_;exact CSub.refl _;refine q3h (j:=2002) rfl rfl ?_ ?_;exact CSub.refl _;refine q3h (j:=2003) rfl rfl ?_ ?_;exact CSub.refl _;refine q3h (j:=2004) rfl rfl ?_ ?_;exact CSub.refl _;refine q3h (j:=2500) rfl rfl ?_ ?_;exact CSub.refl _;refine q3h (j:=0) rfl rfl ?_ ?_;exact CSub.refl _;exact q4b) hOp rfl rfl ?_;rintro l' H' ⟨nb,rfl,rfl,hnb⟩;conv=>whnf))
   all_goals first
    |(exfalso;omega)
    |exact q5u _ (q3e _) ⟨bs1++nb,vs1,rfl,rfl,hbl nb hnb⟩
section
variable {P:Program}{T:Tab}{N:Nat}{o:Oper}{s:St}
theorem Cl{l:List (Nat×AV)}(h:(l.map (·.1)).Nodup){i j:Nat}{x y:Nat×AV}(hi:l[i]?=some x)(hj:l[j]?=some y)(he:x.1=y.1):i=j:=by
 have h1:(l.map (·.1))[i]?=some x.1:=by rw[q4x,hi];rfl
 have h2:(l.map (·.1))[j]?=some y.1:=by rw[q4x,hj];rfl
 have hlt:i<(l.map (·.1)).length:=(q3c.1 h1).1;exact(List.getElem?_inj hlt h).1 (by rw[h1,h2,he])
theorem HB(hT:TabOK P T){K:St->Prop}{t:TypeId}{x v:Operand}(hop:o.op=.store t x v)(hd:o.dst=none){i:TyI}(hi:T.get t=some i)(hs1:i.size=1){b:Nat}(hx:QR s.sl x=.p (cpA b)){c:AV}(hv:QR s.sl v=.p c)(hone:c.one=true){kc:Nat}{e:TypeId}{l:List (Nat×AV)}(hg:getH s.H kc=some (.ext (.cells e l))){m:Nat}{c0:AV}(hm:l[m]?=some (b,c0))(h:K7 s.H kc (.ext (.cells e (l.set m (b,c)))) fun H=>K ⟨s.sl,H⟩):OpK P N s o K:=by
 refine⟨fun σ β a w hr Q=>?_⟩;have h1:=QZ hr.slots x;rw[hx]at h1;have h2:=QZ hr.slots v;rw[hv]at h2;have hch:XC.holds (.cells e l) σ (β kc) w:=hr.heap.chunks kc _ (QG hg);obtain⟨ic,u,h3,h4,h5,h6⟩:=hch.2 _ (q4n hm);have hlab:kc∈s.H.map (·.1):=q3s.2 ⟨_,QG hg,rfl⟩;obtain⟨H',hK,g1,g2,g3⟩:=KG hr.heap.nodup h;have hrep:Rep σ c (a.eval v):=by cases h2 with|p h2=>exact h2
 have hcell:(a.eval v).cells=#[a.eval v]:=by
  have:=hrep.oneCell hone;generalize a.eval v=u at this;cases u<;>first|rfl|cases this
 have hone':∀u'∈(a.eval v).cells.toList,u'.oneCell'=true:=fun u' hu=>by
  rw[hcell]at hu;have:u'=a.eval v:=by simpa using hu
  rw[this];exact hrep.oneCell hone
 have hxe:a.eval x=.pointer (some ⟨b,0,none⟩):=by
  generalize a.eval x=z at h1;cases h1 with
  | p h1=>cases h1 with
    |raw=>rfl
 have hrun:(execOp a.eval o).run P w=.ok .skip (w.setRow b #[a.eval v]):=by
  have hst:=run_storeCells_at P b 0 e (a.eval v).cells.toList 0 #[u] w h5 (by rw[hcell];simp) hone';have hsz:(sizeOf t).run P w=.ok 1 w:=by rw[<-hs1];exact(hT _ _ hi).sizeOf w
  simp only[q7m,hcell]at hst;have hst2:Sem.run P (storeCells ⟨b,0,none⟩ [a.eval v]) w=Result.ok () (w.setRow b #[a.eval v]):=by simpa using hst
  simp[execOp,hop,Instr.storeAt,Instr.sureAddr,hxe,storeVar,hsz,hcell,hst2]
 have hfst:(l.set m (b,c)).map (·.1)=l.map (·.1):=by
  rw[q5a];refine q8d fun j=>?_;rw[q6o];by_cases hj:m=j
  ·subst hj;have hlt:m<l.length:=(q3c.1 hm).1;rw[if_pos rfl,if_pos (by rw[q3f];exact hlt),q4x,hm];rfl
  ·rw[if_neg hj]
 obtain⟨g4,g5⟩:=RO hr.heap hlab h3 h4 (vs:=#[a.eval v]) g1 g2 fun d hd'=>by
  rw[g3 d hd'];show XC.holds (.cells e (l.set m (b,c))) σ (β kc) _;refine⟨by rw[hfst];exact hch.1,fun y hy=>?_⟩;obtain⟨j,hj⟩:=q6h.1 hy;rw[q6o]at hj;by_cases hjm:m=j
  ·subst hjm;have hlt:m<l.length:=(q3c.1 hm).1;rw[if_pos rfl,if_pos hlt]at hj;cases hj;exact⟨ic,a.eval v,h3,h4,setRow_heap w b _ _ _ _ h5,hrep⟩
  ·rw[if_neg hjm]at hj;have hne:y.1≠b:=fun he=>hjm (Cl hch.1 hm hj he.symm);obtain⟨i1,u1,q1,q2,q3,q4⟩:=hch.2 y (q4n hj);exact⟨i1,u1,q1,q2,(setRow_other w b y.1 _ hne).trans q3,q4⟩
 refine Xs hrun ⟨σ,β,⟨s.sl,H'⟩,hK,⟨?_,?_,?_,g4⟩,g5⟩
 ·rw[hd];exact hr.size
 ·rw[hd];exact hr.defers
 ·rw[hd];exact hr.slots
end
theorem SpecH.post{P:Program}{f:FuncId}{args:List LV}{H:Heap}{R R':LV->Heap->Prop}(h:SpecH P f args H R)(hR:∀l H',R l H'->∃H'',R' l H''/\Le 1 ⟨[(0,l)],H'⟩ ⟨[(0,l)],H''⟩):SpecH P f args H R':=by
 refine⟨h.go,fun σ β w vals h1 h2 h3=>(h.ok σ β w vals h1 h2 h3).mono fun ex w' hx=>?_⟩;obtain⟨l,u,σ',β',H',he,hR0,hrep,hrel,hlat⟩:=hx;obtain⟨H'',hR1,hle⟩:=hR l H' hR0;obtain⟨σ2,β2,hr2,hl2⟩:=hle σ' β' {tmps:=#[u],defers:=[]} w' ⟨rfl,rfl,fun i=>by
  match i with
  |0=>simpa[getS]using hrep
  |i+1=>exact .p (by simpa[getS]using Rep.any _),hrel⟩
 exact⟨l,u,σ2,β2,H'',he,hR1,by simpa[getS]using hr2.slots 0,hr2.heap,hlat.trans hl2⟩
theorem CSub.pre{e:TypeId}{sz:Nat}{es es':List AV}(h:es' <+: es):CSub (.own e sz es) (.own e sz es'):=fun σ β w k hh=>by
 rcases hh with⟨h3,h4⟩|⟨i,vs,h3,h4,h5,h6,h7,h8,h9⟩
 ·rw[h4]at h;exact .inl ⟨h3,List.prefix_nil.1 h⟩
 ·exact .inr ⟨i,vs,h3,h4,h5,h6,q5p h.length_le h7,h8,fun m x hx=>h9 m x (by
   obtain⟨t,rfl⟩:=h;rw[q5v (q3c.1 hx).1];exact hx)⟩
def setM(M:Mc)(v:Nat)(n:Int):Mc:={M with mem:=M.mem.set v n}
theorem JA{bs:List Nat}{mem:List Int}(hl:bs.length=mem.length){v:Nat}(h:v<mem.length):(ZH bs mem)[v]?=some (bs.getD v 0,.int .i64 (mem.getD v 0)):=by
 unfold ZH;rw[List.getElem?_zip_eq_some];refine⟨?_,?_⟩
 ·rw[q3p,q3b (by omega)];rfl
 ·rw[q4x,q3b h];show some (AV.int .i64 mem[v])=some (AV.int .i64 (mem.getD v 0));rw[q3p,q3b h];rfl
theorem Rt{bs:List Nat}{mem:List Int}(hl:bs.length=mem.length){v:Nat}(h:v<mem.length)(n:Int):ZH bs (mem.set v n)=(ZH bs mem).set v (bs.getD v 0,.int .i64 n):=by
 have hcl:(ZH bs mem).length=mem.length:=by unfold ZH;rw[List.length_zip,q3f];omega
 refine q8d fun j=>?_;rw[q6o];by_cases hj:v=j
 ·subst hj;rw[if_pos rfl,if_pos (by omega),JA (by rw[q5s];exact hl) (by rw[q5s];exact h)];rw[q3p (l:=mem.set v n),q6e h];rfl
 ·rw[if_neg hj];rcases q4w j mem.length with hjl|hjl
  ·rw[JA (by rw[q5s];exact hl) (by rw[q5s];exact hjl),JA hl hjl];rw[q3p (l:=mem.set v n),q6c hj,<-q3p]
  ·rw[q5w (by unfold ZH;rw[List.length_zip,q3f,q5s];omega),q5w (by omega)]
def mHs(p:Pg)(tape watch:List Int)(bs:List Nat)(vs:List Int)(M:Mc)(es:List AV):Heap:=[(1000,mO p tape watch p.globals.length M.stack.length vs.length M),(1001,.own 130 1 (UV bs (List.range p.globals.length))),(2001,.own 174 1 es),(2002,.own 2 1 (vs.map (.int .i64))),
 (2003,.own 2 1 (M.out.map (.int .i64))),(2004,.own 78 2 (M.trace.map evA)),(2500,.ext (.cells 2 (ZH bs M.mem)))]
theorem K8{p:Pg}{tape watch:List Int}{bs:List Nat}{vs:List Int}{M:Mc}{v:Nat}{n:Int}{es:List AV}(hl:bs.length=M.mem.length)(h:v<M.mem.length):mHs p tape watch bs vs (setM M v n) es=[(1000,mO p tape watch p.globals.length M.stack.length vs.length M),(1001,.own 130 1 (UV bs (List.range p.globals.length))),(2001,.own 174 1 es),(2002,.own 2 1 (vs.map (.int .i64))),
 (2003,.own 2 1 (M.out.map (.int .i64))),(2004,.own 78 2 (M.trace.map evA)),(2500,.ext (.cells 2 ((ZH bs M.mem).set v (bs.getD v 0,.int .i64 n))))]:=by
 unfold mHs setM;simp only;rw[Rt hl h];rfl
def popM(M:Mc)(st:List Fm):Mc:={M with stack:=st}
inductive CloseP(p:Pg)(M:Mc)(st:List Fm)(f:Fm)(gave:Int):Int->Mc->Prop
 |done (h:f.call=0):CloseP p M st f gave (-1) (endM (popM M st) 1)
 |drop {it:Item} (h:1<=f.call) (hit:(sheetOf p).l[(f.call-1).toNat]?=some it) (hn:it.s.name=[]):CloseP p M st f gave it.next (popM M st)
 |keep {it:Item} {st':List Fm} {g:Fm} (h:1<=f.call) (hit:(sheetOf p).l[(f.call-1).toNat]?=some it) (hn:it.s.name≠[]) (hg:st=st'++[g]) (hi:0<=idxF (fun y=>it.s.name==y) g.names):CloseP p M st f gave it.next (setM (popM M st) (varM g it.s.name) gave)
theorem LE(p:Pg)(tape watch:List Int)(bs:List Nat)(vs:List Int)(M:Mc)(st:List Fm)(f:Fm)(hs:M.stack=st++[f])(hM:OkM p bs M)(hfc:f.call<=100000)(gave:Int)(at_:Int)(M':Mc)(hC:CloseP p M st f gave at_ M'):SpecH prog 72 [.ptr 1000 0,.p (.int .i64 gave)] (mH p tape watch bs vs M) (fun r H=>∃es,st.map (fmA bs) <+: es/\r=.p (.int .i64 at_)/\H=mHs p tape watch bs vs M' es):=by
 refine sH DS func72 rfl call72 ?_;conv=>whnf
 have hT:=YF p tape watch bs vs M st f hs hM.sl;have hn:M.stack.length=st.length+1:=by rw[hs,q3m];rfl
 have hpre:st.map (fmA bs) <+: M.stack.map (fmA bs):=by rw[hs,q4z];exact List.prefix_append _ _
 have hml:(M.stack.map (fmA bs)).length=M.stack.length:=q3f _;have hsl:=hM.sl;cases hC with
 | done h0=>
   repeat' (first|((first|(refine iM fun _=>?_)|refine dA ?_|refine q3l rfl ?_|refine wI ?_|refine q8s 0 st.length rfl (by show(M.stack.length:Int)-1=_;omega) (q3o _) (by omega) ?_);conv=>whnf)|(apply bD<;>intro _<;>first|omega|conv=>whnf)|(refine CallK.heap [(1000,1000),(1001,1001),(2001,2001),(2002,2002),(2003,2003),(2004,2004),(2500,2500)] 0 (by repeat' (first|exact q4d|refine q3i ?_ ?_|exact q3e _|exact q4q Sub.nils|exact q4q (Sub.tt rfl)|exact q4q (Sub.ff rfl)|exact q4q (Sub.int (by omega)))) (by refine q3h (j:=1000) rfl rfl ?_ ?_;exact CSub.refl _;refine q3h (j:=1001) rfl rfl ?_ ?_;exact CSub.refl _;refine q3h (j:=2001) rfl rfl ?_ ?_;exact CSub.refl _;refine q3h (j:=2002) rfl rfl ?_ ?_;exact CSub.refl _;refine q3h (j:=2003) rfl rfl ?_ ?_;exact CSub.refl _;refine q3h (j:=2004) rfl rfl ?_ ?_;exact CSub.refl _;refine q3h (j:=2500) rfl rfl ?_ ?_;exact CSub.refl _;exact q4b) hT rfl rfl ?_;rintro l' H' ⟨rfl,rfl⟩;conv=>whnf))
   all_goals first
    |(exfalso;omega)
    |exact q5u _ (q3e _) ⟨_,hpre,rfl,rfl⟩
 | @drop it h1 hit hne=>
   have hg:((sheetOf p).l.map fun i=>AV.agg i.cells)[(f.call-1).toNat]?=some (.agg it.cells):=by rw[q4x,hit];rfl
   have hnb:(it.s.name==[])=true:=by rw[hne];rfl
   repeat' (first|((first|(refine iM fun _=>?_)|refine dA ?_|refine q3l rfl ?_|refine wI ?_|refine q8s 0 st.length rfl (by show(M.stack.length:Int)-1=_;omega) (q3o _) (by omega) ?_|(refine IdxK.at (k:=(f.call-1).toNat) (by omega) hg rfl ?_));conv=>whnf)|(apply bD<;>intro _<;>first|omega|conv=>whnf)|(apply bN<;>intro _<;>conv=>whnf)|(refine CallK.heap [(1000,1000),(1001,1001),(2001,2001),(2002,2002),(2003,2003),(2004,2004),(2500,2500)] 0 (by repeat' (first|exact q4d|refine q3i ?_ ?_|exact q3e _|exact q4q Sub.nils|exact q4q (Sub.tt rfl)|exact q4q (Sub.ff rfl)|exact q4q (Sub.int (by omega)))) (by refine q3h (j:=1000) rfl rfl ?_ ?_;exact CSub.refl _;refine q3h (j:=1001) rfl rfl ?_ ?_;exact CSub.refl _;refine q3h (j:=2001) rfl rfl ?_ ?_;exact CSub.refl _;refine q3h (j:=2002) rfl rfl ?_ ?_;exact CSub.refl _;refine q3h (j:=2003) rfl rfl ?_ ?_;exact CSub.refl _;refine q3h (j:=2004) rfl rfl ?_ ?_;exact CSub.refl _;refine q3h (j:=2500) rfl rfl ?_ ?_;exact CSub.refl _;exact q4b) hT rfl rfl ?_;rintro l' H' ⟨rfl,rfl⟩;conv=>whnf))
   all_goals first
    |(exfalso;omega)
    |(exfalso;simp_all;done)
    |exact q5u _ (q3e _) ⟨_,hpre,rfl,rfl⟩
 | @keep it st' g h1 hit hne hg' hi=>
   have hg:((sheetOf p).l.map fun i=>AV.agg i.cells)[(f.call-1).toNat]?=some (.agg it.cells):=by rw[q4x,hit];rfl
   have hnb:(it.s.name==[])=false:=q7d.2 hne;have hgm:g∈M.stack:=by rw[hs,hg'];simp
   have hF:=hM.fr g hgm;have hvi:(idxF (fun y=>it.s.name==y) g.names).toNat<g.vars.length:=by rw[hF.len];exact Zi hi
   have hvg:g.vars[(idxF (fun y=>it.s.name==y) g.names).toNat]?=some (varM g it.s.name):=by unfold varM;rw[q3p,q3b hvi];rfl
   have hWh:=WZ p tape watch bs vs (popM M st) st' g hg' (by show st.length<=1000;omega) it.s.name (idxF (fun y=>it.s.name==y) g.names).toNat (varM g it.s.name) (q6i hi).symm hvg;have hvr:varM g it.s.name<M.mem.length:=hF.rng _ (q4n hvg);have hcg:=JA hM.bl hvr;have hsh:=K8 (p:=p) (tape:=tape) (watch:=watch) (vs:=vs) (M:=popM M st) (v:=varM g it.s.name) (n:=gave) (es:=st.map (fmA bs)) hM.bl hvr;generalize varM g it.s.name=vv at*
   repeat' (first|((first|(refine iM fun _=>?_)|refine dA ?_|refine q3l rfl ?_|refine wI ?_|refine q8s 0 st.length rfl (by show(M.stack.length:Int)-1=_;omega) (q3o _) (by omega) ?_|(refine IdxK.at (k:=(f.call-1).toNat) (by omega) hg rfl ?_)|refine YS rfl rfl ?_|refine HB (kc:=2500) QY rfl rfl rfl rfl rfl rfl rfl rfl hcg ?_);conv=>whnf)|(apply bD<;>intro _<;>first|omega|conv=>whnf)|(apply bN<;>intro _<;>conv=>whnf)|(refine CallK.heap [(1000,1000),(1001,1001),(2001,2001),(2002,2002),(2003,2003),(2004,2004),(2500,2500)] 0 (by repeat' (first|exact q4d|refine q3i ?_ ?_|exact q3e _|exact q4q Sub.nils|exact q4q (Sub.tt rfl)|exact q4q (Sub.ff rfl)|exact q4q (Sub.int (by omega)))) (by refine q3h (j:=1000) rfl rfl ?_ ?_;exact CSub.refl _;refine q3h (j:=1001) rfl rfl ?_ ?_;exact CSub.refl _;refine q3h (j:=2001) rfl rfl ?_ ?_;exact CSub.refl _;refine q3h (j:=2002) rfl rfl ?_ ?_;exact CSub.refl _;refine q3h (j:=2003) rfl rfl ?_ ?_;exact CSub.refl _;refine q3h (j:=2004) rfl rfl ?_ ?_;exact CSub.refl _;refine q3h (j:=2500) rfl rfl ?_ ?_;exact CSub.refl _;exact q4b) hT rfl rfl ?_;rintro l' H' ⟨rfl,rfl⟩;conv=>whnf)|(refine CallK.heap [(1000,1000),(1001,1001),(2001,2001),(2002,2002),(2003,2003),(2004,2004),(2500,2500)] 0 (by repeat' (first|exact q4d|refine q3i ?_ ?_|exact q3e _|exact q4q Sub.nils|exact q4q (Sub.tt rfl)|exact q4q (Sub.ff rfl)|exact q4q (Sub.int (by omega)))) (by refine q3h (j:=1000) rfl rfl ?_ ?_;exact CSub.refl _;refine q3h (j:=1001) rfl rfl ?_ ?_;exact CSub.refl _;refine q3h (j:=2001) rfl rfl ?_ ?_;exact CSub.pre hpre;refine q3h (j:=2002) rfl rfl ?_ ?_;exact CSub.refl _;refine q3h (j:=2003) rfl rfl ?_ ?_;exact CSub.refl _;refine q3h (j:=2004) rfl rfl ?_ ?_;exact CSub.refl _;refine q3h (j:=2500) rfl rfl ?_ ?_;exact CSub.refl _;exact q4b) hWh rfl rfl ?_;rintro l' H' ⟨rfl,rfl⟩;conv=>whnf))
   all_goals first
    |(exfalso;omega)
    |(exfalso;simp_all;done)
    |exact q5u _ (q3e _) ⟨_,List.prefix_refl _,rfl,hsh.symm⟩
end Go.Ab
