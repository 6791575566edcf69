/- run: a procedure begins. -/
import Derived.Test.YtiaikoimoonlmaaGreatDomR10
set_option linter.unusedSimpArgs false
set_option linter.unusedVariables false
set_option maxRecDepth 100000
set_option maxHeartbeats 16000000
open List (getD_eq_getElem?_getD length_append length_cons length_map length_nil length_set map_cons map_nil)
open Nat (zero_le)
namespace Go.Ab
open Go.Proofs
def JE (p:Pg) (k:Nat) (f:Pr) (ps:List Nat) (call:Int) (M:Mc):Mc:={ M with stack:=M.stack++[⟨k,varsS p f,List.range p.globals.length++ps++List.range' M.mem.length f.vars.length,call⟩],mem:=M.mem++List.replicate f.vars.length 0 }
def q1y (p:Pg) (k:Nat) (f:Pr):Int:=if QD p.procs k<QD p.procs k+cntL f.body then (QD p.procs k:Int)+1 else -1
def mHq (p:Pg) (tape watch:List Int) (bs:List Nat) (vs:List Int) (M:Mc) (ps:List AV):Heap:=mH p tape watch bs vs M++[(2005,.own 164 1 ps)]
def opC (p:Pg) (tape watch:List Int) (bs:List Nat) (vs:List Int) (M:Mc) (ps:List Nat) (nb:List Nat):Heap:=[(1000,mO p tape watch p.globals.length M.stack.length vs.length M),(1001,.own 164 1 (VL bs (List.range p.globals.length))),(2001,.own 218 1 (M.stack.map (fmA bs))),(2002,.own 2 1 (vs.map (.int .i64))),
 (2003,.own 2 1 (M.out.map (.int .i64))),(2004,.own 63 2 (M.trace.map evA)),(2500,.ext (.cells 2 (ZJ bs M.mem++nb.map fun b=>(b,.int .i64 0)))),(2005,.own 164 1 (VL bs ps))]
def opR (p:Pg) (bs ps nb:List Nat):List AV:=VL bs (List.range p.globals.length)++VL bs ps++nb.map cpA
def opS (p:Pg) (tape watch:List Int) (bs:List Nat) (vs:List Int) (M:Mc) (k:Nat) (f:Pr) (ps:List Nat) (call:Int) (j:Nat) (nb:List Nat):St:=⟨[(0,.ptr 1000 0),(1,.p (.int .i64 k)),(10,.ptr 0 0),(52,.p (.int .i64 (f.vars.map AV.str).length)),(53,.p (.int .i64 j))],
 (1,.own 164 1 (opR p bs ps nb))::(0,.obj 220 [.p (.int .i64 k),.p (QP (varsS p f)),.hd 1 0 (p.globals.length+ps.length+j),.p (.int .i64 call)])::opC p tape watch bs vs M ps nb⟩
def opF (p:Pg) (tape watch:List Int) (bs:List Nat) (vs:List Int) (M:Mc) (k:Nat) (f:Pr) (ps:List Nat) (call:Int) (j:Nat) (nb:List Nat):St:=⟨[(0,.ptr 1000 0),(1,.p (.int .i64 k)),(10,.p (.ip [.int .i64 k,QP (varsS p f),.sl (opR p bs ps nb),.int .i64 call])),(52,.p (.int .i64 (f.vars.map AV.str).length)),(53,.p (.int .i64 j))],opC p tape watch bs vs M ps nb⟩
theorem z5o {p:Pg} {bs ps nb:List Nat}:(opR p bs ps nb).length=p.globals.length+ps.length+nb.length:=by
 unfold opR VL;simp only [length_append,length_map,List.length_range]
theorem v0o {N:Nat} {p:Pg} {tape watch:List Int} {bs:List Nat} {vs:List Int} {M:Mc} {k:Nat} {f:Pr} {ps:List Nat} {call:Int} {j:Nat} {nb:List Nat} (hj:j=nb.length):Le N (opS p tape watch bs vs M k f ps call j nb) (opF p tape watch bs vs M k f ps call j nb):=by
 have h1:Le N (opS p tape watch bs vs M k f ps call j nb) ⟨[(0,.ptr 1000 0),(1,.p (.int .i64 k)),(10,.ptr 0 0),(52,.p (.int .i64 (f.vars.map AV.str).length)),(53,.p (.int .i64 j))],
   (0,.obj 220 ([.int .i64 k,QP (varsS p f),.sl (opR p bs ps nb),.int .i64 call].map .p))::opC p tape watch bs vs M ps nb⟩ :=
  w5y (k:=1) rfl (.cons (.keep rfl) (.cons (.keep rfl) (.cons (.keep rfl) (.cons (.keep rfl) (.cons (.keep rfl) .nil)))))
   (.drop (.obj (by decide) (.cons (.keep rfl) (.cons (.keep rfl) (.cons (.row (by rw [z5o,hj])) (.cons (.keep rfl) .nil))))
     (.obj (by decide) (.cons (.keep rfl) (.cons (.keep rfl) (.cons (.keep rfl) (.cons (.keep rfl) (.cons (.keep rfl) (.cons (.keep rfl) (.cons (.keep rfl) (.cons (.keep rfl) (.cons (.keep rfl) (.cons (.keep rfl) (.cons (.keep rfl) .nil)))))))))))
       (.own (by decide) (.own (by decide) (.own (by decide) (.own (by decide) (.own (by decide) (.ext (by decide) (.own (by decide) .nil))))))))))
 obtain ⟨s',rfl,h2⟩:=Le.fz (N:=N) (s:=⟨[(0,.ptr 1000 0),(1,.p (.int .i64 k)),(10,.ptr 0 0),(52,.p (.int .i64 (f.vars.map AV.str).length)),(53,.p (.int .i64 j))],
   (0,.obj 220 ([.int .i64 k,QP (varsS p f),.sl (opR p bs ps nb),.int .i64 call].map .p))::opC p tape watch bs vs M ps nb⟩) (k:=0) (e:=220) (cs:=[.int .i64 k,QP (varsS p f),.sl (opR p bs ps nb),.int .i64 call]) rfl
  (K:=fun s=>s=opF p tape watch bs vs M k f ps call j nb) (by
    show _=_;rfl)
 exact h1.trans h2
theorem NL {bs nb vs:List Nat} (h : ∀ v∈vs,v<bs.length):VL (bs++nb) vs=VL bs vs:=by
 unfold VL;refine List.map_congr_left fun v hv => ?_;rw [getD_eq_getElem?_getD,getD_eq_getElem?_getD,List.getElem?_append_left (h v hv)]
theorem z1y {bs nb:List Nat}:VL (bs++nb) (List.range' bs.length nb.length)=nb.map cpA:=by
 unfold VL;refine List.ext_getElem? fun i => ?_;rw [List.getElem?_map,List.getElem?_map];rcases Nat.lt_or_ge i nb.length with h|h
 ·rw [List.getElem?_range' h,List.getElem?_eq_getElem h];simp only [Option.map_some,Nat.one_mul];rw [getD_eq_getElem?_getD,List.getElem?_append_right (by omega),Nat.add_sub_cancel_left,List.getElem?_eq_getElem h];rfl
 ·rw [List.getElem?_eq_none (by simpa using h),List.getElem?_eq_none h];rfl
theorem w0n {bs nb:List Nat} {f:Fm} (h : ∀ v∈f.vars,v<bs.length):fmA (bs++nb) f=fmA bs f:=by
 unfold fmA;rw [NL h]
theorem x2c {bs nb:List Nat} {mem:List Int} (h:bs.length=mem.length):ZJ (bs++nb) (mem++List.replicate nb.length 0)=ZJ bs mem++nb.map fun b=>(b,.int .i64 0):=by
 unfold ZJ;rw [List.map_append,List.zip_append (by rw [length_map];exact h),List.map_replicate];congr 1;clear h;induction nb with
 | nil=>rfl
 | cons b r ih=>rw [length_cons,List.replicate_succ,List.zip_cons_cons,map_cons,ih]
theorem z5p {p:Pg} {tape watch:List Int} {bs:List Nat} {vs:List Int} {M:Mc} {k:Nat} {f:Pr} {ps:List Nat} {call:Int} {nb:List Nat} (hM:OkM p bs M) (hpr : ∀ v∈ps,v<M.mem.length) (hn:nb.length=f.vars.length) :
  mHq p tape watch (bs++nb) vs (JE p k f ps call M) (VL (bs++nb) ps)=[(1000,mO p tape watch p.globals.length (M.stack.length+1) vs.length M),(1001,.own 164 1 (VL bs (List.range p.globals.length))),(2001,.own 218 1 (M.stack.map (fmA bs)++[.ip [.int .i64 k,QP (varsS p f),.sl (opR p bs ps nb),.int .i64 call]])),(2002,.own 2 1 (vs.map (.int .i64))),
 (2003,.own 2 1 (M.out.map (.int .i64))),(2004,.own 63 2 (M.trace.map evA)),(2500,.ext (.cells 2 (ZJ bs M.mem++nb.map fun b=>(b,.int .i64 0)))),(2005,.own 164 1 (VL bs ps))]:=by
 have e1:=NL (bs:=bs) (nb:=nb) (vs:=List.range p.globals.length) fun v hv=>by
  have:=List.mem_range.1 hv;have:=hM.gl;have:=hM.bl;omega
 have e2:=NL (bs:=bs) (nb:=nb) (vs:=ps) fun v hv=>by rw [hM.bl];exact hpr v hv
 have e3:M.stack.map (fmA (bs++nb))=M.stack.map (fmA bs):=List.map_congr_left fun f hf=>w0n fun v hv=>by rw [hM.bl];exact (hM.fr f hf).rng v hv
 have e4:=x2c (nb:=nb) hM.bl;have e5:fmA (bs++nb) ⟨k,varsS p f,List.range p.globals.length++ps++List.range' M.mem.length f.vars.length,call⟩ = .ip [.int .i64 k,QP (varsS p f),.sl (opR p bs ps nb),.int .i64 call]:=by
  unfold fmA opR;have:VL (bs++nb) (List.range p.globals.length++ps++List.range' M.mem.length f.vars.length)=VL bs (List.range p.globals.length)++VL bs ps++nb.map cpA:=by
   have h1 : ∀ a b:List Nat,VL (bs++nb) (a++b)=VL (bs++nb) a++VL (bs++nb) b:=fun a b=>List.map_append;rw [h1,h1,e1,e2,<- hn,<- hM.bl,z1y]
  rw [this]
 unfold mHq mH JE;simp only [List.map_append,map_cons,map_nil,length_append,length_cons,length_nil];rw [e1,e2,e3,e5,<- hn,e4];rfl
theorem GD (p:Pg) (tape watch:List Int) (bs:List Nat) (vs:List Int) (M:Mc) (hM:OkM p bs M) (hsl:M.stack.length<=500) (k:Nat) (f:Pr) (hk:p.procs[k]? = some f) (hV:SpecP Tryz.prog 177 [.agg p.cells,.str f.name] (fun r=>r=QP (varsS p f))) (hgl:p.globals.length<=1000) (hvl:f.vars.length<=1000) (ps:List Nat) (hps:ps.length<=1000) (hpr : ∀ v∈ps,v<M.mem.length) (call:Int):SpecH Tryz.prog 110 [.ptr 1000 0,.p (.int .i64 k),.hd 2005 0 ps.length,.p (.int .i64 call)] (mHq p tape watch bs vs M (VL bs ps)) (fun r H => ∃ nb,r = .p (.int .i64 (q1y p k f))∧H=mHq p tape watch (bs++nb) vs (JE p k f ps call M) (VL (bs++nb) ps)∧nb.length=f.vars.length):=by
 refine sH ND Tryz.func110 rfl Tryz.call110 ?_;conv=>whnf
 have hsp:(sheetOf p).p=p:=(QU p).1;have hg1:(p.procs.map fun f=>AV.agg f.cells)[k]? = some (.agg f.cells):=by rw [List.getElem?_map,hk];rfl
 obtain ⟨_,_,_,hlen,hsh⟩:=QU p;obtain ⟨s1,s2,s3,s4⟩:=hsh k f hk;have hFi:=GB (sheetOf p) k (QD p.procs k) (QD p.procs k+cntL f.body) s1 s2;have hrl:(VL bs (List.range p.globals.length)).length=p.globals.length:=by unfold VL;rw [length_map,List.length_range]
 have hpl:(VL bs ps).length=ps.length:=length_map _;repeat' ((first|(refine iM fun _=>?_)|refine dA ?_|refine And.intro rfl ?_|refine aD ?_|(refine IdxK.at (k:=k) rfl hg1 rfl ?_)|refine cP hV ?_|refine AppK.mk (es:=[]) rfl hrl.symm (by show (0+p.globals.length)*8<=140737488355328;omega) (by show 0+p.globals.length<=9223372036854775807;omega) (fun x hx=>by obtain ⟨y,_,rfl⟩:=List.mem_map.1 hx;exact ⟨rfl,rfl⟩) ?_|refine AppK.mk (es:=[]++VL bs (List.range p.globals.length)) (by rw [List.nil_append,hrl];omega) hpl.symm (by show (0+p.globals.length+ps.length)*8<=140737488355328;omega) (by show 0+p.globals.length+ps.length<=9223372036854775807;omega) (fun x hx=>by obtain ⟨y,_,rfl⟩:=List.mem_map.1 hx;exact ⟨rfl,rfl⟩) ?_);conv=>whnf)
 all_goals
  have hfv:(f.vars.map AV.str).length=f.vars.length:=length_map _;have hML:(M.stack.map (fmA bs)).length=M.stack.length:=length_map _;refine LoopK.inv QV (fun x:Nat×List Nat×Bool=>bif x.2.2 then opF p tape watch bs vs M k f ps call x.1 x.2.1 else opS p tape watch bs vs M k f ps call x.1 x.2.1) (fun x=>x.1<=f.vars.length∧x.2.1.length=x.1∧(x.2.2=true↔x.1=f.vars.length)) (fun x=>f.vars.length-x.1) (0,[],decide (0=f.vars.length)) ?_ ⟨zero_le _,rfl,decide_eq_true_iff⟩ ?_
  ·have hs0:Le Tryz.f110.ntmps (opS p tape watch bs vs M k f ps call 0 []) (bif decide (0=f.vars.length) then opF p tape watch bs vs M k f ps call 0 [] else opS p tape watch bs vs M k f ps call 0 []):=by
    cases decide (0=f.vars.length)
    ·exact Le.refl _
    ·exact v0o rfl
   refine Le.trans (Le.of_eq ?_) hs0;unfold opS opR opC;simp only [map_nil,List.append_nil,List.nil_append,Nat.zero_add,Nat.add_zero];rfl
  rintro ⟨j,nb,fz⟩ ⟨h1,h2,h3⟩;simp only at h1 h2 h3 ⊢;cases fz with
  | false =>
    have hj:j<f.vars.length:=by
     rcases Nat.lt_or_ge j f.vars.length with h|h
     ·exact h
     ·have:=h3.2 (by omega);cases this
    have hRl:=z5o (p:=p) (bs:=bs) (ps:=ps) (nb:=nb);have hRn : ∀ b,opR p bs ps (nb++[b])=opR p bs ps nb++[cpA b]:=fun b=>by unfold opR;rw [List.map_append,List.append_assoc,List.append_assoc,List.append_assoc];rfl
    have hCn : ∀ b,opC p tape watch bs vs M ps (nb++[b])=[(1000,mO p tape watch p.globals.length M.stack.length vs.length M),(1001,.own 164 1 (VL bs (List.range p.globals.length))),(2001,.own 218 1 (M.stack.map (fmA bs))),(2002,.own 2 1 (vs.map (.int .i64))),(2003,.own 2 1 (M.out.map (.int .i64))),(2004,.own 63 2 (M.trace.map evA)),(2500,.ext (.cells 2 ((ZJ bs M.mem++nb.map fun b=>(b,.int .i64 0))++[(b,.int .i64 0)]))),(2005,.own 164 1 (VL bs ps))]:=fun b=>by unfold opC;rw [List.map_append,<- List.append_assoc];rfl
    have fin : ∀ b,∃ x:Nat×List Nat×Bool,(x.1<=f.vars.length∧x.2.1.length=x.1∧(x.2.2=true↔x.1=f.vars.length))∧f.vars.length-x.1<f.vars.length-j∧Le Tryz.f110.ntmps (opS p tape watch bs vs M k f ps call (j+1) (nb++[b])) (bif x.2.2 then opF p tape watch bs vs M k f ps call x.1 x.2.1 else opS p tape watch bs vs M k f ps call x.1 x.2.1):=fun b=>by
     rcases Nat.lt_or_ge (j+1) f.vars.length with h|h
     ·exact ⟨(j+1,nb++[b],false),⟨by simp only;omega,by simp [h2],⟨fun h=>(by cases h),fun h'=>by simp only at h';omega⟩⟩,by simp only;omega,Le.refl _⟩
     ·exact ⟨(j+1,nb++[b],true),⟨by simp only;omega,by simp [h2],⟨fun _=>by simp only;omega,fun _=>rfl⟩⟩,by simp only;omega,v0o (by simp [h2])⟩
    simp only [cond_false];unfold opS at fin ⊢;simp only [hRn,hCn] at fin;generalize opR p bs ps nb=R at *
    conv=>whnf
    repeat' (first|((first|refine And.intro rfl ?_|refine aD ?_|refine bP ?_|refine wI ?_|refine AppK.mk (es:=R) (n:=p.globals.length+ps.length+j) (by omega) rfl (by show (p.globals.length+ps.length+j+1)*8<=140737488355328;omega) (by show p.globals.length+ps.length+j+1<=9223372036854775807;omega) (fun x hx=>by rcases List.mem_singleton.1 hx with rfl;exact ⟨rfl,rfl⟩) ?_);conv=>whnf)|(apply bD<;>intro _<;>first|omega|conv=>whnf)|(refine q0v QV 2 2500 ?_;conv=>whnf)|(refine ⟨⟨rfl,rfl⟩,fun b hb => ?_⟩;conv=>whnf))
    all_goals first
     | (obtain ⟨x,hx,hμ,hle⟩:=fin b
        exact ⟨x,hx,hμ,Le.trans (Le.of_eq rfl) hle⟩)
  | true =>
    obtain rfl:j=f.vars.length:=h3.1 rfl;have hoh:=z5p (tape:=tape) (watch:=watch) (vs:=vs) (k:=k) (f:=f) (call:=call) (nb:=nb) hM hpr h2;simp only [cond_true];unfold opF opC;generalize opR p bs ps nb=R at *
    conv=>whnf
    repeat' (first|((first|refine And.intro rfl ?_|refine aD ?_|refine bP ?_|refine AppK.mk (n:=M.stack.length) (by omega) rfl (by show (M.stack.length+1)*8<=140737488355328;omega) (by show M.stack.length+1<=9223372036854775807;omega) (fun x hx=>by rcases List.mem_singleton.1 hx with rfl;exact ⟨rfl,rfl⟩) ?_|refine cP hFi ?_);conv=>whnf)|(apply bD<;>intro _<;>first|omega|conv=>whnf))
    all_goals first
     | exact RetHK.mk _ (LSub.refl _) ⟨nb,rfl,hoh.symm,h2⟩
def varM (f:Fm) (name:Str):Nat:=f.vars.getD (idxF (fun y=>name==y) f.names).toNat 0
def argsM (f:Fm):List Arg->List Nat->Mc->List Nat×Mc×Bool
 | [],ps,M=>(ps,M,true)
 | a::r,ps,M=>bif a.ref then argsM f r (ps++[varM f a.name]) M else bif (QS M f a.x).2 then argsM f r (ps++[M.mem.length]) { M with mem:=M.mem++[(QS M f a.x).1] } else (ps,endM M 4,false)
theorem q3n {α:Type} {q:α->Bool} {l:List α} (h:0<=idxF q l):(idxF q l).toNat<l.length:=by
 unfold idxF at *
 cases hq:l.any q with
 | false=>rw [hq,cond_false] at h;omega
 | true =>
   rw [cond_true];obtain ⟨x,hx,hxq⟩:=List.any_eq_true.1 hq;have:=List.findIdx_lt_length_of_exists ⟨x,hx,hxq⟩;omega
theorem x1y {w:List Int} {M:Mc} {id:Int} {v:List Int}:(QK w M id v).stack=M.stack:=by
 unfold QK;cases w.any fun x=>decide (id=x)<;>rfl
theorem q8b {w:List Int} {M:Mc} {id:Int} {v:List Int}:(QK w M id v).mem=M.mem:=by
 unfold QK;cases w.any fun x=>decide (id=x)<;>rfl
theorem w4y {w:List Int} {M:Mc} {id:Int} {v:List Int}:(QK w M id v).trace.length<=M.trace.length+1:=by
 unfold QK;cases w.any fun x=>decide (id=x)
 ·exact Nat.le_succ _
 ·show (M.trace++[(id,v)]).length<=_;rw [length_append];exact Nat.le_refl _
theorem OkM.same {p:Pg} {bs:List Nat} {M M':Mc} (h:OkM p bs M) (hs:M'.stack=M.stack) (hm:M'.mem=M.mem):OkM p bs M' :=
 ⟨by rw [hm];exact h.bl,fun f hf=>⟨(h.fr f (hs▸hf)).len,fun v hv=>by rw [hm];exact (h.fr f (hs▸hf)).rng v hv⟩,by rw [hm];exact h.gl,by rw [hs];exact h.sl,fun f hf=>h.nl f (hs▸hf)⟩
theorem OkM.cell {p:Pg} {bs:List Nat} {M:Mc} (h:OkM p bs M) (b:Nat) (n:Int):OkM p (bs++[b]) { M with mem:=M.mem++[n] } :=
 ⟨by simp [h.bl],fun f hf=>⟨(h.fr f hf).len,fun v hv=>by have:=(h.fr f hf).rng v hv;simp;omega⟩,by have:=h.gl;simp;omega,h.sl,h.nl⟩
theorem z6w {p:Pg} {tape watch:List Int} {bs:List Nat} {vs:List Int} {M:Mc} {n:Int} {b:Nat} (hM:OkM p bs M) :
  mH p tape watch (bs++[b]) vs { M with mem:=M.mem++[n] }=[(1000,mO p tape watch p.globals.length M.stack.length vs.length M),(1001,.own 164 1 (VL bs (List.range p.globals.length))),(2001,.own 218 1 (M.stack.map (fmA bs))),(2002,.own 2 1 (vs.map (.int .i64))),
 (2003,.own 2 1 (M.out.map (.int .i64))),(2004,.own 63 2 (M.trace.map evA)),(2500,.ext (.cells 2 (ZJ bs M.mem++[(b,.int .i64 n)])))]:=by
 have e1:=NL (bs:=bs) (nb:=[b]) (vs:=List.range p.globals.length) fun v hv=>by
  have:=List.mem_range.1 hv;have:=hM.gl;have:=hM.bl;omega
 have e3:M.stack.map (fmA (bs++[b]))=M.stack.map (fmA bs):=List.map_congr_left fun f hf=>w0n fun v hv=>by rw [hM.bl];exact (hM.fr f hf).rng v hv
 have e4:ZJ (bs++[b]) (M.mem++[n])=ZJ bs M.mem++[(b,.int .i64 n)]:=by
  unfold ZJ;rw [List.map_append,List.zip_append (by rw [length_map];exact hM.bl)];rfl
 unfold mH;simp only;rw [e1,e3,e4];rfl
def GN (p:Pg) (watch:List Int) (M:Mc) (f:Fm) (t:S) (k:Nat) (g:Pr):Int×Mc:=bif (argsM f t.args [] M).2.2 then (if 100<(argsM f t.args [] M).2.1.stack.length then (-1,endM (argsM f t.args [] M).2.1 5) else (q1y p k g,JE p k g (argsM f t.args [] M).1 t.id (QK watch (argsM f t.args [] M).2.1 t.id []))) else (-1,(argsM f t.args [] M).2.1)
structure CallI (p:Pg) (M0:Mc) (f:Fm) (t:S) (j:Nat) (ps bs:List Nat) (M:Mc):Prop where
 le:j<=t.args.length
 ok:OkM p bs M
 sk:M.stack=M0.stack
 tr:M.trace=M0.trace
 ag:argsM f (t.args.drop j) ps M=argsM f t.args [] M0
 pl:ps.length=j
 pr : ∀ v∈ps,v<M.mem.length
def w6s:Info:={ keep:=I_run_machine_call.keep,sched:=I_run_machine_call.sched,frz:=fun i=>bif Nat.beq i 10 then [] else I_run_machine_call.frz i }
theorem q1j (p:Pg) (tape watch:List Int) (bs:List Nat) (vs:List Int) (M:Mc) (st:List Fm) (f:Fm) (hs:M.stack=st++[f]) (hM:OkM p bs M) (hsl:M.stack.length<=101) (htl:M.trace.length<=10000000) (t:S) (hal:t.args.length<=100) (har : ∀ a∈t.args,a.ref=true->0<=idxF (fun y=>a.name==y) f.names) (k:Nat) (g:Pr) (hk:p.procs[k]? = some g) (hki:idxF (fun f=>f.name==t.proc) p.procs=k) (hV:SpecP Tryz.prog 177 [.agg p.cells,.str g.name] (fun r=>r=QP (varsS p g))) (hgl:p.globals.length<=1000) (hvl:g.vars.length<=1000):SpecH Tryz.prog 111 [.ptr 1000 0,.p (.agg t.cells)] (mH p tape watch bs vs M) (fun r H => ∃ bs' vs',r = .p (.int .i64 (GN p watch M f t k g).1)∧H=mH p tape watch bs' vs' (GN p watch M f t k g).2∧bs'.length=(GN p watch M f t k g).2.mem.length):=by
 refine sH w6s Tryz.func111 rfl Tryz.call111 ?_;conv=>whnf
 have hlA:(t.args.map fun a=>AV.agg a.cells).length=t.args.length:=length_map _;have hPr:SpecP Tryz.prog 76 [.ip (sheetOf p).cells,.str t.proc] (fun r=>r = .int .i64 k):=by
  have:=ZV (sheetOf p) t.proc;rw [show (sheetOf p).p=p from rfl,hki] at this;exact this
 repeat' (refine iM fun _=>?_;conv=>whnf)
 refine LoopK.inv QV (fun x:Nat×List Nat×List Nat×List Int×Mc=>⟨[(0,.ptr 1000 0),(3,.p (.ip t.cells)),(5,.hd 0 0 x.2.1.length),(12,.p (.sl (t.args.map fun a => .agg a.cells))),(13,.p (.int .i64 (t.args.map fun a=>AV.agg a.cells).length)),(14,.p (.int .i64 x.1))],mH p tape watch x.2.2.1 x.2.2.2.1 x.2.2.2.2++[(0,.own 164 1 (VL x.2.2.1 x.2.1))]⟩)
  (fun x=>CallI p M f t x.1 x.2.1 x.2.2.1 x.2.2.2.2) (fun x=>t.args.length-x.1) (0,[],bs,vs,M) ?_ ⟨zero_le _,hM,rfl,rfl,rfl,rfl,by simp⟩ ?_
 ·exact Le.mk [(0,.own 164 1 [])] (by simp [Chunk.new0];rfl) (by simp) (by simp [mH]) (.cons (.refl _) (.cons (.refl _) (.cons (.nil List.mem_cons_self) (.cons (.refl _) (.cons (.refl _) (.cons (.refl _) .nil)))))) (.cons rfl (.refl _) (.cons rfl (.refl _) (.cons rfl (.refl _) (.cons rfl (.refl _) (.cons rfl (.refl _) (.cons rfl (.refl _) (.cons rfl (.refl _) (.new List.mem_cons_self .nil))))))))
 rintro ⟨j,ps,bs1,vs1,M1⟩ hI;simp only at hI ⊢;obtain ⟨h1,hM1,hsk,htr,hag,hpl,hpr⟩:=hI;have hs1:M1.stack=st++[f]:=hsk.trans hs;rcases Nat.lt_or_ge j t.args.length with hj|hj
 ·have hdr:t.args.drop j=t.args[j]::t.args.drop (j+1):=QG hj;rw [hdr,argsM] at hag;have hW:=VM p tape watch bs1 vs1 M1 st f hs1 hM1 t.args[j].x;have hArl:=har t.args[j] (List.getElem_mem hj);have hf:f∈M1.stack:=by rw [hs1];exact List.mem_append_right _ (List.mem_singleton.2 rfl)
  have hF:=hM1.fr f hf;have hpll:(VL bs1 ps).length=ps.length:=length_map _;cases hrf:t.args[j].ref with
  | true =>
    rw [hrf,cond_true] at hag;have h0:=hArl hrf;have hlt:=q3n h0;have hvi:(idxF (fun y=>t.args[j].name==y) f.names).toNat<f.vars.length:=by rw [hF.len];exact hlt
    have hWh:=ZA p tape watch bs1 vs1 M1 st f hs1 hM1.sl t.args[j].name (idxF (fun y=>t.args[j].name==y) f.names).toNat (varM f t.args[j].name) (Int.toNat_of_nonneg h0).symm (by unfold varM;rw [getD_eq_getElem?_getD,List.getElem?_eq_getElem hvi];rfl);have hvr:varM f t.args[j].name<M1.mem.length:=by
     refine hF.rng _ ?_;unfold varM;rw [getD_eq_getElem?_getD,List.getElem?_eq_getElem hvi];exact List.getElem_mem hvi
    have hpn:VL bs1 (ps++[varM f t.args[j].name])=VL bs1 ps++[cpA (bs1.getD (varM f t.args[j].name) 0)]:=List.map_append;have fin : ∃ x:Nat×List Nat×List Nat×List Int×Mc,CallI p M f t x.1 x.2.1 x.2.2.1 x.2.2.2.2∧t.args.length-x.1<t.args.length-j∧x=(j+1,ps++[varM f t.args[j].name],bs1,vs1,M1) :=
     ⟨(j+1,ps++[varM f t.args[j].name],bs1,vs1,M1),⟨hj,hM1,hsk,htr,hag,by simp [hpl],fun v hv=>by
       rcases List.mem_append.1 hv with hv|hv
       ·exact hpr v hv
       ·rw [List.mem_singleton.1 hv];exact hvr⟩,by simp only;omega,rfl⟩
    clear hag;generalize varM f t.args[j].name=vv at *
    generalize bs1.getD vv 0=cb at *
    generalize VL bs1 ps=R at *
    conv=>whnf
    repeat' (first|((first|refine And.intro rfl ?_|refine aD ?_|refine bP ?_|(refine iA fun _=>?_)|refine wI ?_|refine AppK.mk (n:=ps.length) hpll.symm rfl (by show (ps.length+1)*8<=140737488355328;omega) (by show ps.length+1<=9223372036854775807;omega) (fun x hx=>by rcases List.mem_singleton.1 hx with rfl;exact ⟨rfl,rfl⟩) ?_);conv=>whnf)|(apply bD<;>intro _<;>first|omega|conv=>whnf)|(apply bB<;>intro _<;>conv=>whnf)|(refine CallK.heap [(1000,1000),(1001,1001),(2001,2001),(2002,2002),(2003,2003),(2004,2004),(2500,2500)] 0 (by repeat' (first|exact ArgsH.nil|refine ArgsH.cons ?_ ?_|exact LSub.refl _|exact LSub.p Sub.nils|exact LSub.p (Sub.tt rfl)|exact LSub.p (Sub.ff rfl)|exact LSub.p (Sub.int (by omega)))) (by refine BlksH.cons (j:=1000) rfl rfl ?_ ?_;exact CSub.refl _;refine BlksH.cons (j:=1001) rfl rfl ?_ ?_;exact CSub.refl _;refine BlksH.cons (j:=2001) rfl rfl ?_ ?_;exact CSub.refl _;refine BlksH.cons (j:=2002) rfl rfl ?_ ?_;exact CSub.refl _;refine BlksH.cons (j:=2003) rfl rfl ?_ ?_;exact CSub.refl _;refine BlksH.cons (j:=2004) rfl rfl ?_ ?_;exact CSub.refl _;refine BlksH.cons (j:=2500) rfl rfl ?_ ?_;exact CSub.refl _;exact BlksH.nil) hWh rfl rfl ?_;rintro l' H' ⟨rfl,rfl⟩;conv=>whnf))
    all_goals first
     | (have h9:t.args[j].ref=false:=by assumption
        rw [hrf] at h9;cases h9)
     | (obtain ⟨x,hx,hμ,rfl⟩:=fin
        exact ⟨_,hx,hμ,Le.of_eq (by simp only [hpn,length_append,length_cons,length_nil]<;>rfl)⟩)
  | false =>
    rw [hrf,cond_false] at hag;have hch:=fun (vs2:List Int) (b:Nat)=>z6w (tape:=tape) (watch:=watch) (vs:=vs2) (n:=(QS M1 f t.args[j].x).1) (b:=b) hM1;have hpe:=fun (b:Nat)=>NL (bs:=bs1) (nb:=[b]) (vs:=ps) fun v hv=>by rw [hM1.bl];exact hpr v hv
    have hpb : ∀ b,VL (bs1++[b]) [M1.mem.length]=[cpA b]:=fun b=>by
     unfold VL;rw [map_cons,map_nil,getD_eq_getElem?_getD,<- hM1.bl,List.getElem?_append_right (Nat.le_refl _),Nat.sub_self];rfl
    have hpn : ∀ b,VL (bs1++[b]) (ps++[M1.mem.length])=VL bs1 ps++[cpA b]:=fun b=>by
     rw [show VL (bs1++[b]) (ps++[M1.mem.length])=VL (bs1++[b]) ps++VL (bs1++[b]) [M1.mem.length] from List.map_append,hpe,hpb]
    unfold x4h at hW;cases hok:(QS M1 f t.args[j].x).2 with
    | false =>
      rw [hok,cond_false] at hag hW;have hres:GN p watch M f t k g=(-1,endM M1 4):=by
       unfold GN;rw [<- hag];rfl
      have hbl:bs1.length=(GN p watch M f t k g).2.mem.length:=by rw [hres];exact hM1.bl
      rw [hres] at hbl ⊢;generalize hev:QS M1 f t.args[j].x=ev at *
      obtain ⟨n,ok⟩:=ev;simp only at hok;subst hok;clear hag hch;conv=>whnf
      repeat' (first|((first|refine And.intro rfl ?_|(refine iA fun _=>?_)|refine Br.tt ?_);conv=>whnf)|(apply bD<;>intro _<;>first|omega|conv=>whnf)|(apply bB<;>intro _<;>conv=>whnf)|(refine CallK.heap [(1000,1000),(1001,1001),(2001,2001),(2002,2002),(2003,2003),(2004,2004),(2500,2500)] 0 (by repeat' (first|exact ArgsH.nil|refine ArgsH.cons ?_ ?_|exact LSub.refl _|exact LSub.p Sub.nils|exact LSub.p (Sub.tt rfl)|exact LSub.p (Sub.ff rfl)|exact LSub.p (Sub.int (by omega)))) (by refine BlksH.cons (j:=1000) rfl rfl ?_ ?_;exact CSub.refl _;refine BlksH.cons (j:=1001) rfl rfl ?_ ?_;exact CSub.refl _;refine BlksH.cons (j:=2001) rfl rfl ?_ ?_;exact CSub.refl _;refine BlksH.cons (j:=2002) rfl rfl ?_ ?_;exact CSub.refl _;refine BlksH.cons (j:=2003) rfl rfl ?_ ?_;exact CSub.refl _;refine BlksH.cons (j:=2004) rfl rfl ?_ ?_;exact CSub.refl _;refine BlksH.cons (j:=2500) rfl rfl ?_ ?_;exact CSub.refl _;exact BlksH.nil) hW rfl rfl ?_;rintro l' H' ⟨vs',rfl,rfl⟩;conv=>whnf))
      all_goals first
       | contradiction
       | (exfalso;simp_all;done)
       | exact RetHK.mk _ (LSub.refl _) ⟨bs1,vs',rfl,rfl,hbl⟩
    | true =>
      rw [hok,cond_true] at hag hW;have fin : ∀ (vs2:List Int) (b:Nat),∃ x:Nat×List Nat×List Nat×List Int×Mc,CallI p M f t x.1 x.2.1 x.2.2.1 x.2.2.2.2∧t.args.length-x.1<t.args.length-j∧x=(j+1,ps++[M1.mem.length],bs1++[b],vs2,{ M1 with mem:=M1.mem++[(QS M1 f t.args[j].x).1] }):=fun vs2 b =>
       ⟨(j+1,ps++[M1.mem.length],bs1++[b],vs2,{ M1 with mem:=M1.mem++[(QS M1 f t.args[j].x).1] }),⟨hj,hM1.cell b _,hsk,htr,hag,by simp [hpl],fun v hv=>by
         rcases List.mem_append.1 hv with hv|hv
         ·have:=hpr v hv;simp;omega
         ·rw [List.mem_singleton.1 hv];simp⟩,by simp only;omega,rfl⟩
      generalize hev:QS M1 f t.args[j].x=ev at *
      obtain ⟨n,ok⟩:=ev;simp only at hok;subst hok;have hpll:(VL bs1 ps).length=ps.length:=length_map _;clear hag;conv=>whnf
      repeat' (first|((first|refine And.intro rfl ?_|refine aD ?_|refine bP ?_|(refine iA fun _=>?_)|refine wI ?_|refine AppK.mk (n:=ps.length) hpll.symm rfl (by show (ps.length+1)*8<=140737488355328;omega) (by show ps.length+1<=9223372036854775807;omega) (fun x hx=>by rcases List.mem_singleton.1 hx with rfl;exact ⟨rfl,rfl⟩) ?_|refine Br.ff ?_);conv=>whnf)|(apply bD<;>intro _<;>first|omega|conv=>whnf)|(apply bB<;>intro _<;>conv=>whnf)|(refine CallK.heap [(1000,1000),(1001,1001),(2001,2001),(2002,2002),(2003,2003),(2004,2004),(2500,2500)] 0 (by repeat' (first|exact ArgsH.nil|refine ArgsH.cons ?_ ?_|exact LSub.refl _|exact LSub.p Sub.nils|exact LSub.p (Sub.tt rfl)|exact LSub.p (Sub.ff rfl)|exact LSub.p (Sub.int (by omega)))) (by refine BlksH.cons (j:=1000) rfl rfl ?_ ?_;exact CSub.refl _;refine BlksH.cons (j:=1001) rfl rfl ?_ ?_;exact CSub.refl _;refine BlksH.cons (j:=2001) rfl rfl ?_ ?_;exact CSub.refl _;refine BlksH.cons (j:=2002) rfl rfl ?_ ?_;exact CSub.refl _;refine BlksH.cons (j:=2003) rfl rfl ?_ ?_;exact CSub.refl _;refine BlksH.cons (j:=2004) rfl rfl ?_ ?_;exact CSub.refl _;refine BlksH.cons (j:=2500) rfl rfl ?_ ?_;exact CSub.refl _;exact BlksH.nil) hW rfl rfl ?_;rintro l' H' ⟨vs',rfl,rfl⟩;conv=>whnf)|(refine q0v QV 1 2500 ?_;conv=>whnf)|(refine ⟨⟨rfl,rfl⟩,fun b hb => ?_⟩;conv=>whnf))
      all_goals first
       | contradiction
       | (have h9:t.args[j].ref=true:=(by assumption)
          rw [hrf] at h9;cases h9)
       | (have h9:(!true)=true:=(by assumption)
          cases h9)
       | (obtain ⟨x,hx,hμ,rfl⟩:=fin vs' b
          exact ⟨_,hx,hμ,Le.of_eq (by simp only [hpn,hch,length_append,length_cons,length_nil]<;>rfl)⟩)
 ·obtain rfl:j=t.args.length:=by omega
  rw [List.drop_eq_nil_of_le (Nat.le_refl _),argsM] at hag;have hevs:=x1y (w:=watch) (M:=M1) (id:=t.id) (v:=[]);have hevm:=q8b (w:=watch) (M:=M1) (id:=t.id) (v:=[]);have hsl1:M1.stack.length<=101:=by rw [hsk];exact hsl
  have hE0:=XD p tape watch bs1 vs1 M1 t.id [] (by rw [htr];exact htl);have hOp:=GD p tape watch bs1 vs1 (QK watch M1 t.id []) (hM1.same hevs hevm) (by rw [hevs];omega) k g hk hV hgl hvl ps (by omega) (fun v hv=>by rw [hevm];exact hpr v hv) t.id;have hML:(M1.stack.map (fmA bs1)).length=M1.stack.length:=length_map _;by_cases hbig:100<M1.stack.length
  ·have hres:GN p watch M f t k g=(-1,endM M1 5):=by
    unfold GN;rw [<- hag];simp only [cond_true];rw [if_pos hbig]
   have hbl:bs1.length=(GN p watch M f t k g).2.mem.length:=by rw [hres];exact hM1.bl
   rw [hres] at hbl ⊢;clear hag;conv=>whnf
   repeat' (first|((first|(refine iM fun _=>?_)|refine And.intro rfl ?_);conv=>whnf)|(apply bD<;>intro _<;>first|omega|conv=>whnf))
   all_goals first
    | (exfalso;omega)
    | exact RetHK.mk _ (LSub.refl _) ⟨bs1,vs1,rfl,rfl,hbl⟩
  ·have hres:GN p watch M f t k g=(q1y p k g,JE p k g ps t.id (QK watch M1 t.id [])):=by
    unfold GN;rw [<- hag];simp only [cond_true];rw [if_neg hbig]
   have hbl : ∀ nb:List Nat,nb.length=g.vars.length->(bs1++nb).length=(GN p watch M f t k g).2.mem.length:=fun nb hnb=>by
    rw [hres];unfold JE;simp only [length_append,List.length_replicate];rw [hevm,hM1.bl,hnb]
   rw [hres] at hbl ⊢;clear hag;conv=>whnf
   repeat' (first|((first|(refine iM fun _=>?_)|refine dA ?_|refine cP hPr ?_);conv=>whnf)|(apply bD<;>intro _<;>first|omega|conv=>whnf)|(refine CallK.heap [(1000,1000),(1001,1001),(2001,2001),(2002,2002),(2003,2003),(2004,2004),(2500,2500)] 0 (ArgsH.cons (LSub.refl _) (ArgsH.cons (LSub.refl _) (ArgsH.cons (LSub.p Sub.nils) ArgsH.nil))) (by refine BlksH.cons (j:=1000) rfl rfl ?_ ?_;exact CSub.refl _;refine BlksH.cons (j:=1001) rfl rfl ?_ ?_;exact CSub.refl _;refine BlksH.cons (j:=2001) rfl rfl ?_ ?_;exact CSub.refl _;refine BlksH.cons (j:=2002) rfl rfl ?_ ?_;exact CSub.refl _;refine BlksH.cons (j:=2003) rfl rfl ?_ ?_;exact CSub.refl _;refine BlksH.cons (j:=2004) rfl rfl ?_ ?_;exact CSub.refl _;refine BlksH.cons (j:=2500) rfl rfl ?_ ?_;exact CSub.refl _;exact BlksH.nil) hE0 rfl rfl ?_;rintro l' H' ⟨rfl,rfl⟩;conv=>whnf)|(refine CallK.heap [(1000,1000),(1001,1001),(2001,2001),(2002,2002),(2003,2003),(2004,2004),(2500,2500),(2005,0)] 0 (by repeat' (first|exact ArgsH.nil|refine ArgsH.cons ?_ ?_|exact LSub.refl _|exact LSub.p Sub.nils|exact LSub.p (Sub.tt rfl)|exact LSub.p (Sub.ff rfl)|exact LSub.p (Sub.int (by omega)))) (by refine BlksH.cons (j:=1000) rfl rfl ?_ ?_;exact CSub.refl _;refine BlksH.cons (j:=1001) rfl rfl ?_ ?_;exact CSub.refl _;refine BlksH.cons (j:=2001) rfl rfl ?_ ?_;exact CSub.refl _;refine BlksH.cons (j:=2002) rfl rfl ?_ ?_;exact CSub.refl _;refine BlksH.cons (j:=2003) rfl rfl ?_ ?_;exact CSub.refl _;refine BlksH.cons (j:=2004) rfl rfl ?_ ?_;exact CSub.refl _;refine BlksH.cons (j:=2500) rfl rfl ?_ ?_;exact CSub.refl _;refine BlksH.cons (j:=0) rfl rfl ?_ ?_;exact CSub.refl _;exact BlksH.nil) hOp rfl rfl ?_;rintro l' H' ⟨nb,rfl,rfl,hnb⟩;conv=>whnf))
   all_goals first
    | (exfalso;omega)
    | exact RetHK.mk _ (LSub.refl _) ⟨bs1++nb,vs1,rfl,rfl,hbl nb hnb⟩
section
variable {P:Program} {T:Tab} {N:Nat} {o:Oper} {s:St}
theorem w2j {l:List (Nat×AV)} (h:(l.map (·.1)).Nodup) {i j:Nat} {x y:Nat×AV} (hi:l[i]? = some x) (hj:l[j]? = some y) (he:x.1=y.1):i=j:=by
 have h1:(l.map (·.1))[i]? = some x.1:=by rw [List.getElem?_map,hi];rfl
 have h2:(l.map (·.1))[j]? = some y.1:=by rw [List.getElem?_map,hj];rfl
 have hlt:i<(l.map (·.1)).length:=(List.getElem?_eq_some_iff.1 h1).1;exact (List.getElem?_inj hlt h).1 (by rw [h1,h2,he])
theorem FV (hT:TabOK P T) {K:St->Prop} {t:TypeId} {x v:Operand} (hop:o.op = .store t x v) (hd:o.dst=none) {i:TyI} (hi:T.get t=some i) (hs1:i.size=1) {b:Nat} (hx:QT s.sl x = .p (cpA b)) {c:AV} (hv:QT s.sl v = .p c) (hone:c.one=true) {kc:Nat} {e:TypeId} {l:List (Nat×AV)} (hg:getH s.H kc=some (.ext (.cells e l))) {m:Nat} {c0:AV} (hm:l[m]? = some (b,c0))
  (h:q6k s.H kc (.ext (.cells e (l.set m (b,c)))) fun H=>K ⟨s.sl,H⟩):OpK P N s o K:=by
 refine ⟨fun σ β a w hr Q => ?_⟩;have h1:=QQ hr.slots x;rw [hx] at h1;have h2:=QQ hr.slots v;rw [hv] at h2;have hch:XC.holds (.cells e l) σ (β kc) w:=hr.heap.chunks kc _ (QY hg);obtain ⟨ic,u,h3,h4,h5,h6⟩:=hch.2 _ (List.mem_of_getElem? hm);have hlab:kc∈s.H.map (·.1):=List.mem_map.2 ⟨_,QY hg,rfl⟩;obtain ⟨H',hK,g1,g2,g3⟩:=UT hr.heap.nodup h;have hrep:Rep σ c (a.eval v):=by cases h2 with|p h2=>exact h2
 have hcell:(a.eval v).cells = #[a.eval v]:=by
  have:=hrep.oneCell hone;generalize a.eval v=u at this;cases u<;>first|rfl|cases this
 have hone' : ∀ u'∈(a.eval v).cells.toList,u'.oneCell'=true:=fun u' hu=>by
  rw [hcell] at hu;have:u'=a.eval v:=by simpa using hu
  rw [this];exact hrep.oneCell hone
 have hxe:a.eval x = .pointer (some ⟨b,0,none⟩):=by
  generalize a.eval x=z at h1;cases h1 with
  | p h1=>cases h1 with
    | raw=>rfl
 have hrun:(execOp a.eval o).run P w = .ok .skip (w.setRow b #[a.eval v]):=by
  have hst:=run_storeCells_at P b 0 e (a.eval v).cells.toList 0 #[u] w h5 (by rw [hcell];simp) hone';have hsz:(sizeOf t).run P w = .ok 1 w:=by rw [<- hs1];exact (hT _ _ hi).sizeOf w
  simp only [Nat.add_zero,hcell] at hst;have hst2:Sem.run P (storeCells ⟨b,0,none⟩ [a.eval v]) w=Result.ok () (w.setRow b #[a.eval v]):=by simpa using hst
  simp [execOp,hop,Instr.storeAt,Instr.sureAddr,hxe,storeVar,hsz,hcell,hst2]
 have hfst:(l.set m (b,c)).map (·.1)=l.map (·.1):=by
  rw [List.map_set];refine List.ext_getElem? fun j => ?_;rw [List.getElem?_set];by_cases hj:m=j
  ·subst hj;have hlt:m<l.length:=(List.getElem?_eq_some_iff.1 hm).1;rw [if_pos rfl,if_pos (by rw [length_map];exact hlt),List.getElem?_map,hm];rfl
  ·rw [if_neg hj]
 obtain ⟨g4,g5⟩:=x4i hr.heap hlab h3 h4 (vs := #[a.eval v]) g1 g2 fun d hd'=>by
  rw [g3 d hd'];show XC.holds (.cells e (l.set m (b,c))) σ (β kc) _;refine ⟨by rw [hfst];exact hch.1,fun y hy => ?_⟩;obtain ⟨j,hj⟩:=List.mem_iff_getElem?.1 hy;rw [List.getElem?_set] at hj;by_cases hjm:m=j
  ·subst hjm;have hlt:m<l.length:=(List.getElem?_eq_some_iff.1 hm).1;rw [if_pos rfl,if_pos hlt] at hj;cases hj;exact ⟨ic,a.eval v,h3,h4,setRow_heap w b _ _ _ _ h5,hrep⟩
  ·rw [if_neg hjm] at hj;have hne:y.1≠b:=fun he=>hjm (w2j hch.1 hm hj he.symm);obtain ⟨i1,u1,q1,q2,q3,q4⟩:=hch.2 y (List.mem_of_getElem? hj);exact ⟨i1,u1,q1,q2,(setRow_other w b y.1 _ hne).trans q3,q4⟩
 refine PU hrun ⟨σ,β,⟨s.sl,H'⟩,hK,⟨?_,?_,?_,g4⟩,g5⟩
 ·rw [hd];exact hr.size
 ·rw [hd];exact hr.defers
 ·rw [hd];exact hr.slots
end
theorem SpecH.post {P:Program} {f:FuncId} {args:List LV} {H:Heap} {R R':LV->Heap->Prop} (h:SpecH P f args H R) (hR : ∀ l H',R l H' -> ∃ H'',R' l H''∧Le 1 ⟨[(0,l)],H'⟩ ⟨[(0,l)],H''⟩):SpecH P f args H R':=by
 refine ⟨h.go,fun σ β w vals h1 h2 h3=>(h.ok σ β w vals h1 h2 h3).mono fun ex w' hx => ?_⟩;obtain ⟨l,u,σ',β',H',he,hR0,hrep,hrel,hlat⟩:=hx;obtain ⟨H'',hR1,hle⟩:=hR l H' hR0;obtain ⟨σ2,β2,hr2,hl2⟩:=hle σ' β' { tmps := #[u],defers:=[] } w' ⟨rfl,rfl,fun i=>by
  match i with
  | 0=>simpa [getS] using hrep
  | i+1=>exact .p (by simpa [getS] using Rep.any _),hrel⟩
 exact ⟨l,u,σ2,β2,H'',he,hR1,by simpa [getS] using hr2.slots 0,hr2.heap,hlat.trans hl2⟩
theorem CSub.pre {e:TypeId} {sz:Nat} {es es':List AV} (h:es' <+: es):CSub (.own e sz es) (.own e sz es'):=fun σ β w k hh=>by
 rcases hh with ⟨h3,h4⟩|⟨i,vs,h3,h4,h5,h6,h7,h8,h9⟩
 ·rw [h4] at h;exact .inl ⟨h3,List.prefix_nil.1 h⟩
 ·exact .inr ⟨i,vs,h3,h4,h5,h6,Nat.le_trans h.length_le h7,h8,fun m x hx=>h9 m x (by
   obtain ⟨t,rfl⟩:=h;rw [List.getElem?_append_left (List.getElem?_eq_some_iff.1 hx).1];exact hx)⟩
def setM (M:Mc) (v:Nat) (n:Int):Mc:={ M with mem:=M.mem.set v n }
theorem KW {bs:List Nat} {mem:List Int} (hl:bs.length=mem.length) {v:Nat} (h:v<mem.length):(ZJ bs mem)[v]? = some (bs.getD v 0,.int .i64 (mem.getD v 0)):=by
 unfold ZJ;rw [List.getElem?_zip_eq_some];refine ⟨?_,?_⟩
 ·rw [getD_eq_getElem?_getD,List.getElem?_eq_getElem (by omega)];rfl
 ·rw [List.getElem?_map,List.getElem?_eq_getElem h];show some (AV.int .i64 mem[v])=some (AV.int .i64 (mem.getD v 0));rw [getD_eq_getElem?_getD,List.getElem?_eq_getElem h];rfl
theorem w0k {bs:List Nat} {mem:List Int} (hl:bs.length=mem.length) {v:Nat} (h:v<mem.length) (n:Int):ZJ bs (mem.set v n)=(ZJ bs mem).set v (bs.getD v 0,.int .i64 n):=by
 have hcl:(ZJ bs mem).length=mem.length:=by unfold ZJ;rw [List.length_zip,length_map];omega
 refine List.ext_getElem? fun j => ?_;rw [List.getElem?_set];by_cases hj:v=j
 ·subst hj;rw [if_pos rfl,if_pos (by omega),KW (by rw [length_set];exact hl) (by rw [length_set];exact h)];rw [getD_eq_getElem?_getD (l:=mem.set v n),List.getElem?_set_self h];rfl
 ·rw [if_neg hj];rcases Nat.lt_or_ge j mem.length with hjl|hjl
  ·rw [KW (by rw [length_set];exact hl) (by rw [length_set];exact hjl),KW hl hjl];rw [getD_eq_getElem?_getD (l:=mem.set v n),List.getElem?_set_ne hj,<- getD_eq_getElem?_getD]
  ·rw [List.getElem?_eq_none (by unfold ZJ;rw [List.length_zip,length_map,length_set];omega),List.getElem?_eq_none (by omega)]
def mHs (p:Pg) (tape watch:List Int) (bs:List Nat) (vs:List Int) (M:Mc) (es:List AV):Heap:=[(1000,mO p tape watch p.globals.length M.stack.length vs.length M),(1001,.own 164 1 (VL bs (List.range p.globals.length))),(2001,.own 218 1 es),(2002,.own 2 1 (vs.map (.int .i64))),
 (2003,.own 2 1 (M.out.map (.int .i64))),(2004,.own 63 2 (M.trace.map evA)),(2500,.ext (.cells 2 (ZJ bs M.mem)))]
theorem x0i {p:Pg} {tape watch:List Int} {bs:List Nat} {vs:List Int} {M:Mc} {v:Nat} {n:Int} {es:List AV} (hl:bs.length=M.mem.length) (h:v<M.mem.length):mHs p tape watch bs vs (setM M v n) es=[(1000,mO p tape watch p.globals.length M.stack.length vs.length M),(1001,.own 164 1 (VL bs (List.range p.globals.length))),(2001,.own 218 1 es),(2002,.own 2 1 (vs.map (.int .i64))),
 (2003,.own 2 1 (M.out.map (.int .i64))),(2004,.own 63 2 (M.trace.map evA)),(2500,.ext (.cells 2 ((ZJ bs M.mem).set v (bs.getD v 0,.int .i64 n))))]:=by
 unfold mHs setM;simp only;rw [w0k hl h];rfl
def popM (M:Mc) (st:List Fm):Mc:={ M with stack:=st }
inductive CloseP (p:Pg) (M:Mc) (st:List Fm) (f:Fm) (gave:Int):Int->Mc->Prop
 | done (h:f.call=0):CloseP p M st f gave (-1) (endM (popM M st) 1)
 | drop {it:Item} (h:1<=f.call) (hit:(sheetOf p).l[(f.call-1).toNat]? = some it) (hn:it.s.name=[]):CloseP p M st f gave it.next (popM M st)
 | keep {it:Item} {st':List Fm} {g:Fm} (h:1<=f.call) (hit:(sheetOf p).l[(f.call-1).toNat]? = some it) (hn:it.s.name≠[]) (hg:st=st'++[g]) (hi:0<=idxF (fun y=>it.s.name==y) g.names):CloseP p M st f gave it.next (setM (popM M st) (varM g it.s.name) gave)
theorem MO (p:Pg) (tape watch:List Int) (bs:List Nat) (vs:List Int) (M:Mc) (st:List Fm) (f:Fm) (hs:M.stack=st++[f]) (hM:OkM p bs M) (hfc:f.call<=100000) (gave:Int) (at_:Int) (M':Mc) (hC:CloseP p M st f gave at_ M'):SpecH Tryz.prog 114 [.ptr 1000 0,.p (.int .i64 gave)] (mH p tape watch bs vs M) (fun r H => ∃ es,st.map (fmA bs) <+: es∧r = .p (.int .i64 at_)∧H=mHs p tape watch bs vs M' es):=by
 refine sH BM Tryz.func114 rfl Tryz.call114 ?_;conv=>whnf
 have hT:=UC p tape watch bs vs M st f hs hM.sl;have hn:M.stack.length=st.length+1:=by rw [hs,length_append];rfl
 have hpre:st.map (fmA bs) <+: M.stack.map (fmA bs):=by rw [hs,List.map_append];exact List.prefix_append _ _
 have hml:(M.stack.map (fmA bs)).length=M.stack.length:=length_map _;have hsl:=hM.sl;cases hC with
 | done h0 =>
   repeat' (first|((first|(refine iM fun _=>?_)|refine dA ?_|refine And.intro rfl ?_|refine wI ?_|refine SlK.mk 0 st.length rfl (by show (M.stack.length:Int)-1=_;omega) (zero_le _) (by omega) ?_);conv=>whnf)|(apply bD<;>intro _<;>first|omega|conv=>whnf)|(refine CallK.heap [(1000,1000),(1001,1001),(2001,2001),(2002,2002),(2003,2003),(2004,2004),(2500,2500)] 0 (by repeat' (first|exact ArgsH.nil|refine ArgsH.cons ?_ ?_|exact LSub.refl _|exact LSub.p Sub.nils|exact LSub.p (Sub.tt rfl)|exact LSub.p (Sub.ff rfl)|exact LSub.p (Sub.int (by omega)))) (by refine BlksH.cons (j:=1000) rfl rfl ?_ ?_;exact CSub.refl _;refine BlksH.cons (j:=1001) rfl rfl ?_ ?_;exact CSub.refl _;refine BlksH.cons (j:=2001) rfl rfl ?_ ?_;exact CSub.refl _;refine BlksH.cons (j:=2002) rfl rfl ?_ ?_;exact CSub.refl _;refine BlksH.cons (j:=2003) rfl rfl ?_ ?_;exact CSub.refl _;refine BlksH.cons (j:=2004) rfl rfl ?_ ?_;exact CSub.refl _;refine BlksH.cons (j:=2500) rfl rfl ?_ ?_;exact CSub.refl _;exact BlksH.nil) hT rfl rfl ?_;rintro l' H' ⟨rfl,rfl⟩;conv=>whnf))
   all_goals first
    | (exfalso;omega)
    | exact RetHK.mk _ (LSub.refl _) ⟨_,hpre,rfl,rfl⟩
 | @drop it h1 hit hne =>
   have hg:((sheetOf p).l.map fun i=>AV.agg i.cells)[(f.call-1).toNat]? = some (.agg it.cells):=by rw [List.getElem?_map,hit];rfl
   have hnb:(it.s.name==[])=true:=by rw [hne];rfl
   repeat' (first|((first|(refine iM fun _=>?_)|refine dA ?_|refine And.intro rfl ?_|refine wI ?_|refine SlK.mk 0 st.length rfl (by show (M.stack.length:Int)-1=_;omega) (zero_le _) (by omega) ?_|(refine IdxK.at (k:=(f.call-1).toNat) (by omega) hg rfl ?_));conv=>whnf)|(apply bD<;>intro _<;>first|omega|conv=>whnf)|(apply bN<;>intro _<;>conv=>whnf)|(refine CallK.heap [(1000,1000),(1001,1001),(2001,2001),(2002,2002),(2003,2003),(2004,2004),(2500,2500)] 0 (by repeat' (first|exact ArgsH.nil|refine ArgsH.cons ?_ ?_|exact LSub.refl _|exact LSub.p Sub.nils|exact LSub.p (Sub.tt rfl)|exact LSub.p (Sub.ff rfl)|exact LSub.p (Sub.int (by omega)))) (by refine BlksH.cons (j:=1000) rfl rfl ?_ ?_;exact CSub.refl _;refine BlksH.cons (j:=1001) rfl rfl ?_ ?_;exact CSub.refl _;refine BlksH.cons (j:=2001) rfl rfl ?_ ?_;exact CSub.refl _;refine BlksH.cons (j:=2002) rfl rfl ?_ ?_;exact CSub.refl _;refine BlksH.cons (j:=2003) rfl rfl ?_ ?_;exact CSub.refl _;refine BlksH.cons (j:=2004) rfl rfl ?_ ?_;exact CSub.refl _;refine BlksH.cons (j:=2500) rfl rfl ?_ ?_;exact CSub.refl _;exact BlksH.nil) hT rfl rfl ?_;rintro l' H' ⟨rfl,rfl⟩;conv=>whnf))
   all_goals first
    | (exfalso;omega)
    | (exfalso;simp_all;done)
    | exact RetHK.mk _ (LSub.refl _) ⟨_,hpre,rfl,rfl⟩
 | @keep it st' g h1 hit hne hg' hi =>
   have hg:((sheetOf p).l.map fun i=>AV.agg i.cells)[(f.call-1).toNat]? = some (.agg it.cells):=by rw [List.getElem?_map,hit];rfl
   have hnb:(it.s.name==[])=false:=beq_eq_false_iff_ne.2 hne;have hgm:g∈M.stack:=by rw [hs,hg'];simp
   have hF:=hM.fr g hgm;have hvi:(idxF (fun y=>it.s.name==y) g.names).toNat<g.vars.length:=by rw [hF.len];exact q3n hi
   have hvg:g.vars[(idxF (fun y=>it.s.name==y) g.names).toNat]? = some (varM g it.s.name):=by unfold varM;rw [getD_eq_getElem?_getD,List.getElem?_eq_getElem hvi];rfl
   have hWh:=ZA p tape watch bs vs (popM M st) st' g hg' (by show st.length<=1000;omega) it.s.name (idxF (fun y=>it.s.name==y) g.names).toNat (varM g it.s.name) (Int.toNat_of_nonneg hi).symm hvg;have hvr:varM g it.s.name<M.mem.length:=hF.rng _ (List.mem_of_getElem? hvg);have hcg:=KW hM.bl hvr;have hsh:=x0i (p:=p) (tape:=tape) (watch:=watch) (vs:=vs) (M:=popM M st) (v:=varM g it.s.name) (n:=gave) (es:=st.map (fmA bs)) hM.bl hvr;generalize varM g it.s.name=vv at *
   repeat' (first|((first|(refine iM fun _=>?_)|refine dA ?_|refine And.intro rfl ?_|refine wI ?_|refine SlK.mk 0 st.length rfl (by show (M.stack.length:Int)-1=_;omega) (zero_le _) (by omega) ?_|(refine IdxK.at (k:=(f.call-1).toNat) (by omega) hg rfl ?_)|refine YC rfl rfl ?_|refine FV (kc:=2500) QV rfl rfl rfl rfl rfl rfl rfl rfl hcg ?_);conv=>whnf)|(apply bD<;>intro _<;>first|omega|conv=>whnf)|(apply bN<;>intro _<;>conv=>whnf)|(refine CallK.heap [(1000,1000),(1001,1001),(2001,2001),(2002,2002),(2003,2003),(2004,2004),(2500,2500)] 0 (by repeat' (first|exact ArgsH.nil|refine ArgsH.cons ?_ ?_|exact LSub.refl _|exact LSub.p Sub.nils|exact LSub.p (Sub.tt rfl)|exact LSub.p (Sub.ff rfl)|exact LSub.p (Sub.int (by omega)))) (by refine BlksH.cons (j:=1000) rfl rfl ?_ ?_;exact CSub.refl _;refine BlksH.cons (j:=1001) rfl rfl ?_ ?_;exact CSub.refl _;refine BlksH.cons (j:=2001) rfl rfl ?_ ?_;exact CSub.refl _;refine BlksH.cons (j:=2002) rfl rfl ?_ ?_;exact CSub.refl _;refine BlksH.cons (j:=2003) rfl rfl ?_ ?_;exact CSub.refl _;refine BlksH.cons (j:=2004) rfl rfl ?_ ?_;exact CSub.refl _;refine BlksH.cons (j:=2500) rfl rfl ?_ ?_;exact CSub.refl _;exact BlksH.nil) hT rfl rfl ?_;rintro l' H' ⟨rfl,rfl⟩;conv=>whnf)|(refine CallK.heap [(1000,1000),(1001,1001),(2001,2001),(2002,2002),(2003,2003),(2004,2004),(2500,2500)] 0 (by repeat' (first|exact ArgsH.nil|refine ArgsH.cons ?_ ?_|exact LSub.refl _|exact LSub.p Sub.nils|exact LSub.p (Sub.tt rfl)|exact LSub.p (Sub.ff rfl)|exact LSub.p (Sub.int (by omega)))) (by refine BlksH.cons (j:=1000) rfl rfl ?_ ?_;exact CSub.refl _;refine BlksH.cons (j:=1001) rfl rfl ?_ ?_;exact CSub.refl _;refine BlksH.cons (j:=2001) rfl rfl ?_ ?_;exact CSub.pre hpre;refine BlksH.cons (j:=2002) rfl rfl ?_ ?_;exact CSub.refl _;refine BlksH.cons (j:=2003) rfl rfl ?_ ?_;exact CSub.refl _;refine BlksH.cons (j:=2004) rfl rfl ?_ ?_;exact CSub.refl _;refine BlksH.cons (j:=2500) rfl rfl ?_ ?_;exact CSub.refl _;exact BlksH.nil) hWh rfl rfl ?_;rintro l' H' ⟨rfl,rfl⟩;conv=>whnf))
   all_goals first
    | (exfalso;omega)
    | (exfalso;simp_all;done)
    | exact RetHK.mk _ (LSub.refl _) ⟨_,List.prefix_refl _,rfl,hsh.symm⟩
end Go.Ab
