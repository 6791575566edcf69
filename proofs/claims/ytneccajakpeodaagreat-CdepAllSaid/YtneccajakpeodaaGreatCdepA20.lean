/- The reference's rows of texts that rise; whom a procedure calls, over others too. -/
import Derived.Test.YtneccajakpeodaaGreatCdepA16
import Derived.Test.YtneccajakpeodaaGreatCdepA18
import Derived.Test.YtneccajakpeodaaGreatCdepA19
set_option linter.unusedSimpArgs false
set_option linter.unusedVariables false
set_option maxRecDepth 100000
set_option maxHeartbeats 16000000
namespace Go.Ab
open Go.Proofs
theorem VZ (l:List Str) (hl:l.length≤1000000000):SpecP Tryz.prog 99 [QD l] (fun r=>r=QD (q6c l)):=by
 refine SpecP.body DO QQ Tryz.func99 rfl Tryz.call99 (by show 1≤_;decide) ?_
 conv=>whnf
 intro (_:_≤9223372036854775807)
 have hll:(l.map AV.str).length=l.length:=List.length_map _
 conv=>whnf
 refine LoopK.inv QQ (fun x:Nat×List Str=>⟨[(0,.p (QD l)),(3,.hd 0 0 x.2.length),(9,.p (.int .i64 (l.map AV.str).length)),(10,.p (.int .i64 x.1))],[(0,.own 9 1 (x.2.map .str))]⟩) (fun x=>x.1≤l.length∧RiseI ltT l x.2 x.1) (fun x=>l.length-x.1) (0,[])
  (Le.mk [(0,.own 9 1 [])] (by simp [Chunk.new0];rfl) (by simp) (by simp) (.cons (.refl _) (.cons (.nil List.mem_cons_self) (.cons (.refl _) (.cons (.refl _) .nil)))) (.new List.mem_cons_self .nil)) ⟨Nat.zero_le _,RiseI.zero⟩ ?_
 rintro ⟨i,out⟩ ⟨h2,h3⟩
 simp only at h2 h3 ⊢
 have hol:=h3.len ltT.irr
 rcases Nat.lt_or_ge i l.length with hi|hi
 ·conv=>whnf
  repeat' (first|(intro (_:_≤9223372036854775807);conv=>whnf)|(refine Br.dec (fun _=>?_) (fun _=>?_)<;>first|(exfalso;omega)|conv=>whnf))
  refine LoopK.inv QQ (fun x:Nat×Option Str=>⟨[(0,.p (QD l)),(3,.hd 0 0 out.length),(4,.p (.str (x.2.getD []))),(5,.p (.bool x.2.isSome)),(9,.p (.int .i64 (l.map AV.str).length)),(10,.p (.int .i64 i)),(12,.p (QD l)),(13,.p (.int .i64 (l.map AV.str).length)),(14,.p (.int .i64 x.1))],[(0,.own 9 1 (out.map .str))]⟩) (fun x=>x.1≤l.length∧LeastI ltT l out x.1 x.2) (fun x=>l.length-x.1) (0,none) (Le.mk [] (by simp) (by simp) (by simp) (.cons (.refl _) (.cons (.refl _) (.cons (.refl _) (.cons (.p (Sub.ff rfl)) (.cons (.refl _) (.cons (.refl _) (.cons (.refl _) (.cons (.refl _) (.cons (.refl _) .nil))))))))) (.cons rfl (.refl _) .nil)) ⟨Nat.zero_le _,LeastI.zero⟩ ?_
  rintro ⟨k,o⟩ ⟨h4,h5⟩
  simp only at h4 h5 ⊢
  rcases Nat.lt_or_ge k l.length with hk|hk
  ·have hin:inS out l[k]=true→l[k]∈out:=x8d.1
   have hno:inS out l[k]=false→l[k]∉out:=fun h hm=>by rw [x8d.2 hm] at h;cases h
   cases o with
   | none =>
     simp only [Option.getD_none,Option.isSome_none]
     conv=>whnf
     repeat' (first|((first|refine IdxK.map (by omega) (fun _=>rfl) ?_|refine Wr.i64 (by omega) (by omega) ?_|(refine CallK.borrow (QC out (l[k]'hk)) (.cons (.hd rfl (by simp)) (.cons (.p (Sub.refl _)) .nil)) (by rintro _ rfl;rfl) ?_;rintro _ rfl));conv=>whnf)|(refine Br.dec (fun _=>?_) (fun _=>?_)<;>first|(exfalso;omega)|conv=>whnf)|(refine Br.n (fun _=>?_) (fun _=>?_)<;>conv=>whnf)|(refine Br.b (fun _=>?_) (fun _=>?_)<;>conv=>whnf))
     all_goals first
      | (exfalso;simp_all;done)
      | exact ⟨(k+1,none),⟨by simp only;omega,h5.old hk (hin (by assumption))⟩,by simp only;omega,Le.of_eq rfl⟩
      | exact ⟨(k+1,some l[k]),⟨by simp only;omega,h5.first hk (hno (by assumption))⟩,by simp only;omega,(Le.mk [] (by simp) (by simp) (by simp) (.cons (.refl _) (.cons (.refl _) (.cons (.refl _) (.cons (.p (Sub.tt rfl)) (.cons (.refl _) (.cons (.refl _) (.cons (.refl _) (.cons (.refl _) (.cons (.refl _) .nil))))))))) (.cons rfl (.refl _) .nil))⟩
   | some m =>
     simp only [Option.getD_some,Option.isSome_some]
     conv=>whnf
     repeat' (first|((first|refine IdxK.map (by omega) (fun _=>rfl) ?_|refine Wr.i64 (by omega) (by omega) ?_|(refine CallK.borrow (QC out (l[k]'hk)) (.cons (.hd rfl (by simp)) (.cons (.p (Sub.refl _)) .nil)) (by rintro _ rfl;rfl) ?_;rintro _ rfl));conv=>whnf)|(refine Br.dec (fun _=>?_) (fun _=>?_)<;>first|(exfalso;omega)|conv=>whnf)|(refine Br.n (fun _=>?_) (fun _=>?_)<;>conv=>whnf)|(refine Br.b (fun _=>?_) (fun _=>?_)<;>conv=>whnf))
     all_goals first
      | (exfalso;simp_all;done)
      | exact ⟨(k+1,some m),⟨by simp only;omega,h5.old hk (hin (by assumption))⟩,by simp only;omega,Le.of_eq rfl⟩
      | exact ⟨(k+1,some l[k]),⟨by simp only;omega,h5.less ltT.trans hk (hno (by assumption)) (by assumption)⟩,by simp only;omega,(Le.mk [] (by simp) (by simp) (by simp) (.cons (.refl _) (.cons (.refl _) (.cons (.refl _) (.cons (.p (Sub.tt rfl)) (.cons (.refl _) (.cons (.refl _) (.cons (.refl _) (.cons (.refl _) (.cons (.refl _) .nil))))))))) (.cons rfl (.refl _) .nil))⟩
      | (have hb:Op.bytesLess l[k] m=false:=by assumption
         exact ⟨(k+1,some m),⟨by simp only;omega,h5.more (fun _ _=>ltT.total) hk (fun h=>by unfold ltT at h;rw [hb] at h;cases h)⟩,by simp only;omega,Le.of_eq rfl⟩)
  ·obtain rfl:k=l.length:=by omega
   cases o with
   | none =>
     simp only [Option.getD_none,Option.isSome_none]
     conv=>whnf
     repeat' (first|((first|refine And.intro rfl ?_|(refine And.intro ⟨by decide,by decide⟩ ?_)|refine BsK.pure (fun x hx=>by rcases List.mem_singleton.1 hx with rfl;rfl) rfl ?_|refine Wr.i64 (by omega) (by omega) ?_);conv=>whnf)|(refine Br.dec (fun _=>?_) (fun _=>?_)<;>first|(exfalso;omega)|conv=>whnf)|(refine Br.b (fun _=>?_) (fun _=>?_)<;>conv=>whnf))
     all_goals first
      | (exfalso;simp_all;done)
      | exact ⟨(i+1,out),⟨by simp only;omega,h3.stay h5⟩,by simp only;omega,Le.of_eq rfl⟩
   | some m =>
     simp only [Option.getD_some,Option.isSome_some]
     conv=>whnf
     repeat' (first|((first|refine And.intro rfl ?_|(refine And.intro ⟨by decide,by decide⟩ ?_)|refine BsK.pure (fun x hx=>by rcases List.mem_singleton.1 hx with rfl;rfl) rfl ?_|refine Wr.i64 (by omega) (by omega) ?_|refine AppK.str1 (by simp) (by simp;omega) ?_);conv=>whnf)|(refine Br.dec (fun _=>?_) (fun _=>?_)<;>first|(exfalso;omega)|conv=>whnf)|(refine Br.b (fun _=>?_) (fun _=>?_)<;>conv=>whnf))
     all_goals first
      | (exfalso;simp_all;done)
      | exact ⟨(i+1,out++[m]),⟨by simp only;omega,h3.snoc h5⟩,by simp only;omega,Le.of_eq (by simp only [List.length_append,List.map_append];rfl)⟩
 ·obtain ⟨h6,h7⟩:=h3.all ltT.irr (by omega)
  rw [← z2c h6 h7]
  conv=>whnf
  repeat' (refine Br.dec (fun _=>?_) (fun _=>?_)<;>first|(exfalso;omega)|conv=>whnf)
  exact ⟨_,.hd rfl (by simp),rfl⟩
def q3t (f:Pr):List Str:=((ZR f).filter fun x=>decide (x.s.kind=4)).map fun x=>x.s.proc
theorem z4m (f:Pr):(q3t f).length≤201:=by
 unfold q3t
 rw [List.length_map]
 exact Nat.le_trans (List.length_filter_le _ _) (JH f)
theorem q1d (p:Pg) (n:Str):SpecP Tryz.prog 323 [.agg p.cells,.str n] (fun r=>r=QD (q6c (q3t (VE p n).1))):=by
 refine SpecP.body PR QQ Tryz.func323 rfl Tryz.call323 (by show 2≤_;decide) ?_
 conv=>whnf
 have hN:=ZS p n
 generalize (VE p n).2=ok at *
 generalize (VE p n).1=f at *
 have hF:=QE f
 have hcl:=z4m f
 have hrl:=JH f
 have hcu:q3t f=((ZR f).filter fun x=>decide (x.s.kind=4)).map fun x=>x.s.proc:=rfl
 have hS:=VZ (q3t f) (by omega)
 generalize q3t f=C at *
 generalize ZR f=L at *
 have hLl:=ZI L
 repeat' ((first|intro (_:_≤9223372036854775807)|refine And.intro rfl ?_|(refine CallK.pure hN (.cons (Sub.refl _) (.cons (Sub.refl _) .nil)) ?_;rintro _ rfl)|(refine CallK.pure hF (.cons (Sub.refl _) .nil) ?_;rintro _ rfl));conv=>whnf)
 refine LoopK.inv QQ (fun x:Nat×List Str=>⟨[(7,.hd 0 0 x.2.length),(17,.p (YN L)),(18,.p (.int .i64 (L.map fun i=>AV.agg i.cells).length)),(19,.p (.int .i64 x.1))],[(0,.own 9 1 (x.2.map .str))]⟩) (fun x=>x.1≤L.length∧x.2=((L.take x.1).filter fun x=>decide (x.s.kind=4)).map (fun x=>x.s.proc)∧x.2.length≤x.1) (fun x=>L.length-x.1) (0,[])
  (Le.mk [(0,.own 9 1 [])] (by simp [Chunk.new0];rfl) (by simp) (by simp) (.cons (.nil List.mem_cons_self) (.cons (.refl _) (.cons (.refl _) (.cons (.refl _) .nil)))) (.new List.mem_cons_self .nil)) ⟨Nat.zero_le _,by simp,by simp⟩ ?_
 rintro ⟨j,acc⟩ ⟨h2,h3,h4⟩
 simp only at h2 h3 h4 ⊢
 rcases Nat.lt_or_ge j L.length with hj|hj
 ·have h6:=List.take_succ_eq_append_getElem hj
  conv=>whnf
  repeat' (first|((first|refine And.intro rfl ?_|(refine And.intro ⟨by decide,by decide⟩ ?_)|refine BsK.pure (fun x hx=>by rcases List.mem_singleton.1 hx with rfl;rfl) rfl ?_|refine IdxK.map (by omega) (fun _=>rfl) ?_|refine Wr.i64 (by omega) (by omega) ?_|refine AppK.str1 (by simp) (by simp;omega) ?_);conv=>whnf)|(refine Br.dec (fun _=>?_) (fun _=>?_)<;>first|(exfalso;omega)|conv=>whnf))
  all_goals first
   | exact ⟨(j+1,acc++[L[j].s.proc]),⟨by simp only;omega,by simp only;rw [h6,List.filter_append,List.map_append,← h3];congr 1;rw [List.filter_cons_of_pos (by simp;assumption)];rfl,by simp;omega⟩,by simp only;omega,Le.of_eq (by simp only [List.length_append,List.map_append];rfl)⟩
   | exact ⟨(j+1,acc),⟨by simp only;omega,by simp only;rw [h6,List.filter_append,List.map_append,← h3,List.filter_cons_of_neg (by simp;assumption)];simp,by simp only;omega⟩,by simp only;omega,Le.of_eq rfl⟩
 ·rw [List.take_of_length_le hj,← hcu] at h3
  subst h3
  conv=>whnf
  repeat' (first|(refine CallK.give hS (.cons (.hd rfl (by simp)) .nil) ?_;rintro _ rfl;conv=>whnf)|(refine Br.dec (fun _=>?_) (fun _=>?_)<;>first|(exfalso;omega)|conv=>whnf))
  exact RetK.p rfl
theorem z8f {p:Pg} (hm:WI p=true) {f:Pr} (hf:f∈p.procs):q6c (q3t f)=UX f:=by
 unfold q3t UX JS q6c
 rw [WK hm hf,← show (flatU f).map RI.s=flL f.body from DW 1 0 false f.body,List.filter_map,List.map_map]
 rfl
theorem z2y {p:Pg} {k:Nat} (hk:k<p.procs.length) {n:Str} (h:p.procs.find? (fun f=>f.name==n)=some p.procs[k]):VE p n=(p.procs[k],true):=by
 unfold VE
 rw [h]
theorem w2k {p:Pg} (hm:WI p=true) {k:Nat} (hk:k<p.procs.length) {n:Str} (h:p.procs.find? (fun f=>f.name==n)=some p.procs[k]):SpecP Tryz.prog 323 [.agg p.cells,.str n] (fun r=>r=QD (UX p.procs[k])):=by
 have:=q1d p n
 rw [z2y hk h,z8f hm (List.getElem_mem hk)] at this
 exact this
theorem MJ (p:Pg) (n:Str) (hs:(QS p).1=0) (hn:n∈procsN p):SpecP Tryz.prog 313 [.agg p.cells,.str n] (fun r=>r=QD (z3l p n)):=by
 refine SpecP.body BD QQ Tryz.func313 rfl Tryz.call313 (by show 2≤_;decide) ?_
 conv=>whnf
 obtain ⟨hm,hb,hns⟩:=VQ hs
 obtain ⟨hg,hpl,hcn⟩:=ZX hm
 have hnl:(procsN p).length=p.procs.length:=by simp [procsN]
 repeat' ((first|refine And.intro rfl ?_|(refine And.intro ⟨by decide,by decide⟩ ?_)|refine BsK.own (fun x hx=>by rcases List.mem_singleton.1 hx with rfl;rfl) rfl ?_);conv=>whnf)
 refine LoopK.inv QQ (fun i:Nat×List Str=>⟨[(2,.p (.ip p.cells)),(5,.hd 0 0 i.2.length),(6,.p (.int .i64 i.1))],[(0,.own 9 1 (i.2.map .str))]⟩)
  (fun i=>i.1≤i.2.length∧i.2.Nodup∧(∀ s∈i.2,s∈procsN p)∧WR p (p.procs.length+1-i.1) i.1 i.2=WR p (p.procs.length+1) 0 [n]) (fun i=>p.procs.length+1-i.1) (0,[n])
  (Le.of_eq rfl) ⟨Nat.zero_le _,by simp,by simpa using hn,rfl⟩ ?_
 rintro ⟨j,out⟩ ⟨h2,h3,h4,h5⟩
 simp only at h2 h3 h4 h5 ⊢
 have hol:=x2k h3 h4
 rcases Nat.lt_or_ge j out.length with hj|hj
 ·obtain ⟨k,hk,hik,hfk,hnk⟩:=q0p (h4 _ (List.getElem_mem hj))
  have hcl:=q9r p.procs[k]
  have hcc:QY p.procs[k].body≤200:=by
   have:=(QJ p).2.2.2.2 k p.procs[k] (by simp)
   omega
  have hC:=w2k hm hk hfk
  have g:(out.map AV.str)[j]? = some (.str out[j]):=by simp [hj]
  conv=>whnf
  repeat' (first|((first|intro (_:_≤9223372036854775807)|refine DrawK.auto QQ mixed (by kernel_rfl) ?_|refine And.intro rfl ?_|refine IdxL.mk j rfl hj ?_|refine LdOwn.mk j 0 (.str out[j]) (by omega) g ?_|(refine CallK.pure hC (.cons (Sub.refl _) (.cons (Sub.refl _) .nil)) ?_;rintro _ rfl));conv=>whnf)|(refine Br.dec (fun _=>?_) (fun _=>?_)<;>first|(exfalso;omega)|conv=>whnf))
  have hkn : ∀ s∈UX p.procs[k],s∈procsN p:=fun s h=>DQ hs (List.getElem_mem hk) h
  have hcN:=x7l hk hfk
  have hre:WR p (p.procs.length+1-j) j out=WR p (p.procs.length+1-(j+1)) (j+1) (WF out (UX p.procs[k])):=by
   rw [show p.procs.length+1-j=(p.procs.length+1-(j+1))+1 by omega,WR,List.getElem?_eq_getElem hj]
   simp only
   rw [hcN]
  rw [hre] at h5
  obtain ⟨hi1,hi2,rr,hi3⟩:=GM (UX p.procs[k]) h3 h4 hkn
  generalize UX p.procs[k]=cs at hkn h5 hi1 hi2 hi3 hcl ⊢
  have hcsl:(cs.map AV.str).length=cs.length:=List.length_map _
  refine LoopK.inv QQ (fun i:Nat×List Str=>⟨[(2,.p (.ip p.cells)),(5,.hd 0 0 i.2.length),(6,.p (.int .i64 j)),(22,.p (QD cs)),(23,.p (.int .i64 (cs.map AV.str).length)),(24,.p (.int .i64 i.1))],[(0,.own 9 1 (i.2.map .str))]⟩)
   (fun i=>i.1≤cs.length∧i.2.length≤out.length+i.1∧WF i.2 (cs.drop i.1)=WF out cs) (fun i=>cs.length-i.1) (0,out)
   (Le.of_eq rfl) ⟨Nat.zero_le _,by simp,rfl⟩ ?_
  rintro ⟨m,acc⟩ ⟨h6,h7,h8⟩
  simp only at h6 h7 h8 ⊢
  rcases Nat.lt_or_ge m cs.length with hm'|hm'
  ·have hst:=MG (out:=acc) hm'
   rw [← q4u] at hst
   conv=>whnf
   repeat' (first|((first|refine And.intro rfl ?_|(refine And.intro ⟨by decide,by decide⟩ ?_)|refine BsK.pure (fun x hx=>by rcases List.mem_singleton.1 hx with rfl;rfl) rfl ?_|refine IdxK.map (by omega) (fun _=>rfl) ?_|refine Wr.i64 (by omega) (by omega) ?_|(refine CallK.borrow (QC acc (cs[m]'hm')) (.cons (.hd rfl (by simp)) (.cons (.p (Sub.refl _)) .nil)) (by rintro _ rfl;rfl) ?_;rintro _ rfl)|refine AppK.str1 (by simp) (by simp;omega) ?_);conv=>whnf)|(refine Br.dec (fun _=>?_) (fun _=>?_)<;>first|(exfalso;omega)|conv=>whnf)|(refine Br.n (fun _=>?_) (fun _=>?_)<;>conv=>whnf))
   all_goals first
    | exact ⟨(m+1,acc),⟨by simp only;omega,by simp only;omega,by simp only;rw [← h8,hst,if_pos (by assumption)]⟩,by simp only;omega,Le.of_eq rfl⟩
    | exact ⟨(m+1,acc++[cs[m]]),⟨by simp only;omega,by simp;omega,by simp only;rw [← h8,hst,if_neg (by simp [*])]⟩,by simp only;omega,Le.of_eq (by simp only [List.length_append,List.map_append];rfl)⟩
  ·rw [List.drop_eq_nil_of_le hm',WF] at h8
   subst h8
   have hjl:j<(WF out cs).length:=by rw [hi3,List.length_append];omega
   conv=>whnf
   repeat' (first|(refine Wr.i64 (by omega) (by omega) ?_;conv=>whnf)|(refine Br.dec (fun _=>?_) (fun _=>?_)<;>first|(exfalso;omega)|conv=>whnf))
   all_goals exact ⟨(j+1,WF out cs),⟨by simp only;omega,hi1,hi2,h5⟩,by simp only;omega,Le.of_eq rfl⟩
 ·have hend:out=WR p (p.procs.length+1) 0 [n]:=by
   rw [← h5]
   cases hfu:p.procs.length+1-j with
   | zero=>rw [WR]
   | succ q=>rw [WR,List.getElem?_eq_none hj]
  have hall:q6c out=z3l p n:=by
   unfold z3l
   rw [← hend,x8e h3]
  have hS:=VZ out (by omega)
  rw [hall] at hS
  conv=>whnf
  repeat' (first|((first|intro (_:_≤9223372036854775807)|(refine CallK.give hS (.cons (.hd rfl (by simp)) .nil) ?_;rintro _ rfl));conv=>whnf)|(refine Br.dec (fun _=>?_) (fun _=>?_)<;>first|(exfalso;omega)|conv=>whnf))
  all_goals exact RetK.p rfl
open Go.Proofs
theorem w1o (p:Pg) (t:S):q8m p t=(ZT t).filter fun v=>inS p.globals v:=by
 unfold q8m
 congr 1
 funext v
 exact (q4u _ _).symm
theorem PB (p:Pg) (hf:Fit p) (hs:(QS p).1=0) (n:Str) (hn:n∈procsN p):SpecP Tryz.prog 298 [.agg p.cells,.str n] (fun r=>r=QD (UK p n)):=by
 refine SpecP.body FT QQ Tryz.func298 rfl Tryz.call298 (by show 2≤_;decide) ?_
 conv=>whnf
 obtain ⟨hm,hb,hns⟩:=VQ hs
 obtain ⟨hg,hpl,hcn⟩:=ZX hm
 obtain ⟨hal,hak⟩:=z0h hs hn
 have hC:=MJ p n hs hn
 have hgl:UK p n=q6c (UU p n):=rfl
 have hgr:UU p n=(z3l p n).flatMap (q3g p):=rfl
 rw [hgl]
 generalize z3l p n=ns at hal hak hgr hC ⊢
 have hnl:(ns.map AV.str).length=ns.length:=List.length_map _
 repeat' ((first|intro (_:_≤9223372036854775807)|(refine CallK.pure hC (.cons (Sub.refl _) (.cons (Sub.refl _) .nil)) ?_;rintro _ rfl));conv=>whnf)
 refine LoopK.inv QQ (fun i:Nat×List Str=>⟨[(2,.p (.ip p.cells)),(5,.hd 0 0 i.2.length),(16,.p (QD ns)),(17,.p (.int .i64 (ns.map AV.str).length)),(18,.p (.int .i64 i.1))],[(0,.own 9 1 (i.2.map .str))]⟩)
  (fun i=>i.1≤ns.length∧i.2.length≤4020000*i.1∧i.2++(ns.drop i.1).flatMap (q3g p)=UU p n) (fun i=>ns.length-i.1) (0,[])
  (Le.mk [(0,.own 9 1 [])] (by simp [Chunk.new0];rfl) (by simp) (by simp) (.cons (.refl _) (.cons (.nil List.mem_cons_self) (.cons (.refl _) (.cons (.refl _) (.cons (.refl _) .nil))))) (.new List.mem_cons_self .nil))
  ⟨Nat.zero_le _,by simp,by rw [hgr];rfl⟩ ?_
 rintro ⟨j,acc⟩ ⟨h2,h3,h4⟩
 simp only at h2 h3 h4 ⊢
 rcases Nat.lt_or_ge j ns.length with hj|hj
 rotate_left 1
 ·have hacc:acc=UU p n:=by
   rw [List.drop_eq_nil_of_le hj] at h4
   simpa using h4
  have hS:=VZ acc (by omega)
  rw [← hacc]
  conv=>whnf
  repeat' (first|(refine CallK.give hS (.cons (.hd rfl (by simp)) .nil) ?_;rintro _ rfl;conv=>whnf)|(refine Br.dec (fun _=>?_) (fun _=>?_)<;>first|(exfalso;omega)|conv=>whnf))
  all_goals exact RetK.p rfl
 obtain ⟨k,hk,hik,hfk,hnk⟩:=q0p (hak _ (List.getElem_mem hj))
 have hgn:q3g p ns[j]=(flL p.procs[k].body).flatMap (q8m p):=by unfold q3g;rw [hfk]
 rw [VG hj,hgn] at h4
 have hfp:=hf.pr (List.getElem_mem hk)
 have hN:=ZS p ns[j]
 rw [z2y hk hfk] at hN
 have hF:=QE p.procs[k]
 have hmap:(ZR p.procs[k]).map RI.s=flL p.procs[k].body:=by rw [WK hm (List.getElem_mem hk)];exact DW 1 0 false _
 have hrl:=JH p.procs[k]
 have hargs : ∀ x∈ZR p.procs[k],wS x.s≤20000:=fun x hx=>by
  have hmm:x.s∈flL p.procs[k].body:=by
   rw [← hmap]
   exact List.mem_map.2 ⟨_,hx,rfl⟩
  have:=q6p _ _ hmm
  unfold wPr at hfp
  omega
 rw [← hmap] at h4
 generalize ZR p.procs[k]=its at hargs hrl h4 hF
 have hil:=ZI its
 conv=>whnf
 repeat' (first|((first|intro (_:_≤9223372036854775807)|refine And.intro rfl ?_|refine IdxK.map (by omega) (fun _=>rfl) ?_|(refine CallK.pure hN (.cons (Sub.refl _) (.cons (Sub.refl _) .nil)) ?_;rintro _ rfl)|(refine CallK.pure hF (.cons (Sub.refl _) .nil) ?_;rintro _ rfl));conv=>whnf)|(refine Br.dec (fun _=>?_) (fun _=>?_)<;>first|(exfalso;omega)|conv=>whnf))
 refine LoopK.inv QQ (fun i:Nat×List Str=>⟨[(2,.p (.ip p.cells)),(5,.hd 0 0 i.2.length),(16,.p (QD ns)),(17,.p (.int .i64 (ns.map AV.str).length)),(18,.p (.int .i64 j)),(29,.p (YN its)),(30,.p (.int .i64 (its.map fun i=>AV.agg i.cells).length)),(31,.p (.int .i64 i.1))],[(0,.own 9 1 (i.2.map .str))]⟩)
  (fun i=>i.1≤its.length∧i.2.length≤acc.length+20000*i.1∧i.2++(((its.drop i.1).map RI.s).flatMap (q8m p)++(ns.drop (j+1)).flatMap (q3g p))=UU p n) (fun i=>its.length-i.1) (0,acc)
  (Le.of_eq rfl) ⟨Nat.zero_le _,by simp,h4⟩ ?_
 rintro ⟨m,acc2⟩ ⟨h6,h7,h8⟩
 simp only at h6 h7 h8 ⊢
 rcases Nat.lt_or_ge m its.length with hm'|hm'
 rotate_left 1
 ·rw [List.drop_eq_nil_of_le hm'] at h8
  conv=>whnf
  repeat' (first|(refine Wr.i64 (by omega) (by omega) ?_;conv=>whnf)|(refine Br.dec (fun _=>?_) (fun _=>?_)<;>first|(exfalso;omega)|conv=>whnf))
  exact ⟨(j+1,acc2),⟨by simp only;omega,by simp only;omega,by simpa using h8⟩,by simp only;omega,Le.of_eq rfl⟩
 have hw:=hargs _ (List.getElem_mem hm')
 have hna:its[m].s.args.length≤20000:=by
  have:=x2l its[m].s
  have:=JV its[m].s.args
  omega
 have hnw:=z1o its[m].s
 rw [List.drop_eq_getElem_cons hm',List.map_cons,List.flatMap_cons,List.append_assoc] at h8
 have hgt:=w1o p its[m].s
 have hSd:=GH its[m].s hna
 rw [hgt] at h8
 generalize ZT its[m].s=vs at hnw h8 hSd
 have hvl:(vs.map AV.str).length=vs.length:=List.length_map _
 conv=>whnf
 repeat' (first|((first|intro (_:_≤9223372036854775807)|refine And.intro rfl ?_|refine IdxK.map (by omega) (fun _=>rfl) ?_|(refine CallK.pure hSd (.cons (Sub.refl _) .nil) ?_;rintro _ rfl));conv=>whnf)|(refine Br.dec (fun _=>?_) (fun _=>?_)<;>first|(exfalso;omega)|conv=>whnf))
 refine LoopK.inv QQ (fun i:Nat×List Str=>⟨[(2,.p (.ip p.cells)),(5,.hd 0 0 i.2.length),(16,.p (QD ns)),(17,.p (.int .i64 (ns.map AV.str).length)),(18,.p (.int .i64 j)),(29,.p (YN its)),(30,.p (.int .i64 (its.map fun i=>AV.agg i.cells).length)),(31,.p (.int .i64 m)),(37,.p (QD vs)),(38,.p (.int .i64 (vs.map AV.str).length)),(39,.p (.int .i64 i.1))],[(0,.own 9 1 (i.2.map .str))]⟩)
  (fun i=>i.1≤vs.length∧i.2.length≤acc2.length+i.1∧i.2++((vs.drop i.1).filter (fun v=>inS p.globals v)++(((its.drop (m+1)).map RI.s).flatMap (q8m p)++(ns.drop (j+1)).flatMap (q3g p)))=UU p n) (fun i=>vs.length-i.1) (0,acc2)
  (Le.of_eq rfl) ⟨Nat.zero_le _,by simp,h8⟩ ?_
 rintro ⟨q,acc3⟩ ⟨h9,h10,h11⟩
 simp only at h9 h10 h11 ⊢
 rcases Nat.lt_or_ge q vs.length with hq|hq
 ·rw [List.drop_eq_getElem_cons hq,List.filter_cons] at h11
  conv=>whnf
  repeat' (first|((first|(refine CallK.pure (QC _ _) (by repeat' (first|exact ArgP.nil|refine ArgP.cons ?_ ?_|exact Sub.refl _|exact Sub.tt rfl|exact Sub.ff rfl)) ?_;rintro _ rfl)|refine And.intro rfl ?_|(refine And.intro ⟨by decide,by decide⟩ ?_)|refine BsK.pure (fun x hx=>by rcases List.mem_singleton.1 hx with rfl;rfl) rfl ?_|refine IdxK.map (by omega) (fun _=>rfl) ?_|refine Wr.i64 (by omega) (by omega) ?_|refine AppK.str1 (by simp) (by simp;omega) ?_);conv=>whnf)|(refine Br.dec (fun _=>?_) (fun _=>?_)<;>first|(exfalso;omega)|conv=>whnf)|(refine Br.b (fun _=>?_) (fun _=>?_)<;>conv=>whnf))
  ·exact ⟨(q+1,acc3++[vs[q]]),⟨by simp only;omega,by simp;omega,by rw [if_pos (by assumption)] at h11;simpa using h11⟩,by simp only;omega,Le.of_eq (by simp only [List.length_append,List.map_append];rfl)⟩
  ·exact ⟨(q+1,acc3),⟨by simp only;omega,by simp only;omega,by rw [if_neg (by simp [*])] at h11;exact h11⟩,by simp only;omega,Le.of_eq rfl⟩
 ·rw [List.drop_eq_nil_of_le hq] at h11
  conv=>whnf
  repeat' (first|(refine Wr.i64 (by omega) (by omega) ?_;conv=>whnf)|(refine Br.dec (fun _=>?_) (fun _=>?_)<;>first|(exfalso;omega)|conv=>whnf))
  exact ⟨(m+1,acc3),⟨by simp only;omega,by simp only;omega,by simpa using h11⟩,by simp only;omega,Le.of_eq rfl⟩
def apR (touched:List Str):List Arg→List Str→Bool
 | [],_=>true
 | a::r,seen=>bif a.ref then (bif inS seen a.name||inS touched a.name then false else apR touched r (seen++[a.name])) else apR touched r seen
theorem w3s (touched:List Str) (nm:Str) : ∀ (l:List Arg) (pre seen:List Str),(pre=[]∧nm=[]∨pre=[nm])→(∀ a∈l,a.ref=true→a.name≠[])→apR touched l (pre++seen)=XH nm touched l seen
 | [],_,_,_,_=>rfl
 | a::r,pre,seen,hp,ha=>by
   have ih:=fun s=>w3s touched nm r pre s hp fun b hb=>ha b (List.mem_cons_of_mem _ hb)
   rw [apR,XH]
   cases hr:a.ref with
   | false=>exact ih seen
   | true =>
     have hne:=ha a List.mem_cons_self hr
     have h1:inS (pre++seen) a.name=((a.name==nm)||(seen.any fun s=>a.name==s)):=by
      rw [q4u,List.any_append]
      rcases hp with ⟨rfl,rfl⟩|rfl
      ·have:(a.name==([]:Str))=false:=beq_eq_false_iff_ne.2 hne
       rw [this]
       rfl
      ·simp
     have h2:(inS (pre++seen) a.name||inS touched a.name)=((seen.any fun s=>a.name==s)||((a.name==nm)||touched.any fun s=>a.name==s)):=by
      rw [h1,q4u]
      cases (a.name==nm)<;>cases (seen.any fun s=>a.name==s)<;>rfl
     rw [cond_true,cond_true,h2,List.append_assoc,ih (seen++[a.name])]
def z6p (p:Pg) (t:S):Bool:=UM p t&&XH t.name (UK p t.proc) t.args []
theorem q0a (p:Pg) (hf:Fit p) (hs:(QS p).1=0) (t:S) (hpr:t.proc∈procsN p) (ha:t.args.length≤20000) (hne : ∀ a∈t.args,a.ref=true→a.name≠[]):SpecP Tryz.prog 273 [.agg p.cells,.agg t.cells] (fun r=>r = .bool (z6p p t)):=by
 refine SpecP.body PG QQ Tryz.func273 rfl Tryz.call273 (by show 2≤_;decide) ?_
 conv=>whnf
 have hC:=UH p t
 have hal:(t.args.map fun a=>AV.agg a.cells).length=t.args.length:=List.length_map _
 have hT:=PB p hf hs t.proc hpr
 have hE:=fun pre h=>w3s (UK p t.proc) t.name t.args pre [] h hne
 unfold z6p
 generalize UK p t.proc=G at *
 cases hfi:UM p t with
 | false =>
   rw [hfi] at hC
   repeat' (first|((first|intro (_:_≤9223372036854775807)|refine And.intro rfl ?_|(refine And.intro ⟨by decide,by decide⟩ ?_)|refine BsK.pure (fun x hx=>by rcases List.mem_singleton.1 hx with rfl;rfl) rfl ?_|(refine CallK.pure hC (.cons (Sub.refl _) (.cons (Sub.refl _) .nil)) ?_;rintro _ rfl));conv=>whnf)|(refine Br.n (fun _=>?_) (fun _=>?_)<;>conv=>whnf))
   all_goals first
    | (exfalso;simp_all;done)
    | exact RetK.ff rfl
 | true =>
   rw [hfi] at hC
   rw [Bool.true_and]
   repeat' (first|((first|intro (_:_≤9223372036854775807)|refine And.intro rfl ?_|(refine And.intro ⟨by decide,by decide⟩ ?_)|refine BsK.pure (fun x hx=>by rcases List.mem_singleton.1 hx with rfl;rfl) rfl ?_|(refine CallK.pure hC (.cons (Sub.refl _) (.cons (Sub.refl _) .nil)) ?_;rintro _ rfl)|refine AppK.str1 (by simp) (by simp) ?_);conv=>whnf)|(refine Br.n (fun _=>?_) (fun _=>?_)<;>conv=>whnf))
   all_goals simp only [show (ByteArray.mk #[]).data.toList=[] from rfl] at *
   all_goals first
    | (exfalso;simp_all;done)
    | skip
   all_goals
    first
    | (have hq:(t.name==[])=false:=by assumption
       have hE:=hE [t.name] (.inr rfl)
       rw [List.append_nil] at hE
       rw [← hE]
       generalize hpre:([t.name]:List Str)=pre at hE)
    | (have hq:(t.name==[])=true:=by assumption
       have hE:=hE [] (.inl ⟨rfl,by simpa using hq⟩)
       rw [List.append_nil] at hE
       rw [← hE]
       generalize hpre:([]:List Str)=pre at hE)
    have hpl:pre.length≤1:=by rw [← hpre];simp
    refine LoopK.inv QQ (fun x:Nat×List Str=>⟨[(2,.p (.ip p.cells)),(3,.p (.ip t.cells)),(5,.hd 0 0 x.2.length),(21,.p (.sl (t.args.map fun a => .agg a.cells))),(22,.p (.int .i64 (t.args.map fun a=>AV.agg a.cells).length)),(23,.p (.int .i64 x.1))],[(0,.own 9 1 (x.2.map .str))]⟩) (fun x=>x.1≤t.args.length∧x.2.length≤x.1+1∧apR G (t.args.drop x.1) x.2=apR G t.args pre) (fun x=>t.args.length-x.1) (0,pre)
     (by subst hpre;first|exact Le.of_eq rfl|exact (Le.mk [(0,.own 9 1 [])] (by simp [Chunk.new0];rfl) (by simp) (by simp) (.cons (.refl _) (.cons (.refl _) (.cons (.nil List.mem_cons_self) (.cons (.refl _) (.cons (.refl _) (.cons (.refl _) .nil)))))) (.new List.mem_cons_self .nil))) ⟨Nat.zero_le _,by simp only;omega,rfl⟩ ?_
    rintro ⟨j,acc⟩ ⟨h2,h3,h4⟩
    simp only at h2 h3 h4 ⊢
    rcases Nat.lt_or_ge j t.args.length with hj|hj
    ·rw [List.drop_eq_getElem_cons hj,apR] at h4
     rw [← h4]
     conv=>whnf
     repeat' (first|((first|refine DrawK.auto QQ mixed (by kernel_rfl) ?_|refine And.intro rfl ?_|(refine And.intro ⟨by decide,by decide⟩ ?_)|refine BsK.pure (fun x hx=>by rcases List.mem_singleton.1 hx with rfl;rfl) rfl ?_|refine IdxK.map (by omega) (fun _=>rfl) ?_|refine Wr.i64 (by omega) (by omega) ?_|(refine CallK.borrow (QC acc (t.args[j]'hj).name) (.cons (.hd rfl (by simp)) (.cons (.p (Sub.refl _)) .nil)) (by rintro _ rfl;rfl) ?_;rintro _ rfl)|(refine CallK.pure hT (.cons (Sub.refl _) (.cons (Sub.refl _) .nil)) ?_;rintro _ rfl)|(refine CallK.pure (QC G (t.args[j]'hj).name) (.cons (Sub.refl _) (.cons (Sub.refl _) .nil)) ?_;rintro _ rfl)|refine AppK.str1 (by simp) (by simp;omega) ?_);conv=>whnf)|(refine Br.dec (fun _=>?_) (fun _=>?_)<;>first|(exfalso;omega)|conv=>whnf)|(refine Br.b (fun _=>?_) (fun _=>?_)<;>conv=>whnf))
     all_goals first
      | (exfalso;simp_all;done)
      | exact RetK.ff (by simp [*])
      | exact ⟨(j+1,acc++[t.args[j].name]),⟨by simp only;omega,by simp;omega,by simp only;simp [*]⟩,by simp only;omega,Le.of_eq (by simp only [List.length_append,List.map_append];rfl)⟩
      | exact ⟨(j+1,acc),⟨by simp only;omega,by simp only;omega,by simp only;simp [*]⟩,by simp only;omega,Le.of_eq rfl⟩
    ·rw [List.drop_eq_nil_of_le hj,apR] at h4
     rw [← h4]
     conv=>whnf
     repeat' (refine Br.dec (fun _=>?_) (fun _=>?_)<;>first|(exfalso;omega)|conv=>whnf)
     exact RetK.tt rfl
theorem QT (c a:Int):SpecP Tryz.prog 266 [.int .i64 c,.int .i64 a] (fun r=>r=DI c a):=by
 refine SpecP.body NZ QQ Tryz.func266 rfl Tryz.call266 (by show 2≤_;decide) ?_
 conv=>whnf
 repeat' (refine And.intro rfl ?_;conv=>whnf)
 exact RetK.fault rfl rfl
theorem RetK.flt {H:Heap} {a b:Int} {P:Prop} (h:a=0↔P):RetK H (.p (.agg [.int .i64 a,.int .i64 b])) (fun r => ∃ c d,r=DI c d∧(c=0↔P)):=⟨_,.p (Sub.refl _),a,b,rfl,h⟩
def fltR (P:Prop) (r:AV):Prop := ∃ c d,r=DI c d∧(c=0↔P)
theorem q1j (p:Pg) (hm:WI p=true):SpecP Tryz.prog 203 [.agg p.cells] (fun r=>fltR (∀ t∈YC p,t.kind=4→UM p t=true) r):=by
 refine SpecP.body PC QQ Tryz.func203 rfl Tryz.call203 (by show 1≤_;decide) ?_
 conv=>whnf
 have hA:=UR p
 have hms:=x6t hm
 rw [← hms]
 generalize allR p=L at *
 have hLl:=ZI L
 repeat' ((first|intro (_:_≤9223372036854775807)|(refine CallK.pure hA (.cons (Sub.refl _) .nil) ?_;rintro _ rfl));conv=>whnf)
 refine LoopK.inv QQ (fun j:Nat=>⟨[(1,.p (.ip p.cells)),(2,.ptr 1 0),(6,.p (YN L)),(7,.p (.int .i64 (L.map fun i=>AV.agg i.cells).length)),(8,.p (.int .i64 j))],[(1,.obj 90 [.p (.int .i64 0),.p (.int .i64 0)])]⟩) (fun j=>j≤L.length ∧ ∀ x∈L.take j,x.s.kind=4→UM p x.s=true) (fun j=>L.length-j) 0 (Le.of_eq rfl) ⟨Nat.zero_le _,fun x hx=>by rw [List.take_zero] at hx;cases hx⟩ ?_
 rintro j ⟨h2,h3⟩
 rcases Nat.lt_or_ge j L.length with hj|hj
 ·have hC:=UH p L[j].s
  have hmem:L[j].s∈L.map RI.s:=List.mem_map.2 ⟨_,List.getElem_mem hj,rfl⟩
  have hst:(L[j].s.kind=4→UM p L[j].s=true) → ∀ x∈L.take (j+1),x.s.kind=4→UM p x.s=true:=fun h x hx=>by
   rcases (QA hj).1 hx with h4|rfl
   ·exact h3 x h4
   ·exact h
  conv=>whnf
  repeat' (first|((first|refine And.intro rfl ?_|refine IdxK.map (by omega) (fun _=>rfl) ?_|refine Wr.i64 (by omega) (by omega) ?_|(refine CallK.pure hC (.cons (Sub.refl _) (.cons (Sub.refl _) .nil)) ?_;rintro _ rfl)|(refine CallK.pure (QT 6 _) (.cons (Sub.refl _) (.cons (Sub.refl _) .nil)) ?_;rintro _ rfl));conv=>whnf)|(refine Br.dec (fun _=>?_) (fun _=>?_)<;>first|(exfalso;omega)|conv=>whnf)|(refine Br.n (fun _=>?_) (fun _=>?_)<;>conv=>whnf))
  all_goals first
   | exact ⟨j+1,⟨hj,hst fun h=>by first|assumption|omega⟩,by omega,Le.of_eq rfl⟩
   | (refine RetK.flt ⟨fun h=>by omega,fun h => ?_⟩
      have:=h _ hmem (by omega)
      simp_all
      done)
 ·conv=>whnf
  repeat' (first|(refine And.intro rfl ?_;conv=>whnf)|(refine Br.dec (fun _=>?_) (fun _=>?_)<;>first|(exfalso;omega)|conv=>whnf))
  refine RetK.flt ⟨fun _ t ht => ?_,fun _=>rfl⟩
  obtain ⟨x,hx,rfl⟩:=List.mem_map.1 ht
  exact h3 x (by rw [List.take_of_length_le hj];exact hx)
theorem DL (p:Pg) (hf:Fit p) (hs:(QS p).1=0) (har : ∀ t∈YC p,t.kind=4→UM p t=true):SpecP Tryz.prog 205 [.agg p.cells] (fun r=>fltR (∀ t∈YC p,t.kind=4→XH t.name (UK p t.proc) t.args []=true) r):=by
 refine SpecP.body HT QQ Tryz.func205 rfl Tryz.call205 (by show 1≤_;decide) ?_
 conv=>whnf
 obtain ⟨hm,hb,hns⟩:=VQ hs
 have hA:=UR p
 have hms:=x6t hm
 have hok : ∀ x∈allR p,oneOk x.s=true:=fun x hx=>by rw [q1e hm] at hx;exact (z9x hm x hx).2
 have hap : ∀ x∈allR p,x.s.kind=4→SpecP Tryz.prog 273 [.agg p.cells,.agg x.s.cells] (fun r=>r = .bool (XH x.s.name (UK p x.s.proc) x.s.args [])):=fun x hx hk=>by
  have hxs:x.s∈YC p:=by rw [← hms];exact List.mem_map.2 ⟨x,hx,rfl⟩
  have hx2:=hxs
  unfold YC at hx2
  obtain ⟨f,hf1,hf2⟩:=List.mem_flatMap.1 hx2
  have hpc:=(q3y hs hf1 hf2 hk).1
  have hw:=q6p _ _ hf2
  have hwp:=hf.pr hf1
  have h1:=x2l x.s
  have h2:=JV x.s.args
  have h3:=q0a p hf hs x.s hpc (by unfold wPr at hwp;omega) fun a ha hr he=>by
   have h4:=List.all_eq_true.1 (UG (hok x hx)).args a ha
   unfold argR at h4
   rw [hr,cond_true,he] at h4
   simp at h4
   have:=q2w h4.1
   cases this
  unfold z6p at h3
  rw [har _ hxs hk,Bool.true_and] at h3
  exact h3
 rw [← hms]
 clear hms har hok
 generalize allR p=L at *
 have hLl:=ZI L
 repeat' ((first|intro (_:_≤9223372036854775807)|(refine CallK.pure hA (.cons (Sub.refl _) .nil) ?_;rintro _ rfl));conv=>whnf)
 refine LoopK.inv QQ (fun j:Nat=>⟨[(1,.p (.ip p.cells)),(2,.ptr 1 0),(6,.p (YN L)),(7,.p (.int .i64 (L.map fun i=>AV.agg i.cells).length)),(8,.p (.int .i64 j))],[(1,.obj 90 [.p (.int .i64 0),.p (.int .i64 0)])]⟩) (fun j=>j≤L.length ∧ ∀ x∈L.take j,x.s.kind=4→XH x.s.name (UK p x.s.proc) x.s.args []=true) (fun j=>L.length-j) 0 (Le.of_eq rfl) ⟨Nat.zero_le _,fun x hx=>by rw [List.take_zero] at hx;cases hx⟩ ?_
 rintro j ⟨h2,h3⟩
 rcases Nat.lt_or_ge j L.length with hj|hj
 ·have hC:=hap _ (List.getElem_mem hj)
  have hmem:L[j].s∈L.map RI.s:=List.mem_map.2 ⟨_,List.getElem_mem hj,rfl⟩
  have hst:(L[j].s.kind=4→XH L[j].s.name (UK p L[j].s.proc) L[j].s.args []=true) → ∀ x∈L.take (j+1),x.s.kind=4→XH x.s.name (UK p x.s.proc) x.s.args []=true:=fun h x hx=>by
   rcases (QA hj).1 hx with h4|rfl
   ·exact h3 x h4
   ·exact h
  conv=>whnf
  repeat' (first|((first|refine And.intro rfl ?_|refine IdxK.map (by omega) (fun _=>rfl) ?_|refine Wr.i64 (by omega) (by omega) ?_|(refine CallK.pure (hC (by omega)) (.cons (Sub.refl _) (.cons (Sub.refl _) .nil)) ?_;rintro _ rfl)|(refine CallK.pure (QT 8 _) (.cons (Sub.refl _) (.cons (Sub.refl _) .nil)) ?_;rintro _ rfl));conv=>whnf)|(refine Br.dec (fun _=>?_) (fun _=>?_)<;>first|(exfalso;omega)|conv=>whnf)|(refine Br.n (fun _=>?_) (fun _=>?_)<;>conv=>whnf))
  all_goals first
   | exact ⟨j+1,⟨hj,hst fun h=>by first|assumption|omega⟩,by omega,Le.of_eq rfl⟩
   | (refine RetK.flt ⟨fun h=>by omega,fun h => ?_⟩
      have:=h _ hmem (by omega)
      simp_all
      done)
 ·conv=>whnf
  repeat' (first|(refine And.intro rfl ?_;conv=>whnf)|(refine Br.dec (fun _=>?_) (fun _=>?_)<;>first|(exfalso;omega)|conv=>whnf))
  refine RetK.flt ⟨fun _ t ht => ?_,fun _=>rfl⟩
  obtain ⟨x,hx,rfl⟩:=List.mem_map.1 ht
  exact h3 x (by rw [List.take_of_length_le hj];exact hx)
open Go.Proofs
theorem x8g (p:Pg):ZH p=false↔XY p.globals=false∧XY (procsN p)=false∧(VE p mainS).2=true∧(VE p mainS).1.params.length=0:=by
 unfold ZH VE
 have h1:(procsN p).any (fun s=>mainS==s)=(p.procs.find? fun f=>f.name==mainS).isSome:=by
  unfold procsN
  rw [Bool.eq_iff_iff,List.find?_isSome,List.any_map,List.any_eq_true]
  simp only [Function.comp,beq_iff_eq]
  exact ⟨fun ⟨x,a,b⟩=>⟨x,a,b.symm⟩,fun ⟨x,a,b⟩=>⟨x,a,b.symm⟩⟩
 have h2:(p.procs.find? fun f=>mainS==f.name)=p.procs.find? fun f=>f.name==mainS:=by
  congr 1
  funext f
  exact Bool.beq_comm
 rw [h1,h2]
 cases p.procs.find? fun f=>f.name==mainS with
 | none=>simp
 | some f=>simp
theorem z1p {p:Pg} (hf:Fit p) {f:Pr} (h:f∈p.procs):f.params.length≤20000∧f.vars.length≤20000∧f.fin.length≤20000∧p.globals.length≤20000:=by
 have h1:=hf.pr h
 have h2:=HY f.vars
 have h3:=HY f.fin
 have h4:=HY p.globals
 have h5:wPg p≤20000:=hf
 have h6:f.params.length≤w6o f.params:=by
  generalize f.params=l
  induction l with
  | nil=>exact Nat.zero_le _
  | cons a r ih =>
    rw [w6o,List.length_cons]
    omega
 unfold wPr at h1
 unfold wPg at h5
 omega
theorem LJ (p:Pg) (hf:Fit p):SpecP Tryz.prog 202 [.agg p.cells] (fun r=>fltR ((QS p).1=0) r):=by
 refine SpecP.body PP QQ Tryz.func202 rfl Tryz.call202 (by show 1≤_;decide) ?_
 conv=>whnf
 have hM:=JP p
 cases hm:WI p with
 | false =>
   rw [hm] at hM
   repeat' (first|((first|intro (_:_≤9223372036854775807)|refine And.intro rfl ?_|(refine CallK.pure hM (.cons (Sub.refl _) .nil) ?_;rintro _ rfl)|(refine CallK.pure (QT 1 0) (.cons (Sub.refl _) (.cons (Sub.refl _) .nil)) ?_;rintro _ rfl));conv=>whnf)|(refine Br.n (fun _=>?_) (fun _=>?_)<;>conv=>whnf))
   all_goals first
    | (exfalso;simp_all;done)
    | (refine RetK.flt ⟨fun h=>by omega,fun h => ?_⟩
       have:=(VQ h).1
       rw [hm] at this
       cases this)
 | true =>
   rw [hm] at hM
   obtain ⟨hg,hpl,hcn⟩:=ZX hm
   rw [z6l hm,x8g]
   have hpll:(p.procs.map fun f=>AV.agg f.cells).length=p.procs.length:=List.length_map _
   repeat' (first|((first|intro (_:_≤9223372036854775807)|(refine CallK.pure hM (.cons (Sub.refl _) .nil) ?_;rintro _ rfl));conv=>whnf)|(refine Br.n (fun _=>?_) (fun _=>?_)<;>conv=>whnf))
   all_goals first
    | (exfalso;simp_all;done)
    | skip
   refine LoopK.inv QQ (fun x:Nat×List Str=>⟨[(1,.p (.ip p.cells)),(2,.ptr 1 0),(3,.hd 0 0 x.2.length),(19,.p (.sl (p.procs.map fun f => .agg f.cells))),(20,.p (.int .i64 (p.procs.map fun f=>AV.agg f.cells).length)),(21,.p (.int .i64 x.1))],[(0,.own 9 1 (x.2.map .str)),(1,.obj 90 [.p (.int .i64 0),.p (.int .i64 0)])]⟩) (fun x=>x.1≤p.procs.length∧x.2=(procsN p).take x.1) (fun x=>p.procs.length-x.1) (0,[])
    (Le.mk [(0,.own 9 1 [])] (by simp [Chunk.new0];rfl) (by simp) (by simp) (.cons (.refl _) (.cons (.refl _) (.cons (.nil List.mem_cons_self) (.cons (.refl _) (.cons (.refl _) (.cons (.refl _) .nil)))))) (.new List.mem_cons_self (.cons rfl (.refl _) .nil))) ⟨Nat.zero_le _,by simp⟩ ?_
   rintro ⟨j,acc⟩ ⟨h2,h3⟩
   simp only at h2 h3 ⊢
   have hpn:(procsN p).length=p.procs.length:=by simp [procsN]
   rcases Nat.lt_or_ge j p.procs.length with hj|hj
   ·have e1:(procsN p).take (j+1)=acc++[p.procs[j].name]:=by
     rw [List.take_succ_eq_append_getElem (by omega),← h3]
     simp [procsN]
    have hal:acc.length≤16:=by rw [h3,List.length_take];omega
    conv=>whnf
    repeat' (first|((first|refine And.intro rfl ?_|(refine And.intro ⟨by decide,by decide⟩ ?_)|refine BsK.pure (fun x hx=>by rcases List.mem_singleton.1 hx with rfl;rfl) rfl ?_|refine IdxK.map (by omega) (fun _=>rfl) ?_|refine Wr.i64 (by omega) (by omega) ?_|refine AppK.str1 (by simp) (by simp;omega) ?_);conv=>whnf)|(refine Br.dec (fun _=>?_) (fun _=>?_)<;>first|(exfalso;omega)|conv=>whnf))
    all_goals exact ⟨(j+1,acc++[p.procs[j].name]),⟨by simp only;omega,by simp only;rw [e1]⟩,by simp only;omega,Le.of_eq (by simp only [List.length_append,List.map_append];rfl)⟩
   rw [List.take_of_length_le (by omega)] at h3
   subst h3
   have hN:=ZS p mainS
   have hmq : ∀ q:Prop,((VE p mainS).2=true∧(VE p mainS).1.params.length=0∧q)→q:=fun q h=>h.2.2
   have hT1:=ZZ p.globals
   have hT2:=ZZ (procsN p)
   generalize (VE p mainS).2=mk at *
   generalize (VE p mainS).1=mf at *
   have hmfl:(mf.params.map fun a=>AV.agg a.cells).length=mf.params.length:=List.length_map _
   conv=>whnf
   repeat' (first|((first|intro (_:_≤9223372036854775807)|refine And.intro rfl ?_|(refine CallK.pure hN (.cons (Sub.refl _) (.cons (Sub.refl _) .nil)) ?_;rintro _ rfl)|(refine CallK.pure hT1 (.cons (Sub.refl _) .nil) ?_;rintro _ rfl)|(refine CallK.borrow hT2 (.cons (.hd rfl (by simp)) .nil) (by rintro _ rfl;rfl) ?_;rintro _ rfl)|(refine CallK.pure (QT 5 0) (.cons (Sub.refl _) (.cons (Sub.refl _) .nil)) ?_;rintro _ rfl));conv=>whnf)|(refine Br.dec (fun _=>?_) (fun _=>?_)<;>first|(exfalso;omega)|conv=>whnf)|(refine Br.n (fun _=>?_) (fun _=>?_)<;>conv=>whnf)|(refine Br.b (fun _=>?_) (fun _=>?_)<;>conv=>whnf))
   all_goals first
    | (refine RetK.flt ⟨fun h=>by omega,fun ⟨⟨h4,h5,h6,h7⟩,h8⟩ => ?_⟩
       exfalso
       simp_all
       done)
    | (refine RetK.flt ⟨fun h=>by omega,fun ⟨⟨h4,h5,h6,h7⟩,h8⟩ => ?_⟩
       omega)
    | skip
   have G1:XY p.globals=false:=by assumption
   have G2:XY (procsN p)=false:=by assumption
   have G3:mk=true:=by assumption
   have G4:mf.params.length=0:=by omega
   have hIff:(((XY p.globals=false∧XY (procsN p)=false∧mk=true∧mf.params.length=0) ∧ ∀ f∈p.procs,ScopeOK p f) ↔ ∀ f∈p.procs,ScopeOK p f):=⟨fun h=>h.2,fun h=>⟨⟨G1,G2,G3,G4⟩,h⟩⟩
   rw [hIff]
   clear hIff hT1 hT2 hN hmq G1 G2 G3 G4
   refine LoopK.inv QQ (fun j:Nat=>⟨[(1,.p (.ip p.cells)),(2,.ptr 1 0),(3,.hd 0 0 (procsN p).length),(55,.p (.sl (p.procs.map fun f => .agg f.cells))),(56,.p (.int .i64 (p.procs.map fun f=>AV.agg f.cells).length)),(57,.p (.int .i64 j))],[(0,.own 9 1 ((procsN p).map .str)),(1,.obj 90 [.p (.int .i64 0),.p (.int .i64 0)])]⟩) (fun j=>j≤p.procs.length ∧ ∀ f∈p.procs.take j,ScopeOK p f) (fun j=>p.procs.length-j) 0
    (Le.of_eq rfl) ⟨Nat.zero_le _,fun f h=>by rw [List.take_zero] at h;cases h⟩ ?_
   rintro j ⟨h2,h3⟩
   rcases Nat.lt_or_ge j p.procs.length with hj|hj
   rotate_left 1
   ·rw [List.take_of_length_le hj] at h3
    conv=>whnf
    repeat' (first|(refine And.intro rfl ?_;conv=>whnf)|(refine Br.dec (fun _=>?_) (fun _=>?_)<;>first|(exfalso;omega)|conv=>whnf))
    exact RetK.flt ⟨fun _=>h3,fun _=>rfl⟩
   have hfm:=List.getElem_mem hj
   obtain ⟨w1,w2,w3,w4⟩:=z1p hf hfm
   have hwp:=hf.pr hfm
   have hPm:=MT p.procs[j] (by omega)
   have hF:=QE p.procs[j]
   have hmap:(ZR p.procs[j]).map RI.s=flL p.procs[j].body:=by rw [WK hm hfm];exact DW 1 0 false _
   have hrl:=JH p.procs[j]
   have hargs : ∀ x∈ZR p.procs[j],x.s.args.length≤20000:=fun x hx=>by
    have hmm:x.s∈flL p.procs[j].body:=by
     rw [← hmap]
     exact List.mem_map.2 ⟨_,hx,rfl⟩
    have h4:=q6p _ _ hmm
    have h5:=x2l x.s
    have h6:=JV x.s.args
    unfold wPr at hwp
    omega
   have hav:allV p p.procs[j]=p.globals++((p.procs[j].params.map Param.name)++p.procs[j].vars):=rfl
   have hT:=ZZ (allV p p.procs[j])
   rw [hav] at hT
   have hnd:=ZL (l:=allV p p.procs[j])
   rw [hav] at hnd
   have hbad : ¬ScopeOK p p.procs[j] → ¬∀ f∈p.procs,ScopeOK p f:=fun h h2=>h (h2 _ hfm)
   have hgood:ScopeOK p p.procs[j] → ∀ f∈p.procs.take (j+1),ScopeOK p f:=fun h f hfq=>by
    rcases (QA hj).1 hfq with h4|rfl
    ·exact h3 f h4
    ·exact h
   have hok:((p.globals++((p.procs[j].params.map Param.name)++p.procs[j].vars)).Nodup ∧ ∀ x∈ZR p.procs[j],knownB p p.procs[j] (procsN p) x.s=true)↔ScopeOK p p.procs[j]:=by
    constructor
    ·rintro ⟨a,b⟩
     exact ⟨a,fun t ht=>by
      rw [← hmap] at ht
      obtain ⟨x,hx,rfl⟩:=List.mem_map.1 ht
      exact b x hx⟩
    ·rintro ⟨a,b⟩
     exact ⟨a,fun x hx=>b _ (by rw [← hmap];exact List.mem_map.2 ⟨x,hx,rfl⟩)⟩
   have hkd:=fun v=>q1a p p.procs[j] v
   have hkn : ∀ t:S,knownB p p.procs[j] (procsN p) t=((ZT t).all (fun n => !(HI p p.procs[j] n==0))&&(decide (t.kind≠4)||(!(t.proc==mainS)&&inS (procsN p) t.proc))):=fun t=>by rw [q4u];rfl
   clear hav hwp hmap hfm
   generalize ZR p.procs[j]=its at *
   generalize ScopeOK p p.procs[j]=SK at *
   have hil:=ZI its
   rw [show QD (p.globals++((p.procs[j].params.map Param.name)++p.procs[j].vars))=AV.sl (p.globals.map .str++(p.procs[j].params.map Param.name).map .str++p.procs[j].vars.map .str) by unfold QD;rw [List.map_append,List.map_append,List.append_assoc]] at hT
   conv=>whnf
   repeat' (first|((first|intro (_:_≤9223372036854775807)|refine DrawK.auto QQ mixed (by kernel_rfl) ?_|refine And.intro rfl ?_|(refine And.intro ⟨by decide,by decide⟩ ?_)|refine IdxK.map (by omega) (fun _=>rfl) ?_|(refine CallK.pure hPm (.cons (Sub.refl _) .nil) ?_;rintro _ rfl)|refine BsK.own (fun x hx=>by cases hx) rfl ?_|refine AppK.strs _ (by simp) (by simp;omega) ?_|(refine CallK.borrow hT (.cons (.hd rfl (by simp<;>omega)) .nil) (by rintro _ rfl;rfl) ?_;rintro _ rfl)|(refine CallK.pure (QT 5 0) (.cons (Sub.refl _) (.cons (Sub.refl _) .nil)) ?_;rintro _ rfl)|(refine CallK.pure hF (.cons (Sub.refl _) .nil) ?_;rintro _ rfl));conv=>whnf)|(refine Br.dec (fun _=>?_) (fun _=>?_)<;>first|(exfalso;omega)|conv=>whnf)|(refine Br.b (fun _=>?_) (fun _=>?_)<;>conv=>whnf))
   all_goals first
    | (refine RetK.flt ⟨fun h=>by omega,fun hP=>absurd hP (hbad fun hS => ?_)⟩
       have:=hnd.2 (hok.2 hS).1
       simp_all
       done)
    | skip
   have hND:=hnd.1 (by assumption)
   have hbad2 : ∀ x∈its,knownB p p.procs[j] (procsN p) x.s=false → ¬∀ f∈p.procs,ScopeOK p f:=fun x hx h=>hbad fun hS=>by
    have:=(hok.2 hS).2 x hx
    rw [this] at h
    cases h
   clear hT hnd
   refine LoopK.inv QQ (fun m:Nat=>⟨[(1,.p (.ip p.cells)),(2,.ptr 1 0),(3,.hd 0 0 (procsN p).length),(9,.p (.ip p.procs[j].cells)),(55,.p (.sl (p.procs.map fun f => .agg f.cells))),(56,.p (.int .i64 (p.procs.map fun f=>AV.agg f.cells).length)),(57,.p (.int .i64 j)),(74,.p (YN its)),(75,.p (.int .i64 (its.map fun i=>AV.agg i.cells).length)),(76,.p (.int .i64 m))],[(0,.own 9 1 ((procsN p).map .str)),(1,.obj 90 [.p (.int .i64 0),.p (.int .i64 0)])]⟩) (fun m=>m≤its.length ∧ ∀ x∈its.take m,knownB p p.procs[j] (procsN p) x.s=true) (fun m=>its.length-m) 0
    (Le.of_eq rfl) ⟨Nat.zero_le _,fun x h=>by rw [List.take_zero] at h;cases h⟩ ?_
   rintro m ⟨h4,h5⟩
   rcases Nat.lt_or_ge m its.length with hm'|hm'
   rotate_left 1
   ·rw [List.take_of_length_le hm'] at h5
    conv=>whnf
    repeat' (first|(refine Wr.i64 (by omega) (by omega) ?_;conv=>whnf)|(refine Br.dec (fun _=>?_) (fun _=>?_)<;>first|(exfalso;omega)|conv=>whnf))
    exact ⟨j+1,⟨by omega,hgood (hok.1 ⟨hND,h5⟩)⟩,by omega,Le.of_eq rfl⟩
   have hna:=hargs _ (List.getElem_mem hm')
   have hSd:=GH its[m].s hna
   have hB:=hbad2 _ (List.getElem_mem hm')
   have hst:knownB p p.procs[j] (procsN p) its[m].s=true → ∀ x∈its.take (m+1),knownB p p.procs[j] (procsN p) x.s=true:=fun h x hx=>by
    rcases (QA hm').1 hx with h6|rfl
    ·exact h5 x h6
    ·exact h
   rw [hkn] at hB hst
   have hIn:=QC (procsN p) its[m].s.proc
   generalize ZT its[m].s=vs at *
   have hvl:(vs.map AV.str).length=vs.length:=List.length_map _
   conv=>whnf
   repeat' (first|((first|intro (_:_≤9223372036854775807)|refine And.intro rfl ?_|refine IdxK.map (by omega) (fun _=>rfl) ?_|(refine CallK.pure hSd (.cons (Sub.refl _) .nil) ?_;rintro _ rfl));conv=>whnf)|(refine Br.dec (fun _=>?_) (fun _=>?_)<;>first|(exfalso;omega)|conv=>whnf))
   refine LoopK.inv QQ (fun q:Nat=>⟨[(1,.p (.ip p.cells)),(2,.ptr 1 0),(3,.hd 0 0 (procsN p).length),(9,.p (.ip p.procs[j].cells)),(11,.p (.ip its[m].cells)),(55,.p (.sl (p.procs.map fun f => .agg f.cells))),(56,.p (.int .i64 (p.procs.map fun f=>AV.agg f.cells).length)),(57,.p (.int .i64 j)),(74,.p (YN its)),(75,.p (.int .i64 (its.map fun i=>AV.agg i.cells).length)),(76,.p (.int .i64 m)),(82,.p (QD vs)),(83,.p (.int .i64 (vs.map AV.str).length)),(84,.p (.int .i64 q))],[(0,.own 9 1 ((procsN p).map .str)),(1,.obj 90 [.p (.int .i64 0),.p (.int .i64 0)])]⟩) (fun q=>q≤vs.length∧(vs.drop q).all (fun n => !(HI p p.procs[j] n==0))=vs.all fun n => !(HI p p.procs[j] n==0)) (fun q=>vs.length-q) 0
    (Le.of_eq rfl) ⟨Nat.zero_le _,rfl⟩ ?_
   rintro q ⟨h6,h7⟩
   rcases Nat.lt_or_ge q vs.length with hq|hq
   ·have hK:=hkd vs[q]
    conv=>whnf
    repeat' (first|((first|refine And.intro rfl ?_|refine IdxK.map (by omega) (fun _=>rfl) ?_|refine Wr.i64 (by omega) (by omega) ?_|(refine CallK.pure hK (.cons (Sub.refl _) (.cons (Sub.refl _) (.cons (Sub.refl _) .nil))) ?_;rintro _ rfl)|(refine CallK.pure (QT 5 _) (.cons (Sub.refl _) (.cons (Sub.refl _) .nil)) ?_;rintro _ rfl));conv=>whnf)|(refine Br.dec (fun _=>?_) (fun _=>?_)<;>first|(exfalso;omega)|conv=>whnf))
    all_goals first
     | (refine RetK.flt ⟨fun h=>by omega,fun hP=>absurd hP (hB ?_)⟩
        have hk0:HI p p.procs[j] vs[q]=0:=by assumption
        have e:=q0s (p:=fun n => !(HI p p.procs[j] n==0)) hq (by rw [hk0];rfl)
        rw [← h7,e]
        rfl)
     | (have hk0 : ¬HI p p.procs[j] vs[q]=0:=by assumption
        exact ⟨q+1,⟨by omega,by rw [← h7,KC (p:=fun n => !(HI p p.procs[j] n==0)) hq (by simpa using hk0)]⟩,by omega,Le.of_eq rfl⟩)
     | trace_state
   ·rw [KH hq] at h7
    rw [← h7,Bool.true_and] at hB hst
    conv=>whnf
    repeat' (first|((first|refine And.intro rfl ?_|refine Wr.i64 (by omega) (by omega) ?_|(refine CallK.borrow hIn (.cons (.hd rfl (by simp)) (.cons (.p (Sub.refl _)) .nil)) (by rintro _ rfl;rfl) ?_;rintro _ rfl)|(refine CallK.pure (QT 5 _) (.cons (Sub.refl _) (.cons (Sub.refl _) .nil)) ?_;rintro _ rfl));conv=>whnf)|(refine Br.dec (fun _=>?_) (fun _=>?_)<;>first|(exfalso;omega)|conv=>whnf)|(refine Br.n (fun _=>?_) (fun _=>?_)<;>conv=>whnf)|(refine Br.b (fun _=>?_) (fun _=>?_)<;>conv=>whnf))
    all_goals
     have hmm:(its[m].s.proc==mainS)=(its[m].s.proc==[109,97,105,110]):=rfl
    all_goals first
     | (refine RetK.flt ⟨fun h=>by omega,fun hP=>absurd hP (hB ?_)⟩
        rw [hmm]
        simp_all
        done)
     | (refine ⟨m+1,⟨by omega,hst ?_⟩,by omega,Le.of_eq rfl⟩
        rw [hmm]
        simp_all
        done)
     | trace_state
open Go.Proofs
def x6f (L:List RI) (f:Pr) (x:RI):Bool:=if x.s.kind=7∨x.s.kind=8 then (x7s L.reverse x.s.id).2 else if x.s.kind=10 then inS (q6f f) x.s.name else true
theorem w7t (f:Pr) (n:Str):(atB f n).2=inS (q6f f) n:=by
 rw [Bool.eq_iff_iff,x8d]
 unfold atB q6f
 rw [List.mem_append,List.mem_flatMap]
 cases hq:(flL f.body).find? fun t=>t.labels.any fun s=>n==s with
 | some t =>
   have h1:=List.mem_of_find?_eq_some hq
   have h2:=List.find?_some hq
   obtain ⟨s,hs,he⟩:=List.any_eq_true.1 h2
   have he:n=s:=eq_of_beq he
   exact ⟨fun _ => .inl ⟨t,h1,he▸hs⟩,fun _=>rfl⟩
 | none =>
   have h1:=List.find?_eq_none.1 hq
   have h2 : ¬∃ a∈flL f.body,n∈a.labels:=fun ⟨t,ht,hn⟩=>h1 t ht (List.any_eq_true.2 ⟨n,hn,beq_self_eq_true n⟩)
   cases hc:f.fin.any fun s=>n==s with
   | true =>
     obtain ⟨s,hs,he⟩:=List.any_eq_true.1 hc
     have he:n=s:=eq_of_beq he
     exact ⟨fun _ => .inr (he▸hs),fun _=>rfl⟩
   | false =>
     refine ⟨fun h=>by simp at h,fun h => ?_⟩
     rcases h with h|h
     ·exact absurd h h2
     ·have:=List.any_eq_false.1 hc n h
      simp at this
theorem z4v {p:Pg} (h:WI p=true) {j:Nat} {f:Pr} (hj:p.procs[j]? = some f):FB p j f↔(∀ x∈flatU f,x6f (flatU f) f x=true)∧(q6f f).Nodup:=by
 have key : ∀ it∈itsOf p j f,∀ x∈flatU f,x.s=it.s→x6f (flatU f) f x=VY f it:=fun it hi x hx he=>by
  unfold x6f VY
  rw [he,q6l h hj hi,w7t]
  congr 1
  by_cases h0:it.loop=0<;>simp [h0]
 unfold FB
 refine and_congr_left fun _=>⟨fun h1 x hx => ?_,fun h1 it hi => ?_⟩
 ·have h2:x.s∈flL f.body:=by
   rw [← show (flatU f).map RI.s=flL f.body from DW 1 0 false f.body]
   exact List.mem_map.2 ⟨x,hx,rfl⟩
  obtain ⟨it,hi,he⟩:=w4s (p:=p) (j:=j) h2
  rw [key it hi x hx he.symm]
  exact h1 it hi
 ·obtain ⟨x,hx,he⟩:=q5y (PK hi)
  rw [← key it hi x hx he]
  exact h1 x hx
theorem z6d (f:Pr):q6f f=(flatU f).flatMap (fun x=>x.s.labels)++f.fin:=by
 unfold q6f
 rw [← show (flatU f).map RI.s=flL f.body from DW 1 0 false f.body,List.flatMap_map]
theorem q0m (p:Pg) (hf:Fit p) (hm:WI p=true):SpecP Tryz.prog 204 [.agg p.cells] (fun r=>fltR (∀ j f,p.procs[j]? = some f→FB p j f) r):=by
 refine SpecP.body PO QQ Tryz.func204 rfl Tryz.call204 (by show 1≤_;decide) ?_
 conv=>whnf
 obtain ⟨hg,hpl,hcn⟩:=ZX hm
 have hpll:(p.procs.map fun f=>AV.agg f.cells).length=p.procs.length:=List.length_map _
 repeat' (intro (_:_≤9223372036854775807);conv=>whnf)
 refine LoopK.inv QQ (fun j:Nat=>⟨[(2,.ptr 1 0),(13,.p (.sl (p.procs.map fun f => .agg f.cells))),(14,.p (.int .i64 (p.procs.map fun f=>AV.agg f.cells).length)),(15,.p (.int .i64 j))],[(1,.obj 90 [.p (.int .i64 0),.p (.int .i64 0)])]⟩) (fun j=>j≤p.procs.length ∧ ∀ k f,k<j→p.procs[k]? = some f→FB p k f) (fun j=>p.procs.length-j) 0
  (Le.of_eq rfl) ⟨Nat.zero_le _,fun k f h=>absurd h (Nat.not_lt_zero _)⟩ ?_
 rintro j ⟨h2,h3⟩
 rcases Nat.lt_or_ge j p.procs.length with hj|hj
 rotate_left 1
 ·conv=>whnf
  repeat' (first|(refine And.intro rfl ?_;conv=>whnf)|(refine Br.dec (fun _=>?_) (fun _=>?_)<;>first|(exfalso;omega)|conv=>whnf))
  exact RetK.flt ⟨fun _ k f hk=>h3 k f (by have:=(List.getElem?_eq_some_iff.1 hk).1;omega) hk,fun _=>rfl⟩
 have hfm:=List.getElem_mem hj
 obtain ⟨w1,w2,w3,w4⟩:=z1p hf hfm
 have hwp:=hf.pr hfm
 have hpj':p.procs[j]? = some p.procs[j]:=List.getElem?_eq_getElem hj
 have hF:=QE p.procs[j]
 rw [WK hm hfm] at hF
 have hrl:(flatU p.procs[j]).length≤200:=by rw [show flatU p.procs[j]=fuL 1 0 false p.procs[j].body from rfl,WQ];have:=HM _ _ hfm;omega
 have hlab : ∀ x∈flatU p.procs[j],x.s.labels.length≤20000:=fun x hx=>by
  have hmm:x.s∈flL p.procs[j].body:=by
   rw [← show (flatU p.procs[j]).map RI.s=flL p.procs[j].body from DW 1 0 false _]
   exact List.mem_map.2 ⟨_,hx,rfl⟩
  have h4:=q6p _ _ hmm
  have h5:=x2l x.s
  have h6:=HY x.s.labels
  unfold wPr at hwp
  omega
 have hLb:=MA p.procs[j] (by rw [WK hm hfm];exact hlab) w3
 rw [WK hm hfm,← z6d] at hLb
 have hbad : ¬FB p j p.procs[j] → ¬∀ j f,p.procs[j]? = some f→FB p j f:=fun h h2=>h (h2 j _ hpj')
 have hgood:FB p j p.procs[j] → ∀ k f,k<j+1→p.procs[k]? = some f→FB p k f:=fun h k f hk hf2=>by
  rcases Nat.lt_or_ge k j with h4|h4
  ·exact h3 k f h4 hf2
  ·obtain rfl:k=j:=by omega
   rw [hpj'] at hf2
   exact Option.some.inj hf2▸h
 rw [z4v hm hpj'] at hbad hgood
 have hlf:=z6d p.procs[j]
 have hld : ∀ x,x6f (flatU p.procs[j]) p.procs[j] x=if x.s.kind=7∨x.s.kind=8 then (x7s (flatU p.procs[j]).reverse x.s.id).2 else if x.s.kind=10 then inS (q6f p.procs[j]) x.s.name else true:=fun x=>rfl
 have hAr:=fun id=>JK (flatU p.procs[j]) id
 have hIn:=fun x=>QC (q6f p.procs[j]) x
 generalize x6f (flatU p.procs[j]) p.procs[j]=ld at *
 generalize flatU p.procs[j]=L at *
 generalize q6f p.procs[j]=LB at *
 have hLl:=ZI L
 conv=>whnf
 repeat' (first|((first|intro (_:_≤9223372036854775807)|refine And.intro rfl ?_|refine IdxK.map (by omega) (fun _=>rfl) ?_|(refine CallK.pure hF (.cons (Sub.refl _) .nil) ?_;rintro _ rfl));conv=>whnf)|(refine Br.dec (fun _=>?_) (fun _=>?_)<;>first|(exfalso;omega)|conv=>whnf))
 refine LoopK.inv QQ (fun x:Nat×List Str=>⟨[(2,.ptr 1 0),(4,.p (.ip p.procs[j].cells)),(5,.hd 0 0 x.2.length),(6,.p (YN L)),(13,.p (.sl (p.procs.map fun f => .agg f.cells))),(14,.p (.int .i64 (p.procs.map fun f=>AV.agg f.cells).length)),(15,.p (.int .i64 j)),(21,.p (YN L)),(22,.p (.int .i64 (L.map fun i=>AV.agg i.cells).length)),(23,.p (.int .i64 x.1))],[(0,.own 9 1 (x.2.map .str)),(1,.obj 90 [.p (.int .i64 0),.p (.int .i64 0)])]⟩) (fun x=>x.1≤L.length∧x.2=(L.take x.1).flatMap (fun x=>x.s.labels)∧x.2.length≤20000*x.1∧x.2.Nodup ∧ ∀ y∈L.take x.1,ld y=true) (fun x=>L.length-x.1) (0,[])
  (Le.mk [(0,.own 9 1 [])] (by simp [Chunk.new0];rfl) (by simp) (by simp) (.cons (.refl _) (.cons (.refl _) (.cons (.nil List.mem_cons_self) (.cons (.refl _) (.cons (.refl _) (.cons (.refl _) (.cons (.refl _) (.cons (.refl _) (.cons (.refl _) (.cons (.refl _) .nil)))))))))) (.new List.mem_cons_self (.cons rfl (.refl _) .nil))) ⟨Nat.zero_le _,by simp,by simp,by simp,fun y h=>by rw [List.take_zero] at h;cases h⟩ ?_
 rintro ⟨k,acc⟩ ⟨h4,h5,h6,h7,h8⟩
 simp only at h4 h5 h6 h7 h8 ⊢
 rcases Nat.lt_or_ge k L.length with hk|hk
 ·have hlk:=hlab _ (List.getElem_mem hk)
  have e1:(L.take (k+1)).flatMap (fun x=>x.s.labels)=acc++L[k].s.labels:=by rw [List.take_succ_eq_append_getElem hk,List.flatMap_append,← h5];simp
  have hT:=ZZ (acc++L[k].s.labels)
  have hAk:=hAr L[k].s.id
  have hIk:=hIn L[k].s.name
  have hldk:=hld L[k]
  have hsub:LB.Nodup→(acc++L[k].s.labels).Nodup:=fun h=>by
   rw [hlf,← List.take_append_drop (k+1) L,List.flatMap_append,e1,List.append_assoc] at h
   exact (List.nodup_append.1 h).1
  have hno : ∀ {d:Int} {H:Heap},(ld L[k]=false∨XY (acc++L[k].s.labels)=true)→RetK H (.p (.agg [.int .i64 7,.int .i64 d])) (fun r=>fltR (∀ j f,p.procs[j]? = some f→FB p j f) r):=fun h=>by
   refine RetK.flt ⟨fun h=>by omega,fun hP=>absurd hP (hbad fun ⟨h9,h10⟩ => ?_)⟩
   rcases h with h|h
   ·rw [h9 _ (List.getElem_mem hk)] at h
    cases h
   ·rw [ZL.2 (hsub h10)] at h
    cases h
  have hyes:ld L[k]=true → ∀ y∈L.take (k+1),ld y=true:=fun h y hy=>by
   rcases (QA hk).1 hy with h9|rfl
   ·exact h8 y h9
   ·exact h
  rw [← ZL] at hsub
  rw [show QD (acc++L[k].s.labels)=AV.sl (acc.map .str++L[k].s.labels.map .str) by unfold QD;rw [List.map_append]] at hT
  generalize hal:acc++L[k].s.labels=al at hT hno e1
  have hall:al.length=acc.length+L[k].s.labels.length:=by rw [← hal];simp
  generalize (x7s L.reverse L[k].s.id).2=ar at *
  conv=>whnf
  repeat' (first|((first|refine DrawK.auto QQ mixed (by kernel_rfl) ?_|refine And.intro rfl ?_|(refine And.intro ⟨by decide,by decide⟩ ?_)|refine IdxK.map (by omega) (fun _=>rfl) ?_|refine Wr.i64 (by omega) (by omega) ?_|refine AppK.strs _ (by simp) (by simp;omega) ?_|(refine CallK.borrow hT (.cons (.hd rfl (by simp)) .nil) (by rintro _ rfl;rfl) ?_;rintro _ rfl)|(refine CallK.pure hAk (.cons (Sub.refl _) (.cons (Sub.refl _) .nil)) ?_;rintro _ rfl)|(refine CallK.pure hLb (.cons (Sub.refl _) .nil) ?_;rintro _ rfl)|(refine CallK.pure hIk (.cons (Sub.refl _) (.cons (Sub.refl _) .nil)) ?_;rintro _ rfl)|(refine CallK.pure (QT 7 _) (.cons (Sub.refl _) (.cons (Sub.refl _) .nil)) ?_;rintro _ rfl));conv=>whnf)|(refine Br.dec (fun _=>?_) (fun _=>?_)<;>first|(exfalso;omega)|conv=>whnf)|(refine Br.n (fun _=>?_) (fun _=>?_)<;>conv=>whnf)|(refine Br.b (fun _=>?_) (fun _=>?_)<;>conv=>whnf))
  all_goals first
   | exact hno (.inr (by assumption))
   | (refine hno (.inl ?_)
      rw [hldk]
      simp_all
      done)
   | (refine ⟨(k+1,al),⟨by simp only;omega,by simp only;rw [e1],by simp only;omega,ZL.1 (by assumption),hyes ?_⟩,by simp only;omega,Le.of_eq (by subst hal;simp only [List.length_append,List.map_append,List.length_map];rfl)⟩
      rw [hldk]
      simp_all
      done)
   | trace_state
 ·rw [List.take_of_length_le hk] at h5 h8
  have e2:LB=acc++p.procs[j].fin:=by rw [hlf,← h5]
  have hT:=ZZ (acc++p.procs[j].fin)
  rw [show QD (acc++p.procs[j].fin)=AV.sl (acc.map .str++p.procs[j].fin.map .str) by unfold QD;rw [List.map_append]] at hT
  conv=>whnf
  repeat' (first|((first|refine And.intro rfl ?_|(refine And.intro ⟨by decide,by decide⟩ ?_)|refine Wr.i64 (by omega) (by omega) ?_|refine AppK.strs _ (by simp) (by simp;omega) ?_|(refine CallK.borrow hT (.cons (.hd rfl (by simp)) .nil) (by rintro _ rfl;rfl) ?_;rintro _ rfl)|(refine CallK.pure (QT 7 0) (.cons (Sub.refl _) (.cons (Sub.refl _) .nil)) ?_;rintro _ rfl));conv=>whnf)|(refine Br.dec (fun _=>?_) (fun _=>?_)<;>first|(exfalso;omega)|conv=>whnf)|(refine Br.b (fun _=>?_) (fun _=>?_)<;>conv=>whnf))
  all_goals first
   | (refine RetK.flt ⟨fun h=>by omega,fun hP=>absurd hP (hbad fun ⟨h9,h10⟩ => ?_)⟩
      rw [e2,← ZL] at h10
      simp_all
      done)
   | (refine ⟨j+1,⟨by omega,hgood ⟨h8,?_⟩⟩,by omega,Le.of_eq rfl⟩
      rw [e2,← ZL]
      assumption)
theorem fltR.yes {P:Prop} {r:AV} (h:fltR P r) (hp:P) : ∃ d,r=DI 0 d:=by
 obtain ⟨c,d,rfl,h⟩:=h
 rw [h.2 hp]
 exact ⟨d,rfl⟩
theorem fltR.no {P:Prop} {r:AV} (h:fltR P r) (hp : ¬P) : ∃ c d,c≠0∧r=DI c d:=by
 obtain ⟨c,d,rfl,h⟩:=h
 exact ⟨c,d,fun e=>hp (h.1 e),rfl⟩
theorem q4f (p:Pg) (hf:Fit p):SpecP Tryz.prog 142 [.agg p.cells] (fun r=>fltR (XK p=true) r):=by
 refine SpecP.body q1b QQ Tryz.func142 rfl Tryz.call142 (by show 1≤_;decide) ?_
 conv=>whnf
 have hS:=LJ p hf
 by_cases hs:(QS p).1=0
 rotate_left 1
 ·have hS:=hS.mono fun r h=>h.no hs
  have hno : ¬XK p=true:=fun h=>hs (x3t.1 h).2.1
  repeat' (first|((first|refine And.intro rfl ?_|(refine CallK.pure hS (.cons (Sub.refl _) .nil) ?_;rintro _ ⟨c,d,hc,rfl⟩));conv=>whnf)|(refine Br.dec (fun _=>?_) (fun _=>?_)<;>first|(exfalso;omega)|conv=>whnf))
  all_goals first
   | (exfalso;omega)
   | exact RetK.flt ⟨fun h=>absurd h hc,fun h=>absurd h hno⟩
 have hS:=hS.mono fun r h=>h.yes hs
 have hm:=(VQ hs).1
 have hA:=q1j p hm
 rw [← x5n hs] at hA
 by_cases ha:(VK p).1=0
 rotate_left 1
 ·have hA:=hA.mono fun r h=>h.no ha
  have hno : ¬XK p=true:=fun h=>ha (x3t.1 h).2.2.1
  repeat' (first|((first|refine And.intro rfl ?_|(refine CallK.pure hS (.cons (Sub.refl _) .nil) ?_;rintro _ ⟨d0,rfl⟩)|(refine CallK.pure hA (.cons (Sub.refl _) .nil) ?_;rintro _ ⟨c,d,hc,rfl⟩));conv=>whnf)|(refine Br.dec (fun _=>?_) (fun _=>?_)<;>first|(exfalso;omega)|conv=>whnf))
  all_goals first
   | (exfalso;omega)
   | exact RetK.flt ⟨fun h=>absurd h hc,fun h=>absurd h hno⟩
 have hA:=hA.mono fun r h=>h.yes ha
 have hJ:=q0m p hf hm
 rw [← w2c hs] at hJ
 by_cases hj:(PT p).1=0
 rotate_left 1
 ·have hJ:=hJ.mono fun r h=>h.no hj
  have hno : ¬XK p=true:=fun h=>hj (x3t.1 h).2.2.2.1
  repeat' (first|((first|refine And.intro rfl ?_|(refine CallK.pure hS (.cons (Sub.refl _) .nil) ?_;rintro _ ⟨d0,rfl⟩)|(refine CallK.pure hA (.cons (Sub.refl _) .nil) ?_;rintro _ ⟨d1,rfl⟩)|(refine CallK.pure hJ (.cons (Sub.refl _) .nil) ?_;rintro _ ⟨c,d,hc,rfl⟩));conv=>whnf)|(refine Br.dec (fun _=>?_) (fun _=>?_)<;>first|(exfalso;omega)|conv=>whnf))
  all_goals first
   | (exfalso;omega)
   | exact RetK.flt ⟨fun h=>absurd h hc,fun h=>absurd h hno⟩
 have hJ:=hJ.mono fun r h=>h.yes hj
 have hT:=DL p hf hs ((x5n hs).1 ha)
 rw [← z8j ha] at hT
 have hiff:XK p=true↔(HV p).1=0:=by
  rw [x3t]
  exact ⟨fun h=>h.2.2.2.2,fun h=>⟨hm,hs,ha,hj,h⟩⟩
 repeat' (first|((first|refine And.intro rfl ?_|(refine CallK.pure hS (.cons (Sub.refl _) .nil) ?_;rintro _ ⟨d0,rfl⟩)|(refine CallK.pure hA (.cons (Sub.refl _) .nil) ?_;rintro _ ⟨d1,rfl⟩)|(refine CallK.pure hJ (.cons (Sub.refl _) .nil) ?_;rintro _ ⟨d2,rfl⟩)|(refine CallK.pure hT (.cons (Sub.refl _) .nil) ?_;rintro _ ⟨c,d,rfl,hc⟩));conv=>whnf)|(refine Br.dec (fun _=>?_) (fun _=>?_)<;>first|(exfalso;omega)|conv=>whnf))
 all_goals first
  | (exfalso;omega)
  | exact RetK.flt (hc.trans hiff.symm)
theorem ZV (p:Pg) (hf:Fit p):SpecP Tryz.prog 85 [.agg p.cells] (fun r=>r = .bool (XK p)):=by
 refine SpecP.body PF QQ Tryz.func85 rfl Tryz.call85 (by show 1≤_;decide) ?_
 conv=>whnf
 repeat' (refine CallK.pure (q4f p hf) (.cons (Sub.refl _) .nil) ?_;rintro _ ⟨c,d,rfl,hc⟩;conv=>whnf)
 all_goals
  refine RetK.bool ?_
  first
  | rw [Bool.eq_iff_iff,beq_iff_eq];exact hc
  | rw [Bool.eq_iff_iff,decide_eq_true_eq];exact hc
open Go.Proofs
theorem JA (l:List RI) (id:Int):SpecP Tryz.prog 143 [YN l,.int .i64 id] (fun r=>r = .agg (itemR l id).cells):=by
 refine SpecP.body NW QQ Tryz.func143 rfl Tryz.call143 (by show 2≤_;decide) ?_
 conv=>whnf
 intro (_:_≤9223372036854775807)
 have hLl:=ZI l
 conv=>whnf
 refine LoopK.inv QQ (fun k:Nat=>⟨[(1,.p (.int .i64 id)),(4,.ptr 0 0),(7,.p (YN l)),(8,.p (.int .i64 (l.map fun i=>AV.agg i.cells).length)),(9,.p (.int .i64 k))],[(0,.obj 103 [.p (.int .i64 0),.p (.int .i64 0),.p .nils,.p (.str []),.p (.str []),.p (.int .i64 0),.p (.int .i64 0),.p (.str []),.p .nils,.p .ff,.p .nils,.p .nils,.p .nils,.p (.int .i64 0),.p (.int .i64 0),.p .ff])]⟩) (fun k=>k≤l.length∧(l.drop k).find? (fun x=>decide (x.s.id=id))=l.find? fun x=>decide (x.s.id=id)) (fun k=>l.length-k) 0 (Le.of_eq rfl) ⟨Nat.zero_le _,rfl⟩ ?_
 rintro k ⟨h4,h5⟩
 rcases Nat.lt_or_ge k l.length with hk|hk
 rotate_left 1
 ·rw [List.drop_eq_nil_of_le hk,List.find?_nil] at h5
  have hO:itemR l id=RI0:=by unfold itemR;rw [← h5];rfl
  rw [hO]
  conv=>whnf
  repeat' (first|(refine And.intro rfl ?_;conv=>whnf)|(refine Br.dec (fun _=>?_) (fun _=>?_)<;>first|(exfalso;omega)|conv=>whnf))
  exact ⟨_,.p z9v,rfl⟩
 rw [q8z hk] at h5
 conv=>whnf
 repeat' (first|((first|refine And.intro rfl ?_|refine IdxK.map (by omega) (fun _=>rfl) ?_|refine Wr.i64 (by omega) (by omega) ?_);conv=>whnf)|(refine Br.dec (fun _=>?_) (fun _=>?_)<;>first|(exfalso;omega)|conv=>whnf))
 ·have hid:l[k].s.id=id:=by assumption
  rw [if_pos (decide_eq_true hid)] at h5
  have hO:itemR l id=l[k]:=by unfold itemR;rw [← h5];rfl
  rw [hO]
  exact ⟨_,.p (Sub.refl _),rfl⟩
 ·have hid : ¬l[k].s.id=id:=by assumption
  rw [if_neg (by simpa using hid)] at h5
  exact ⟨k+1,⟨hk,h5⟩,by omega,Le.of_eq rfl⟩
theorem q2i (l:List RI) (x:RI) (hl:l.length≤1000000):SpecP Tryz.prog 144 [YN l,.agg x.cells] (fun r=>r=QF (stdR l x)):=by
 refine SpecP.body NH QQ Tryz.func144 rfl Tryz.call144 (by show 2≤_;decide) ?_
 conv=>whnf
 intro (_:_≤9223372036854775807)
 have hLl:=ZI l
 have hsd:stdR l x=(l.filter (inI x.inn x.els)).map fun y=>y.s.id:=rfl
 rw [hsd]
 conv=>whnf
 refine LoopK.inv QQ (fun q:Nat×List Int=>⟨[(3,.p (.ip x.cells)),(5,.hd 0 0 q.2.length),(8,.p (YN l)),(9,.p (.int .i64 (l.map fun i=>AV.agg i.cells).length)),(10,.p (.int .i64 q.1))],[(0,.own 3 1 (q.2.map (.int .i64)))]⟩) (fun q=>q.1≤l.length∧q.2=((l.take q.1).filter (inI x.inn x.els)).map (fun y=>y.s.id)∧q.2.length≤q.1) (fun q=>l.length-q.1) (0,[])
  (Le.mk [(0,.own 3 1 [])] (by simp [Chunk.new0];rfl) (by simp) (by simp) (.cons (.refl _) (.cons (.nil List.mem_cons_self) (.cons (.refl _) (.cons (.refl _) (.cons (.refl _) .nil))))) (.new List.mem_cons_self .nil)) ⟨Nat.zero_le _,by simp,by simp⟩ ?_
 rintro ⟨j,acc⟩ ⟨h2,h3,h4⟩
 simp only at h2 h3 h4 ⊢
 rcases Nat.lt_or_ge j l.length with hj|hj
 ·have h6:=List.take_succ_eq_append_getElem hj
  have hin:inI x.inn x.els l[j]=(decide (l[j].inn=x.inn)&&(l[j].els==x.els)):=rfl
  conv=>whnf
  repeat' (first|((first|refine And.intro rfl ?_|(refine And.intro ⟨by decide,by decide⟩ ?_)|refine BsK.pure (fun x hx=>by rcases List.mem_singleton.1 hx with rfl;rfl) rfl ?_|refine IdxK.map (by omega) (fun _=>rfl) ?_|refine Wr.i64 (by omega) (by omega) ?_|refine AppK.int1 (by simp) (by simp;omega) ?_|refine ValO.boolEql QQ rfl rfl rfl rfl rfl ?_);conv=>whnf)|(refine Br.dec (fun _=>?_) (fun _=>?_)<;>first|(exfalso;omega)|conv=>whnf))
  all_goals first
   | exact ⟨(j+1,acc++[l[j].s.id]),⟨by simp only;omega,by simp only;rw [h6,List.filter_append,List.map_append,← h3,List.filter_cons_of_pos (by rw [hin];simp_all)];rfl,by simp;omega⟩,by simp only;omega,Le.of_eq (by simp only [List.length_append,List.map_append];rfl)⟩
   | exact ⟨(j+1,acc),⟨by simp only;omega,by simp only;rw [h6,List.filter_append,List.map_append,← h3,List.filter_cons_of_neg (by rw [hin];simp_all)];simp,by simp only;omega⟩,by simp only;omega,Le.of_eq rfl⟩
   | trace_state
 ·rw [List.take_of_length_le hj] at h3
  subst h3
  conv=>whnf
  repeat' (refine Br.dec (fun _=>?_) (fun _=>?_)<;>first|(exfalso;omega)|conv=>whnf)
  exact ⟨_,.hd rfl (by simp),rfl⟩
theorem ZB (l:List RI) (id:Int) (e:Bool) (o:Int):SpecP Tryz.prog 145 [YN l,.int .i64 id,.bool e,.int .i64 o] (fun r=>r = .int .i64 (w6t l id e o)):=by
 refine SpecP.body DA QQ Tryz.func145 rfl Tryz.call145 (by show 4≤_;decide) ?_
 conv=>whnf
 intro (_:_≤9223372036854775807)
 have hLl:=ZI l
 conv=>whnf
 refine LoopK.inv QQ (fun k:Nat=>⟨[(1,.p (.int .i64 id)),(2,.p (.bool e)),(3,.p (.int .i64 o)),(11,.p (YN l)),(12,.p (.int .i64 (l.map fun i=>AV.agg i.cells).length)),(13,.p (.int .i64 k))],[]⟩) (fun k=>k≤l.length∧(l.drop k).find? (inI id e)=l.find? (inI id e)) (fun k=>l.length-k) 0 (Le.of_eq rfl) ⟨Nat.zero_le _,rfl⟩ ?_
 rintro k ⟨h4,h5⟩
 rcases Nat.lt_or_ge k l.length with hk|hk
 rotate_left 1
 ·rw [List.drop_eq_nil_of_le hk,List.find?_nil] at h5
  conv=>whnf
  repeat' (refine Br.dec (fun _=>?_) (fun _=>?_)<;>first|(exfalso;omega)|conv=>whnf)
  exact RetK.int (by unfold w6t;rw [← h5];rfl)
 rw [q8z hk] at h5
 have hin:inI id e l[k]=(decide (l[k].inn=id)&&(l[k].els==e)):=rfl
 rw [hin] at h5
 conv=>whnf
 repeat' (first|((first|refine And.intro rfl ?_|refine IdxK.map (by omega) (fun _=>rfl) ?_|refine Wr.i64 (by omega) (by omega) ?_|refine ValO.boolEql QQ rfl rfl rfl rfl rfl ?_);conv=>whnf)|(refine Br.dec (fun _=>?_) (fun _=>?_)<;>first|(exfalso;omega)|conv=>whnf))
 all_goals first
  | (rw [if_pos (by simp_all)] at h5
     exact RetK.int (by unfold w6t;rw [← h5];rfl))
  | (rw [if_neg (by simp_all)] at h5
     exact ⟨k+1,⟨hk,h5⟩,by omega,Le.of_eq rfl⟩)
  | trace_state
theorem x8n {r:List Int} {i:Nat} {id:Int} (h:i+1<r.length):nextIn (r.drop i) id=if r[i]=id then some r[i+1] else nextIn (r.drop (i+1)) id:=by
 rw [List.drop_eq_getElem_cons (show i<r.length by omega),List.drop_eq_getElem_cons h]
 rfl
theorem z4t {r:List Int} {i:Nat} {id:Int} (h:r.length≤i+1):nextIn (r.drop i) id=none:=by
 rcases Nat.lt_or_ge i r.length with hi|hi
 ·rw [List.drop_eq_getElem_cons hi,List.drop_eq_nil_of_le h]
  rfl
 ·rw [List.drop_eq_nil_of_le hi]
  rfl
theorem XJ (l:List RI) (hl:l.length≤1000000) (id v:Int) (hv:nextIn (stdR l (itemR l id)) id=some v∨(nextIn (stdR l (itemR l id)) id=none∧(((itemR l id).inn=0∧v = -1)∨((itemR l id).inn≠0∧(itemR l (itemR l id).inn).s.kind=6∧v=(itemR l id).inn)∨((itemR l id).inn≠0∧(itemR l (itemR l id).inn).s.kind≠6∧SpecP Tryz.prog 87 [YN l,.int .i64 (itemR l id).inn] (fun r=>r = .int .i64 v))))):SpecP Tryz.prog 87 [YN l,.int .i64 id] (fun r=>r = .int .i64 v):=by
 refine SpecP.body FL QQ Tryz.func87 rfl Tryz.call87 (by show 2≤_;decide) ?_
 conv=>whnf
 have hI:=JA l id
 have hI2:=JA l (itemR l id).inn
 have hR:=q2i l (itemR l id) hl
 have hrl:(stdR l (itemR l id)).length≤l.length:=by
  unfold stdR
  rw [List.length_map]
  exact List.length_filter_le _ _
 generalize itemR l (itemR l id).inn=y at *
 generalize itemR l id=x at *
 generalize stdR l x=R at *
 have hRl:(R.map (AV.int .i64)).length=R.length:=List.length_map _
 repeat' ((first|refine And.intro rfl ?_|(refine CallK.pure hI (.cons (Sub.refl _) (.cons (Sub.refl _) .nil)) ?_;rintro _ rfl)|(refine CallK.pure hR (.cons (Sub.refl _) (.cons (Sub.refl _) .nil)) ?_;rintro _ rfl));conv=>whnf)
 refine LoopK.inv QQ (fun i:Nat=>⟨[(0,.p (YN l)),(1,.p (.int .i64 id)),(5,.p (.ip x.cells)),(6,.p (QF R)),(7,.p (.int .i64 i))],[]⟩) (fun i=>i≤R.length∧nextIn (R.drop i) id=nextIn R id) (fun i=>R.length-i) 0 (Le.of_eq rfl) ⟨Nat.zero_le _,rfl⟩ ?_
 rintro i ⟨h2,h3⟩
 rcases Nat.lt_or_ge (i+1) R.length with hi|hi
 ·have g1:(R.map (AV.int .i64))[i]? = some (.int .i64 R[i]):=by rw [List.getElem?_map,List.getElem?_eq_getElem (by omega)];rfl
  have g2:(R.map (AV.int .i64))[i+1]? = some (.int .i64 R[i+1]):=by rw [List.getElem?_map,List.getElem?_eq_getElem hi];rfl
  have hst:=x8n (id:=id) hi
  conv=>whnf
  repeat' (first|((first|intro (_:_≤9223372036854775807)|refine IdxK.map (by omega) (fun _=>rfl) ?_|refine Wr.eq (m:=((i+1:Nat):Int)) (by omega) (by omega) (by omega) ?_);conv=>whnf)|(refine Br.dec (fun _=>?_) (fun _=>?_)<;>first|(exfalso;omega)|conv=>whnf))
  all_goals first
   | (rw [if_pos (by assumption)] at hst
      rw [hst] at h3
      rcases hv with hv|hv
      ·rw [hv] at h3
       exact RetK.int (Option.some.inj h3)
      ·rw [hv.1] at h3
       cases h3)
   | (rw [if_neg (by assumption)] at hst
      exact ⟨i+1,⟨by omega,by rw [← hst];exact h3⟩,by omega,Le.of_eq rfl⟩)
   | trace_state
 ·rw [z4t hi] at h3
  rw [← h3] at hv
  rcases hv with hv|⟨_,⟨h4,rfl⟩|⟨h4,h5,rfl⟩|⟨h4,h5,h6⟩⟩
  ·cases hv
  all_goals
   conv=>whnf
   repeat' (first|((first|intro (_:_≤9223372036854775807)|refine Wr.eq (m:=((i+1:Nat):Int)) (by omega) (by omega) (by omega) ?_|(refine CallK.pure hI2 (.cons (Sub.refl _) (.cons (Sub.refl _) .nil)) ?_;rintro _ rfl)|(refine CallK.pure h6 (.cons (Sub.refl _) (.cons (Sub.refl _) .nil)) ?_;rintro _ rfl));conv=>whnf)|(refine Br.dec (fun _=>?_) (fun _=>?_)<;>first|(exfalso;omega)|conv=>whnf))
   all_goals first
    | (exfalso;omega)
    | exact RetK.int rfl
    | trace_state
theorem FI {l:List RI} (hl:l.length≤1000000) {id v:Int} (h:BehP l id v):SpecP Tryz.prog 87 [YN l,.int .i64 id] (fun r=>r = .int .i64 v):=by
 induction h with
 | next h=>exact XJ l hl _ _ (.inl h)
 | exit h h0=>exact XJ l hl _ _ (.inr ⟨h,.inl ⟨h0,rfl⟩⟩)
 | loop h h0 hk=>exact XJ l hl _ _ (.inr ⟨h,.inr (.inl ⟨h0,hk,rfl⟩)⟩)
 | up h h0 hk _ ih=>exact XJ l hl _ _ (.inr ⟨h,.inr (.inr ⟨h0,hk,ih⟩)⟩)
end Go.Ab
