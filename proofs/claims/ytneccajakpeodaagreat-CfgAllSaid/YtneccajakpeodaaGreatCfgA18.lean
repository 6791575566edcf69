/- The reference's rows of texts that rise; whom a procedure calls, over others too. -/
import Derived.Test.YtneccajakpeodaaGreatCfgA17
set_option linter.unusedSimpArgs false
set_option linter.unusedVariables false
set_option maxRecDepth 100000
set_option maxHeartbeats 16000000
namespace Go.Ab
open Go.Proofs
theorem ZK (l:List Str) (hl:l.length≤1000000000):SpecP Tryz.prog 99 [QH l] (fun r=>r=QH (q3c l)):=by
 refine SpecP.body FF QQ Tryz.func99 rfl Tryz.call99 (by show 1≤_;decide) ?_
 conv=>whnf
 intro (_:_≤9223372036854775807)
 have hll:(l.map AV.str).length=l.length:=List.length_map _
 conv=>whnf
 refine LoopK.inv QQ (fun x:Nat×List Str=>⟨[(0,.p (QH l)),(3,.hd 0 0 x.2.length),(9,.p (.int .i64 (l.map AV.str).length)),(10,.p (.int .i64 x.1))],[(0,.own 9 1 (x.2.map .str))]⟩) (fun x=>x.1≤l.length∧RiseI ltT l x.2 x.1) (fun x=>l.length-x.1) (0,[])
  (Le.mk [(0,.own 9 1 [])] (by simp [Chunk.new0];rfl) (by simp) (by simp) (.cons (.refl _) (.cons (.nil List.mem_cons_self) (.cons (.refl _) (.cons (.refl _) .nil)))) (.new List.mem_cons_self .nil)) ⟨Nat.zero_le _,RiseI.zero⟩ ?_
 rintro ⟨i,out⟩ ⟨h2,h3⟩
 simp only at h2 h3 ⊢
 have hol:=h3.len ltT.irr
 rcases Nat.lt_or_ge i l.length with hi|hi
 ·conv=>whnf
  repeat' (first|((first|intro (_:_≤9223372036854775807)|refine DrawK.auto QQ mixed (by kernel_rfl) ?_|refine And.intro rfl ?_|(refine And.intro ⟨by decide,by decide⟩ ?_)|(refine And.intro ⟨rfl,rfl,by decide⟩ ?_)|refine BsK.pure (fun x hx=>by rcases List.mem_singleton.1 hx with rfl;rfl) rfl ?_|refine IdxK.map (by omega) (fun _=>rfl) ?_|refine IdxK.xs (by omega) ?_|refine IdxK.ss (by omega) ?_|(refine ByteK.at (by omega) ?_)|refine Wr.i64 (by omega) (by omega) ?_);conv=>whnf)|(refine Br.dec (fun _=>?_) (fun _=>?_)<;>first|(exfalso;omega)|conv=>whnf)|(refine Br.dec2 (fun _=>?_) (fun _=>?_)<;>first|(exfalso;omega)|conv=>whnf)|(refine Br.n (fun _=>?_) (fun _=>?_)<;>conv=>whnf)|(refine Br.b (fun _=>?_) (fun _=>?_)<;>conv=>whnf))
  refine LoopK.inv QQ (fun x:Nat×Option Str=>⟨[(0,.p (QH l)),(3,.hd 0 0 out.length),(4,.p (.str (x.2.getD []))),(5,.p (.bool x.2.isSome)),(9,.p (.int .i64 (l.map AV.str).length)),(10,.p (.int .i64 i)),(12,.p (QH l)),(13,.p (.int .i64 (l.map AV.str).length)),(14,.p (.int .i64 x.1))],[(0,.own 9 1 (out.map .str))]⟩) (fun x=>x.1≤l.length∧LeastI ltT l out x.1 x.2) (fun x=>l.length-x.1) (0,none) (Le.mk [] (by simp) (by simp) (by simp) (.cons (.refl _) (.cons (.refl _) (.cons (.refl _) (.cons (.p (Sub.ff rfl)) (.cons (.refl _) (.cons (.refl _) (.cons (.refl _) (.cons (.refl _) (.cons (.refl _) .nil))))))))) (.cons rfl (.refl _) .nil)) ⟨Nat.zero_le _,LeastI.zero⟩ ?_
  rintro ⟨k,o⟩ ⟨h4,h5⟩
  simp only at h4 h5 ⊢
  rcases Nat.lt_or_ge k l.length with hk|hk
  ·have hin:inS out l[k]=true→l[k]∈out:=q4o.1
   have hno:inS out l[k]=false→l[k]∉out:=fun h hm=>by rw [q4o.2 hm] at h;cases h
   cases o with
   | none =>
     simp only [Option.getD_none,Option.isSome_none]
     conv=>whnf
     repeat' (first|((first|intro (_:_≤9223372036854775807)|refine DrawK.auto QQ mixed (by kernel_rfl) ?_|refine And.intro rfl ?_|(refine And.intro ⟨by decide,by decide⟩ ?_)|(refine And.intro ⟨rfl,rfl,by decide⟩ ?_)|refine BsK.pure (fun x hx=>by rcases List.mem_singleton.1 hx with rfl;rfl) rfl ?_|refine IdxK.map (by omega) (fun _=>rfl) ?_|refine IdxK.xs (by omega) ?_|refine IdxK.ss (by omega) ?_|(refine ByteK.at (by omega) ?_)|refine Wr.i64 (by omega) (by omega) ?_|(refine CallK.borrow (QB out (l[k]'hk)) (.cons (.hd rfl (by simp)) (.cons (.p (Sub.refl _)) .nil)) (by rintro _ rfl;rfl) ?_;rintro _ rfl));conv=>whnf)|(refine Br.dec (fun _=>?_) (fun _=>?_)<;>first|(exfalso;omega)|conv=>whnf)|(refine Br.dec2 (fun _=>?_) (fun _=>?_)<;>first|(exfalso;omega)|conv=>whnf)|(refine Br.n (fun _=>?_) (fun _=>?_)<;>conv=>whnf)|(refine Br.b (fun _=>?_) (fun _=>?_)<;>conv=>whnf))
     all_goals first
      | (exfalso;simp_all;done)
      | exact ⟨(k+1,none),⟨by simp only;omega,h5.old hk (hin (by assumption))⟩,by simp only;omega,Le.of_eq rfl⟩
      | exact ⟨(k+1,some l[k]),⟨by simp only;omega,h5.first hk (hno (by assumption))⟩,by simp only;omega,(Le.mk [] (by simp) (by simp) (by simp) (.cons (.refl _) (.cons (.refl _) (.cons (.refl _) (.cons (.p (Sub.tt rfl)) (.cons (.refl _) (.cons (.refl _) (.cons (.refl _) (.cons (.refl _) (.cons (.refl _) .nil))))))))) (.cons rfl (.refl _) .nil))⟩
   | some m =>
     simp only [Option.getD_some,Option.isSome_some]
     conv=>whnf
     repeat' (first|((first|intro (_:_≤9223372036854775807)|refine DrawK.auto QQ mixed (by kernel_rfl) ?_|refine And.intro rfl ?_|(refine And.intro ⟨by decide,by decide⟩ ?_)|(refine And.intro ⟨rfl,rfl,by decide⟩ ?_)|refine BsK.pure (fun x hx=>by rcases List.mem_singleton.1 hx with rfl;rfl) rfl ?_|refine IdxK.map (by omega) (fun _=>rfl) ?_|refine IdxK.xs (by omega) ?_|refine IdxK.ss (by omega) ?_|(refine ByteK.at (by omega) ?_)|refine Wr.i64 (by omega) (by omega) ?_|(refine CallK.borrow (QB out (l[k]'hk)) (.cons (.hd rfl (by simp)) (.cons (.p (Sub.refl _)) .nil)) (by rintro _ rfl;rfl) ?_;rintro _ rfl));conv=>whnf)|(refine Br.dec (fun _=>?_) (fun _=>?_)<;>first|(exfalso;omega)|conv=>whnf)|(refine Br.dec2 (fun _=>?_) (fun _=>?_)<;>first|(exfalso;omega)|conv=>whnf)|(refine Br.n (fun _=>?_) (fun _=>?_)<;>conv=>whnf)|(refine Br.b (fun _=>?_) (fun _=>?_)<;>conv=>whnf))
     all_goals first
      | (exfalso;simp_all;done)
      | exact ⟨(k+1,some m),⟨by simp only;omega,h5.old hk (hin (by assumption))⟩,by simp only;omega,Le.of_eq rfl⟩
      | exact ⟨(k+1,some l[k]),⟨by simp only;omega,h5.less ltT.trans hk (hno (by assumption)) (by assumption)⟩,by simp only;omega,(Le.mk [] (by simp) (by simp) (by simp) (.cons (.refl _) (.cons (.refl _) (.cons (.refl _) (.cons (.p (Sub.tt rfl)) (.cons (.refl _) (.cons (.refl _) (.cons (.refl _) (.cons (.refl _) (.cons (.refl _) .nil))))))))) (.cons rfl (.refl _) .nil))⟩
      | (have hb:Op.bytesLess l[k] m=false:=by assumption
         exact ⟨(k+1,some m),⟨by simp only;omega,h5.more (fun _ _=>ltT.total) hk (fun h=>by unfold ltT at h;rw [hb] at h;cases h)⟩,by simp only;omega,Le.of_eq rfl⟩)
  ·obtain rfl:k=l.length:=by omega
   cases o with
   | none =>
     simp only [Option.getD_none,Option.isSome_none]
     conv=>whnf
     repeat' (first|((first|intro (_:_≤9223372036854775807)|refine DrawK.auto QQ mixed (by kernel_rfl) ?_|refine And.intro rfl ?_|(refine And.intro ⟨by decide,by decide⟩ ?_)|(refine And.intro ⟨rfl,rfl,by decide⟩ ?_)|refine BsK.pure (fun x hx=>by rcases List.mem_singleton.1 hx with rfl;rfl) rfl ?_|refine IdxK.map (by omega) (fun _=>rfl) ?_|refine IdxK.xs (by omega) ?_|refine IdxK.ss (by omega) ?_|(refine ByteK.at (by omega) ?_)|refine Wr.i64 (by omega) (by omega) ?_);conv=>whnf)|(refine Br.dec (fun _=>?_) (fun _=>?_)<;>first|(exfalso;omega)|conv=>whnf)|(refine Br.dec2 (fun _=>?_) (fun _=>?_)<;>first|(exfalso;omega)|conv=>whnf)|(refine Br.n (fun _=>?_) (fun _=>?_)<;>conv=>whnf)|(refine Br.b (fun _=>?_) (fun _=>?_)<;>conv=>whnf))
     all_goals first
      | (exfalso;simp_all;done)
      | exact ⟨(i+1,out),⟨by simp only;omega,h3.stay h5⟩,by simp only;omega,Le.of_eq rfl⟩
   | some m =>
     simp only [Option.getD_some,Option.isSome_some]
     conv=>whnf
     repeat' (first|((first|intro (_:_≤9223372036854775807)|refine DrawK.auto QQ mixed (by kernel_rfl) ?_|refine And.intro rfl ?_|(refine And.intro ⟨by decide,by decide⟩ ?_)|(refine And.intro ⟨rfl,rfl,by decide⟩ ?_)|refine BsK.pure (fun x hx=>by rcases List.mem_singleton.1 hx with rfl;rfl) rfl ?_|refine IdxK.map (by omega) (fun _=>rfl) ?_|refine IdxK.xs (by omega) ?_|refine IdxK.ss (by omega) ?_|(refine ByteK.at (by omega) ?_)|refine Wr.i64 (by omega) (by omega) ?_|refine AppK.str1 (by simp) (by simp;omega) ?_);conv=>whnf)|(refine Br.dec (fun _=>?_) (fun _=>?_)<;>first|(exfalso;omega)|conv=>whnf)|(refine Br.dec2 (fun _=>?_) (fun _=>?_)<;>first|(exfalso;omega)|conv=>whnf)|(refine Br.n (fun _=>?_) (fun _=>?_)<;>conv=>whnf)|(refine Br.b (fun _=>?_) (fun _=>?_)<;>conv=>whnf))
     all_goals first
      | (exfalso;simp_all;done)
      | exact ⟨(i+1,out++[m]),⟨by simp only;omega,h3.snoc h5⟩,by simp only;omega,Le.of_eq (by simp only [List.length_append,List.map_append];rfl)⟩
 ·obtain ⟨h6,h7⟩:=h3.all ltT.irr (by omega)
  rw [← x7q h6 h7]
  conv=>whnf
  repeat' (first|((first|intro (_:_≤9223372036854775807)|refine DrawK.auto QQ mixed (by kernel_rfl) ?_|refine And.intro rfl ?_|(refine And.intro ⟨by decide,by decide⟩ ?_)|(refine And.intro ⟨rfl,rfl,by decide⟩ ?_)|refine BsK.pure (fun x hx=>by rcases List.mem_singleton.1 hx with rfl;rfl) rfl ?_|refine IdxK.map (by omega) (fun _=>rfl) ?_|refine IdxK.xs (by omega) ?_|refine IdxK.ss (by omega) ?_|(refine ByteK.at (by omega) ?_)|refine Wr.i64 (by omega) (by omega) ?_);conv=>whnf)|(refine Br.dec (fun _=>?_) (fun _=>?_)<;>first|(exfalso;omega)|conv=>whnf)|(refine Br.dec2 (fun _=>?_) (fun _=>?_)<;>first|(exfalso;omega)|conv=>whnf)|(refine Br.n (fun _=>?_) (fun _=>?_)<;>conv=>whnf)|(refine Br.b (fun _=>?_) (fun _=>?_)<;>conv=>whnf))
  exact ⟨_,.hd rfl (by simp),rfl⟩
def q1t (f:Pr):List Str:=((ZV f).filter fun x=>decide (x.s.kind=4)).map fun x=>x.s.proc
theorem x8z (f:Pr):(q1t f).length≤201:=by
 unfold q1t
 rw [List.length_map]
 exact Nat.le_trans (List.length_filter_le _ _) (YW f)
theorem MQ (p:Pg) (n:Str):SpecP Tryz.prog 323 [.agg p.cells,.str n] (fun r=>r=QH (q3c (q1t (VF p n).1))):=by
 refine SpecP.body BV QQ Tryz.func323 rfl Tryz.call323 (by show 2≤_;decide) ?_
 conv=>whnf
 have hN:=ZM p n
 generalize (VF p n).2=ok at *
 generalize (VF p n).1=f at *
 have hF:=QN f
 have hcl:=x8z f
 have hrl:=YW f
 have hcu:q1t f=((ZV f).filter fun x=>decide (x.s.kind=4)).map fun x=>x.s.proc:=rfl
 have hS:=ZK (q1t f) (by omega)
 generalize q1t f=C at *
 generalize ZV f=L at *
 have hLl:=WP L
 repeat' (first|((first|intro (_:_≤9223372036854775807)|refine DrawK.auto QQ mixed (by kernel_rfl) ?_|refine And.intro rfl ?_|(refine And.intro ⟨by decide,by decide⟩ ?_)|(refine And.intro ⟨rfl,rfl,by decide⟩ ?_)|refine BsK.pure (fun x hx=>by rcases List.mem_singleton.1 hx with rfl;rfl) rfl ?_|refine IdxK.map (by omega) (fun _=>rfl) ?_|refine IdxK.xs (by omega) ?_|refine IdxK.ss (by omega) ?_|(refine ByteK.at (by omega) ?_)|refine Wr.i64 (by omega) (by omega) ?_|(refine CallK.pure hN (.cons (Sub.refl _) (.cons (Sub.refl _) .nil)) ?_;rintro _ rfl)|(refine CallK.pure hF (.cons (Sub.refl _) .nil) ?_;rintro _ rfl));conv=>whnf)|(refine Br.dec (fun _=>?_) (fun _=>?_)<;>first|(exfalso;omega)|conv=>whnf)|(refine Br.dec2 (fun _=>?_) (fun _=>?_)<;>first|(exfalso;omega)|conv=>whnf)|(refine Br.n (fun _=>?_) (fun _=>?_)<;>conv=>whnf)|(refine Br.b (fun _=>?_) (fun _=>?_)<;>conv=>whnf))
 refine LoopK.inv QQ (fun x:Nat×List Str=>⟨[(7,.hd 0 0 x.2.length),(17,.p (KT L)),(18,.p (.int .i64 (L.map fun i=>AV.agg i.cells).length)),(19,.p (.int .i64 x.1))],[(0,.own 9 1 (x.2.map .str))]⟩) (fun x=>x.1≤L.length∧x.2=((L.take x.1).filter fun x=>decide (x.s.kind=4)).map (fun x=>x.s.proc)∧x.2.length≤x.1) (fun x=>L.length-x.1) (0,[])
  (Le.mk [(0,.own 9 1 [])] (by simp [Chunk.new0];rfl) (by simp) (by simp) (.cons (.nil List.mem_cons_self) (.cons (.refl _) (.cons (.refl _) (.cons (.refl _) .nil)))) (.new List.mem_cons_self .nil)) ⟨Nat.zero_le _,by simp,by simp⟩ ?_
 rintro ⟨j,acc⟩ ⟨h2,h3,h4⟩
 simp only at h2 h3 h4 ⊢
 rcases Nat.lt_or_ge j L.length with hj|hj
 ·have h6:=List.take_succ_eq_append_getElem hj
  conv=>whnf
  repeat' (first|((first|intro (_:_≤9223372036854775807)|refine DrawK.auto QQ mixed (by kernel_rfl) ?_|refine And.intro rfl ?_|(refine And.intro ⟨by decide,by decide⟩ ?_)|(refine And.intro ⟨rfl,rfl,by decide⟩ ?_)|refine BsK.pure (fun x hx=>by rcases List.mem_singleton.1 hx with rfl;rfl) rfl ?_|refine IdxK.map (by omega) (fun _=>rfl) ?_|refine IdxK.xs (by omega) ?_|refine IdxK.ss (by omega) ?_|(refine ByteK.at (by omega) ?_)|refine Wr.i64 (by omega) (by omega) ?_|refine AppK.str1 (by simp) (by simp;omega) ?_);conv=>whnf)|(refine Br.dec (fun _=>?_) (fun _=>?_)<;>first|(exfalso;omega)|conv=>whnf)|(refine Br.dec2 (fun _=>?_) (fun _=>?_)<;>first|(exfalso;omega)|conv=>whnf)|(refine Br.n (fun _=>?_) (fun _=>?_)<;>conv=>whnf)|(refine Br.b (fun _=>?_) (fun _=>?_)<;>conv=>whnf))
  all_goals first
   | exact ⟨(j+1,acc++[L[j].s.proc]),⟨by simp only;omega,by simp only;rw [h6,List.filter_append,List.map_append,← h3];congr 1;rw [List.filter_cons_of_pos (by simp;assumption)];rfl,by simp;omega⟩,by simp only;omega,Le.of_eq (by simp only [List.length_append,List.map_append];rfl)⟩
   | exact ⟨(j+1,acc),⟨by simp only;omega,by simp only;rw [h6,List.filter_append,List.map_append,← h3,List.filter_cons_of_neg (by simp;assumption)];simp,by simp only;omega⟩,by simp only;omega,Le.of_eq rfl⟩
 ·rw [List.take_of_length_le hj,← hcu] at h3
  subst h3
  conv=>whnf
  repeat' (first|((first|intro (_:_≤9223372036854775807)|refine DrawK.auto QQ mixed (by kernel_rfl) ?_|refine And.intro rfl ?_|(refine And.intro ⟨by decide,by decide⟩ ?_)|(refine And.intro ⟨rfl,rfl,by decide⟩ ?_)|refine BsK.pure (fun x hx=>by rcases List.mem_singleton.1 hx with rfl;rfl) rfl ?_|refine IdxK.map (by omega) (fun _=>rfl) ?_|refine IdxK.xs (by omega) ?_|refine IdxK.ss (by omega) ?_|(refine ByteK.at (by omega) ?_)|refine Wr.i64 (by omega) (by omega) ?_|(refine CallK.give hS (.cons (.hd rfl (by simp)) .nil) ?_;rintro _ rfl));conv=>whnf)|(refine Br.dec (fun _=>?_) (fun _=>?_)<;>first|(exfalso;omega)|conv=>whnf)|(refine Br.dec2 (fun _=>?_) (fun _=>?_)<;>first|(exfalso;omega)|conv=>whnf)|(refine Br.n (fun _=>?_) (fun _=>?_)<;>conv=>whnf)|(refine Br.b (fun _=>?_) (fun _=>?_)<;>conv=>whnf))
  exact RetK.p rfl
theorem z0m {p:Pg} (hm:WM p=true) {f:Pr} (hf:f∈p.procs):q3c (q1t f)=VR f:=by
 unfold q1t VR JJ q3c
 rw [ZU hm hf,← show (flatU f).map RI.s=flL f.body from HG 1 0 false f.body,List.filter_map,List.map_map]
 rfl
theorem x6r {p:Pg} {k:Nat} (hk:k<p.procs.length) {n:Str} (h:p.procs.find? (fun f=>f.name==n)=some p.procs[k]):VF p n=(p.procs[k],true):=by
 unfold VF
 rw [h]
theorem z5r {p:Pg} (hm:WM p=true) {k:Nat} (hk:k<p.procs.length) {n:Str} (h:p.procs.find? (fun f=>f.name==n)=some p.procs[k]):SpecP Tryz.prog 323 [.agg p.cells,.str n] (fun r=>r=QH (VR p.procs[k])):=by
 have:=MQ p n
 rw [x6r hk h,z0m hm (List.getElem_mem hk)] at this
 exact this
theorem NZ (p:Pg) (n:Str) (hs:(QR p).1=0) (hn:n∈procsN p):SpecP Tryz.prog 313 [.agg p.cells,.str n] (fun r=>r=QH (x9h p n)):=by
 refine SpecP.body FY QQ Tryz.func313 rfl Tryz.call313 (by show 2≤_;decide) ?_
 conv=>whnf
 obtain ⟨hm,hb,hns⟩:=WD hs
 obtain ⟨hg,hpl,hcn⟩:=XS hm
 have hnl:(procsN p).length=p.procs.length:=by simp [procsN]
 repeat' (first|((first|intro (_:_≤9223372036854775807)|refine DrawK.auto QQ mixed (by kernel_rfl) ?_|refine And.intro rfl ?_|(refine And.intro ⟨by decide,by decide⟩ ?_)|(refine And.intro ⟨rfl,rfl,by decide⟩ ?_)|refine IdxK.map (by omega) (fun _=>rfl) ?_|refine IdxK.xs (by omega) ?_|refine IdxK.ss (by omega) ?_|(refine ByteK.at (by omega) ?_)|refine Wr.i64 (by omega) (by omega) ?_|refine BsK.own (fun x hx=>by rcases List.mem_singleton.1 hx with rfl;rfl) rfl ?_);conv=>whnf)|(refine Br.dec (fun _=>?_) (fun _=>?_)<;>first|(exfalso;omega)|conv=>whnf)|(refine Br.dec2 (fun _=>?_) (fun _=>?_)<;>first|(exfalso;omega)|conv=>whnf)|(refine Br.n (fun _=>?_) (fun _=>?_)<;>conv=>whnf)|(refine Br.b (fun _=>?_) (fun _=>?_)<;>conv=>whnf))
 refine LoopK.inv QQ (fun i:Nat×List Str=>⟨[(2,.p (.ip p.cells)),(5,.hd 0 0 i.2.length),(6,.p (.int .i64 i.1))],[(0,.own 9 1 (i.2.map .str))]⟩)
  (fun i=>i.1≤i.2.length∧i.2.Nodup∧(∀ s∈i.2,s∈procsN p)∧WG p (p.procs.length+1-i.1) i.1 i.2=WG p (p.procs.length+1) 0 [n]) (fun i=>p.procs.length+1-i.1) (0,[n])
  (Le.of_eq rfl) ⟨Nat.zero_le _,by simp,by simpa using hn,rfl⟩ ?_
 rintro ⟨j,out⟩ ⟨h2,h3,h4,h5⟩
 simp only at h2 h3 h4 h5 ⊢
 have hol:=x0k h3 h4
 rcases Nat.lt_or_ge j out.length with hj|hj
 ·obtain ⟨k,hk,hik,hfk,hnk⟩:=ML (h4 _ (List.getElem_mem hj))
  have hcl:=q6h p.procs[k]
  have hcc:QY p.procs[k].body≤200:=by
   have:=(QG p).2.2.2.2 k p.procs[k] (by simp)
   omega
  have hC:=z5r hm hk hfk
  have g:(out.map AV.str)[j]? = some (.str out[j]):=by simp [hj]
  conv=>whnf
  repeat' (first|((first|intro (_:_≤9223372036854775807)|refine DrawK.auto QQ mixed (by kernel_rfl) ?_|refine And.intro rfl ?_|(refine And.intro ⟨by decide,by decide⟩ ?_)|(refine And.intro ⟨rfl,rfl,by decide⟩ ?_)|refine BsK.pure (fun x hx=>by rcases List.mem_singleton.1 hx with rfl;rfl) rfl ?_|refine IdxK.map (by omega) (fun _=>rfl) ?_|refine IdxK.xs (by omega) ?_|refine IdxK.ss (by omega) ?_|(refine ByteK.at (by omega) ?_)|refine Wr.i64 (by omega) (by omega) ?_|refine IdxL.mk j rfl hj ?_|refine LdOwn.mk j 0 (.str out[j]) (by omega) g ?_|(refine CallK.pure hC (.cons (Sub.refl _) (.cons (Sub.refl _) .nil)) ?_;rintro _ rfl));conv=>whnf)|(refine Br.dec (fun _=>?_) (fun _=>?_)<;>first|(exfalso;omega)|conv=>whnf)|(refine Br.dec2 (fun _=>?_) (fun _=>?_)<;>first|(exfalso;omega)|conv=>whnf)|(refine Br.n (fun _=>?_) (fun _=>?_)<;>conv=>whnf)|(refine Br.b (fun _=>?_) (fun _=>?_)<;>conv=>whnf))
  have hkn : ∀ s∈VR p.procs[k],s∈procsN p:=fun s h=>HR hs (List.getElem_mem hk) h
  have hcN:=x3u hk hfk
  have hre:WG p (p.procs.length+1-j) j out=WG p (p.procs.length+1-(j+1)) (j+1) (WX out (VR p.procs[k])):=by
   rw [show p.procs.length+1-j=(p.procs.length+1-(j+1))+1 by omega,WG,List.getElem?_eq_getElem hj]
   simp only
   rw [hcN]
  rw [hre] at h5
  obtain ⟨hi1,hi2,rr,hi3⟩:=KX (VR p.procs[k]) h3 h4 hkn
  generalize VR p.procs[k]=cs at hkn h5 hi1 hi2 hi3 hcl ⊢
  have hcsl:(cs.map AV.str).length=cs.length:=List.length_map _
  refine LoopK.inv QQ (fun i:Nat×List Str=>⟨[(2,.p (.ip p.cells)),(5,.hd 0 0 i.2.length),(6,.p (.int .i64 j)),(22,.p (QH cs)),(23,.p (.int .i64 (cs.map AV.str).length)),(24,.p (.int .i64 i.1))],[(0,.own 9 1 (i.2.map .str))]⟩)
   (fun i=>i.1≤cs.length∧i.2.length≤out.length+i.1∧WX i.2 (cs.drop i.1)=WX out cs) (fun i=>cs.length-i.1) (0,out)
   (Le.of_eq rfl) ⟨Nat.zero_le _,by simp,rfl⟩ ?_
  rintro ⟨m,acc⟩ ⟨h6,h7,h8⟩
  simp only at h6 h7 h8 ⊢
  rcases Nat.lt_or_ge m cs.length with hm'|hm'
  ·have hst:=PE (out:=acc) hm'
   rw [← BN] at hst
   conv=>whnf
   repeat' (first|((first|intro (_:_≤9223372036854775807)|refine DrawK.auto QQ mixed (by kernel_rfl) ?_|refine And.intro rfl ?_|(refine And.intro ⟨by decide,by decide⟩ ?_)|(refine And.intro ⟨rfl,rfl,by decide⟩ ?_)|refine BsK.pure (fun x hx=>by rcases List.mem_singleton.1 hx with rfl;rfl) rfl ?_|refine IdxK.map (by omega) (fun _=>rfl) ?_|refine IdxK.xs (by omega) ?_|refine IdxK.ss (by omega) ?_|(refine ByteK.at (by omega) ?_)|refine Wr.i64 (by omega) (by omega) ?_|(refine CallK.borrow (QB acc (cs[m]'hm')) (.cons (.hd rfl (by simp)) (.cons (.p (Sub.refl _)) .nil)) (by rintro _ rfl;rfl) ?_;rintro _ rfl)|refine AppK.str1 (by simp) (by simp;omega) ?_);conv=>whnf)|(refine Br.dec (fun _=>?_) (fun _=>?_)<;>first|(exfalso;omega)|conv=>whnf)|(refine Br.dec2 (fun _=>?_) (fun _=>?_)<;>first|(exfalso;omega)|conv=>whnf)|(refine Br.n (fun _=>?_) (fun _=>?_)<;>conv=>whnf)|(refine Br.b (fun _=>?_) (fun _=>?_)<;>conv=>whnf))
   all_goals first
    | exact ⟨(m+1,acc),⟨by simp only;omega,by simp only;omega,by simp only;rw [← h8,hst,if_pos (by assumption)]⟩,by simp only;omega,Le.of_eq rfl⟩
    | exact ⟨(m+1,acc++[cs[m]]),⟨by simp only;omega,by simp;omega,by simp only;rw [← h8,hst,if_neg (by simp [*])]⟩,by simp only;omega,Le.of_eq (by simp only [List.length_append,List.map_append];rfl)⟩
  ·rw [List.drop_eq_nil_of_le hm',WX] at h8
   subst h8
   have hjl:j<(WX out cs).length:=by rw [hi3,List.length_append];omega
   conv=>whnf
   repeat' (first|((first|intro (_:_≤9223372036854775807)|refine DrawK.auto QQ mixed (by kernel_rfl) ?_|refine And.intro rfl ?_|(refine And.intro ⟨by decide,by decide⟩ ?_)|(refine And.intro ⟨rfl,rfl,by decide⟩ ?_)|refine BsK.pure (fun x hx=>by rcases List.mem_singleton.1 hx with rfl;rfl) rfl ?_|refine IdxK.map (by omega) (fun _=>rfl) ?_|refine IdxK.xs (by omega) ?_|refine IdxK.ss (by omega) ?_|(refine ByteK.at (by omega) ?_)|refine Wr.i64 (by omega) (by omega) ?_);conv=>whnf)|(refine Br.dec (fun _=>?_) (fun _=>?_)<;>first|(exfalso;omega)|conv=>whnf)|(refine Br.dec2 (fun _=>?_) (fun _=>?_)<;>first|(exfalso;omega)|conv=>whnf)|(refine Br.n (fun _=>?_) (fun _=>?_)<;>conv=>whnf)|(refine Br.b (fun _=>?_) (fun _=>?_)<;>conv=>whnf))
   all_goals exact ⟨(j+1,WX out cs),⟨by simp only;omega,hi1,hi2,h5⟩,by simp only;omega,Le.of_eq rfl⟩
 ·have hend:out=WG p (p.procs.length+1) 0 [n]:=by
   rw [← h5]
   cases hfu:p.procs.length+1-j with
   | zero=>rw [WG]
   | succ q=>rw [WG,List.getElem?_eq_none hj]
  have hall:q3c out=x9h p n:=by
   unfold x9h
   rw [← hend,q4g h3]
  have hS:=ZK out (by omega)
  rw [hall] at hS
  conv=>whnf
  repeat' (first|((first|intro (_:_≤9223372036854775807)|refine DrawK.auto QQ mixed (by kernel_rfl) ?_|refine And.intro rfl ?_|(refine And.intro ⟨by decide,by decide⟩ ?_)|(refine And.intro ⟨rfl,rfl,by decide⟩ ?_)|refine BsK.pure (fun x hx=>by rcases List.mem_singleton.1 hx with rfl;rfl) rfl ?_|refine IdxK.map (by omega) (fun _=>rfl) ?_|refine IdxK.xs (by omega) ?_|refine IdxK.ss (by omega) ?_|(refine ByteK.at (by omega) ?_)|refine Wr.i64 (by omega) (by omega) ?_|(refine CallK.give hS (.cons (.hd rfl (by simp)) .nil) ?_;rintro _ rfl));conv=>whnf)|(refine Br.dec (fun _=>?_) (fun _=>?_)<;>first|(exfalso;omega)|conv=>whnf)|(refine Br.dec2 (fun _=>?_) (fun _=>?_)<;>first|(exfalso;omega)|conv=>whnf)|(refine Br.n (fun _=>?_) (fun _=>?_)<;>conv=>whnf)|(refine Br.b (fun _=>?_) (fun _=>?_)<;>conv=>whnf))
  all_goals exact RetK.p rfl
open Go.Proofs
theorem z5q (p:Pg) (t:S):q5t p t=(ZP t).filter fun v=>inS p.globals v:=by
 unfold q5t
 congr 1
 funext v
 exact (BN _ _).symm
theorem DM (p:Pg) (hf:Fit p) (hs:(QR p).1=0) (n:Str) (hn:n∈procsN p):SpecP Tryz.prog 298 [.agg p.cells,.str n] (fun r=>r=QH (VS p n)):=by
 refine SpecP.body HK QQ Tryz.func298 rfl Tryz.call298 (by show 2≤_;decide) ?_
 conv=>whnf
 obtain ⟨hm,hb,hns⟩:=WD hs
 obtain ⟨hg,hpl,hcn⟩:=XS hm
 obtain ⟨hal,hak⟩:=x5m hs hn
 have hC:=NZ p n hs hn
 have hgl:VS p n=q3c (VE p n):=rfl
 have hgr:VE p n=(x9h p n).flatMap (q0m p):=rfl
 rw [hgl]
 generalize x9h p n=ns at hal hak hgr hC ⊢
 have hnl:(ns.map AV.str).length=ns.length:=List.length_map _
 repeat' (first|((first|intro (_:_≤9223372036854775807)|refine DrawK.auto QQ mixed (by kernel_rfl) ?_|refine And.intro rfl ?_|(refine And.intro ⟨by decide,by decide⟩ ?_)|(refine And.intro ⟨rfl,rfl,by decide⟩ ?_)|refine BsK.pure (fun x hx=>by rcases List.mem_singleton.1 hx with rfl;rfl) rfl ?_|refine IdxK.map (by omega) (fun _=>rfl) ?_|refine IdxK.xs (by omega) ?_|refine IdxK.ss (by omega) ?_|(refine ByteK.at (by omega) ?_)|refine Wr.i64 (by omega) (by omega) ?_|(refine CallK.pure hC (.cons (Sub.refl _) (.cons (Sub.refl _) .nil)) ?_;rintro _ rfl));conv=>whnf)|(refine Br.dec (fun _=>?_) (fun _=>?_)<;>first|(exfalso;omega)|conv=>whnf)|(refine Br.dec2 (fun _=>?_) (fun _=>?_)<;>first|(exfalso;omega)|conv=>whnf)|(refine Br.n (fun _=>?_) (fun _=>?_)<;>conv=>whnf)|(refine Br.b (fun _=>?_) (fun _=>?_)<;>conv=>whnf))
 refine LoopK.inv QQ (fun i:Nat×List Str=>⟨[(2,.p (.ip p.cells)),(5,.hd 0 0 i.2.length),(16,.p (QH ns)),(17,.p (.int .i64 (ns.map AV.str).length)),(18,.p (.int .i64 i.1))],[(0,.own 9 1 (i.2.map .str))]⟩)
  (fun i=>i.1≤ns.length∧i.2.length≤4020000*i.1∧i.2++(ns.drop i.1).flatMap (q0m p)=VE p n) (fun i=>ns.length-i.1) (0,[])
  (Le.mk [(0,.own 9 1 [])] (by simp [Chunk.new0];rfl) (by simp) (by simp) (.cons (.refl _) (.cons (.nil List.mem_cons_self) (.cons (.refl _) (.cons (.refl _) (.cons (.refl _) .nil))))) (.new List.mem_cons_self .nil))
  ⟨Nat.zero_le _,by simp,by rw [hgr];rfl⟩ ?_
 rintro ⟨j,acc⟩ ⟨h2,h3,h4⟩
 simp only at h2 h3 h4 ⊢
 rcases Nat.lt_or_ge j ns.length with hj|hj
 rotate_left 1
 ·have hacc:acc=VE p n:=by
   rw [List.drop_eq_nil_of_le hj] at h4
   simpa using h4
  have hS:=ZK acc (by omega)
  rw [← hacc]
  conv=>whnf
  repeat' (first|((first|intro (_:_≤9223372036854775807)|refine DrawK.auto QQ mixed (by kernel_rfl) ?_|refine And.intro rfl ?_|(refine And.intro ⟨by decide,by decide⟩ ?_)|(refine And.intro ⟨rfl,rfl,by decide⟩ ?_)|refine BsK.pure (fun x hx=>by rcases List.mem_singleton.1 hx with rfl;rfl) rfl ?_|refine IdxK.map (by omega) (fun _=>rfl) ?_|refine IdxK.xs (by omega) ?_|refine IdxK.ss (by omega) ?_|(refine ByteK.at (by omega) ?_)|refine Wr.i64 (by omega) (by omega) ?_|(refine CallK.give hS (.cons (.hd rfl (by simp)) .nil) ?_;rintro _ rfl));conv=>whnf)|(refine Br.dec (fun _=>?_) (fun _=>?_)<;>first|(exfalso;omega)|conv=>whnf)|(refine Br.dec2 (fun _=>?_) (fun _=>?_)<;>first|(exfalso;omega)|conv=>whnf)|(refine Br.n (fun _=>?_) (fun _=>?_)<;>conv=>whnf)|(refine Br.b (fun _=>?_) (fun _=>?_)<;>conv=>whnf))
  all_goals exact RetK.p rfl
 obtain ⟨k,hk,hik,hfk,hnk⟩:=ML (hak _ (List.getElem_mem hj))
 have hgn:q0m p ns[j]=(flL p.procs[k].body).flatMap (q5t p):=by unfold q0m;rw [hfk]
 rw [FU hj,hgn] at h4
 have hfp:=hf.pr (List.getElem_mem hk)
 have hN:=ZM p ns[j]
 rw [x6r hk hfk] at hN
 have hF:=QN p.procs[k]
 have hmap:(ZV p.procs[k]).map RI.s=flL p.procs[k].body:=by rw [ZU hm (List.getElem_mem hk)];exact HG 1 0 false _
 have hrl:=YW p.procs[k]
 have hargs : ∀ x∈ZV p.procs[k],wS x.s≤20000:=fun x hx=>by
  have hmm:x.s∈flL p.procs[k].body:=by
   rw [← hmap]
   exact List.mem_map.2 ⟨_,hx,rfl⟩
  have:=q5d _ _ hmm
  unfold wPr at hfp
  omega
 rw [← hmap] at h4
 generalize ZV p.procs[k]=its at hargs hrl h4 hF
 have hil:=WP its
 conv=>whnf
 repeat' (first|((first|intro (_:_≤9223372036854775807)|refine DrawK.auto QQ mixed (by kernel_rfl) ?_|refine And.intro rfl ?_|(refine And.intro ⟨by decide,by decide⟩ ?_)|(refine And.intro ⟨rfl,rfl,by decide⟩ ?_)|refine BsK.pure (fun x hx=>by rcases List.mem_singleton.1 hx with rfl;rfl) rfl ?_|refine IdxK.map (by omega) (fun _=>rfl) ?_|refine IdxK.xs (by omega) ?_|refine IdxK.ss (by omega) ?_|(refine ByteK.at (by omega) ?_)|refine Wr.i64 (by omega) (by omega) ?_|(refine CallK.pure hN (.cons (Sub.refl _) (.cons (Sub.refl _) .nil)) ?_;rintro _ rfl)|(refine CallK.pure hF (.cons (Sub.refl _) .nil) ?_;rintro _ rfl));conv=>whnf)|(refine Br.dec (fun _=>?_) (fun _=>?_)<;>first|(exfalso;omega)|conv=>whnf)|(refine Br.dec2 (fun _=>?_) (fun _=>?_)<;>first|(exfalso;omega)|conv=>whnf)|(refine Br.n (fun _=>?_) (fun _=>?_)<;>conv=>whnf)|(refine Br.b (fun _=>?_) (fun _=>?_)<;>conv=>whnf))
 refine LoopK.inv QQ (fun i:Nat×List Str=>⟨[(2,.p (.ip p.cells)),(5,.hd 0 0 i.2.length),(16,.p (QH ns)),(17,.p (.int .i64 (ns.map AV.str).length)),(18,.p (.int .i64 j)),(29,.p (KT its)),(30,.p (.int .i64 (its.map fun i=>AV.agg i.cells).length)),(31,.p (.int .i64 i.1))],[(0,.own 9 1 (i.2.map .str))]⟩)
  (fun i=>i.1≤its.length∧i.2.length≤acc.length+20000*i.1∧i.2++(((its.drop i.1).map RI.s).flatMap (q5t p)++(ns.drop (j+1)).flatMap (q0m p))=VE p n) (fun i=>its.length-i.1) (0,acc)
  (Le.of_eq rfl) ⟨Nat.zero_le _,by simp,h4⟩ ?_
 rintro ⟨m,acc2⟩ ⟨h6,h7,h8⟩
 simp only at h6 h7 h8 ⊢
 rcases Nat.lt_or_ge m its.length with hm'|hm'
 rotate_left 1
 ·rw [List.drop_eq_nil_of_le hm'] at h8
  conv=>whnf
  repeat' (first|((first|intro (_:_≤9223372036854775807)|refine DrawK.auto QQ mixed (by kernel_rfl) ?_|refine And.intro rfl ?_|(refine And.intro ⟨by decide,by decide⟩ ?_)|(refine And.intro ⟨rfl,rfl,by decide⟩ ?_)|refine BsK.pure (fun x hx=>by rcases List.mem_singleton.1 hx with rfl;rfl) rfl ?_|refine IdxK.map (by omega) (fun _=>rfl) ?_|refine IdxK.xs (by omega) ?_|refine IdxK.ss (by omega) ?_|(refine ByteK.at (by omega) ?_)|refine Wr.i64 (by omega) (by omega) ?_);conv=>whnf)|(refine Br.dec (fun _=>?_) (fun _=>?_)<;>first|(exfalso;omega)|conv=>whnf)|(refine Br.dec2 (fun _=>?_) (fun _=>?_)<;>first|(exfalso;omega)|conv=>whnf)|(refine Br.n (fun _=>?_) (fun _=>?_)<;>conv=>whnf)|(refine Br.b (fun _=>?_) (fun _=>?_)<;>conv=>whnf))
  exact ⟨(j+1,acc2),⟨by simp only;omega,by simp only;omega,by simpa using h8⟩,by simp only;omega,Le.of_eq rfl⟩
 have hw:=hargs _ (List.getElem_mem hm')
 have hna:its[m].s.args.length≤20000:=by
  have:=q8k its[m].s
  have:=UO its[m].s.args
  omega
 have hnw:=x6u its[m].s
 rw [List.drop_eq_getElem_cons hm',List.map_cons,List.flatMap_cons,List.append_assoc] at h8
 have hgt:=z5q p its[m].s
 have hSd:=KP its[m].s hna
 rw [hgt] at h8
 generalize ZP its[m].s=vs at hnw h8 hSd
 have hvl:(vs.map AV.str).length=vs.length:=List.length_map _
 conv=>whnf
 repeat' (first|((first|intro (_:_≤9223372036854775807)|refine DrawK.auto QQ mixed (by kernel_rfl) ?_|refine And.intro rfl ?_|(refine And.intro ⟨by decide,by decide⟩ ?_)|(refine And.intro ⟨rfl,rfl,by decide⟩ ?_)|refine BsK.pure (fun x hx=>by rcases List.mem_singleton.1 hx with rfl;rfl) rfl ?_|refine IdxK.map (by omega) (fun _=>rfl) ?_|refine IdxK.xs (by omega) ?_|refine IdxK.ss (by omega) ?_|(refine ByteK.at (by omega) ?_)|refine Wr.i64 (by omega) (by omega) ?_|(refine CallK.pure hSd (.cons (Sub.refl _) .nil) ?_;rintro _ rfl));conv=>whnf)|(refine Br.dec (fun _=>?_) (fun _=>?_)<;>first|(exfalso;omega)|conv=>whnf)|(refine Br.dec2 (fun _=>?_) (fun _=>?_)<;>first|(exfalso;omega)|conv=>whnf)|(refine Br.n (fun _=>?_) (fun _=>?_)<;>conv=>whnf)|(refine Br.b (fun _=>?_) (fun _=>?_)<;>conv=>whnf))
 refine LoopK.inv QQ (fun i:Nat×List Str=>⟨[(2,.p (.ip p.cells)),(5,.hd 0 0 i.2.length),(16,.p (QH ns)),(17,.p (.int .i64 (ns.map AV.str).length)),(18,.p (.int .i64 j)),(29,.p (KT its)),(30,.p (.int .i64 (its.map fun i=>AV.agg i.cells).length)),(31,.p (.int .i64 m)),(37,.p (QH vs)),(38,.p (.int .i64 (vs.map AV.str).length)),(39,.p (.int .i64 i.1))],[(0,.own 9 1 (i.2.map .str))]⟩)
  (fun i=>i.1≤vs.length∧i.2.length≤acc2.length+i.1∧i.2++((vs.drop i.1).filter (fun v=>inS p.globals v)++(((its.drop (m+1)).map RI.s).flatMap (q5t p)++(ns.drop (j+1)).flatMap (q0m p)))=VE p n) (fun i=>vs.length-i.1) (0,acc2)
  (Le.of_eq rfl) ⟨Nat.zero_le _,by simp,h8⟩ ?_
 rintro ⟨q,acc3⟩ ⟨h9,h10,h11⟩
 simp only at h9 h10 h11 ⊢
 rcases Nat.lt_or_ge q vs.length with hq|hq
 ·rw [List.drop_eq_getElem_cons hq,List.filter_cons] at h11
  conv=>whnf
  repeat' (first|((first|intro (_:_≤9223372036854775807)|(refine CallK.pure (QB _ _) (by repeat' (first|exact ArgP.nil|refine ArgP.cons ?_ ?_|exact Sub.refl _|exact Sub.tt rfl|exact Sub.ff rfl)) ?_;rintro _ rfl)|refine DrawK.auto QQ mixed (by kernel_rfl) ?_|refine And.intro rfl ?_|(refine And.intro ⟨by decide,by decide⟩ ?_)|(refine And.intro ⟨rfl,rfl,by decide⟩ ?_)|refine BsK.pure (fun x hx=>by rcases List.mem_singleton.1 hx with rfl;rfl) rfl ?_|refine IdxK.map (by omega) (fun _=>rfl) ?_|refine IdxK.xs (by omega) ?_|refine IdxK.ss (by omega) ?_|(refine ByteK.at (by omega) ?_)|refine Wr.i64 (by omega) (by omega) ?_|refine AppK.str1 (by simp) (by simp;omega) ?_);conv=>whnf)|(refine Br.dec (fun _=>?_) (fun _=>?_)<;>first|(exfalso;omega)|conv=>whnf)|(refine Br.dec2 (fun _=>?_) (fun _=>?_)<;>first|(exfalso;omega)|conv=>whnf)|(refine Br.n (fun _=>?_) (fun _=>?_)<;>conv=>whnf)|(refine Br.b (fun _=>?_) (fun _=>?_)<;>conv=>whnf))
  ·exact ⟨(q+1,acc3++[vs[q]]),⟨by simp only;omega,by simp;omega,by rw [if_pos (by assumption)] at h11;simpa using h11⟩,by simp only;omega,Le.of_eq (by simp only [List.length_append,List.map_append];rfl)⟩
  ·exact ⟨(q+1,acc3),⟨by simp only;omega,by simp only;omega,by rw [if_neg (by simp [*])] at h11;exact h11⟩,by simp only;omega,Le.of_eq rfl⟩
 ·rw [List.drop_eq_nil_of_le hq] at h11
  conv=>whnf
  repeat' (first|((first|intro (_:_≤9223372036854775807)|refine DrawK.auto QQ mixed (by kernel_rfl) ?_|refine And.intro rfl ?_|(refine And.intro ⟨by decide,by decide⟩ ?_)|(refine And.intro ⟨rfl,rfl,by decide⟩ ?_)|refine BsK.pure (fun x hx=>by rcases List.mem_singleton.1 hx with rfl;rfl) rfl ?_|refine IdxK.map (by omega) (fun _=>rfl) ?_|refine IdxK.xs (by omega) ?_|refine IdxK.ss (by omega) ?_|(refine ByteK.at (by omega) ?_)|refine Wr.i64 (by omega) (by omega) ?_);conv=>whnf)|(refine Br.dec (fun _=>?_) (fun _=>?_)<;>first|(exfalso;omega)|conv=>whnf)|(refine Br.dec2 (fun _=>?_) (fun _=>?_)<;>first|(exfalso;omega)|conv=>whnf)|(refine Br.n (fun _=>?_) (fun _=>?_)<;>conv=>whnf)|(refine Br.b (fun _=>?_) (fun _=>?_)<;>conv=>whnf))
  exact ⟨(m+1,acc3),⟨by simp only;omega,by simp only;omega,by simpa using h11⟩,by simp only;omega,Le.of_eq rfl⟩
def apR (touched:List Str):List Arg→List Str→Bool
 | [],_=>true
 | a::r,seen=>bif a.ref then (bif inS seen a.name||inS touched a.name then false else apR touched r (seen++[a.name])) else apR touched r seen
theorem z6h (touched:List Str) (nm:Str) : ∀ (l:List Arg) (pre seen:List Str),(pre=[]∧nm=[]∨pre=[nm])→(∀ a∈l,a.ref=true→a.name≠[])→apR touched l (pre++seen)=XU nm touched l seen
 | [],_,_,_,_=>rfl
 | a::r,pre,seen,hp,ha=>by
   have ih:=fun s=>z6h touched nm r pre s hp fun b hb=>ha b (List.mem_cons_of_mem _ hb)
   rw [apR,XU]
   cases hr:a.ref with
   | false=>exact ih seen
   | true =>
     have hne:=ha a List.mem_cons_self hr
     have h1:inS (pre++seen) a.name=((a.name==nm)||(seen.any fun s=>a.name==s)):=by
      rw [BN,List.any_append]
      rcases hp with ⟨rfl,rfl⟩|rfl
      ·have:(a.name==([]:Str))=false:=beq_eq_false_iff_ne.2 hne
       rw [this]
       rfl
      ·simp
     have h2:(inS (pre++seen) a.name||inS touched a.name)=((seen.any fun s=>a.name==s)||((a.name==nm)||touched.any fun s=>a.name==s)):=by
      rw [h1,BN]
      cases (a.name==nm)<;>cases (seen.any fun s=>a.name==s)<;>rfl
     rw [cond_true,cond_true,h2,List.append_assoc,ih (seen++[a.name])]
def z3q (p:Pg) (t:S):Bool:=UY p t&&XU t.name (VS p t.proc) t.args []
theorem MS (p:Pg) (hf:Fit p) (hs:(QR p).1=0) (t:S) (hpr:t.proc∈procsN p) (ha:t.args.length≤20000) (hne : ∀ a∈t.args,a.ref=true→a.name≠[]):SpecP Tryz.prog 273 [.agg p.cells,.agg t.cells] (fun r=>r = .bool (z3q p t)):=by
 refine SpecP.body DC QQ Tryz.func273 rfl Tryz.call273 (by show 2≤_;decide) ?_
 conv=>whnf
 have hC:=UV p t
 have hal:(t.args.map fun a=>AV.agg a.cells).length=t.args.length:=List.length_map _
 have hT:=DM p hf hs t.proc hpr
 have hE:=fun pre h=>z6h (VS p t.proc) t.name t.args pre [] h hne
 unfold z3q
 generalize VS p t.proc=G at *
 cases hfi:UY p t with
 | false =>
   rw [hfi] at hC
   repeat' (first|((first|intro (_:_≤9223372036854775807)|refine DrawK.auto QQ mixed (by kernel_rfl) ?_|refine And.intro rfl ?_|(refine And.intro ⟨by decide,by decide⟩ ?_)|(refine And.intro ⟨rfl,rfl,by decide⟩ ?_)|refine BsK.pure (fun x hx=>by rcases List.mem_singleton.1 hx with rfl;rfl) rfl ?_|refine IdxK.map (by omega) (fun _=>rfl) ?_|refine IdxK.xs (by omega) ?_|refine IdxK.ss (by omega) ?_|(refine ByteK.at (by omega) ?_)|refine Wr.i64 (by omega) (by omega) ?_|(refine CallK.pure hC (.cons (Sub.refl _) (.cons (Sub.refl _) .nil)) ?_;rintro _ rfl));conv=>whnf)|(refine Br.dec (fun _=>?_) (fun _=>?_)<;>first|(exfalso;omega)|conv=>whnf)|(refine Br.dec2 (fun _=>?_) (fun _=>?_)<;>first|(exfalso;omega)|conv=>whnf)|(refine Br.n (fun _=>?_) (fun _=>?_)<;>conv=>whnf)|(refine Br.b (fun _=>?_) (fun _=>?_)<;>conv=>whnf))
   all_goals first
    | (exfalso;simp_all;done)
    | exact RetK.ff rfl
 | true =>
   rw [hfi] at hC
   rw [Bool.true_and]
   repeat' (first|((first|intro (_:_≤9223372036854775807)|refine DrawK.auto QQ mixed (by kernel_rfl) ?_|refine And.intro rfl ?_|(refine And.intro ⟨by decide,by decide⟩ ?_)|(refine And.intro ⟨rfl,rfl,by decide⟩ ?_)|refine BsK.pure (fun x hx=>by rcases List.mem_singleton.1 hx with rfl;rfl) rfl ?_|refine IdxK.map (by omega) (fun _=>rfl) ?_|refine IdxK.xs (by omega) ?_|refine IdxK.ss (by omega) ?_|(refine ByteK.at (by omega) ?_)|refine Wr.i64 (by omega) (by omega) ?_|(refine CallK.pure hC (.cons (Sub.refl _) (.cons (Sub.refl _) .nil)) ?_;rintro _ rfl)|refine AppK.str1 (by simp) (by simp) ?_);conv=>whnf)|(refine Br.dec (fun _=>?_) (fun _=>?_)<;>first|(exfalso;omega)|conv=>whnf)|(refine Br.dec2 (fun _=>?_) (fun _=>?_)<;>first|(exfalso;omega)|conv=>whnf)|(refine Br.n (fun _=>?_) (fun _=>?_)<;>conv=>whnf)|(refine Br.b (fun _=>?_) (fun _=>?_)<;>conv=>whnf))
   all_goals simp only [show (ByteArray.mk #[]).data.toList=[] from rfl] at *
   all_goals first
    | (exfalso;simp_all;done)
    | skip
   all_goals
    first
    | (have hq:(t.name==[])=false:=by assumption
       have hE:=hE [t.name] (.inr rfl)
       rw [List.append_nil] at hE
       rw [← hE]
       generalize hpre:([t.name]:List Str)=pre at hE)
    | (have hq:(t.name==[])=true:=by assumption
       have hE:=hE [] (.inl ⟨rfl,by simpa using hq⟩)
       rw [List.append_nil] at hE
       rw [← hE]
       generalize hpre:([]:List Str)=pre at hE)
    have hpl:pre.length≤1:=by rw [← hpre];simp
    refine LoopK.inv QQ (fun x:Nat×List Str=>⟨[(2,.p (.ip p.cells)),(3,.p (.ip t.cells)),(5,.hd 0 0 x.2.length),(21,.p (.sl (t.args.map fun a => .agg a.cells))),(22,.p (.int .i64 (t.args.map fun a=>AV.agg a.cells).length)),(23,.p (.int .i64 x.1))],[(0,.own 9 1 (x.2.map .str))]⟩) (fun x=>x.1≤t.args.length∧x.2.length≤x.1+1∧apR G (t.args.drop x.1) x.2=apR G t.args pre) (fun x=>t.args.length-x.1) (0,pre)
     (by subst hpre;first|exact Le.of_eq rfl|exact (Le.mk [(0,.own 9 1 [])] (by simp [Chunk.new0];rfl) (by simp) (by simp) (.cons (.refl _) (.cons (.refl _) (.cons (.nil List.mem_cons_self) (.cons (.refl _) (.cons (.refl _) (.cons (.refl _) .nil)))))) (.new List.mem_cons_self .nil))) ⟨Nat.zero_le _,by simp only;omega,rfl⟩ ?_
    rintro ⟨j,acc⟩ ⟨h2,h3,h4⟩
    simp only at h2 h3 h4 ⊢
    rcases Nat.lt_or_ge j t.args.length with hj|hj
    ·rw [List.drop_eq_getElem_cons hj,apR] at h4
     rw [← h4]
     conv=>whnf
     repeat' (first|((first|intro (_:_≤9223372036854775807)|refine DrawK.auto QQ mixed (by kernel_rfl) ?_|refine And.intro rfl ?_|(refine And.intro ⟨by decide,by decide⟩ ?_)|(refine And.intro ⟨rfl,rfl,by decide⟩ ?_)|refine BsK.pure (fun x hx=>by rcases List.mem_singleton.1 hx with rfl;rfl) rfl ?_|refine IdxK.map (by omega) (fun _=>rfl) ?_|refine IdxK.xs (by omega) ?_|refine IdxK.ss (by omega) ?_|(refine ByteK.at (by omega) ?_)|refine Wr.i64 (by omega) (by omega) ?_|(refine CallK.borrow (QB acc (t.args[j]'hj).name) (.cons (.hd rfl (by simp)) (.cons (.p (Sub.refl _)) .nil)) (by rintro _ rfl;rfl) ?_;rintro _ rfl)|(refine CallK.pure hT (.cons (Sub.refl _) (.cons (Sub.refl _) .nil)) ?_;rintro _ rfl)|(refine CallK.pure (QB G (t.args[j]'hj).name) (.cons (Sub.refl _) (.cons (Sub.refl _) .nil)) ?_;rintro _ rfl)|refine AppK.str1 (by simp) (by simp;omega) ?_);conv=>whnf)|(refine Br.dec (fun _=>?_) (fun _=>?_)<;>first|(exfalso;omega)|conv=>whnf)|(refine Br.dec2 (fun _=>?_) (fun _=>?_)<;>first|(exfalso;omega)|conv=>whnf)|(refine Br.n (fun _=>?_) (fun _=>?_)<;>conv=>whnf)|(refine Br.b (fun _=>?_) (fun _=>?_)<;>conv=>whnf))
     all_goals first
      | (exfalso;simp_all;done)
      | exact RetK.ff (by simp [*])
      | exact ⟨(j+1,acc++[t.args[j].name]),⟨by simp only;omega,by simp;omega,by simp only;simp [*]⟩,by simp only;omega,Le.of_eq (by simp only [List.length_append,List.map_append];rfl)⟩
      | exact ⟨(j+1,acc),⟨by simp only;omega,by simp only;omega,by simp only;simp [*]⟩,by simp only;omega,Le.of_eq rfl⟩
    ·rw [List.drop_eq_nil_of_le hj,apR] at h4
     rw [← h4]
     conv=>whnf
     repeat' (first|((first|intro (_:_≤9223372036854775807)|refine DrawK.auto QQ mixed (by kernel_rfl) ?_|refine And.intro rfl ?_|(refine And.intro ⟨by decide,by decide⟩ ?_)|(refine And.intro ⟨rfl,rfl,by decide⟩ ?_)|refine BsK.pure (fun x hx=>by rcases List.mem_singleton.1 hx with rfl;rfl) rfl ?_|refine IdxK.map (by omega) (fun _=>rfl) ?_|refine IdxK.xs (by omega) ?_|refine IdxK.ss (by omega) ?_|(refine ByteK.at (by omega) ?_)|refine Wr.i64 (by omega) (by omega) ?_);conv=>whnf)|(refine Br.dec (fun _=>?_) (fun _=>?_)<;>first|(exfalso;omega)|conv=>whnf)|(refine Br.dec2 (fun _=>?_) (fun _=>?_)<;>first|(exfalso;omega)|conv=>whnf)|(refine Br.n (fun _=>?_) (fun _=>?_)<;>conv=>whnf)|(refine Br.b (fun _=>?_) (fun _=>?_)<;>conv=>whnf))
     exact RetK.tt rfl
theorem QL (c a:Int):SpecP Tryz.prog 266 [.int .i64 c,.int .i64 a] (fun r=>r=HP c a):=by
 refine SpecP.body BZ QQ Tryz.func266 rfl Tryz.call266 (by show 2≤_;decide) ?_
 conv=>whnf
 repeat' (first|((first|intro (_:_≤9223372036854775807)|refine DrawK.auto QQ mixed (by kernel_rfl) ?_|refine And.intro rfl ?_|(refine And.intro ⟨by decide,by decide⟩ ?_)|(refine And.intro ⟨rfl,rfl,by decide⟩ ?_)|refine BsK.pure (fun x hx=>by rcases List.mem_singleton.1 hx with rfl;rfl) rfl ?_|refine IdxK.map (by omega) (fun _=>rfl) ?_|refine IdxK.xs (by omega) ?_|refine IdxK.ss (by omega) ?_|(refine ByteK.at (by omega) ?_)|refine Wr.i64 (by omega) (by omega) ?_);conv=>whnf)|(refine Br.dec (fun _=>?_) (fun _=>?_)<;>first|(exfalso;omega)|conv=>whnf)|(refine Br.dec2 (fun _=>?_) (fun _=>?_)<;>first|(exfalso;omega)|conv=>whnf)|(refine Br.n (fun _=>?_) (fun _=>?_)<;>conv=>whnf)|(refine Br.b (fun _=>?_) (fun _=>?_)<;>conv=>whnf))
 exact RetK.fault rfl rfl
theorem RetK.flt {H:Heap} {a b:Int} {P:Prop} (h:a=0↔P):RetK H (.p (.agg [.int .i64 a,.int .i64 b])) (fun r => ∃ c d,r=HP c d∧(c=0↔P)):=⟨_,.p (Sub.refl _),a,b,rfl,h⟩
def fltR (P:Prop) (r:AV):Prop := ∃ c d,r=HP c d∧(c=0↔P)
theorem NT (p:Pg) (hm:WM p=true):SpecP Tryz.prog 203 [.agg p.cells] (fun r=>fltR (∀ t∈YT p,t.kind=4→UY p t=true) r):=by
 refine SpecP.body DO QQ Tryz.func203 rfl Tryz.call203 (by show 1≤_;decide) ?_
 conv=>whnf
 have hA:=UG p
 have hms:=x0m hm
 rw [← hms]
 generalize allR p=L at *
 have hLl:=WP L
 repeat' (first|((first|intro (_:_≤9223372036854775807)|refine DrawK.auto QQ mixed (by kernel_rfl) ?_|refine And.intro rfl ?_|(refine And.intro ⟨by decide,by decide⟩ ?_)|(refine And.intro ⟨rfl,rfl,by decide⟩ ?_)|refine BsK.pure (fun x hx=>by rcases List.mem_singleton.1 hx with rfl;rfl) rfl ?_|refine IdxK.map (by omega) (fun _=>rfl) ?_|refine IdxK.xs (by omega) ?_|refine IdxK.ss (by omega) ?_|(refine ByteK.at (by omega) ?_)|refine Wr.i64 (by omega) (by omega) ?_|(refine CallK.pure hA (.cons (Sub.refl _) .nil) ?_;rintro _ rfl));conv=>whnf)|(refine Br.dec (fun _=>?_) (fun _=>?_)<;>first|(exfalso;omega)|conv=>whnf)|(refine Br.dec2 (fun _=>?_) (fun _=>?_)<;>first|(exfalso;omega)|conv=>whnf)|(refine Br.n (fun _=>?_) (fun _=>?_)<;>conv=>whnf)|(refine Br.b (fun _=>?_) (fun _=>?_)<;>conv=>whnf))
 refine LoopK.inv QQ (fun j:Nat=>⟨[(1,.p (.ip p.cells)),(2,.ptr 1 0),(6,.p (KT L)),(7,.p (.int .i64 (L.map fun i=>AV.agg i.cells).length)),(8,.p (.int .i64 j))],[(1,.obj 90 [.p (.int .i64 0),.p (.int .i64 0)])]⟩) (fun j=>j≤L.length ∧ ∀ x∈L.take j,x.s.kind=4→UY p x.s=true) (fun j=>L.length-j) 0 (Le.of_eq rfl) ⟨Nat.zero_le _,fun x hx=>by rw [List.take_zero] at hx;cases hx⟩ ?_
 rintro j ⟨h2,h3⟩
 rcases Nat.lt_or_ge j L.length with hj|hj
 ·have hC:=UV p L[j].s
  have hmem:L[j].s∈L.map RI.s:=List.mem_map.2 ⟨_,List.getElem_mem hj,rfl⟩
  have hst:(L[j].s.kind=4→UY p L[j].s=true) → ∀ x∈L.take (j+1),x.s.kind=4→UY p x.s=true:=fun h x hx=>by
   rcases (QI hj).1 hx with h4|rfl
   ·exact h3 x h4
   ·exact h
  conv=>whnf
  repeat' (first|((first|intro (_:_≤9223372036854775807)|refine DrawK.auto QQ mixed (by kernel_rfl) ?_|refine And.intro rfl ?_|(refine And.intro ⟨by decide,by decide⟩ ?_)|(refine And.intro ⟨rfl,rfl,by decide⟩ ?_)|refine BsK.pure (fun x hx=>by rcases List.mem_singleton.1 hx with rfl;rfl) rfl ?_|refine IdxK.map (by omega) (fun _=>rfl) ?_|refine IdxK.xs (by omega) ?_|refine IdxK.ss (by omega) ?_|(refine ByteK.at (by omega) ?_)|refine Wr.i64 (by omega) (by omega) ?_|(refine CallK.pure hC (.cons (Sub.refl _) (.cons (Sub.refl _) .nil)) ?_;rintro _ rfl)|(refine CallK.pure (QL 6 _) (.cons (Sub.refl _) (.cons (Sub.refl _) .nil)) ?_;rintro _ rfl));conv=>whnf)|(refine Br.dec (fun _=>?_) (fun _=>?_)<;>first|(exfalso;omega)|conv=>whnf)|(refine Br.dec2 (fun _=>?_) (fun _=>?_)<;>first|(exfalso;omega)|conv=>whnf)|(refine Br.n (fun _=>?_) (fun _=>?_)<;>conv=>whnf)|(refine Br.b (fun _=>?_) (fun _=>?_)<;>conv=>whnf))
  all_goals first
   | exact ⟨j+1,⟨hj,hst fun h=>by first|assumption|omega⟩,by omega,Le.of_eq rfl⟩
   | (refine RetK.flt ⟨fun h=>by omega,fun h => ?_⟩
      have:=h _ hmem (by omega)
      simp_all
      done)
 ·conv=>whnf
  repeat' (first|((first|intro (_:_≤9223372036854775807)|refine DrawK.auto QQ mixed (by kernel_rfl) ?_|refine And.intro rfl ?_|(refine And.intro ⟨by decide,by decide⟩ ?_)|(refine And.intro ⟨rfl,rfl,by decide⟩ ?_)|refine BsK.pure (fun x hx=>by rcases List.mem_singleton.1 hx with rfl;rfl) rfl ?_|refine IdxK.map (by omega) (fun _=>rfl) ?_|refine IdxK.xs (by omega) ?_|refine IdxK.ss (by omega) ?_|(refine ByteK.at (by omega) ?_)|refine Wr.i64 (by omega) (by omega) ?_);conv=>whnf)|(refine Br.dec (fun _=>?_) (fun _=>?_)<;>first|(exfalso;omega)|conv=>whnf)|(refine Br.dec2 (fun _=>?_) (fun _=>?_)<;>first|(exfalso;omega)|conv=>whnf)|(refine Br.n (fun _=>?_) (fun _=>?_)<;>conv=>whnf)|(refine Br.b (fun _=>?_) (fun _=>?_)<;>conv=>whnf))
  refine RetK.flt ⟨fun _ t ht => ?_,fun _=>rfl⟩
  obtain ⟨x,hx,rfl⟩:=List.mem_map.1 ht
  exact h3 x (by rw [List.take_of_length_le hj];exact hx)
theorem FO (p:Pg) (hf:Fit p) (hs:(QR p).1=0) (har : ∀ t∈YT p,t.kind=4→UY p t=true):SpecP Tryz.prog 205 [.agg p.cells] (fun r=>fltR (∀ t∈YT p,t.kind=4→XU t.name (VS p t.proc) t.args []=true) r):=by
 refine SpecP.body KE QQ Tryz.func205 rfl Tryz.call205 (by show 1≤_;decide) ?_
 conv=>whnf
 obtain ⟨hm,hb,hns⟩:=WD hs
 have hA:=UG p
 have hms:=x0m hm
 have hok : ∀ x∈allR p,oneOk x.s=true:=fun x hx=>by rw [LO hm] at hx;exact (z0h hm x hx).2
 have hap : ∀ x∈allR p,x.s.kind=4→SpecP Tryz.prog 273 [.agg p.cells,.agg x.s.cells] (fun r=>r = .bool (XU x.s.name (VS p x.s.proc) x.s.args [])):=fun x hx hk=>by
  have hxs:x.s∈YT p:=by rw [← hms];exact List.mem_map.2 ⟨x,hx,rfl⟩
  have hx2:=hxs
  unfold YT at hx2
  obtain ⟨f,hf1,hf2⟩:=List.mem_flatMap.1 hx2
  have hpc:=(q1j hs hf1 hf2 hk).1
  have hw:=q5d _ _ hf2
  have hwp:=hf.pr hf1
  have h1:=q8k x.s
  have h2:=UO x.s.args
  have h3:=MS p hf hs x.s hpc (by unfold wPr at hwp;omega) fun a ha hr he=>by
   have h4:=List.all_eq_true.1 (YP (hok x hx)).args a ha
   unfold argR at h4
   rw [hr,cond_true,he] at h4
   simp at h4
   have:=q0q h4.1
   cases this
  unfold z3q at h3
  rw [har _ hxs hk,Bool.true_and] at h3
  exact h3
 rw [← hms]
 clear hms har hok
 generalize allR p=L at *
 have hLl:=WP L
 repeat' (first|((first|intro (_:_≤9223372036854775807)|refine DrawK.auto QQ mixed (by kernel_rfl) ?_|refine And.intro rfl ?_|(refine And.intro ⟨by decide,by decide⟩ ?_)|(refine And.intro ⟨rfl,rfl,by decide⟩ ?_)|refine BsK.pure (fun x hx=>by rcases List.mem_singleton.1 hx with rfl;rfl) rfl ?_|refine IdxK.map (by omega) (fun _=>rfl) ?_|refine IdxK.xs (by omega) ?_|refine IdxK.ss (by omega) ?_|(refine ByteK.at (by omega) ?_)|refine Wr.i64 (by omega) (by omega) ?_|(refine CallK.pure hA (.cons (Sub.refl _) .nil) ?_;rintro _ rfl));conv=>whnf)|(refine Br.dec (fun _=>?_) (fun _=>?_)<;>first|(exfalso;omega)|conv=>whnf)|(refine Br.dec2 (fun _=>?_) (fun _=>?_)<;>first|(exfalso;omega)|conv=>whnf)|(refine Br.n (fun _=>?_) (fun _=>?_)<;>conv=>whnf)|(refine Br.b (fun _=>?_) (fun _=>?_)<;>conv=>whnf))
 refine LoopK.inv QQ (fun j:Nat=>⟨[(1,.p (.ip p.cells)),(2,.ptr 1 0),(6,.p (KT L)),(7,.p (.int .i64 (L.map fun i=>AV.agg i.cells).length)),(8,.p (.int .i64 j))],[(1,.obj 90 [.p (.int .i64 0),.p (.int .i64 0)])]⟩) (fun j=>j≤L.length ∧ ∀ x∈L.take j,x.s.kind=4→XU x.s.name (VS p x.s.proc) x.s.args []=true) (fun j=>L.length-j) 0 (Le.of_eq rfl) ⟨Nat.zero_le _,fun x hx=>by rw [List.take_zero] at hx;cases hx⟩ ?_
 rintro j ⟨h2,h3⟩
 rcases Nat.lt_or_ge j L.length with hj|hj
 ·have hC:=hap _ (List.getElem_mem hj)
  have hmem:L[j].s∈L.map RI.s:=List.mem_map.2 ⟨_,List.getElem_mem hj,rfl⟩
  have hst:(L[j].s.kind=4→XU L[j].s.name (VS p L[j].s.proc) L[j].s.args []=true) → ∀ x∈L.take (j+1),x.s.kind=4→XU x.s.name (VS p x.s.proc) x.s.args []=true:=fun h x hx=>by
   rcases (QI hj).1 hx with h4|rfl
   ·exact h3 x h4
   ·exact h
  conv=>whnf
  repeat' (first|((first|intro (_:_≤9223372036854775807)|refine DrawK.auto QQ mixed (by kernel_rfl) ?_|refine And.intro rfl ?_|(refine And.intro ⟨by decide,by decide⟩ ?_)|(refine And.intro ⟨rfl,rfl,by decide⟩ ?_)|refine BsK.pure (fun x hx=>by rcases List.mem_singleton.1 hx with rfl;rfl) rfl ?_|refine IdxK.map (by omega) (fun _=>rfl) ?_|refine IdxK.xs (by omega) ?_|refine IdxK.ss (by omega) ?_|(refine ByteK.at (by omega) ?_)|refine Wr.i64 (by omega) (by omega) ?_|(refine CallK.pure (hC (by omega)) (.cons (Sub.refl _) (.cons (Sub.refl _) .nil)) ?_;rintro _ rfl)|(refine CallK.pure (QL 8 _) (.cons (Sub.refl _) (.cons (Sub.refl _) .nil)) ?_;rintro _ rfl));conv=>whnf)|(refine Br.dec (fun _=>?_) (fun _=>?_)<;>first|(exfalso;omega)|conv=>whnf)|(refine Br.dec2 (fun _=>?_) (fun _=>?_)<;>first|(exfalso;omega)|conv=>whnf)|(refine Br.n (fun _=>?_) (fun _=>?_)<;>conv=>whnf)|(refine Br.b (fun _=>?_) (fun _=>?_)<;>conv=>whnf))
  all_goals first
   | exact ⟨j+1,⟨hj,hst fun h=>by first|assumption|omega⟩,by omega,Le.of_eq rfl⟩
   | (refine RetK.flt ⟨fun h=>by omega,fun h => ?_⟩
      have:=h _ hmem (by omega)
      simp_all
      done)
 ·conv=>whnf
  repeat' (first|((first|intro (_:_≤9223372036854775807)|refine DrawK.auto QQ mixed (by kernel_rfl) ?_|refine And.intro rfl ?_|(refine And.intro ⟨by decide,by decide⟩ ?_)|(refine And.intro ⟨rfl,rfl,by decide⟩ ?_)|refine BsK.pure (fun x hx=>by rcases List.mem_singleton.1 hx with rfl;rfl) rfl ?_|refine IdxK.map (by omega) (fun _=>rfl) ?_|refine IdxK.xs (by omega) ?_|refine IdxK.ss (by omega) ?_|(refine ByteK.at (by omega) ?_)|refine Wr.i64 (by omega) (by omega) ?_);conv=>whnf)|(refine Br.dec (fun _=>?_) (fun _=>?_)<;>first|(exfalso;omega)|conv=>whnf)|(refine Br.dec2 (fun _=>?_) (fun _=>?_)<;>first|(exfalso;omega)|conv=>whnf)|(refine Br.n (fun _=>?_) (fun _=>?_)<;>conv=>whnf)|(refine Br.b (fun _=>?_) (fun _=>?_)<;>conv=>whnf))
  refine RetK.flt ⟨fun _ t ht => ?_,fun _=>rfl⟩
  obtain ⟨x,hx,rfl⟩:=List.mem_map.1 ht
  exact h3 x (by rw [List.take_of_length_le hj];exact hx)
open Go.Proofs
theorem x4o (p:Pg):ZX p=false↔XZ p.globals=false∧XZ (procsN p)=false∧(VF p mainS).2=true∧(VF p mainS).1.params.length=0:=by
 unfold ZX VF
 have h1:(procsN p).any (fun s=>mainS==s)=(p.procs.find? fun f=>f.name==mainS).isSome:=by
  unfold procsN
  rw [Bool.eq_iff_iff,List.find?_isSome,List.any_map,List.any_eq_true]
  simp only [Function.comp,beq_iff_eq]
  exact ⟨fun ⟨x,a,b⟩=>⟨x,a,b.symm⟩,fun ⟨x,a,b⟩=>⟨x,a,b.symm⟩⟩
 have h2:(p.procs.find? fun f=>mainS==f.name)=p.procs.find? fun f=>f.name==mainS:=by
  congr 1
  funext f
  exact Bool.beq_comm
 rw [h1,h2]
 cases p.procs.find? fun f=>f.name==mainS with
 | none=>simp
 | some f=>simp
theorem x6o {p:Pg} (hf:Fit p) {f:Pr} (h:f∈p.procs):f.params.length≤20000∧f.vars.length≤20000∧f.fin.length≤20000∧p.globals.length≤20000:=by
 have h1:=hf.pr h
 have h2:=KI f.vars
 have h3:=KI f.fin
 have h4:=KI p.globals
 have h5:wPg p≤20000:=hf
 have h6:f.params.length≤z8o f.params:=by
  generalize f.params=l
  induction l with
  | nil=>exact Nat.zero_le _
  | cons a r ih =>
    rw [z8o,List.length_cons]
    omega
 unfold wPr at h1
 unfold wPg at h5
 omega
theorem MT (p:Pg) (hf:Fit p):SpecP Tryz.prog 202 [.agg p.cells] (fun r=>fltR ((QR p).1=0) r):=by
 refine SpecP.body BP QQ Tryz.func202 rfl Tryz.call202 (by show 1≤_;decide) ?_
 conv=>whnf
 have hM:=YH p
 cases hm:WM p with
 | false =>
   rw [hm] at hM
   repeat' (first|((first|intro (_:_≤9223372036854775807)|refine DrawK.auto QQ mixed (by kernel_rfl) ?_|refine And.intro rfl ?_|(refine And.intro ⟨by decide,by decide⟩ ?_)|(refine And.intro ⟨rfl,rfl,by decide⟩ ?_)|refine BsK.pure (fun x hx=>by rcases List.mem_singleton.1 hx with rfl;rfl) rfl ?_|refine IdxK.map (by omega) (fun _=>rfl) ?_|refine IdxK.xs (by omega) ?_|refine IdxK.ss (by omega) ?_|(refine ByteK.at (by omega) ?_)|refine Wr.i64 (by omega) (by omega) ?_|(refine CallK.pure hM (.cons (Sub.refl _) .nil) ?_;rintro _ rfl)|(refine CallK.pure (QL 1 0) (.cons (Sub.refl _) (.cons (Sub.refl _) .nil)) ?_;rintro _ rfl));conv=>whnf)|(refine Br.dec (fun _=>?_) (fun _=>?_)<;>first|(exfalso;omega)|conv=>whnf)|(refine Br.dec2 (fun _=>?_) (fun _=>?_)<;>first|(exfalso;omega)|conv=>whnf)|(refine Br.n (fun _=>?_) (fun _=>?_)<;>conv=>whnf)|(refine Br.b (fun _=>?_) (fun _=>?_)<;>conv=>whnf))
   all_goals first
    | (exfalso;simp_all;done)
    | (refine RetK.flt ⟨fun h=>by omega,fun h => ?_⟩
       have:=(WD h).1
       rw [hm] at this
       cases this)
 | true =>
   rw [hm] at hM
   obtain ⟨hg,hpl,hcn⟩:=XS hm
   rw [z2a hm,x4o]
   have hpll:(p.procs.map fun f=>AV.agg f.cells).length=p.procs.length:=List.length_map _
   repeat' (first|((first|intro (_:_≤9223372036854775807)|refine DrawK.auto QQ mixed (by kernel_rfl) ?_|refine And.intro rfl ?_|(refine And.intro ⟨by decide,by decide⟩ ?_)|(refine And.intro ⟨rfl,rfl,by decide⟩ ?_)|refine BsK.pure (fun x hx=>by rcases List.mem_singleton.1 hx with rfl;rfl) rfl ?_|refine IdxK.map (by omega) (fun _=>rfl) ?_|refine IdxK.xs (by omega) ?_|refine IdxK.ss (by omega) ?_|(refine ByteK.at (by omega) ?_)|refine Wr.i64 (by omega) (by omega) ?_|(refine CallK.pure hM (.cons (Sub.refl _) .nil) ?_;rintro _ rfl));conv=>whnf)|(refine Br.dec (fun _=>?_) (fun _=>?_)<;>first|(exfalso;omega)|conv=>whnf)|(refine Br.dec2 (fun _=>?_) (fun _=>?_)<;>first|(exfalso;omega)|conv=>whnf)|(refine Br.n (fun _=>?_) (fun _=>?_)<;>conv=>whnf)|(refine Br.b (fun _=>?_) (fun _=>?_)<;>conv=>whnf))
   all_goals first
    | (exfalso;simp_all;done)
    | skip
   refine LoopK.inv QQ (fun x:Nat×List Str=>⟨[(1,.p (.ip p.cells)),(2,.ptr 1 0),(3,.hd 0 0 x.2.length),(19,.p (.sl (p.procs.map fun f => .agg f.cells))),(20,.p (.int .i64 (p.procs.map fun f=>AV.agg f.cells).length)),(21,.p (.int .i64 x.1))],[(0,.own 9 1 (x.2.map .str)),(1,.obj 90 [.p (.int .i64 0),.p (.int .i64 0)])]⟩) (fun x=>x.1≤p.procs.length∧x.2=(procsN p).take x.1) (fun x=>p.procs.length-x.1) (0,[])
    (Le.mk [(0,.own 9 1 [])] (by simp [Chunk.new0];rfl) (by simp) (by simp) (.cons (.refl _) (.cons (.refl _) (.cons (.nil List.mem_cons_self) (.cons (.refl _) (.cons (.refl _) (.cons (.refl _) .nil)))))) (.new List.mem_cons_self (.cons rfl (.refl _) .nil))) ⟨Nat.zero_le _,by simp⟩ ?_
   rintro ⟨j,acc⟩ ⟨h2,h3⟩
   simp only at h2 h3 ⊢
   have hpn:(procsN p).length=p.procs.length:=by simp [procsN]
   rcases Nat.lt_or_ge j p.procs.length with hj|hj
   ·have e1:(procsN p).take (j+1)=acc++[p.procs[j].name]:=by
     rw [List.take_succ_eq_append_getElem (by omega),← h3]
     simp [procsN]
    have hal:acc.length≤16:=by rw [h3,List.length_take];omega
    conv=>whnf
    repeat' (first|((first|intro (_:_≤9223372036854775807)|refine DrawK.auto QQ mixed (by kernel_rfl) ?_|refine And.intro rfl ?_|(refine And.intro ⟨by decide,by decide⟩ ?_)|(refine And.intro ⟨rfl,rfl,by decide⟩ ?_)|refine BsK.pure (fun x hx=>by rcases List.mem_singleton.1 hx with rfl;rfl) rfl ?_|refine IdxK.map (by omega) (fun _=>rfl) ?_|refine IdxK.xs (by omega) ?_|refine IdxK.ss (by omega) ?_|(refine ByteK.at (by omega) ?_)|refine Wr.i64 (by omega) (by omega) ?_|refine AppK.str1 (by simp) (by simp;omega) ?_);conv=>whnf)|(refine Br.dec (fun _=>?_) (fun _=>?_)<;>first|(exfalso;omega)|conv=>whnf)|(refine Br.dec2 (fun _=>?_) (fun _=>?_)<;>first|(exfalso;omega)|conv=>whnf)|(refine Br.n (fun _=>?_) (fun _=>?_)<;>conv=>whnf)|(refine Br.b (fun _=>?_) (fun _=>?_)<;>conv=>whnf))
    all_goals exact ⟨(j+1,acc++[p.procs[j].name]),⟨by simp only;omega,by simp only;rw [e1]⟩,by simp only;omega,Le.of_eq (by simp only [List.length_append,List.map_append];rfl)⟩
   rw [List.take_of_length_le (by omega)] at h3
   subst h3
   have hN:=ZM p mainS
   have hmq : ∀ q:Prop,((VF p mainS).2=true∧(VF p mainS).1.params.length=0∧q)→q:=fun q h=>h.2.2
   have hT1:=XR p.globals
   have hT2:=XR (procsN p)
   generalize (VF p mainS).2=mk at *
   generalize (VF p mainS).1=mf at *
   have hmfl:(mf.params.map fun a=>AV.agg a.cells).length=mf.params.length:=List.length_map _
   conv=>whnf
   repeat' (first|((first|intro (_:_≤9223372036854775807)|refine DrawK.auto QQ mixed (by kernel_rfl) ?_|refine And.intro rfl ?_|(refine And.intro ⟨by decide,by decide⟩ ?_)|(refine And.intro ⟨rfl,rfl,by decide⟩ ?_)|refine BsK.pure (fun x hx=>by rcases List.mem_singleton.1 hx with rfl;rfl) rfl ?_|refine IdxK.map (by omega) (fun _=>rfl) ?_|refine IdxK.xs (by omega) ?_|refine IdxK.ss (by omega) ?_|(refine ByteK.at (by omega) ?_)|refine Wr.i64 (by omega) (by omega) ?_|(refine CallK.pure hN (.cons (Sub.refl _) (.cons (Sub.refl _) .nil)) ?_;rintro _ rfl)|(refine CallK.pure hT1 (.cons (Sub.refl _) .nil) ?_;rintro _ rfl)|(refine CallK.borrow hT2 (.cons (.hd rfl (by simp)) .nil) (by rintro _ rfl;rfl) ?_;rintro _ rfl)|(refine CallK.pure (QL 5 0) (.cons (Sub.refl _) (.cons (Sub.refl _) .nil)) ?_;rintro _ rfl));conv=>whnf)|(refine Br.dec (fun _=>?_) (fun _=>?_)<;>first|(exfalso;omega)|conv=>whnf)|(refine Br.dec2 (fun _=>?_) (fun _=>?_)<;>first|(exfalso;omega)|conv=>whnf)|(refine Br.n (fun _=>?_) (fun _=>?_)<;>conv=>whnf)|(refine Br.b (fun _=>?_) (fun _=>?_)<;>conv=>whnf))
   all_goals first
    | (refine RetK.flt ⟨fun h=>by omega,fun ⟨⟨h4,h5,h6,h7⟩,h8⟩ => ?_⟩
       exfalso
       simp_all
       done)
    | (refine RetK.flt ⟨fun h=>by omega,fun ⟨⟨h4,h5,h6,h7⟩,h8⟩ => ?_⟩
       omega)
    | skip
   have G1:XZ p.globals=false:=by assumption
   have G2:XZ (procsN p)=false:=by assumption
   have G3:mk=true:=by assumption
   have G4:mf.params.length=0:=by omega
   have hIff:(((XZ p.globals=false∧XZ (procsN p)=false∧mk=true∧mf.params.length=0) ∧ ∀ f∈p.procs,ScopeOK p f) ↔ ∀ f∈p.procs,ScopeOK p f):=⟨fun h=>h.2,fun h=>⟨⟨G1,G2,G3,G4⟩,h⟩⟩
   rw [hIff]
   clear hIff hT1 hT2 hN hmq G1 G2 G3 G4
   refine LoopK.inv QQ (fun j:Nat=>⟨[(1,.p (.ip p.cells)),(2,.ptr 1 0),(3,.hd 0 0 (procsN p).length),(55,.p (.sl (p.procs.map fun f => .agg f.cells))),(56,.p (.int .i64 (p.procs.map fun f=>AV.agg f.cells).length)),(57,.p (.int .i64 j))],[(0,.own 9 1 ((procsN p).map .str)),(1,.obj 90 [.p (.int .i64 0),.p (.int .i64 0)])]⟩) (fun j=>j≤p.procs.length ∧ ∀ f∈p.procs.take j,ScopeOK p f) (fun j=>p.procs.length-j) 0
    (Le.of_eq rfl) ⟨Nat.zero_le _,fun f h=>by rw [List.take_zero] at h;cases h⟩ ?_
   rintro j ⟨h2,h3⟩
   rcases Nat.lt_or_ge j p.procs.length with hj|hj
   rotate_left 1
   ·rw [List.take_of_length_le hj] at h3
    conv=>whnf
    repeat' (first|((first|intro (_:_≤9223372036854775807)|refine DrawK.auto QQ mixed (by kernel_rfl) ?_|refine And.intro rfl ?_|(refine And.intro ⟨by decide,by decide⟩ ?_)|(refine And.intro ⟨rfl,rfl,by decide⟩ ?_)|refine BsK.pure (fun x hx=>by rcases List.mem_singleton.1 hx with rfl;rfl) rfl ?_|refine IdxK.map (by omega) (fun _=>rfl) ?_|refine IdxK.xs (by omega) ?_|refine IdxK.ss (by omega) ?_|(refine ByteK.at (by omega) ?_)|refine Wr.i64 (by omega) (by omega) ?_);conv=>whnf)|(refine Br.dec (fun _=>?_) (fun _=>?_)<;>first|(exfalso;omega)|conv=>whnf)|(refine Br.dec2 (fun _=>?_) (fun _=>?_)<;>first|(exfalso;omega)|conv=>whnf)|(refine Br.n (fun _=>?_) (fun _=>?_)<;>conv=>whnf)|(refine Br.b (fun _=>?_) (fun _=>?_)<;>conv=>whnf))
    exact RetK.flt ⟨fun _=>h3,fun _=>rfl⟩
   have hfm:=List.getElem_mem hj
   obtain ⟨w1,w2,w3,w4⟩:=x6o hf hfm
   have hwp:=hf.pr hfm
   have hPm:=PK p.procs[j] (by omega)
   have hF:=QN p.procs[j]
   have hmap:(ZV p.procs[j]).map RI.s=flL p.procs[j].body:=by rw [ZU hm hfm];exact HG 1 0 false _
   have hrl:=YW p.procs[j]
   have hargs : ∀ x∈ZV p.procs[j],x.s.args.length≤20000:=fun x hx=>by
    have hmm:x.s∈flL p.procs[j].body:=by
     rw [← hmap]
     exact List.mem_map.2 ⟨_,hx,rfl⟩
    have h4:=q5d _ _ hmm
    have h5:=q8k x.s
    have h6:=UO x.s.args
    unfold wPr at hwp
    omega
   have hav:allV p p.procs[j]=p.globals++((p.procs[j].params.map Param.name)++p.procs[j].vars):=rfl
   have hT:=XR (allV p p.procs[j])
   rw [hav] at hT
   have hnd:=ZF (l:=allV p p.procs[j])
   rw [hav] at hnd
   have hbad : ¬ScopeOK p p.procs[j] → ¬∀ f∈p.procs,ScopeOK p f:=fun h h2=>h (h2 _ hfm)
   have hgood:ScopeOK p p.procs[j] → ∀ f∈p.procs.take (j+1),ScopeOK p f:=fun h f hfq=>by
    rcases (QI hj).1 hfq with h4|rfl
    ·exact h3 f h4
    ·exact h
   have hok:((p.globals++((p.procs[j].params.map Param.name)++p.procs[j].vars)).Nodup ∧ ∀ x∈ZV p.procs[j],knownB p p.procs[j] (procsN p) x.s=true)↔ScopeOK p p.procs[j]:=by
    constructor
    ·rintro ⟨a,b⟩
     exact ⟨a,fun t ht=>by
      rw [← hmap] at ht
      obtain ⟨x,hx,rfl⟩:=List.mem_map.1 ht
      exact b x hx⟩
    ·rintro ⟨a,b⟩
     exact ⟨a,fun x hx=>b _ (by rw [← hmap];exact List.mem_map.2 ⟨x,hx,rfl⟩)⟩
   have hkd:=fun v=>q0k p p.procs[j] v
   have hkn : ∀ t:S,knownB p p.procs[j] (procsN p) t=((ZP t).all (fun n => !(GB p p.procs[j] n==0))&&(decide (t.kind≠4)||(!(t.proc==mainS)&&inS (procsN p) t.proc))):=fun t=>by rw [BN];rfl
   clear hav hwp hmap hfm
   generalize ZV p.procs[j]=its at *
   generalize ScopeOK p p.procs[j]=SK at *
   have hil:=WP its
   rw [show QH (p.globals++((p.procs[j].params.map Param.name)++p.procs[j].vars))=AV.sl (p.globals.map .str++(p.procs[j].params.map Param.name).map .str++p.procs[j].vars.map .str) by unfold QH;rw [List.map_append,List.map_append,List.append_assoc]] at hT
   conv=>whnf
   repeat' (first|((first|intro (_:_≤9223372036854775807)|refine DrawK.auto QQ mixed (by kernel_rfl) ?_|refine And.intro rfl ?_|(refine And.intro ⟨by decide,by decide⟩ ?_)|(refine And.intro ⟨rfl,rfl,by decide⟩ ?_)|refine IdxK.map (by omega) (fun _=>rfl) ?_|refine IdxK.xs (by omega) ?_|refine IdxK.ss (by omega) ?_|(refine ByteK.at (by omega) ?_)|refine Wr.i64 (by omega) (by omega) ?_|(refine CallK.pure hPm (.cons (Sub.refl _) .nil) ?_;rintro _ rfl)|refine BsK.own (fun x hx=>by cases hx) rfl ?_|refine AppK.strs _ (by simp) (by simp;omega) ?_|(refine CallK.borrow hT (.cons (.hd rfl (by simp<;>omega)) .nil) (by rintro _ rfl;rfl) ?_;rintro _ rfl)|(refine CallK.pure (QL 5 0) (.cons (Sub.refl _) (.cons (Sub.refl _) .nil)) ?_;rintro _ rfl)|(refine CallK.pure hF (.cons (Sub.refl _) .nil) ?_;rintro _ rfl));conv=>whnf)|(refine Br.dec (fun _=>?_) (fun _=>?_)<;>first|(exfalso;omega)|conv=>whnf)|(refine Br.dec2 (fun _=>?_) (fun _=>?_)<;>first|(exfalso;omega)|conv=>whnf)|(refine Br.n (fun _=>?_) (fun _=>?_)<;>conv=>whnf)|(refine Br.b (fun _=>?_) (fun _=>?_)<;>conv=>whnf))
   all_goals first
    | (refine RetK.flt ⟨fun h=>by omega,fun hP=>absurd hP (hbad fun hS => ?_)⟩
       have:=hnd.2 (hok.2 hS).1
       simp_all
       done)
    | skip
   have hND:=hnd.1 (by assumption)
   have hbad2 : ∀ x∈its,knownB p p.procs[j] (procsN p) x.s=false → ¬∀ f∈p.procs,ScopeOK p f:=fun x hx h=>hbad fun hS=>by
    have:=(hok.2 hS).2 x hx
    rw [this] at h
    cases h
   clear hT hnd
   refine LoopK.inv QQ (fun m:Nat=>⟨[(1,.p (.ip p.cells)),(2,.ptr 1 0),(3,.hd 0 0 (procsN p).length),(9,.p (.ip p.procs[j].cells)),(55,.p (.sl (p.procs.map fun f => .agg f.cells))),(56,.p (.int .i64 (p.procs.map fun f=>AV.agg f.cells).length)),(57,.p (.int .i64 j)),(74,.p (KT its)),(75,.p (.int .i64 (its.map fun i=>AV.agg i.cells).length)),(76,.p (.int .i64 m))],[(0,.own 9 1 ((procsN p).map .str)),(1,.obj 90 [.p (.int .i64 0),.p (.int .i64 0)])]⟩) (fun m=>m≤its.length ∧ ∀ x∈its.take m,knownB p p.procs[j] (procsN p) x.s=true) (fun m=>its.length-m) 0
    (Le.of_eq rfl) ⟨Nat.zero_le _,fun x h=>by rw [List.take_zero] at h;cases h⟩ ?_
   rintro m ⟨h4,h5⟩
   rcases Nat.lt_or_ge m its.length with hm'|hm'
   rotate_left 1
   ·rw [List.take_of_length_le hm'] at h5
    conv=>whnf
    repeat' (first|((first|intro (_:_≤9223372036854775807)|refine DrawK.auto QQ mixed (by kernel_rfl) ?_|refine And.intro rfl ?_|(refine And.intro ⟨by decide,by decide⟩ ?_)|(refine And.intro ⟨rfl,rfl,by decide⟩ ?_)|refine BsK.pure (fun x hx=>by rcases List.mem_singleton.1 hx with rfl;rfl) rfl ?_|refine IdxK.map (by omega) (fun _=>rfl) ?_|refine IdxK.xs (by omega) ?_|refine IdxK.ss (by omega) ?_|(refine ByteK.at (by omega) ?_)|refine Wr.i64 (by omega) (by omega) ?_);conv=>whnf)|(refine Br.dec (fun _=>?_) (fun _=>?_)<;>first|(exfalso;omega)|conv=>whnf)|(refine Br.dec2 (fun _=>?_) (fun _=>?_)<;>first|(exfalso;omega)|conv=>whnf)|(refine Br.n (fun _=>?_) (fun _=>?_)<;>conv=>whnf)|(refine Br.b (fun _=>?_) (fun _=>?_)<;>conv=>whnf))
    exact ⟨j+1,⟨by omega,hgood (hok.1 ⟨hND,h5⟩)⟩,by omega,Le.of_eq rfl⟩
   have hna:=hargs _ (List.getElem_mem hm')
   have hSd:=KP its[m].s hna
   have hB:=hbad2 _ (List.getElem_mem hm')
   have hst:knownB p p.procs[j] (procsN p) its[m].s=true → ∀ x∈its.take (m+1),knownB p p.procs[j] (procsN p) x.s=true:=fun h x hx=>by
    rcases (QI hm').1 hx with h6|rfl
    ·exact h5 x h6
    ·exact h
   rw [hkn] at hB hst
   have hIn:=QB (procsN p) its[m].s.proc
   generalize ZP its[m].s=vs at *
   have hvl:(vs.map AV.str).length=vs.length:=List.length_map _
   conv=>whnf
   repeat' (first|((first|intro (_:_≤9223372036854775807)|refine DrawK.auto QQ mixed (by kernel_rfl) ?_|refine And.intro rfl ?_|(refine And.intro ⟨by decide,by decide⟩ ?_)|(refine And.intro ⟨rfl,rfl,by decide⟩ ?_)|refine BsK.pure (fun x hx=>by rcases List.mem_singleton.1 hx with rfl;rfl) rfl ?_|refine IdxK.map (by omega) (fun _=>rfl) ?_|refine IdxK.xs (by omega) ?_|refine IdxK.ss (by omega) ?_|(refine ByteK.at (by omega) ?_)|refine Wr.i64 (by omega) (by omega) ?_|(refine CallK.pure hSd (.cons (Sub.refl _) .nil) ?_;rintro _ rfl));conv=>whnf)|(refine Br.dec (fun _=>?_) (fun _=>?_)<;>first|(exfalso;omega)|conv=>whnf)|(refine Br.dec2 (fun _=>?_) (fun _=>?_)<;>first|(exfalso;omega)|conv=>whnf)|(refine Br.n (fun _=>?_) (fun _=>?_)<;>conv=>whnf)|(refine Br.b (fun _=>?_) (fun _=>?_)<;>conv=>whnf))
   refine LoopK.inv QQ (fun q:Nat=>⟨[(1,.p (.ip p.cells)),(2,.ptr 1 0),(3,.hd 0 0 (procsN p).length),(9,.p (.ip p.procs[j].cells)),(11,.p (.ip its[m].cells)),(55,.p (.sl (p.procs.map fun f => .agg f.cells))),(56,.p (.int .i64 (p.procs.map fun f=>AV.agg f.cells).length)),(57,.p (.int .i64 j)),(74,.p (KT its)),(75,.p (.int .i64 (its.map fun i=>AV.agg i.cells).length)),(76,.p (.int .i64 m)),(82,.p (QH vs)),(83,.p (.int .i64 (vs.map AV.str).length)),(84,.p (.int .i64 q))],[(0,.own 9 1 ((procsN p).map .str)),(1,.obj 90 [.p (.int .i64 0),.p (.int .i64 0)])]⟩) (fun q=>q≤vs.length∧(vs.drop q).all (fun n => !(GB p p.procs[j] n==0))=vs.all fun n => !(GB p p.procs[j] n==0)) (fun q=>vs.length-q) 0
    (Le.of_eq rfl) ⟨Nat.zero_le _,rfl⟩ ?_
   rintro q ⟨h6,h7⟩
   rcases Nat.lt_or_ge q vs.length with hq|hq
   ·have hK:=hkd vs[q]
    conv=>whnf
    repeat' (first|((first|intro (_:_≤9223372036854775807)|refine DrawK.auto QQ mixed (by kernel_rfl) ?_|refine And.intro rfl ?_|(refine And.intro ⟨by decide,by decide⟩ ?_)|(refine And.intro ⟨rfl,rfl,by decide⟩ ?_)|refine BsK.pure (fun x hx=>by rcases List.mem_singleton.1 hx with rfl;rfl) rfl ?_|refine IdxK.map (by omega) (fun _=>rfl) ?_|refine IdxK.xs (by omega) ?_|refine IdxK.ss (by omega) ?_|(refine ByteK.at (by omega) ?_)|refine Wr.i64 (by omega) (by omega) ?_|(refine CallK.pure hK (.cons (Sub.refl _) (.cons (Sub.refl _) (.cons (Sub.refl _) .nil))) ?_;rintro _ rfl)|(refine CallK.pure (QL 5 _) (.cons (Sub.refl _) (.cons (Sub.refl _) .nil)) ?_;rintro _ rfl));conv=>whnf)|(refine Br.dec (fun _=>?_) (fun _=>?_)<;>first|(exfalso;omega)|conv=>whnf)|(refine Br.dec2 (fun _=>?_) (fun _=>?_)<;>first|(exfalso;omega)|conv=>whnf)|(refine Br.n (fun _=>?_) (fun _=>?_)<;>conv=>whnf)|(refine Br.b (fun _=>?_) (fun _=>?_)<;>conv=>whnf))
    all_goals first
     | (refine RetK.flt ⟨fun h=>by omega,fun hP=>absurd hP (hB ?_)⟩
        have hk0:GB p p.procs[j] vs[q]=0:=by assumption
        have e:=MV (p:=fun n => !(GB p p.procs[j] n==0)) hq (by rw [hk0];rfl)
        rw [← h7,e]
        rfl)
     | (have hk0 : ¬GB p p.procs[j] vs[q]=0:=by assumption
        exact ⟨q+1,⟨by omega,by rw [← h7,JP (p:=fun n => !(GB p p.procs[j] n==0)) hq (by simpa using hk0)]⟩,by omega,Le.of_eq rfl⟩)
     | trace_state
   ·rw [JD hq] at h7
    rw [← h7,Bool.true_and] at hB hst
    conv=>whnf
    repeat' (first|((first|intro (_:_≤9223372036854775807)|refine DrawK.auto QQ mixed (by kernel_rfl) ?_|refine And.intro rfl ?_|(refine And.intro ⟨by decide,by decide⟩ ?_)|(refine And.intro ⟨rfl,rfl,by decide⟩ ?_)|refine BsK.pure (fun x hx=>by rcases List.mem_singleton.1 hx with rfl;rfl) rfl ?_|refine IdxK.map (by omega) (fun _=>rfl) ?_|refine IdxK.xs (by omega) ?_|refine IdxK.ss (by omega) ?_|(refine ByteK.at (by omega) ?_)|refine Wr.i64 (by omega) (by omega) ?_|(refine CallK.borrow hIn (.cons (.hd rfl (by simp)) (.cons (.p (Sub.refl _)) .nil)) (by rintro _ rfl;rfl) ?_;rintro _ rfl)|(refine CallK.pure (QL 5 _) (.cons (Sub.refl _) (.cons (Sub.refl _) .nil)) ?_;rintro _ rfl));conv=>whnf)|(refine Br.dec (fun _=>?_) (fun _=>?_)<;>first|(exfalso;omega)|conv=>whnf)|(refine Br.dec2 (fun _=>?_) (fun _=>?_)<;>first|(exfalso;omega)|conv=>whnf)|(refine Br.n (fun _=>?_) (fun _=>?_)<;>conv=>whnf)|(refine Br.b (fun _=>?_) (fun _=>?_)<;>conv=>whnf))
    all_goals
     have hmm:(its[m].s.proc==mainS)=(its[m].s.proc==[109,97,105,110]):=rfl
    all_goals first
     | (refine RetK.flt ⟨fun h=>by omega,fun hP=>absurd hP (hB ?_)⟩
        rw [hmm]
        simp_all
        done)
     | (refine ⟨m+1,⟨by omega,hst ?_⟩,by omega,Le.of_eq rfl⟩
        rw [hmm]
        simp_all
        done)
     | trace_state
end Go.Ab
