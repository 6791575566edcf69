/- The reference's small questions: names twice, what a name is, what a statement names, whom a call calls. -/
import Derived.Test.YtneccajakpeodaaGreatAugA5
import Derived.Test.YtneccajakpeodaaGreatAugA17
set_option linter.unusedSimpArgs false
set_option linter.unusedVariables false
set_option maxRecDepth 100000
set_option maxHeartbeats 16000000
namespace Go.Ab
open Go.Proofs
theorem x7f {l:List Str} (h : ¬l.Nodup):XW l=true:=by
 cases hq:XW l with
 | true=>rfl
 | false=>exact absurd (ZP.1 hq) h
theorem XE (l:List Str):SpecP Tryz.prog 268 [QH l] (fun r=>r = .bool (XW l)):=by
 refine SpecP.body DT QQ Tryz.func268 rfl Tryz.call268 (by show 1≤_;decide) ?_
 conv=>whnf
 intro (_:_≤9223372036854775807)
 have hl:(l.map AV.str).length=l.length:=List.length_map _
 conv=>whnf
 refine LoopK.inv QQ (fun j:Nat=>⟨[(0,.p (QH l)),(6,.p (.int .i64 (l.map AV.str).length)),(7,.p (.int .i64 j))],[]⟩) (fun j=>j≤l.length∧(l.take j).Nodup) (fun j=>l.length-j) 0 (Le.of_eq rfl) ⟨Nat.zero_le _,by simp⟩ ?_
 rintro j ⟨h2,h3⟩
 rcases Nat.lt_or_ge j l.length with hj|hj
 ·conv=>whnf
  repeat' (refine Br.dec (fun _=>?_) (fun _=>?_)<;>first|(exfalso;omega)|conv=>whnf)
  refine LoopK.inv QQ (fun k:Nat=>⟨[(0,.p (QH l)),(3,.p (.int .i64 j)),(4,.p (.int .i64 k)),(6,.p (.int .i64 (l.map AV.str).length)),(7,.p (.int .i64 j))],[]⟩) (fun k=>k≤j ∧ ∀ s∈l.take k,s≠l[j]) (fun k=>j-k) 0 (Le.of_eq rfl) ⟨Nat.zero_le _,fun s hs=>by rw [List.take_zero] at hs;cases hs⟩ ?_
  rintro k ⟨h4,h5⟩
  rcases Nat.lt_or_ge k j with hk|hk
  ·conv=>whnf
   repeat' (first|((first|refine DrawK.auto QQ mixed (by kernel_rfl) ?_|refine IdxK.map (by omega) (fun _=>rfl) ?_|refine Wr.i64 (by omega) (by omega) ?_);conv=>whnf)|(refine Br.dec (fun _=>?_) (fun _=>?_)<;>first|(exfalso;omega)|conv=>whnf)|(refine Br.b (fun _=>?_) (fun _=>?_)<;>conv=>whnf))
   ·refine RetK.tt (x7f fun hn => ?_)
    have he:l[j]=l[k]:=eq_of_beq (by assumption)
    have:=(List.getElem_inj hn).1 he
    omega
   ·have he:(l[j]==l[k])=false:=by assumption
    refine ⟨k+1,⟨by omega,fun s hs => ?_⟩,by omega,Le.of_eq rfl⟩
    rcases (QC (by omega)).1 hs with h6|rfl
    ·exact h5 s h6
    ·exact fun e=>by rw [e] at he;simp at he
  ·obtain rfl:k=j:=by omega
   conv=>whnf
   repeat' (first|(refine Wr.i64 (by omega) (by omega) ?_;conv=>whnf)|(refine Br.dec (fun _=>?_) (fun _=>?_)<;>first|(exfalso;omega)|conv=>whnf))
   refine ⟨k+1,⟨by omega,?_⟩,by omega,Le.of_eq rfl⟩
   rw [List.take_succ_eq_append_getElem hj,List.nodup_append]
   exact ⟨h3,by simp,fun a ha b hb e=>h5 a ha (by rw [e];exact List.mem_singleton.1 hb)⟩
 ·rw [List.take_of_length_le hj] at h3
  conv=>whnf
  repeat' (refine Br.dec (fun _=>?_) (fun _=>?_)<;>first|(exfalso;omega)|conv=>whnf)
  exact RetK.ff (ZP.2 h3)
theorem NY (f:Pr) (h1:f.params.length≤1000000):SpecP Tryz.prog 269 [.agg f.cells] (fun r=>r=QH (f.params.map Param.name)):=by
 refine SpecP.body FF QQ Tryz.func269 rfl Tryz.call269 (by show 1≤_;decide) ?_
 conv=>whnf
 intro (_:_≤9223372036854775807)
 have hl:(f.params.map fun a=>AV.agg a.cells).length=f.params.length:=List.length_map _
 conv=>whnf
 refine LoopK.inv QQ (fun j:Nat=>⟨[(3,.hd 0 0 j),(7,.p (.sl (f.params.map fun a=>AV.agg a.cells))),(8,.p (.int .i64 (f.params.map fun a=>AV.agg a.cells).length)),(9,.p (.int .i64 j))],[(0,.own 9 1 (((f.params.map Param.name).take j).map .str))]⟩) (fun j=>j≤f.params.length) (fun j=>f.params.length-j) 0
  (Le.mk [(0,.own 9 1 [])] (by simp [Chunk.new0];rfl) (by simp) (by simp) (.cons (.nil List.mem_cons_self) (.cons (.refl _) (.cons (.refl _) (.cons (.refl _) .nil)))) (.new List.mem_cons_self .nil)) (Nat.zero_le _) ?_
 intro j h3
 rcases Nat.lt_or_ge j f.params.length with hj|hj
 ·have hr:((f.params.map Param.name).take (j+1))=(f.params.map Param.name).take j++[f.params[j].name]:=by
   rw [List.take_succ_eq_append_getElem (by simpa using hj),List.getElem_map]
  have hlt:((f.params.map Param.name).take j).length=j:=by simp;omega
  generalize (f.params.map Param.name).take j=acc at *
  conv=>whnf
  repeat' (first|((first|refine And.intro rfl ?_|(refine And.intro ⟨by decide,by decide⟩ ?_)|refine BsK.pure (fun x hx=>by rcases List.mem_singleton.1 hx with rfl;rfl) rfl ?_|refine IdxK.map (by omega) (fun _=>rfl) ?_|refine Wr.i64 (by omega) (by omega) ?_|refine AppK.str1 (by simp;omega) (by simp;omega) ?_);conv=>whnf)|(refine Br.dec (fun _=>?_) (fun _=>?_)<;>first|(exfalso;omega)|conv=>whnf))
  exact ⟨j+1,by omega,by omega,Le.of_eq (by rw [hr];simp;rfl)⟩
 ·rw [List.take_of_length_le (by simpa using hj)]
  conv=>whnf
  repeat' (refine Br.dec (fun _=>?_) (fun _=>?_)<;>first|(exfalso;omega)|conv=>whnf)
  exact ⟨_,.hd rfl (by simp;omega),rfl⟩
theorem q0w (p:Pg) (f:Pr) (name:Str):SpecP Tryz.prog 270 [.agg p.cells,.agg f.cells,.str name] (fun r=>r = .int .i64 (GL p f name)):=by
 refine SpecP.body PR QQ Tryz.func270 rfl Tryz.call270 (by show 3≤_;decide) ?_
 conv=>whnf
 repeat' (intro (_:_≤9223372036854775807);conv=>whnf)
 have hl:(f.params.map fun a=>AV.agg a.cells).length=f.params.length:=List.length_map _
 refine LoopK.inv QQ (fun j:Nat=>⟨[(2,.p (.str name)),(3,.p (.ip p.cells)),(4,.p (.ip f.cells)),(10,.p (.sl (f.params.map fun a => .agg a.cells))),(11,.p (.int .i64 (f.params.map fun a=>AV.agg a.cells).length)),(12,.p (.int .i64 j))],[]⟩) (fun j=>j≤f.params.length∧(f.params.drop j).find? (fun a=>a.name==name)=f.params.find? fun a=>a.name==name) (fun j=>f.params.length-j) 0 (Le.of_eq rfl) ⟨Nat.zero_le _,rfl⟩ ?_
 rintro j ⟨h2,h3⟩
 rcases Nat.lt_or_ge j f.params.length with hj|hj
 ·conv=>whnf
  repeat' (first|((first|refine And.intro rfl ?_|refine IdxK.map (by omega) (fun _=>rfl) ?_|refine Wr.i64 (by omega) (by omega) ?_);conv=>whnf)|(refine Br.dec (fun _=>?_) (fun _=>?_)<;>first|(exfalso;omega)|conv=>whnf)|(refine Br.b (fun _=>?_) (fun _=>?_)<;>conv=>whnf))
  all_goals first
   | (exfalso;simp_all;done)
   | (have e:=JG (p:=fun a:Param=>a.name==name) hj (by assumption)
      rw [h3] at e
      exact RetK.int (by unfold GL;rw [e];simp [*]))
   | (refine ⟨j+1,⟨by omega,by rw [← h3,HM (p:=fun a:Param=>a.name==name) hj (by assumption)]⟩,by omega,Le.of_eq rfl⟩)
 ·have e:f.params.find? (fun a=>a.name==name)=none:=by rw [← h3,JD (by omega)]
  conv=>whnf
  repeat' (first|(refine CallK.pure (QM _ _) (by repeat' (first|exact ArgP.nil|refine ArgP.cons ?_ ?_|exact Sub.refl _|exact Sub.tt rfl|exact Sub.ff rfl)) ?_;rintro _ rfl;conv=>whnf)|(refine Br.dec (fun _=>?_) (fun _=>?_)<;>first|(exfalso;omega)|conv=>whnf)|(refine Br.b (fun _=>?_) (fun _=>?_)<;>conv=>whnf))
  all_goals
   simp only [q2h] at *
   exact RetK.int (by unfold GL;rw [e];simp [*])
theorem KE (t:S) (ha:t.args.length≤20000):SpecP Tryz.prog 60 [.agg t.cells] (fun r=>r=QH (ZT t)):=by
 refine SpecP.body PD QQ Tryz.func60 rfl Tryz.call60 (by show 1≤_;decide) ?_
 conv=>whnf
 repeat' (first|((first|intro (_:_≤9223372036854775807)|(refine CallK.pure (JJ _) (by repeat' (first|exact ArgP.nil|refine ArgP.cons ?_ ?_|exact Sub.refl _|exact Sub.tt rfl|exact Sub.ff rfl)) ?_;rintro _ rfl)|refine And.intro rfl ?_|(refine And.intro ⟨by decide,by decide⟩ ?_)|refine BsK.pure (fun x hx=>by rcases List.mem_singleton.1 hx with rfl;rfl) rfl ?_|refine AppK.strs _ (by simp) (by have:=YV t.x;simp;omega) ?_|refine AppK.str1 (by simp) (by simp) ?_);conv=>whnf)|(refine Br.dec2 (fun _=>?_) (fun _=>?_)<;>first|(exfalso;omega)|conv=>whnf)|(refine Br.n (fun _=>?_) (fun _=>?_)<;>conv=>whnf))
 all_goals simp only [show (ByteArray.mk #[]).data.toList=[] from rfl] at *
 all_goals
  have hl:(t.args.map fun a=>AV.agg a.cells).length=t.args.length:=List.length_map _
  refine LoopK.inv QQ (HK t 9) (fun j=>j≤t.args.length) (fun j=>t.args.length-j) 0 (Le.of_eq ?_) (Nat.zero_le _) ?_
  ·first
    | (have e:x0k t 0=WX t.x:=by simp [x0k,HJ,show t.kind=10 by assumption]
       rw [HK,e];simp only [Nat.zero_add,List.length_map,List.length_append,List.map_append,List.nil_append];rfl)
    | (have e:x0k t 0=WX t.x:=by simp [x0k,HJ,show t.name=[] by simpa using (show (t.name==[])=true by assumption)]
       rw [HK,e];simp only [Nat.zero_add,List.length_map,List.length_append,List.map_append,List.nil_append];rfl)
    | (have e:x0k t 0=[t.name]++WX t.x:=by
        have:(t.name==[])=false:=by assumption
        simp [x0k,HJ,show ¬t.kind=10 by assumption,this]
       rw [HK,e];simp only [Nat.zero_add,List.length_map,List.length_append,List.map_append,List.nil_append];rfl)
  intro j h2
  have hacc:=x8v t h2 ha
  conv=>whnf
  repeat' (first|((first|(refine CallK.pure (JJ _) (by repeat' (first|exact ArgP.nil|refine ArgP.cons ?_ ?_|exact Sub.refl _|exact Sub.tt rfl|exact Sub.ff rfl)) ?_;rintro _ rfl)|refine And.intro rfl ?_|(refine And.intro ⟨by decide,by decide⟩ ?_)|refine BsK.pure (fun x hx=>by rcases List.mem_singleton.1 hx with rfl;rfl) rfl ?_|refine IdxK.map (by omega) (fun _=>rfl) ?_|refine Wr.i64 (by omega) (by omega) ?_|refine AppK.strs _ (by simp) (by have:=YV (t.args[j]'(by omega)).x;simp;omega) ?_|refine AppK.str1 (by simp) (by simp;omega) ?_);conv=>whnf)|(refine Br.dec (fun _=>?_) (fun _=>?_)<;>first|(exfalso;omega)|conv=>whnf)|(refine Br.b (fun _=>?_) (fun _=>?_)<;>conv=>whnf))
  all_goals first
   | exact ⟨_,.hd rfl (by simp),by
      have:t.args.take j=t.args:=List.take_of_length_le (by omega)
      rw [ZT,← this];rfl⟩
   | (have hj:j<t.args.length:=by omega
      have hst:=x4n hj
      refine ⟨j+1,by show j+1≤_;omega,by show t.args.length-(j+1)<t.args.length-j;omega,Le.of_eq ?_⟩
      first
       | (have hn:UA t.args[j]=[t.args[j].name]++WX t.args[j].x:=by rw [UA,show t.args[j].ref=true by assumption];rfl
          rw [HK,hst,hn]
          simp only [List.length_append,List.map_append,List.length_map,← List.append_assoc,← Nat.add_assoc]
          rfl)
       | (have hn:UA t.args[j]=WX t.args[j].x:=by rw [UA,show t.args[j].ref=false by assumption];rfl
          rw [HK,hst,hn]
          simp only [List.length_append,List.map_append,List.length_map]
          rfl))
theorem ZS (p:Pg) (n:Str):SpecP Tryz.prog 267 [.agg p.cells,.str n] (fun r=>r = .tup [.agg (VS p n).1.cells,.bool (VS p n).2]):=by
 refine SpecP.body BX QQ Tryz.func267 rfl Tryz.call267 (by show 2≤_;decide) ?_
 conv=>whnf
 have hpl:(p.procs.map fun f=>AV.agg f.cells).length=p.procs.length:=List.length_map _
 repeat' (intro (_:_≤9223372036854775807);conv=>whnf)
 refine LoopK.inv QQ (fun j:Nat=>⟨[(1,.p (.str n)),(4,.ptr 1 0),(9,.p (.sl (p.procs.map fun f => .agg f.cells))),(10,.p (.int .i64 (p.procs.map fun f=>AV.agg f.cells).length)),(11,.p (.int .i64 j))],[(1,.obj 67 [.p (.str []),.p .nils,.p .nils,.p .nils,.p .nils])]⟩) (fun j=>j≤p.procs.length∧(p.procs.drop j).find? (fun f=>f.name==n)=p.procs.find? fun f=>f.name==n) (fun j=>p.procs.length-j) 0 (Le.of_eq rfl) ⟨Nat.zero_le _,rfl⟩ ?_
 rintro j ⟨h2,h3⟩
 rcases Nat.lt_or_ge j p.procs.length with hj|hj
 ·rw [QJ hj,List.find?_cons] at h3
  conv=>whnf
  repeat' (first|((first|refine And.intro rfl ?_|refine IdxK.map (by omega) (fun _=>rfl) ?_|refine Wr.i64 (by omega) (by omega) ?_);conv=>whnf)|(refine Br.dec (fun _=>?_) (fun _=>?_)<;>first|(exfalso;omega)|conv=>whnf)|(refine Br.b (fun _=>?_) (fun _=>?_)<;>conv=>whnf))
  ·have hn:(p.procs[j].name==n)=true:=by assumption
   rw [hn] at h3
   exact ⟨_,.p (Sub.tup (SubL.cons (Sub.refl _) (SubL.cons (Sub.tt rfl) SubL.nil))),by unfold VS;rw [← h3];first|done|rfl⟩
  ·have hn:(p.procs[j].name==n)=false:=by assumption
   rw [hn] at h3
   exact ⟨j+1,⟨hj,h3⟩,by omega,Le.of_eq rfl⟩
 ·rw [List.drop_eq_nil_of_le hj,List.find?_nil] at h3
  conv=>whnf
  repeat' (first|(refine And.intro rfl ?_;conv=>whnf)|(refine Br.dec (fun _=>?_) (fun _=>?_)<;>first|(exfalso;omega)|conv=>whnf))
  exact ⟨_,.p (Sub.tup (SubL.cons x5p (SubL.cons (Sub.ff rfl) SubL.nil))),by unfold VS;rw [← h3];first|done|rfl⟩
theorem z7d (p:Pg) (s:S):UU p s=(decide (s.kind=4)&&((VS p s.proc).2&&q7g (VS p s.proc).1.params s.args)):=by
 unfold UU VS
 cases p.procs.find? (fun f=>f.name==s.proc)<;>rfl
theorem UK (p:Pg) (s:S):SpecP Tryz.prog 271 [.agg p.cells,.agg s.cells] (fun r=>r = .bool (UU p s)):=by
 refine SpecP.body GS QQ Tryz.func271 rfl Tryz.call271 (by show 2≤_;decide) ?_
 conv=>whnf
 have hN:=ZS p s.proc
 have hF:=z7d p s
 rw [hF]
 generalize (VS p s.proc).2=ok at *
 generalize (VS p s.proc).1=q at *
 have hal:(s.args.map fun a=>AV.agg a.cells).length=s.args.length:=List.length_map _
 have hql:(q.params.map fun a=>AV.agg a.cells).length=q.params.length:=List.length_map _
 repeat' (first|((first|intro (_:_≤9223372036854775807)|refine And.intro rfl ?_|(refine CallK.pure hN (.cons (Sub.refl _) (.cons (Sub.refl _) .nil)) ?_;rintro _ rfl));conv=>whnf)|(refine Br.dec2 (fun _=>?_) (fun _=>?_)<;>first|(exfalso;omega)|conv=>whnf)|(refine Br.n (fun _=>?_) (fun _=>?_)<;>conv=>whnf))
 all_goals first
  | (refine RetK.ff ?_;simp_all;done)
  | (refine RetK.ff ?_
     have:q7g q.params s.args=false:=by
      unfold q7g
      rw [decide_eq_false_iff_not]
      intro he
      have:=congrArg List.length he
      simp at this
      omega
     rw [this]
     simp)
  | skip
 have hk:s.kind=4:=by omega
 have hlen:s.args.length=q.params.length:=by omega
 have hok:ok=true:=by assumption
 rw [hok,decide_eq_true hk,Bool.true_and,Bool.true_and]
 refine LoopK.inv QQ (fun j:Nat=>⟨[(3,.p (.ip s.cells)),(5,.p (.ip q.cells)),(33,.p (.int .i64 (s.args.map fun a=>AV.agg a.cells).length)),(34,.p (.int .i64 j))],[]⟩) (fun j=>j≤s.args.length ∧ ∀ k (hk:k<j) (h1:k<s.args.length) (h2:k<q.params.length),s.args[k].ref=q.params[k].ref) (fun j=>s.args.length-j) 0 (Le.of_eq rfl) ⟨Nat.zero_le _,fun k hk=>absurd hk (Nat.not_lt_zero _)⟩ ?_
 rintro j ⟨h2,h3⟩
 rcases Nat.lt_or_ge j s.args.length with hj|hj
 ·have hjq:j<q.params.length:=by omega
  conv=>whnf
  repeat' (first|((first|refine DrawK.auto QQ mixed (by kernel_rfl) ?_|refine IdxK.map (by omega) (fun _=>rfl) ?_|refine Wr.i64 (by omega) (by omega) ?_|refine ValO.boolNeq QQ rfl rfl rfl rfl rfl ?_);conv=>whnf)|(refine Br.dec (fun _=>?_) (fun _=>?_)<;>first|(exfalso;omega)|conv=>whnf)|(refine Br.dec2 (fun _=>?_) (fun _=>?_)<;>first|(exfalso;omega)|conv=>whnf))
  all_goals first
   | (refine RetK.ff ?_
      unfold q7g
      rw [decide_eq_false_iff_not]
      intro he
      have h4:=congrArg (fun l=>l[j]?) he
      simp only [List.getElem?_map,List.getElem?_eq_getElem hj,List.getElem?_eq_getElem hjq,Option.map_some] at h4
      have h5:=Option.some.inj h4
      simp_all
      done)
   | (refine ⟨j+1,⟨by omega,fun k hk h1 h2 => ?_⟩,by omega,Le.of_eq rfl⟩
      rcases Nat.lt_or_ge k j with h5|h5
      ·exact h3 k h5 h1 h2
      ·obtain rfl:k=j:=by omega
       simp_all)
 ·conv=>whnf
  repeat' (refine Br.dec (fun _=>?_) (fun _=>?_)<;>first|(exfalso;omega)|conv=>whnf)
  refine RetK.tt ?_
  unfold q7g
  rw [decide_eq_true_eq]
  refine List.ext_getElem (by simp;omega) fun k h4 h5 => ?_
  simp only [List.length_map] at h4 h5
  rw [List.getElem_map,List.getElem_map,h3 k (by omega) h5 h4]
theorem NU (f:Pr) (hl : ∀ x∈WS f,x.s.labels.length≤20000) (hf:f.fin.length≤20000):SpecP Tryz.prog 272 [.agg f.cells] (fun r=>r=QH ((WS f).flatMap (fun x=>x.s.labels)++f.fin)):=by
 refine SpecP.body DQ QQ Tryz.func272 rfl Tryz.call272 (by show 1≤_;decide) ?_
 conv=>whnf
 have hF:=XZ f
 have hrl:=KM f
 generalize WS f=L at *
 have hLl:=WJ L
 repeat' ((first|intro (_:_≤9223372036854775807)|(refine CallK.pure hF (.cons (Sub.refl _) .nil) ?_;rintro _ rfl));conv=>whnf)
 refine LoopK.inv QQ (fun x:Nat×List Str=>⟨[(1,.p (.ip f.cells)),(3,.hd 0 0 x.2.length),(7,.p (JF L)),(8,.p (.int .i64 (L.map fun i=>AV.agg i.cells).length)),(9,.p (.int .i64 x.1))],[(0,.own 9 1 (x.2.map .str))]⟩) (fun x=>x.1≤L.length∧x.2=(L.take x.1).flatMap (fun x=>x.s.labels)∧x.2.length≤20000*x.1) (fun x=>L.length-x.1) (0,[])
  (Le.mk [(0,.own 9 1 [])] (by simp [Chunk.new0];rfl) (by simp) (by simp) (.cons (.refl _) (.cons (.nil List.mem_cons_self) (.cons (.refl _) (.cons (.refl _) (.cons (.refl _) .nil))))) (.new List.mem_cons_self .nil)) ⟨Nat.zero_le _,by simp,by simp⟩ ?_
 rintro ⟨j,acc⟩ ⟨h2,h3,h4⟩
 simp only at h2 h3 h4 ⊢
 rcases Nat.lt_or_ge j L.length with hj|hj
 ·have h5:=hl _ (List.getElem_mem hj)
  have h6:acc++L[j].s.labels=(L.take (j+1)).flatMap (fun x=>x.s.labels):=by rw [List.take_succ_eq_append_getElem hj,List.flatMap_append,← h3];simp
  conv=>whnf
  repeat' (first|((first|refine And.intro rfl ?_|(refine And.intro ⟨by decide,by decide⟩ ?_)|refine IdxK.map (by omega) (fun _=>rfl) ?_|refine Wr.i64 (by omega) (by omega) ?_|refine AppK.strs _ (by simp) (by simp;omega) ?_);conv=>whnf)|(refine Br.dec (fun _=>?_) (fun _=>?_)<;>first|(exfalso;omega)|conv=>whnf))
  exact ⟨(j+1,acc++L[j].s.labels),⟨by simp only;omega,h6,by simp;omega⟩,by simp only;omega,Le.of_eq (by simp;rfl)⟩
 ·rw [List.take_of_length_le hj] at h3
  conv=>whnf
  repeat' (first|((first|(refine And.intro ⟨by decide,by decide⟩ ?_)|refine AppK.strs _ (by simp) (by simp;omega) ?_);conv=>whnf)|(refine Br.dec (fun _=>?_) (fun _=>?_)<;>first|(exfalso;omega)|conv=>whnf))
  exact ⟨_,.hd rfl (by simp),by rw [← h3];simp [QH]⟩
def BN (l:List RI) (fin:List Str) (label:Str):Int×Bool:=match l.find? fun x=>inS x.s.labels label with
 | some x=>(x.s.id,true)
 | none=>if inS fin label=true then (-1,true) else (0,false)
theorem LU (l:List RI) (fin:List Str) (label:Str):SpecP Tryz.prog 206 [JF l,QH fin,.str label] (fun r=>r = .tup [.int .i64 (BN l fin label).1,.bool (BN l fin label).2]):=by
 refine SpecP.body BY QQ Tryz.func206 rfl Tryz.call206 (by show 3≤_;decide) ?_
 conv=>whnf
 intro (_:_≤9223372036854775807)
 have hLl:=WJ l
 conv=>whnf
 refine LoopK.inv QQ (fun j:Nat=>⟨[(1,.p (QH fin)),(2,.p (.str label)),(10,.p (JF l)),(11,.p (.int .i64 (l.map fun i=>AV.agg i.cells).length)),(12,.p (.int .i64 j))],[]⟩) (fun j=>j≤l.length∧(l.drop j).find? (fun x=>inS x.s.labels label)=l.find? fun x=>inS x.s.labels label) (fun j=>l.length-j) 0 (Le.of_eq rfl) ⟨Nat.zero_le _,rfl⟩ ?_
 rintro j ⟨h2,h3⟩
 rcases Nat.lt_or_ge j l.length with hj|hj
 ·conv=>whnf
  repeat' (first|((first|(refine CallK.pure (QM _ _) (by repeat' (first|exact ArgP.nil|refine ArgP.cons ?_ ?_|exact Sub.refl _|exact Sub.tt rfl|exact Sub.ff rfl)) ?_;rintro _ rfl)|refine And.intro rfl ?_|refine IdxK.map (by omega) (fun _=>rfl) ?_|refine Wr.i64 (by omega) (by omega) ?_);conv=>whnf)|(refine Br.dec (fun _=>?_) (fun _=>?_)<;>first|(exfalso;omega)|conv=>whnf)|(refine Br.b (fun _=>?_) (fun _=>?_)<;>conv=>whnf))
  ·have e:=JG (p:=fun x:RI=>inS x.s.labels label) hj (by assumption)
   rw [h3] at e
   exact RetK.tup2 (by unfold BN;rw [e]) (Sub.tt (by unfold BN;rw [e]))
  ·exact ⟨j+1,⟨by omega,by rw [← h3,HM (p:=fun x:RI=>inS x.s.labels label) hj (by assumption)]⟩,by omega,Le.of_eq rfl⟩
 ·have e:l.find? (fun x=>inS x.s.labels label)=none:=by rw [← h3,JD hj]
  conv=>whnf
  repeat' (first|(refine CallK.pure (QM _ _) (by repeat' (first|exact ArgP.nil|refine ArgP.cons ?_ ?_|exact Sub.refl _|exact Sub.tt rfl|exact Sub.ff rfl)) ?_;rintro _ rfl;conv=>whnf)|(refine Br.dec (fun _=>?_) (fun _=>?_)<;>first|(exfalso;omega)|conv=>whnf)|(refine Br.b (fun _=>?_) (fun _=>?_)<;>conv=>whnf))
  ·exact RetK.tup2 (by unfold BN;rw [e];simp [*]) (Sub.tt (by unfold BN;rw [e];simp [*]))
  ·exact RetK.tup2 (by unfold BN;rw [e];simp [*]) (Sub.ff (by unfold BN;rw [e];simp [*]))
theorem YA (l:List RI) (id:Int):SpecP Tryz.prog 207 [JF l,.int .i64 id] (fun r=>r = .tup [.int .i64 (x5v l.reverse id).1,.bool (x5v l.reverse id).2]):=by
 refine SpecP.body FD QQ Tryz.func207 rfl Tryz.call207 (by show 2≤_;decide) ?_
 conv=>whnf
 intro (_:_≤9223372036854775807)
 have hLl:=WJ l
 conv=>whnf
 repeat' (refine Wr.i64 (by omega) (by omega) ?_;conv=>whnf)
 refine LoopK.inv QQ (fun n:Nat=>⟨[(0,.p (JF l)),(1,.p (.int .i64 id)),(6,.p (.int .i64 ((n:Int)-1)))],[]⟩) (fun n=>n≤l.length∧x5v (l.take n).reverse id=x5v l.reverse id) (fun n=>n) l.length (Le.of_eq (by rw [hLl])) ⟨Nat.le_refl _,by rw [List.take_length]⟩ ?_
 rintro n ⟨h2,h3⟩
 cases n with
 | zero =>
   rw [← h3]
   conv=>whnf
   repeat' (refine Br.dec (fun _=>?_) (fun _=>?_)<;>first|(exfalso;omega)|conv=>whnf)
   exact RetK.tup2 rfl (Sub.ff rfl)
 | succ n =>
   have hn:n<l.length:=by omega
   have hst:=x3l hn id
   have e1:((n+1:Nat):Int)-1=(n:Nat):=by omega
   rw [e1]
   conv=>whnf
   repeat' (first|((first|refine IdxK.map (by omega) (fun _=>rfl) ?_|refine Wr.eq (m:=(n:Int)-1) rfl (by omega) (by omega) ?_);conv=>whnf)|(refine Br.dec (fun _=>?_) (fun _=>?_)<;>first|(exfalso;omega)|conv=>whnf)|(refine Br.dec2 (fun _=>?_) (fun _=>?_)<;>first|(exfalso;omega)|conv=>whnf))
   rotate_left 1
   ·rw [if_neg (by assumption)] at hst
    exact ⟨n,⟨by omega,by rw [← hst];exact h3⟩,by omega,Le.of_eq rfl⟩
   rw [if_pos (by omega)] at hst
   refine LoopK.inv QQ (fun x:Nat×Int=>⟨[(0,.p (JF l)),(1,.p (.int .i64 id)),(6,.p (.int .i64 n)),(7,.p (.int .i64 x.2)),(8,.p (.int .i64 ((x.1:Int)-1)))],[]⟩) (fun x=>x.1≤n∧KY (l.take x.1).reverse x.2=KY (l.take n).reverse l[n].inn) (fun x=>x.1) (n,l[n].inn) (Le.of_eq rfl) ⟨Nat.le_refl _,rfl⟩ ?_
   rintro ⟨m,i⟩ ⟨h4,h5⟩
   simp only at h4 h5 ⊢
   cases m with
   | zero =>
     have e:KY (l.take 0).reverse i=(0,false):=rfl
     rw [e] at h5
     rw [← h5,if_neg (by decide)] at hst
     conv=>whnf
     repeat' (first|(refine Wr.eq (m:=(n:Int)-1) rfl (by omega) (by omega) ?_;conv=>whnf)|(refine Br.dec (fun _=>?_) (fun _=>?_)<;>first|(exfalso;omega)|conv=>whnf))
     exact ⟨n,⟨by omega,by rw [← hst];exact h3⟩,by omega,Le.of_eq rfl⟩
   | succ m =>
     have hm:m<l.length:=by omega
     have hs2:=z0j hm i
     have e2:((m+1:Nat):Int)-1=(m:Nat):=by omega
     rw [e2]
     conv=>whnf
     repeat' (first|((first|refine IdxK.map (by omega) (fun _=>rfl) ?_|refine Wr.eq (m:=(n:Int)-1) rfl (by omega) (by omega) ?_|refine Wr.eq (m:=(m:Int)-1) rfl (by omega) (by omega) ?_);conv=>whnf)|(refine Br.dec (fun _=>?_) (fun _=>?_)<;>first|(exfalso;omega)|conv=>whnf)|(refine Br.dec2 (fun _=>?_) (fun _=>?_)<;>first|(exfalso;omega)|conv=>whnf))
     all_goals first
      | (rw [if_pos (by omega)] at hs2
         rw [hs2] at h5
         rw [← h5,if_neg (by decide)] at hst
         exact ⟨n,⟨by omega,by rw [← hst];exact h3⟩,by omega,Le.of_eq rfl⟩)
      | (rw [if_neg (by assumption),if_neg (by assumption)] at hs2
         exact ⟨(m,i),⟨by simp only;omega,by rw [← hs2];exact h5⟩,by simp only;omega,Le.of_eq rfl⟩)
      | (rw [if_neg (by assumption),if_pos (by omega),if_pos (by assumption)] at hs2
         rw [hs2] at h5
         rw [← h5,if_pos rfl] at hst
         rw [← h3,hst]
         exact RetK.tup2 rfl (Sub.tt rfl))
      | (rw [if_neg (by assumption),if_pos (by omega),if_neg (by assumption)] at hs2
         exact ⟨(m,l[m].inn),⟨by simp only;omega,by rw [← hs2];exact h5⟩,by simp only;omega,Le.of_eq rfl⟩)
      | trace_state
def pureL:LV→LV
 | .p a => .p a
 | _ => .p .any
def z1y:List (Nat×LV)→List (Nat×LV)
 | []=>[]
 | (j,l)::r=>(j,pureL l)::z1y r
theorem x2z : ∀ (sl:List (Nat×LV)) (i:Nat),getS (z1y sl) i=pureL (getS sl i)
 | [],i=>rfl
 | (j,l)::r,i=>by
   rw [z1y,getS,getS]
   cases j==i with
   | true=>rfl
   | false=>exact x2z r i
theorem CallK.give {P:Program} {N:Nat} {g:FuncId} {args:List LV} {dst:Option Nat} {s:St} {K:St→Prop} {avs:List AV} {R:AV→Prop} (hs:SpecP P g avs R) (ha:FrzL s.H args avs)
  (h : ∀ c,R c→setD N (z1y s.sl) dst (.p c) fun sl=>K ⟨sl,[]⟩):CallK P N g args dst s K:=by
 refine ⟨fun σ β a w hr vals hn hv=>⟨hs.go vals,?_⟩⟩
 obtain ⟨hlen,hget⟩:=ha.get
 obtain ⟨τ,h5,h6,h7,h8⟩:=q3i hr.heap
 refine (hs.ok τ w vals (hn.trans hlen) (fun j c hj => ?_) h6).mono fun e w' ⟨c,u,σ',he,hR,hrep,hle,hl,hf,hnew⟩ => ?_
 ·obtain ⟨l,h1,h2⟩:=hget j c hj
  exact h8 l _ c (hv j l h1) h2
 ·have hr':Rel N σ' β ⟨z1y s.sl,[]⟩ a w':=⟨hr.size,hr.defers,fun i=>by
   show RepL σ' β (getS (z1y s.sl) i) _
   rw [x2z]
   have:=hr.slots i
   generalize getS s.sl i=l at this ⊢
   cases l with
   | p x=>exact this.mono (Mem.le_trans h5 hle)
   | _=>exact .p (.any _),⟨hl,fun k c h=>(by cases h),List.nodup_nil,fun k h=>(by cases h),fun k h=>(by cases h)⟩⟩
  obtain ⟨sl,hK,hr''⟩:=hr'.setD (.p hrep) (h c hR)
  refine ⟨u,σ',β,_,he,hK,hr'',Mem.le_trans h5 hle,⟨hf.os,hf.tape,hf.output,hf.drawn,hf.size,fun b hb _=>hf.block b hb id⟩,fun b h0 h1 => ?_,fun b ⟨j,hj,_⟩=>(by cases hj),fun _ _ _=>rfl⟩
  by_cases h2:τ b=none
  ·exact .inr (hnew b h2 h1)
  ·rcases h7 b h2 with h3|h3
   ·exact absurd h0 h3
   ·exact .inl h3
open Go.Proofs
theorem WC (l:List Str) (hl:l.length≤1000000000):SpecP Tryz.prog 99 [QH l] (fun r=>r=QH (q6l l)):=by
 refine SpecP.body FN QQ Tryz.func99 rfl Tryz.call99 (by show 1≤_;decide) ?_
 conv=>whnf
 intro (_:_≤9223372036854775807)
 have hll:(l.map AV.str).length=l.length:=List.length_map _
 conv=>whnf
 refine LoopK.inv QQ (fun x:Nat×List Str=>⟨[(0,.p (QH l)),(3,.hd 0 0 x.2.length),(9,.p (.int .i64 (l.map AV.str).length)),(10,.p (.int .i64 x.1))],[(0,.own 9 1 (x.2.map .str))]⟩) (fun x=>x.1≤l.length∧RiseI ltT l x.2 x.1) (fun x=>l.length-x.1) (0,[])
  (Le.mk [(0,.own 9 1 [])] (by simp [Chunk.new0];rfl) (by simp) (by simp) (.cons (.refl _) (.cons (.nil List.mem_cons_self) (.cons (.refl _) (.cons (.refl _) .nil)))) (.new List.mem_cons_self .nil)) ⟨Nat.zero_le _,RiseI.zero⟩ ?_
 rintro ⟨i,out⟩ ⟨h2,h3⟩
 simp only at h2 h3 ⊢
 have hol:=h3.len ltT.irr
 rcases Nat.lt_or_ge i l.length with hi|hi
 ·conv=>whnf
  repeat' (first|(intro (_:_≤9223372036854775807);conv=>whnf)|(refine Br.dec (fun _=>?_) (fun _=>?_)<;>first|(exfalso;omega)|conv=>whnf))
  refine LoopK.inv QQ (fun x:Nat×Option Str=>⟨[(0,.p (QH l)),(3,.hd 0 0 out.length),(4,.p (.str (x.2.getD []))),(5,.p (.bool x.2.isSome)),(9,.p (.int .i64 (l.map AV.str).length)),(10,.p (.int .i64 i)),(12,.p (QH l)),(13,.p (.int .i64 (l.map AV.str).length)),(14,.p (.int .i64 x.1))],[(0,.own 9 1 (out.map .str))]⟩) (fun x=>x.1≤l.length∧LeastI ltT l out x.1 x.2) (fun x=>l.length-x.1) (0,none) (Le.mk [] (by simp) (by simp) (by simp) (.cons (.refl _) (.cons (.refl _) (.cons (.refl _) (.cons (.p (Sub.ff rfl)) (.cons (.refl _) (.cons (.refl _) (.cons (.refl _) (.cons (.refl _) (.cons (.refl _) .nil))))))))) (.cons rfl (.refl _) .nil)) ⟨Nat.zero_le _,LeastI.zero⟩ ?_
  rintro ⟨k,o⟩ ⟨h4,h5⟩
  simp only at h4 h5 ⊢
  rcases Nat.lt_or_ge k l.length with hk|hk
  ·have hin:inS out l[k]=true→l[k]∈out:=x5d.1
   have hno:inS out l[k]=false→l[k]∉out:=fun h hm=>by rw [x5d.2 hm] at h;cases h
   cases o with
   | none =>
     simp only [Option.getD_none,Option.isSome_none]
     conv=>whnf
     repeat' (first|((first|refine IdxK.map (by omega) (fun _=>rfl) ?_|refine Wr.i64 (by omega) (by omega) ?_|(refine CallK.borrow (QM out (l[k]'hk)) (.cons (.hd rfl (by simp)) (.cons (.p (Sub.refl _)) .nil)) (by rintro _ rfl;rfl) ?_;rintro _ rfl));conv=>whnf)|(refine Br.dec (fun _=>?_) (fun _=>?_)<;>first|(exfalso;omega)|conv=>whnf)|(refine Br.n (fun _=>?_) (fun _=>?_)<;>conv=>whnf)|(refine Br.b (fun _=>?_) (fun _=>?_)<;>conv=>whnf))
     all_goals first
      | (exfalso;simp_all;done)
      | exact ⟨(k+1,none),⟨by simp only;omega,h5.old hk (hin (by assumption))⟩,by simp only;omega,Le.of_eq rfl⟩
      | exact ⟨(k+1,some l[k]),⟨by simp only;omega,h5.first hk (hno (by assumption))⟩,by simp only;omega,(Le.mk [] (by simp) (by simp) (by simp) (.cons (.refl _) (.cons (.refl _) (.cons (.refl _) (.cons (.p (Sub.tt rfl)) (.cons (.refl _) (.cons (.refl _) (.cons (.refl _) (.cons (.refl _) (.cons (.refl _) .nil))))))))) (.cons rfl (.refl _) .nil))⟩
   | some m =>
     simp only [Option.getD_some,Option.isSome_some]
     conv=>whnf
     repeat' (first|((first|refine IdxK.map (by omega) (fun _=>rfl) ?_|refine Wr.i64 (by omega) (by omega) ?_|(refine CallK.borrow (QM out (l[k]'hk)) (.cons (.hd rfl (by simp)) (.cons (.p (Sub.refl _)) .nil)) (by rintro _ rfl;rfl) ?_;rintro _ rfl));conv=>whnf)|(refine Br.dec (fun _=>?_) (fun _=>?_)<;>first|(exfalso;omega)|conv=>whnf)|(refine Br.n (fun _=>?_) (fun _=>?_)<;>conv=>whnf)|(refine Br.b (fun _=>?_) (fun _=>?_)<;>conv=>whnf))
     all_goals first
      | (exfalso;simp_all;done)
      | exact ⟨(k+1,some m),⟨by simp only;omega,h5.old hk (hin (by assumption))⟩,by simp only;omega,Le.of_eq rfl⟩
      | exact ⟨(k+1,some l[k]),⟨by simp only;omega,h5.less ltT.trans hk (hno (by assumption)) (by assumption)⟩,by simp only;omega,(Le.mk [] (by simp) (by simp) (by simp) (.cons (.refl _) (.cons (.refl _) (.cons (.refl _) (.cons (.p (Sub.tt rfl)) (.cons (.refl _) (.cons (.refl _) (.cons (.refl _) (.cons (.refl _) (.cons (.refl _) .nil))))))))) (.cons rfl (.refl _) .nil))⟩
      | (have hb:Op.bytesLess l[k] m=false:=by assumption
         exact ⟨(k+1,some m),⟨by simp only;omega,h5.more (fun _ _=>ltT.total) hk (fun h=>by unfold ltT at h;rw [hb] at h;cases h)⟩,by simp only;omega,Le.of_eq rfl⟩)
  ·obtain rfl:k=l.length:=by omega
   cases o with
   | none =>
     simp only [Option.getD_none,Option.isSome_none]
     conv=>whnf
     repeat' (first|((first|refine And.intro rfl ?_|(refine And.intro ⟨by decide,by decide⟩ ?_)|refine BsK.pure (fun x hx=>by rcases List.mem_singleton.1 hx with rfl;rfl) rfl ?_|refine Wr.i64 (by omega) (by omega) ?_);conv=>whnf)|(refine Br.dec (fun _=>?_) (fun _=>?_)<;>first|(exfalso;omega)|conv=>whnf)|(refine Br.b (fun _=>?_) (fun _=>?_)<;>conv=>whnf))
     all_goals first
      | (exfalso;simp_all;done)
      | exact ⟨(i+1,out),⟨by simp only;omega,h3.stay h5⟩,by simp only;omega,Le.of_eq rfl⟩
   | some m =>
     simp only [Option.getD_some,Option.isSome_some]
     conv=>whnf
     repeat' (first|((first|refine And.intro rfl ?_|(refine And.intro ⟨by decide,by decide⟩ ?_)|refine BsK.pure (fun x hx=>by rcases List.mem_singleton.1 hx with rfl;rfl) rfl ?_|refine Wr.i64 (by omega) (by omega) ?_|refine AppK.str1 (by simp) (by simp;omega) ?_);conv=>whnf)|(refine Br.dec (fun _=>?_) (fun _=>?_)<;>first|(exfalso;omega)|conv=>whnf)|(refine Br.b (fun _=>?_) (fun _=>?_)<;>conv=>whnf))
     all_goals first
      | (exfalso;simp_all;done)
      | exact ⟨(i+1,out++[m]),⟨by simp only;omega,h3.snoc h5⟩,by simp only;omega,Le.of_eq (by simp only [List.length_append,List.map_append];rfl)⟩
 ·obtain ⟨h6,h7⟩:=h3.all ltT.irr (by omega)
  rw [← x8s h6 h7]
  conv=>whnf
  repeat' (refine Br.dec (fun _=>?_) (fun _=>?_)<;>first|(exfalso;omega)|conv=>whnf)
  exact ⟨_,.hd rfl (by simp),rfl⟩
def q2j (f:Pr):List Str:=((WS f).filter fun x=>decide (x.s.kind=4)).map fun x=>x.s.proc
theorem x9a (f:Pr):(q2j f).length≤201:=by
 unfold q2j
 rw [List.length_map]
 exact Nat.le_trans (List.length_filter_le _ _) (KM f)
theorem MJ (p:Pg) (n:Str):SpecP Tryz.prog 323 [.agg p.cells,.str n] (fun r=>r=QH (q6l (q2j (VS p n).1))):=by
 refine SpecP.body DB QQ Tryz.func323 rfl Tryz.call323 (by show 2≤_;decide) ?_
 conv=>whnf
 have hN:=ZS p n
 generalize (VS p n).2=ok at *
 generalize (VS p n).1=f at *
 have hF:=XZ f
 have hcl:=x9a f
 have hrl:=KM f
 have hcu:q2j f=((WS f).filter fun x=>decide (x.s.kind=4)).map fun x=>x.s.proc:=rfl
 have hS:=WC (q2j f) (by omega)
 generalize q2j f=C at *
 generalize WS f=L at *
 have hLl:=WJ L
 repeat' ((first|intro (_:_≤9223372036854775807)|refine And.intro rfl ?_|(refine CallK.pure hN (.cons (Sub.refl _) (.cons (Sub.refl _) .nil)) ?_;rintro _ rfl)|(refine CallK.pure hF (.cons (Sub.refl _) .nil) ?_;rintro _ rfl));conv=>whnf)
 refine LoopK.inv QQ (fun x:Nat×List Str=>⟨[(7,.hd 0 0 x.2.length),(17,.p (JF L)),(18,.p (.int .i64 (L.map fun i=>AV.agg i.cells).length)),(19,.p (.int .i64 x.1))],[(0,.own 9 1 (x.2.map .str))]⟩) (fun x=>x.1≤L.length∧x.2=((L.take x.1).filter fun x=>decide (x.s.kind=4)).map (fun x=>x.s.proc)∧x.2.length≤x.1) (fun x=>L.length-x.1) (0,[])
  (Le.mk [(0,.own 9 1 [])] (by simp [Chunk.new0];rfl) (by simp) (by simp) (.cons (.nil List.mem_cons_self) (.cons (.refl _) (.cons (.refl _) (.cons (.refl _) .nil)))) (.new List.mem_cons_self .nil)) ⟨Nat.zero_le _,by simp,by simp⟩ ?_
 rintro ⟨j,acc⟩ ⟨h2,h3,h4⟩
 simp only at h2 h3 h4 ⊢
 rcases Nat.lt_or_ge j L.length with hj|hj
 ·have h6:=List.take_succ_eq_append_getElem hj
  conv=>whnf
  repeat' (first|((first|refine And.intro rfl ?_|(refine And.intro ⟨by decide,by decide⟩ ?_)|refine BsK.pure (fun x hx=>by rcases List.mem_singleton.1 hx with rfl;rfl) rfl ?_|refine IdxK.map (by omega) (fun _=>rfl) ?_|refine Wr.i64 (by omega) (by omega) ?_|refine AppK.str1 (by simp) (by simp;omega) ?_);conv=>whnf)|(refine Br.dec (fun _=>?_) (fun _=>?_)<;>first|(exfalso;omega)|conv=>whnf))
  all_goals first
   | exact ⟨(j+1,acc++[L[j].s.proc]),⟨by simp only;omega,by simp only;rw [h6,List.filter_append,List.map_append,← h3];congr 1;rw [List.filter_cons_of_pos (by simp;assumption)];rfl,by simp;omega⟩,by simp only;omega,Le.of_eq (by simp only [List.length_append,List.map_append];rfl)⟩
   | exact ⟨(j+1,acc),⟨by simp only;omega,by simp only;rw [h6,List.filter_append,List.map_append,← h3,List.filter_cons_of_neg (by simp;assumption)];simp,by simp only;omega⟩,by simp only;omega,Le.of_eq rfl⟩
 ·rw [List.take_of_length_le hj,← hcu] at h3
  subst h3
  conv=>whnf
  repeat' (first|(refine CallK.give hS (.cons (.hd rfl (by simp)) .nil) ?_;rintro _ rfl;conv=>whnf)|(refine Br.dec (fun _=>?_) (fun _=>?_)<;>first|(exfalso;omega)|conv=>whnf))
  exact RetK.p rfl
theorem z3r {p:Pg} (hm:VX p=true) {f:Pr} (hf:f∈p.procs):q6l (q2j f)=VE f:=by
 unfold q2j VE JY q6l
 rw [JP hm hf,← show (flatU f).map RI.s=flL f.body from BH 1 0 false f.body,List.filter_map,List.map_map]
 rfl
theorem x7o {p:Pg} {k:Nat} (hk:k<p.procs.length) {n:Str} (h:p.procs.find? (fun f=>f.name==n)=some p.procs[k]):VS p n=(p.procs[k],true):=by
 unfold VS
 rw [h]
theorem z6w {p:Pg} (hm:VX p=true) {k:Nat} (hk:k<p.procs.length) {n:Str} (h:p.procs.find? (fun f=>f.name==n)=some p.procs[k]):SpecP Tryz.prog 323 [.agg p.cells,.str n] (fun r=>r=QH (VE p.procs[k])):=by
 have:=MJ p n
 rw [x7o hk h,z3r hm (List.getElem_mem hk)] at this
 exact this
theorem NV (p:Pg) (n:Str) (hs:(QN p).1=0) (hn:n∈procsN p):SpecP Tryz.prog 313 [.agg p.cells,.str n] (fun r=>r=QH (z1t p n)):=by
 refine SpecP.body DW QQ Tryz.func313 rfl Tryz.call313 (by show 2≤_;decide) ?_
 conv=>whnf
 obtain ⟨hm,hb,hns⟩:=WT hs
 obtain ⟨hg,hpl,hcn⟩:=XS hm
 have hnl:(procsN p).length=p.procs.length:=by simp [procsN]
 repeat' ((first|refine And.intro rfl ?_|(refine And.intro ⟨by decide,by decide⟩ ?_)|refine BsK.own (fun x hx=>by rcases List.mem_singleton.1 hx with rfl;rfl) rfl ?_);conv=>whnf)
 refine LoopK.inv QQ (fun i:Nat×List Str=>⟨[(2,.p (.ip p.cells)),(5,.hd 0 0 i.2.length),(6,.p (.int .i64 i.1))],[(0,.own 9 1 (i.2.map .str))]⟩)
  (fun i=>i.1≤i.2.length∧i.2.Nodup∧(∀ s∈i.2,s∈procsN p)∧WM p (p.procs.length+1-i.1) i.1 i.2=WM p (p.procs.length+1) 0 [n]) (fun i=>p.procs.length+1-i.1) (0,[n])
  (Le.of_eq rfl) ⟨Nat.zero_le _,by simp,by simpa using hn,rfl⟩ ?_
 rintro ⟨j,out⟩ ⟨h2,h3,h4,h5⟩
 simp only at h2 h3 h4 h5 ⊢
 have hol:=q9t h3 h4
 rcases Nat.lt_or_ge j out.length with hj|hj
 ·obtain ⟨k,hk,hik,hfk,hnk⟩:=ND (h4 _ (List.getElem_mem hj))
  have hcl:=q8h p.procs[k]
  have hcc:QY p.procs[k].body≤200:=by
   have:=(QG p).2.2.2.2 k p.procs[k] (by simp)
   omega
  have hC:=z6w hm hk hfk
  have g:(out.map AV.str)[j]? = some (.str out[j]):=by simp [hj]
  conv=>whnf
  repeat' (first|((first|intro (_:_≤9223372036854775807)|refine DrawK.auto QQ mixed (by kernel_rfl) ?_|refine And.intro rfl ?_|refine IdxL.mk j rfl hj ?_|refine LdOwn.mk j 0 (.str out[j]) (by omega) g ?_|(refine CallK.pure hC (.cons (Sub.refl _) (.cons (Sub.refl _) .nil)) ?_;rintro _ rfl));conv=>whnf)|(refine Br.dec (fun _=>?_) (fun _=>?_)<;>first|(exfalso;omega)|conv=>whnf))
  have hkn : ∀ s∈VE p.procs[k],s∈procsN p:=fun s h=>FR hs (List.getElem_mem hk) h
  have hcN:=x3q hk hfk
  have hre:WM p (p.procs.length+1-j) j out=WM p (p.procs.length+1-(j+1)) (j+1) (WY out (VE p.procs[k])):=by
   rw [show p.procs.length+1-j=(p.procs.length+1-(j+1))+1 by omega,WM,List.getElem?_eq_getElem hj]
   simp only
   rw [hcN]
  rw [hre] at h5
  obtain ⟨hi1,hi2,rr,hi3⟩:=KN (VE p.procs[k]) h3 h4 hkn
  generalize VE p.procs[k]=cs at hkn h5 hi1 hi2 hi3 hcl ⊢
  have hcsl:(cs.map AV.str).length=cs.length:=List.length_map _
  refine LoopK.inv QQ (fun i:Nat×List Str=>⟨[(2,.p (.ip p.cells)),(5,.hd 0 0 i.2.length),(6,.p (.int .i64 j)),(22,.p (QH cs)),(23,.p (.int .i64 (cs.map AV.str).length)),(24,.p (.int .i64 i.1))],[(0,.own 9 1 (i.2.map .str))]⟩)
   (fun i=>i.1≤cs.length∧i.2.length≤out.length+i.1∧WY i.2 (cs.drop i.1)=WY out cs) (fun i=>cs.length-i.1) (0,out)
   (Le.of_eq rfl) ⟨Nat.zero_le _,by simp,rfl⟩ ?_
  rintro ⟨m,acc⟩ ⟨h6,h7,h8⟩
  simp only at h6 h7 h8 ⊢
  rcases Nat.lt_or_ge m cs.length with hm'|hm'
  ·have hst:=PP (out:=acc) hm'
   rw [← q2h] at hst
   conv=>whnf
   repeat' (first|((first|refine And.intro rfl ?_|(refine And.intro ⟨by decide,by decide⟩ ?_)|refine BsK.pure (fun x hx=>by rcases List.mem_singleton.1 hx with rfl;rfl) rfl ?_|refine IdxK.map (by omega) (fun _=>rfl) ?_|refine Wr.i64 (by omega) (by omega) ?_|(refine CallK.borrow (QM acc (cs[m]'hm')) (.cons (.hd rfl (by simp)) (.cons (.p (Sub.refl _)) .nil)) (by rintro _ rfl;rfl) ?_;rintro _ rfl)|refine AppK.str1 (by simp) (by simp;omega) ?_);conv=>whnf)|(refine Br.dec (fun _=>?_) (fun _=>?_)<;>first|(exfalso;omega)|conv=>whnf)|(refine Br.n (fun _=>?_) (fun _=>?_)<;>conv=>whnf))
   all_goals first
    | exact ⟨(m+1,acc),⟨by simp only;omega,by simp only;omega,by simp only;rw [← h8,hst,if_pos (by assumption)]⟩,by simp only;omega,Le.of_eq rfl⟩
    | exact ⟨(m+1,acc++[cs[m]]),⟨by simp only;omega,by simp;omega,by simp only;rw [← h8,hst,if_neg (by simp [*])]⟩,by simp only;omega,Le.of_eq (by simp only [List.length_append,List.map_append];rfl)⟩
  ·rw [List.drop_eq_nil_of_le hm',WY] at h8
   subst h8
   have hjl:j<(WY out cs).length:=by rw [hi3,List.length_append];omega
   conv=>whnf
   repeat' (first|(refine Wr.i64 (by omega) (by omega) ?_;conv=>whnf)|(refine Br.dec (fun _=>?_) (fun _=>?_)<;>first|(exfalso;omega)|conv=>whnf))
   all_goals exact ⟨(j+1,WY out cs),⟨by simp only;omega,hi1,hi2,h5⟩,by simp only;omega,Le.of_eq rfl⟩
 ·have hend:out=WM p (p.procs.length+1) 0 [n]:=by
   rw [← h5]
   cases hfu:p.procs.length+1-j with
   | zero=>rw [WM]
   | succ q=>rw [WM,List.getElem?_eq_none hj]
  have hall:q6l out=z1t p n:=by
   unfold z1t
   rw [← hend,x7q h3]
  have hS:=WC out (by omega)
  rw [hall] at hS
  conv=>whnf
  repeat' (first|((first|intro (_:_≤9223372036854775807)|(refine CallK.give hS (.cons (.hd rfl (by simp)) .nil) ?_;rintro _ rfl));conv=>whnf)|(refine Br.dec (fun _=>?_) (fun _=>?_)<;>first|(exfalso;omega)|conv=>whnf))
  all_goals exact RetK.p rfl
open Go.Proofs
theorem z6j (p:Pg) (t:S):q7k p t=(ZT t).filter fun v=>inS p.globals v:=by
 unfold q7k
 congr 1
 funext v
 exact (q2h _ _).symm
theorem DE (p:Pg) (hf:Fit p) (hs:(QN p).1=0) (n:Str) (hn:n∈procsN p):SpecP Tryz.prog 298 [.agg p.cells,.str n] (fun r=>r=QH (UZ p n)):=by
 refine SpecP.body HH QQ Tryz.func298 rfl Tryz.call298 (by show 2≤_;decide) ?_
 conv=>whnf
 obtain ⟨hm,hb,hns⟩:=WT hs
 obtain ⟨hg,hpl,hcn⟩:=XS hm
 obtain ⟨hal,hak⟩:=x9g hs hn
 have hC:=NV p n hs hn
 have hgl:UZ p n=q6l (UQ p n):=rfl
 have hgr:UQ p n=(z1t p n).flatMap (q0j p):=rfl
 rw [hgl]
 generalize z1t p n=ns at hal hak hgr hC ⊢
 have hnl:(ns.map AV.str).length=ns.length:=List.length_map _
 repeat' ((first|intro (_:_≤9223372036854775807)|(refine CallK.pure hC (.cons (Sub.refl _) (.cons (Sub.refl _) .nil)) ?_;rintro _ rfl));conv=>whnf)
 refine LoopK.inv QQ (fun i:Nat×List Str=>⟨[(2,.p (.ip p.cells)),(5,.hd 0 0 i.2.length),(16,.p (QH ns)),(17,.p (.int .i64 (ns.map AV.str).length)),(18,.p (.int .i64 i.1))],[(0,.own 9 1 (i.2.map .str))]⟩)
  (fun i=>i.1≤ns.length∧i.2.length≤4020000*i.1∧i.2++(ns.drop i.1).flatMap (q0j p)=UQ p n) (fun i=>ns.length-i.1) (0,[])
  (Le.mk [(0,.own 9 1 [])] (by simp [Chunk.new0];rfl) (by simp) (by simp) (.cons (.refl _) (.cons (.nil List.mem_cons_self) (.cons (.refl _) (.cons (.refl _) (.cons (.refl _) .nil))))) (.new List.mem_cons_self .nil))
  ⟨Nat.zero_le _,by simp,by rw [hgr];rfl⟩ ?_
 rintro ⟨j,acc⟩ ⟨h2,h3,h4⟩
 simp only at h2 h3 h4 ⊢
 rcases Nat.lt_or_ge j ns.length with hj|hj
 rotate_left 1
 ·have hacc:acc=UQ p n:=by
   rw [List.drop_eq_nil_of_le hj] at h4
   simpa using h4
  have hS:=WC acc (by omega)
  rw [← hacc]
  conv=>whnf
  repeat' (first|(refine CallK.give hS (.cons (.hd rfl (by simp)) .nil) ?_;rintro _ rfl;conv=>whnf)|(refine Br.dec (fun _=>?_) (fun _=>?_)<;>first|(exfalso;omega)|conv=>whnf))
  all_goals exact RetK.p rfl
 obtain ⟨k,hk,hik,hfk,hnk⟩:=ND (hak _ (List.getElem_mem hj))
 have hgn:q0j p ns[j]=(flL p.procs[k].body).flatMap (q7k p):=by unfold q0j;rw [hfk]
 rw [VU hj,hgn] at h4
 have hfp:=hf.pr (List.getElem_mem hk)
 have hN:=ZS p ns[j]
 rw [x7o hk hfk] at hN
 have hF:=XZ p.procs[k]
 have hmap:(WS p.procs[k]).map RI.s=flL p.procs[k].body:=by rw [JP hm (List.getElem_mem hk)];exact BH 1 0 false _
 have hrl:=KM p.procs[k]
 have hargs : ∀ x∈WS p.procs[k],wS x.s≤20000:=fun x hx=>by
  have hmm:x.s∈flL p.procs[k].body:=by
   rw [← hmap]
   exact List.mem_map.2 ⟨_,hx,rfl⟩
  have:=q4k _ _ hmm
  unfold wPr at hfp
  omega
 rw [← hmap] at h4
 generalize WS p.procs[k]=its at hargs hrl h4 hF
 have hil:=WJ its
 conv=>whnf
 repeat' (first|((first|intro (_:_≤9223372036854775807)|refine And.intro rfl ?_|refine IdxK.map (by omega) (fun _=>rfl) ?_|(refine CallK.pure hN (.cons (Sub.refl _) (.cons (Sub.refl _) .nil)) ?_;rintro _ rfl)|(refine CallK.pure hF (.cons (Sub.refl _) .nil) ?_;rintro _ rfl));conv=>whnf)|(refine Br.dec (fun _=>?_) (fun _=>?_)<;>first|(exfalso;omega)|conv=>whnf))
 refine LoopK.inv QQ (fun i:Nat×List Str=>⟨[(2,.p (.ip p.cells)),(5,.hd 0 0 i.2.length),(16,.p (QH ns)),(17,.p (.int .i64 (ns.map AV.str).length)),(18,.p (.int .i64 j)),(29,.p (JF its)),(30,.p (.int .i64 (its.map fun i=>AV.agg i.cells).length)),(31,.p (.int .i64 i.1))],[(0,.own 9 1 (i.2.map .str))]⟩)
  (fun i=>i.1≤its.length∧i.2.length≤acc.length+20000*i.1∧i.2++(((its.drop i.1).map RI.s).flatMap (q7k p)++(ns.drop (j+1)).flatMap (q0j p))=UQ p n) (fun i=>its.length-i.1) (0,acc)
  (Le.of_eq rfl) ⟨Nat.zero_le _,by simp,h4⟩ ?_
 rintro ⟨m,acc2⟩ ⟨h6,h7,h8⟩
 simp only at h6 h7 h8 ⊢
 rcases Nat.lt_or_ge m its.length with hm'|hm'
 rotate_left 1
 ·rw [List.drop_eq_nil_of_le hm'] at h8
  conv=>whnf
  repeat' (first|(refine Wr.i64 (by omega) (by omega) ?_;conv=>whnf)|(refine Br.dec (fun _=>?_) (fun _=>?_)<;>first|(exfalso;omega)|conv=>whnf))
  exact ⟨(j+1,acc2),⟨by simp only;omega,by simp only;omega,by simpa using h8⟩,by simp only;omega,Le.of_eq rfl⟩
 have hw:=hargs _ (List.getElem_mem hm')
 have hna:its[m].s.args.length≤20000:=by
  have:=x0a its[m].s
  have:=YN its[m].s.args
  omega
 have hnw:=x9d its[m].s
 rw [List.drop_eq_getElem_cons hm',List.map_cons,List.flatMap_cons,List.append_assoc] at h8
 have hgt:=z6j p its[m].s
 have hSd:=KE its[m].s hna
 rw [hgt] at h8
 generalize ZT its[m].s=vs at hnw h8 hSd
 have hvl:(vs.map AV.str).length=vs.length:=List.length_map _
 conv=>whnf
 repeat' (first|((first|intro (_:_≤9223372036854775807)|refine And.intro rfl ?_|refine IdxK.map (by omega) (fun _=>rfl) ?_|(refine CallK.pure hSd (.cons (Sub.refl _) .nil) ?_;rintro _ rfl));conv=>whnf)|(refine Br.dec (fun _=>?_) (fun _=>?_)<;>first|(exfalso;omega)|conv=>whnf))
 refine LoopK.inv QQ (fun i:Nat×List Str=>⟨[(2,.p (.ip p.cells)),(5,.hd 0 0 i.2.length),(16,.p (QH ns)),(17,.p (.int .i64 (ns.map AV.str).length)),(18,.p (.int .i64 j)),(29,.p (JF its)),(30,.p (.int .i64 (its.map fun i=>AV.agg i.cells).length)),(31,.p (.int .i64 m)),(37,.p (QH vs)),(38,.p (.int .i64 (vs.map AV.str).length)),(39,.p (.int .i64 i.1))],[(0,.own 9 1 (i.2.map .str))]⟩)
  (fun i=>i.1≤vs.length∧i.2.length≤acc2.length+i.1∧i.2++((vs.drop i.1).filter (fun v=>inS p.globals v)++(((its.drop (m+1)).map RI.s).flatMap (q7k p)++(ns.drop (j+1)).flatMap (q0j p)))=UQ p n) (fun i=>vs.length-i.1) (0,acc2)
  (Le.of_eq rfl) ⟨Nat.zero_le _,by simp,h8⟩ ?_
 rintro ⟨q,acc3⟩ ⟨h9,h10,h11⟩
 simp only at h9 h10 h11 ⊢
 rcases Nat.lt_or_ge q vs.length with hq|hq
 ·rw [List.drop_eq_getElem_cons hq,List.filter_cons] at h11
  conv=>whnf
  repeat' (first|((first|(refine CallK.pure (QM _ _) (by repeat' (first|exact ArgP.nil|refine ArgP.cons ?_ ?_|exact Sub.refl _|exact Sub.tt rfl|exact Sub.ff rfl)) ?_;rintro _ rfl)|refine And.intro rfl ?_|(refine And.intro ⟨by decide,by decide⟩ ?_)|refine BsK.pure (fun x hx=>by rcases List.mem_singleton.1 hx with rfl;rfl) rfl ?_|refine IdxK.map (by omega) (fun _=>rfl) ?_|refine Wr.i64 (by omega) (by omega) ?_|refine AppK.str1 (by simp) (by simp;omega) ?_);conv=>whnf)|(refine Br.dec (fun _=>?_) (fun _=>?_)<;>first|(exfalso;omega)|conv=>whnf)|(refine Br.b (fun _=>?_) (fun _=>?_)<;>conv=>whnf))
  ·exact ⟨(q+1,acc3++[vs[q]]),⟨by simp only;omega,by simp;omega,by rw [if_pos (by assumption)] at h11;simpa using h11⟩,by simp only;omega,Le.of_eq (by simp only [List.length_append,List.map_append];rfl)⟩
  ·exact ⟨(q+1,acc3),⟨by simp only;omega,by simp only;omega,by rw [if_neg (by simp [*])] at h11;exact h11⟩,by simp only;omega,Le.of_eq rfl⟩
 ·rw [List.drop_eq_nil_of_le hq] at h11
  conv=>whnf
  repeat' (first|(refine Wr.i64 (by omega) (by omega) ?_;conv=>whnf)|(refine Br.dec (fun _=>?_) (fun _=>?_)<;>first|(exfalso;omega)|conv=>whnf))
  exact ⟨(m+1,acc3),⟨by simp only;omega,by simp only;omega,by simpa using h11⟩,by simp only;omega,Le.of_eq rfl⟩
def apR (touched:List Str):List Arg→List Str→Bool
 | [],_=>true
 | a::r,seen=>bif a.ref then (bif inS seen a.name||inS touched a.name then false else apR touched r (seen++[a.name])) else apR touched r seen
theorem z9z (touched:List Str) (nm:Str) : ∀ (l:List Arg) (pre seen:List Str),(pre=[]∧nm=[]∨pre=[nm])→(∀ a∈l,a.ref=true→a.name≠[])→apR touched l (pre++seen)=XY nm touched l seen
 | [],_,_,_,_=>rfl
 | a::r,pre,seen,hp,ha=>by
   have ih:=fun s=>z9z touched nm r pre s hp fun b hb=>ha b (List.mem_cons_of_mem _ hb)
   rw [apR,XY]
   cases hr:a.ref with
   | false=>exact ih seen
   | true =>
     have hne:=ha a List.mem_cons_self hr
     have h1:inS (pre++seen) a.name=((a.name==nm)||(seen.any fun s=>a.name==s)):=by
      rw [q2h,List.any_append]
      rcases hp with ⟨rfl,rfl⟩|rfl
      ·have:(a.name==([]:Str))=false:=beq_eq_false_iff_ne.2 hne
       rw [this]
       rfl
      ·simp
     have h2:(inS (pre++seen) a.name||inS touched a.name)=((seen.any fun s=>a.name==s)||((a.name==nm)||touched.any fun s=>a.name==s)):=by
      rw [h1,q2h]
      cases (a.name==nm)<;>cases (seen.any fun s=>a.name==s)<;>rfl
     rw [cond_true,cond_true,h2,List.append_assoc,ih (seen++[a.name])]
def z2t (p:Pg) (t:S):Bool:=UU p t&&XY t.name (UZ p t.proc) t.args []
theorem MP (p:Pg) (hf:Fit p) (hs:(QN p).1=0) (t:S) (hpr:t.proc∈procsN p) (ha:t.args.length≤20000) (hne : ∀ a∈t.args,a.ref=true→a.name≠[]):SpecP Tryz.prog 273 [.agg p.cells,.agg t.cells] (fun r=>r = .bool (z2t p t)):=by
 refine SpecP.body BV QQ Tryz.func273 rfl Tryz.call273 (by show 2≤_;decide) ?_
 conv=>whnf
 have hC:=UK p t
 have hal:(t.args.map fun a=>AV.agg a.cells).length=t.args.length:=List.length_map _
 have hT:=DE p hf hs t.proc hpr
 have hE:=fun pre h=>z9z (UZ p t.proc) t.name t.args pre [] h hne
 unfold z2t
 generalize UZ p t.proc=G at *
 cases hfi:UU p t with
 | false =>
   rw [hfi] at hC
   repeat' (first|((first|intro (_:_≤9223372036854775807)|refine And.intro rfl ?_|(refine And.intro ⟨by decide,by decide⟩ ?_)|refine BsK.pure (fun x hx=>by rcases List.mem_singleton.1 hx with rfl;rfl) rfl ?_|(refine CallK.pure hC (.cons (Sub.refl _) (.cons (Sub.refl _) .nil)) ?_;rintro _ rfl));conv=>whnf)|(refine Br.n (fun _=>?_) (fun _=>?_)<;>conv=>whnf))
   all_goals first
    | (exfalso;simp_all;done)
    | exact RetK.ff rfl
 | true =>
   rw [hfi] at hC
   rw [Bool.true_and]
   repeat' (first|((first|intro (_:_≤9223372036854775807)|refine And.intro rfl ?_|(refine And.intro ⟨by decide,by decide⟩ ?_)|refine BsK.pure (fun x hx=>by rcases List.mem_singleton.1 hx with rfl;rfl) rfl ?_|(refine CallK.pure hC (.cons (Sub.refl _) (.cons (Sub.refl _) .nil)) ?_;rintro _ rfl)|refine AppK.str1 (by simp) (by simp) ?_);conv=>whnf)|(refine Br.n (fun _=>?_) (fun _=>?_)<;>conv=>whnf))
   all_goals simp only [show (ByteArray.mk #[]).data.toList=[] from rfl] at *
   all_goals first
    | (exfalso;simp_all;done)
    | skip
   all_goals
    first
    | (have hq:(t.name==[])=false:=by assumption
       have hE:=hE [t.name] (.inr rfl)
       rw [List.append_nil] at hE
       rw [← hE]
       generalize hpre:([t.name]:List Str)=pre at hE)
    | (have hq:(t.name==[])=true:=by assumption
       have hE:=hE [] (.inl ⟨rfl,by simpa using hq⟩)
       rw [List.append_nil] at hE
       rw [← hE]
       generalize hpre:([]:List Str)=pre at hE)
    have hpl:pre.length≤1:=by rw [← hpre];simp
    refine LoopK.inv QQ (fun x:Nat×List Str=>⟨[(2,.p (.ip p.cells)),(3,.p (.ip t.cells)),(5,.hd 0 0 x.2.length),(21,.p (.sl (t.args.map fun a => .agg a.cells))),(22,.p (.int .i64 (t.args.map fun a=>AV.agg a.cells).length)),(23,.p (.int .i64 x.1))],[(0,.own 9 1 (x.2.map .str))]⟩) (fun x=>x.1≤t.args.length∧x.2.length≤x.1+1∧apR G (t.args.drop x.1) x.2=apR G t.args pre) (fun x=>t.args.length-x.1) (0,pre)
     (by subst hpre;first|exact Le.of_eq rfl|exact (Le.mk [(0,.own 9 1 [])] (by simp [Chunk.new0];rfl) (by simp) (by simp) (.cons (.refl _) (.cons (.refl _) (.cons (.nil List.mem_cons_self) (.cons (.refl _) (.cons (.refl _) (.cons (.refl _) .nil)))))) (.new List.mem_cons_self .nil))) ⟨Nat.zero_le _,by simp only;omega,rfl⟩ ?_
    rintro ⟨j,acc⟩ ⟨h2,h3,h4⟩
    simp only at h2 h3 h4 ⊢
    rcases Nat.lt_or_ge j t.args.length with hj|hj
    ·rw [List.drop_eq_getElem_cons hj,apR] at h4
     rw [← h4]
     conv=>whnf
     repeat' (first|((first|refine DrawK.auto QQ mixed (by kernel_rfl) ?_|refine And.intro rfl ?_|(refine And.intro ⟨by decide,by decide⟩ ?_)|refine BsK.pure (fun x hx=>by rcases List.mem_singleton.1 hx with rfl;rfl) rfl ?_|refine IdxK.map (by omega) (fun _=>rfl) ?_|refine Wr.i64 (by omega) (by omega) ?_|(refine CallK.borrow (QM acc (t.args[j]'hj).name) (.cons (.hd rfl (by simp)) (.cons (.p (Sub.refl _)) .nil)) (by rintro _ rfl;rfl) ?_;rintro _ rfl)|(refine CallK.pure hT (.cons (Sub.refl _) (.cons (Sub.refl _) .nil)) ?_;rintro _ rfl)|(refine CallK.pure (QM G (t.args[j]'hj).name) (.cons (Sub.refl _) (.cons (Sub.refl _) .nil)) ?_;rintro _ rfl)|refine AppK.str1 (by simp) (by simp;omega) ?_);conv=>whnf)|(refine Br.dec (fun _=>?_) (fun _=>?_)<;>first|(exfalso;omega)|conv=>whnf)|(refine Br.b (fun _=>?_) (fun _=>?_)<;>conv=>whnf))
     all_goals first
      | (exfalso;simp_all;done)
      | exact RetK.ff (by simp [*])
      | exact ⟨(j+1,acc++[t.args[j].name]),⟨by simp only;omega,by simp;omega,by simp only;simp [*]⟩,by simp only;omega,Le.of_eq (by simp only [List.length_append,List.map_append];rfl)⟩
      | exact ⟨(j+1,acc),⟨by simp only;omega,by simp only;omega,by simp only;simp [*]⟩,by simp only;omega,Le.of_eq rfl⟩
    ·rw [List.drop_eq_nil_of_le hj,apR] at h4
     rw [← h4]
     conv=>whnf
     repeat' (refine Br.dec (fun _=>?_) (fun _=>?_)<;>first|(exfalso;omega)|conv=>whnf)
     exact RetK.tt rfl
theorem QP (c a:Int):SpecP Tryz.prog 266 [.int .i64 c,.int .i64 a] (fun r=>r=HI c a):=by
 refine SpecP.body DI QQ Tryz.func266 rfl Tryz.call266 (by show 2≤_;decide) ?_
 conv=>whnf
 repeat' (refine And.intro rfl ?_;conv=>whnf)
 exact RetK.fault rfl rfl
theorem RetK.flt {H:Heap} {a b:Int} {P:Prop} (h:a=0↔P):RetK H (.p (.agg [.int .i64 a,.int .i64 b])) (fun r => ∃ c d,r=HI c d∧(c=0↔P)):=⟨_,.p (Sub.refl _),a,b,rfl,h⟩
def fltR (P:Prop) (r:AV):Prop := ∃ c d,r=HI c d∧(c=0↔P)
theorem LE (p:Pg) (hm:VX p=true):SpecP Tryz.prog 203 [.agg p.cells] (fun r=>fltR (∀ t∈YT p,t.kind=4→UU p t=true) r):=by
 refine SpecP.body BZ QQ Tryz.func203 rfl Tryz.call203 (by show 1≤_;decide) ?_
 conv=>whnf
 have hA:=UN p
 have hms:=x2v hm
 rw [← hms]
 generalize allR p=L at *
 have hLl:=WJ L
 repeat' ((first|intro (_:_≤9223372036854775807)|(refine CallK.pure hA (.cons (Sub.refl _) .nil) ?_;rintro _ rfl));conv=>whnf)
 refine LoopK.inv QQ (fun j:Nat=>⟨[(1,.p (.ip p.cells)),(2,.ptr 1 0),(6,.p (JF L)),(7,.p (.int .i64 (L.map fun i=>AV.agg i.cells).length)),(8,.p (.int .i64 j))],[(1,.obj 90 [.p (.int .i64 0),.p (.int .i64 0)])]⟩) (fun j=>j≤L.length ∧ ∀ x∈L.take j,x.s.kind=4→UU p x.s=true) (fun j=>L.length-j) 0 (Le.of_eq rfl) ⟨Nat.zero_le _,fun x hx=>by rw [List.take_zero] at hx;cases hx⟩ ?_
 rintro j ⟨h2,h3⟩
 rcases Nat.lt_or_ge j L.length with hj|hj
 ·have hC:=UK p L[j].s
  have hmem:L[j].s∈L.map RI.s:=List.mem_map.2 ⟨_,List.getElem_mem hj,rfl⟩
  have hst:(L[j].s.kind=4→UU p L[j].s=true) → ∀ x∈L.take (j+1),x.s.kind=4→UU p x.s=true:=fun h x hx=>by
   rcases (QC hj).1 hx with h4|rfl
   ·exact h3 x h4
   ·exact h
  conv=>whnf
  repeat' (first|((first|refine And.intro rfl ?_|refine IdxK.map (by omega) (fun _=>rfl) ?_|refine Wr.i64 (by omega) (by omega) ?_|(refine CallK.pure hC (.cons (Sub.refl _) (.cons (Sub.refl _) .nil)) ?_;rintro _ rfl)|(refine CallK.pure (QP 6 _) (.cons (Sub.refl _) (.cons (Sub.refl _) .nil)) ?_;rintro _ rfl));conv=>whnf)|(refine Br.dec (fun _=>?_) (fun _=>?_)<;>first|(exfalso;omega)|conv=>whnf)|(refine Br.n (fun _=>?_) (fun _=>?_)<;>conv=>whnf))
  all_goals first
   | exact ⟨j+1,⟨hj,hst fun h=>by first|assumption|omega⟩,by omega,Le.of_eq rfl⟩
   | (refine RetK.flt ⟨fun h=>by omega,fun h => ?_⟩
      have:=h _ hmem (by omega)
      simp_all
      done)
 ·conv=>whnf
  repeat' (first|(refine And.intro rfl ?_;conv=>whnf)|(refine Br.dec (fun _=>?_) (fun _=>?_)<;>first|(exfalso;omega)|conv=>whnf))
  refine RetK.flt ⟨fun _ t ht => ?_,fun _=>rfl⟩
  obtain ⟨x,hx,rfl⟩:=List.mem_map.1 ht
  exact h3 x (by rw [List.take_of_length_le hj];exact hx)
theorem HO (p:Pg) (hf:Fit p) (hs:(QN p).1=0) (har : ∀ t∈YT p,t.kind=4→UU p t=true):SpecP Tryz.prog 205 [.agg p.cells] (fun r=>fltR (∀ t∈YT p,t.kind=4→XY t.name (UZ p t.proc) t.args []=true) r):=by
 refine SpecP.body GA QQ Tryz.func205 rfl Tryz.call205 (by show 1≤_;decide) ?_
 conv=>whnf
 obtain ⟨hm,hb,hns⟩:=WT hs
 have hA:=UN p
 have hms:=x2v hm
 have hok : ∀ x∈allR p,oneOk x.s=true:=fun x hx=>by rw [x1t hm] at hx;exact (z5f hm x hx).2
 have hap : ∀ x∈allR p,x.s.kind=4→SpecP Tryz.prog 273 [.agg p.cells,.agg x.s.cells] (fun r=>r = .bool (XY x.s.name (UZ p x.s.proc) x.s.args [])):=fun x hx hk=>by
  have hxs:x.s∈YT p:=by rw [← hms];exact List.mem_map.2 ⟨x,hx,rfl⟩
  have hx2:=hxs
  unfold YT at hx2
  obtain ⟨f,hf1,hf2⟩:=List.mem_flatMap.1 hx2
  have hpc:=(q0d hs hf1 hf2 hk).1
  have hw:=q4k _ _ hf2
  have hwp:=hf.pr hf1
  have h1:=x0a x.s
  have h2:=YN x.s.args
  have h3:=MP p hf hs x.s hpc (by unfold wPr at hwp;omega) fun a ha hr he=>by
   have h4:=List.all_eq_true.1 (UJ (hok x hx)).args a ha
   unfold argR at h4
   rw [hr,cond_true,he] at h4
   simp at h4
   have:=q1u h4.1
   cases this
  unfold z2t at h3
  rw [har _ hxs hk,Bool.true_and] at h3
  exact h3
 rw [← hms]
 clear hms har hok
 generalize allR p=L at *
 have hLl:=WJ L
 repeat' ((first|intro (_:_≤9223372036854775807)|(refine CallK.pure hA (.cons (Sub.refl _) .nil) ?_;rintro _ rfl));conv=>whnf)
 refine LoopK.inv QQ (fun j:Nat=>⟨[(1,.p (.ip p.cells)),(2,.ptr 1 0),(6,.p (JF L)),(7,.p (.int .i64 (L.map fun i=>AV.agg i.cells).length)),(8,.p (.int .i64 j))],[(1,.obj 90 [.p (.int .i64 0),.p (.int .i64 0)])]⟩) (fun j=>j≤L.length ∧ ∀ x∈L.take j,x.s.kind=4→XY x.s.name (UZ p x.s.proc) x.s.args []=true) (fun j=>L.length-j) 0 (Le.of_eq rfl) ⟨Nat.zero_le _,fun x hx=>by rw [List.take_zero] at hx;cases hx⟩ ?_
 rintro j ⟨h2,h3⟩
 rcases Nat.lt_or_ge j L.length with hj|hj
 ·have hC:=hap _ (List.getElem_mem hj)
  have hmem:L[j].s∈L.map RI.s:=List.mem_map.2 ⟨_,List.getElem_mem hj,rfl⟩
  have hst:(L[j].s.kind=4→XY L[j].s.name (UZ p L[j].s.proc) L[j].s.args []=true) → ∀ x∈L.take (j+1),x.s.kind=4→XY x.s.name (UZ p x.s.proc) x.s.args []=true:=fun h x hx=>by
   rcases (QC hj).1 hx with h4|rfl
   ·exact h3 x h4
   ·exact h
  conv=>whnf
  repeat' (first|((first|refine And.intro rfl ?_|refine IdxK.map (by omega) (fun _=>rfl) ?_|refine Wr.i64 (by omega) (by omega) ?_|(refine CallK.pure (hC (by omega)) (.cons (Sub.refl _) (.cons (Sub.refl _) .nil)) ?_;rintro _ rfl)|(refine CallK.pure (QP 8 _) (.cons (Sub.refl _) (.cons (Sub.refl _) .nil)) ?_;rintro _ rfl));conv=>whnf)|(refine Br.dec (fun _=>?_) (fun _=>?_)<;>first|(exfalso;omega)|conv=>whnf)|(refine Br.n (fun _=>?_) (fun _=>?_)<;>conv=>whnf))
  all_goals first
   | exact ⟨j+1,⟨hj,hst fun h=>by first|assumption|omega⟩,by omega,Le.of_eq rfl⟩
   | (refine RetK.flt ⟨fun h=>by omega,fun h => ?_⟩
      have:=h _ hmem (by omega)
      simp_all
      done)
 ·conv=>whnf
  repeat' (first|(refine And.intro rfl ?_;conv=>whnf)|(refine Br.dec (fun _=>?_) (fun _=>?_)<;>first|(exfalso;omega)|conv=>whnf))
  refine RetK.flt ⟨fun _ t ht => ?_,fun _=>rfl⟩
  obtain ⟨x,hx,rfl⟩:=List.mem_map.1 ht
  exact h3 x (by rw [List.take_of_length_le hj];exact hx)
open Go.Proofs
theorem x6p (p:Pg):ZM p=false↔XW p.globals=false∧XW (procsN p)=false∧(VS p mainS).2=true∧(VS p mainS).1.params.length=0:=by
 unfold ZM VS
 have h1:(procsN p).any (fun s=>mainS==s)=(p.procs.find? fun f=>f.name==mainS).isSome:=by
  unfold procsN
  rw [Bool.eq_iff_iff,List.find?_isSome,List.any_map,List.any_eq_true]
  simp only [Function.comp,beq_iff_eq]
  exact ⟨fun ⟨x,a,b⟩=>⟨x,a,b.symm⟩,fun ⟨x,a,b⟩=>⟨x,a,b.symm⟩⟩
 have h2:(p.procs.find? fun f=>mainS==f.name)=p.procs.find? fun f=>f.name==mainS:=by
  congr 1
  funext f
  exact Bool.beq_comm
 rw [h1,h2]
 cases p.procs.find? fun f=>f.name==mainS with
 | none=>simp
 | some f=>simp
theorem x7e {p:Pg} (hf:Fit p) {f:Pr} (h:f∈p.procs):f.params.length≤20000∧f.vars.length≤20000∧f.fin.length≤20000∧p.globals.length≤20000:=by
 have h1:=hf.pr h
 have h2:=GY f.vars
 have h3:=GY f.fin
 have h4:=GY p.globals
 have h5:wPg p≤20000:=hf
 have h6:f.params.length≤w1i f.params:=by
  generalize f.params=l
  induction l with
  | nil=>exact Nat.zero_le _
  | cons a r ih =>
    rw [w1i,List.length_cons]
    omega
 unfold wPr at h1
 unfold wPg at h5
 omega
theorem NL (p:Pg) (hf:Fit p):SpecP Tryz.prog 202 [.agg p.cells] (fun r=>fltR ((QN p).1=0) r):=by
 refine SpecP.body DO QQ Tryz.func202 rfl Tryz.call202 (by show 1≤_;decide) ?_
 conv=>whnf
 have hM:=YH p
 cases hm:VX p with
 | false =>
   rw [hm] at hM
   repeat' (first|((first|intro (_:_≤9223372036854775807)|refine And.intro rfl ?_|(refine CallK.pure hM (.cons (Sub.refl _) .nil) ?_;rintro _ rfl)|(refine CallK.pure (QP 1 0) (.cons (Sub.refl _) (.cons (Sub.refl _) .nil)) ?_;rintro _ rfl));conv=>whnf)|(refine Br.n (fun _=>?_) (fun _=>?_)<;>conv=>whnf))
   all_goals first
    | (exfalso;simp_all;done)
    | (refine RetK.flt ⟨fun h=>by omega,fun h => ?_⟩
       have:=(WT h).1
       rw [hm] at this
       cases this)
 | true =>
   rw [hm] at hM
   obtain ⟨hg,hpl,hcn⟩:=XS hm
   rw [z3c hm,x6p]
   have hpll:(p.procs.map fun f=>AV.agg f.cells).length=p.procs.length:=List.length_map _
   repeat' (first|((first|intro (_:_≤9223372036854775807)|(refine CallK.pure hM (.cons (Sub.refl _) .nil) ?_;rintro _ rfl));conv=>whnf)|(refine Br.n (fun _=>?_) (fun _=>?_)<;>conv=>whnf))
   all_goals first
    | (exfalso;simp_all;done)
    | skip
   refine LoopK.inv QQ (fun x:Nat×List Str=>⟨[(1,.p (.ip p.cells)),(2,.ptr 1 0),(3,.hd 0 0 x.2.length),(19,.p (.sl (p.procs.map fun f => .agg f.cells))),(20,.p (.int .i64 (p.procs.map fun f=>AV.agg f.cells).length)),(21,.p (.int .i64 x.1))],[(0,.own 9 1 (x.2.map .str)),(1,.obj 90 [.p (.int .i64 0),.p (.int .i64 0)])]⟩) (fun x=>x.1≤p.procs.length∧x.2=(procsN p).take x.1) (fun x=>p.procs.length-x.1) (0,[])
    (Le.mk [(0,.own 9 1 [])] (by simp [Chunk.new0];rfl) (by simp) (by simp) (.cons (.refl _) (.cons (.refl _) (.cons (.nil List.mem_cons_self) (.cons (.refl _) (.cons (.refl _) (.cons (.refl _) .nil)))))) (.new List.mem_cons_self (.cons rfl (.refl _) .nil))) ⟨Nat.zero_le _,by simp⟩ ?_
   rintro ⟨j,acc⟩ ⟨h2,h3⟩
   simp only at h2 h3 ⊢
   have hpn:(procsN p).length=p.procs.length:=by simp [procsN]
   rcases Nat.lt_or_ge j p.procs.length with hj|hj
   ·have e1:(procsN p).take (j+1)=acc++[p.procs[j].name]:=by
     rw [List.take_succ_eq_append_getElem (by omega),← h3]
     simp [procsN]
    have hal:acc.length≤16:=by rw [h3,List.length_take];omega
    conv=>whnf
    repeat' (first|((first|refine And.intro rfl ?_|(refine And.intro ⟨by decide,by decide⟩ ?_)|refine BsK.pure (fun x hx=>by rcases List.mem_singleton.1 hx with rfl;rfl) rfl ?_|refine IdxK.map (by omega) (fun _=>rfl) ?_|refine Wr.i64 (by omega) (by omega) ?_|refine AppK.str1 (by simp) (by simp;omega) ?_);conv=>whnf)|(refine Br.dec (fun _=>?_) (fun _=>?_)<;>first|(exfalso;omega)|conv=>whnf))
    all_goals exact ⟨(j+1,acc++[p.procs[j].name]),⟨by simp only;omega,by simp only;rw [e1]⟩,by simp only;omega,Le.of_eq (by simp only [List.length_append,List.map_append];rfl)⟩
   rw [List.take_of_length_le (by omega)] at h3
   subst h3
   have hN:=ZS p mainS
   have hmq : ∀ q:Prop,((VS p mainS).2=true∧(VS p mainS).1.params.length=0∧q)→q:=fun q h=>h.2.2
   have hT1:=XE p.globals
   have hT2:=XE (procsN p)
   generalize (VS p mainS).2=mk at *
   generalize (VS p mainS).1=mf at *
   have hmfl:(mf.params.map fun a=>AV.agg a.cells).length=mf.params.length:=List.length_map _
   conv=>whnf
   repeat' (first|((first|intro (_:_≤9223372036854775807)|refine And.intro rfl ?_|(refine CallK.pure hN (.cons (Sub.refl _) (.cons (Sub.refl _) .nil)) ?_;rintro _ rfl)|(refine CallK.pure hT1 (.cons (Sub.refl _) .nil) ?_;rintro _ rfl)|(refine CallK.borrow hT2 (.cons (.hd rfl (by simp)) .nil) (by rintro _ rfl;rfl) ?_;rintro _ rfl)|(refine CallK.pure (QP 5 0) (.cons (Sub.refl _) (.cons (Sub.refl _) .nil)) ?_;rintro _ rfl));conv=>whnf)|(refine Br.dec (fun _=>?_) (fun _=>?_)<;>first|(exfalso;omega)|conv=>whnf)|(refine Br.n (fun _=>?_) (fun _=>?_)<;>conv=>whnf)|(refine Br.b (fun _=>?_) (fun _=>?_)<;>conv=>whnf))
   all_goals first
    | (refine RetK.flt ⟨fun h=>by omega,fun ⟨⟨h4,h5,h6,h7⟩,h8⟩ => ?_⟩
       exfalso
       simp_all
       done)
    | (refine RetK.flt ⟨fun h=>by omega,fun ⟨⟨h4,h5,h6,h7⟩,h8⟩ => ?_⟩
       omega)
    | skip
   have G1:XW p.globals=false:=by assumption
   have G2:XW (procsN p)=false:=by assumption
   have G3:mk=true:=by assumption
   have G4:mf.params.length=0:=by omega
   have hIff:(((XW p.globals=false∧XW (procsN p)=false∧mk=true∧mf.params.length=0) ∧ ∀ f∈p.procs,ScopeOK p f) ↔ ∀ f∈p.procs,ScopeOK p f):=⟨fun h=>h.2,fun h=>⟨⟨G1,G2,G3,G4⟩,h⟩⟩
   rw [hIff]
   clear hIff hT1 hT2 hN hmq G1 G2 G3 G4
   refine LoopK.inv QQ (fun j:Nat=>⟨[(1,.p (.ip p.cells)),(2,.ptr 1 0),(3,.hd 0 0 (procsN p).length),(55,.p (.sl (p.procs.map fun f => .agg f.cells))),(56,.p (.int .i64 (p.procs.map fun f=>AV.agg f.cells).length)),(57,.p (.int .i64 j))],[(0,.own 9 1 ((procsN p).map .str)),(1,.obj 90 [.p (.int .i64 0),.p (.int .i64 0)])]⟩) (fun j=>j≤p.procs.length ∧ ∀ f∈p.procs.take j,ScopeOK p f) (fun j=>p.procs.length-j) 0
    (Le.of_eq rfl) ⟨Nat.zero_le _,fun f h=>by rw [List.take_zero] at h;cases h⟩ ?_
   rintro j ⟨h2,h3⟩
   rcases Nat.lt_or_ge j p.procs.length with hj|hj
   rotate_left 1
   ·rw [List.take_of_length_le hj] at h3
    conv=>whnf
    repeat' (first|(refine And.intro rfl ?_;conv=>whnf)|(refine Br.dec (fun _=>?_) (fun _=>?_)<;>first|(exfalso;omega)|conv=>whnf))
    exact RetK.flt ⟨fun _=>h3,fun _=>rfl⟩
   have hfm:=List.getElem_mem hj
   obtain ⟨w1,w2,w3,w4⟩:=x7e hf hfm
   have hwp:=hf.pr hfm
   have hPm:=NY p.procs[j] (by omega)
   have hF:=XZ p.procs[j]
   have hmap:(WS p.procs[j]).map RI.s=flL p.procs[j].body:=by rw [JP hm hfm];exact BH 1 0 false _
   have hrl:=KM p.procs[j]
   have hargs : ∀ x∈WS p.procs[j],x.s.args.length≤20000:=fun x hx=>by
    have hmm:x.s∈flL p.procs[j].body:=by
     rw [← hmap]
     exact List.mem_map.2 ⟨_,hx,rfl⟩
    have h4:=q4k _ _ hmm
    have h5:=x0a x.s
    have h6:=YN x.s.args
    unfold wPr at hwp
    omega
   have hav:allV p p.procs[j]=p.globals++((p.procs[j].params.map Param.name)++p.procs[j].vars):=rfl
   have hT:=XE (allV p p.procs[j])
   rw [hav] at hT
   have hnd:=ZP (l:=allV p p.procs[j])
   rw [hav] at hnd
   have hbad : ¬ScopeOK p p.procs[j] → ¬∀ f∈p.procs,ScopeOK p f:=fun h h2=>h (h2 _ hfm)
   have hgood:ScopeOK p p.procs[j] → ∀ f∈p.procs.take (j+1),ScopeOK p f:=fun h f hfq=>by
    rcases (QC hj).1 hfq with h4|rfl
    ·exact h3 f h4
    ·exact h
   have hok:((p.globals++((p.procs[j].params.map Param.name)++p.procs[j].vars)).Nodup ∧ ∀ x∈WS p.procs[j],knownB p p.procs[j] (procsN p) x.s=true)↔ScopeOK p p.procs[j]:=by
    constructor
    ·rintro ⟨a,b⟩
     exact ⟨a,fun t ht=>by
      rw [← hmap] at ht
      obtain ⟨x,hx,rfl⟩:=List.mem_map.1 ht
      exact b x hx⟩
    ·rintro ⟨a,b⟩
     exact ⟨a,fun x hx=>b _ (by rw [← hmap];exact List.mem_map.2 ⟨x,hx,rfl⟩)⟩
   have hkd:=fun v=>q0w p p.procs[j] v
   have hkn : ∀ t:S,knownB p p.procs[j] (procsN p) t=((ZT t).all (fun n => !(GL p p.procs[j] n==0))&&(decide (t.kind≠4)||(!(t.proc==mainS)&&inS (procsN p) t.proc))):=fun t=>by rw [q2h];rfl
   clear hav hwp hmap hfm
   generalize WS p.procs[j]=its at *
   generalize ScopeOK p p.procs[j]=SK at *
   have hil:=WJ its
   rw [show QH (p.globals++((p.procs[j].params.map Param.name)++p.procs[j].vars))=AV.sl (p.globals.map .str++(p.procs[j].params.map Param.name).map .str++p.procs[j].vars.map .str) by unfold QH;rw [List.map_append,List.map_append,List.append_assoc]] at hT
   conv=>whnf
   repeat' (first|((first|intro (_:_≤9223372036854775807)|refine DrawK.auto QQ mixed (by kernel_rfl) ?_|refine And.intro rfl ?_|(refine And.intro ⟨by decide,by decide⟩ ?_)|refine IdxK.map (by omega) (fun _=>rfl) ?_|(refine CallK.pure hPm (.cons (Sub.refl _) .nil) ?_;rintro _ rfl)|refine BsK.own (fun x hx=>by cases hx) rfl ?_|refine AppK.strs _ (by simp) (by simp;omega) ?_|(refine CallK.borrow hT (.cons (.hd rfl (by simp<;>omega)) .nil) (by rintro _ rfl;rfl) ?_;rintro _ rfl)|(refine CallK.pure (QP 5 0) (.cons (Sub.refl _) (.cons (Sub.refl _) .nil)) ?_;rintro _ rfl)|(refine CallK.pure hF (.cons (Sub.refl _) .nil) ?_;rintro _ rfl));conv=>whnf)|(refine Br.dec (fun _=>?_) (fun _=>?_)<;>first|(exfalso;omega)|conv=>whnf)|(refine Br.b (fun _=>?_) (fun _=>?_)<;>conv=>whnf))
   all_goals first
    | (refine RetK.flt ⟨fun h=>by omega,fun hP=>absurd hP (hbad fun hS => ?_)⟩
       have:=hnd.2 (hok.2 hS).1
       simp_all
       done)
    | skip
   have hND:=hnd.1 (by assumption)
   have hbad2 : ∀ x∈its,knownB p p.procs[j] (procsN p) x.s=false → ¬∀ f∈p.procs,ScopeOK p f:=fun x hx h=>hbad fun hS=>by
    have:=(hok.2 hS).2 x hx
    rw [this] at h
    cases h
   clear hT hnd
   refine LoopK.inv QQ (fun m:Nat=>⟨[(1,.p (.ip p.cells)),(2,.ptr 1 0),(3,.hd 0 0 (procsN p).length),(9,.p (.ip p.procs[j].cells)),(55,.p (.sl (p.procs.map fun f => .agg f.cells))),(56,.p (.int .i64 (p.procs.map fun f=>AV.agg f.cells).length)),(57,.p (.int .i64 j)),(74,.p (JF its)),(75,.p (.int .i64 (its.map fun i=>AV.agg i.cells).length)),(76,.p (.int .i64 m))],[(0,.own 9 1 ((procsN p).map .str)),(1,.obj 90 [.p (.int .i64 0),.p (.int .i64 0)])]⟩) (fun m=>m≤its.length ∧ ∀ x∈its.take m,knownB p p.procs[j] (procsN p) x.s=true) (fun m=>its.length-m) 0
    (Le.of_eq rfl) ⟨Nat.zero_le _,fun x h=>by rw [List.take_zero] at h;cases h⟩ ?_
   rintro m ⟨h4,h5⟩
   rcases Nat.lt_or_ge m its.length with hm'|hm'
   rotate_left 1
   ·rw [List.take_of_length_le hm'] at h5
    conv=>whnf
    repeat' (first|(refine Wr.i64 (by omega) (by omega) ?_;conv=>whnf)|(refine Br.dec (fun _=>?_) (fun _=>?_)<;>first|(exfalso;omega)|conv=>whnf))
    exact ⟨j+1,⟨by omega,hgood (hok.1 ⟨hND,h5⟩)⟩,by omega,Le.of_eq rfl⟩
   have hna:=hargs _ (List.getElem_mem hm')
   have hSd:=KE its[m].s hna
   have hB:=hbad2 _ (List.getElem_mem hm')
   have hst:knownB p p.procs[j] (procsN p) its[m].s=true → ∀ x∈its.take (m+1),knownB p p.procs[j] (procsN p) x.s=true:=fun h x hx=>by
    rcases (QC hm').1 hx with h6|rfl
    ·exact h5 x h6
    ·exact h
   rw [hkn] at hB hst
   have hIn:=QM (procsN p) its[m].s.proc
   generalize ZT its[m].s=vs at *
   have hvl:(vs.map AV.str).length=vs.length:=List.length_map _
   conv=>whnf
   repeat' (first|((first|intro (_:_≤9223372036854775807)|refine And.intro rfl ?_|refine IdxK.map (by omega) (fun _=>rfl) ?_|(refine CallK.pure hSd (.cons (Sub.refl _) .nil) ?_;rintro _ rfl));conv=>whnf)|(refine Br.dec (fun _=>?_) (fun _=>?_)<;>first|(exfalso;omega)|conv=>whnf))
   refine LoopK.inv QQ (fun q:Nat=>⟨[(1,.p (.ip p.cells)),(2,.ptr 1 0),(3,.hd 0 0 (procsN p).length),(9,.p (.ip p.procs[j].cells)),(11,.p (.ip its[m].cells)),(55,.p (.sl (p.procs.map fun f => .agg f.cells))),(56,.p (.int .i64 (p.procs.map fun f=>AV.agg f.cells).length)),(57,.p (.int .i64 j)),(74,.p (JF its)),(75,.p (.int .i64 (its.map fun i=>AV.agg i.cells).length)),(76,.p (.int .i64 m)),(82,.p (QH vs)),(83,.p (.int .i64 (vs.map AV.str).length)),(84,.p (.int .i64 q))],[(0,.own 9 1 ((procsN p).map .str)),(1,.obj 90 [.p (.int .i64 0),.p (.int .i64 0)])]⟩) (fun q=>q≤vs.length∧(vs.drop q).all (fun n => !(GL p p.procs[j] n==0))=vs.all fun n => !(GL p p.procs[j] n==0)) (fun q=>vs.length-q) 0
    (Le.of_eq rfl) ⟨Nat.zero_le _,rfl⟩ ?_
   rintro q ⟨h6,h7⟩
   rcases Nat.lt_or_ge q vs.length with hq|hq
   ·have hK:=hkd vs[q]
    conv=>whnf
    repeat' (first|((first|refine And.intro rfl ?_|refine IdxK.map (by omega) (fun _=>rfl) ?_|refine Wr.i64 (by omega) (by omega) ?_|(refine CallK.pure hK (.cons (Sub.refl _) (.cons (Sub.refl _) (.cons (Sub.refl _) .nil))) ?_;rintro _ rfl)|(refine CallK.pure (QP 5 _) (.cons (Sub.refl _) (.cons (Sub.refl _) .nil)) ?_;rintro _ rfl));conv=>whnf)|(refine Br.dec (fun _=>?_) (fun _=>?_)<;>first|(exfalso;omega)|conv=>whnf))
    all_goals first
     | (refine RetK.flt ⟨fun h=>by omega,fun hP=>absurd hP (hB ?_)⟩
        have hk0:GL p p.procs[j] vs[q]=0:=by assumption
        have e:=MT (p:=fun n => !(GL p p.procs[j] n==0)) hq (by rw [hk0];rfl)
        rw [← h7,e]
        rfl)
     | (have hk0 : ¬GL p p.procs[j] vs[q]=0:=by assumption
        exact ⟨q+1,⟨by omega,by rw [← h7,JA (p:=fun n => !(GL p p.procs[j] n==0)) hq (by simpa using hk0)]⟩,by omega,Le.of_eq rfl⟩)
     | trace_state
   ·rw [JE hq] at h7
    rw [← h7,Bool.true_and] at hB hst
    conv=>whnf
    repeat' (first|((first|refine And.intro rfl ?_|refine Wr.i64 (by omega) (by omega) ?_|(refine CallK.borrow hIn (.cons (.hd rfl (by simp)) (.cons (.p (Sub.refl _)) .nil)) (by rintro _ rfl;rfl) ?_;rintro _ rfl)|(refine CallK.pure (QP 5 _) (.cons (Sub.refl _) (.cons (Sub.refl _) .nil)) ?_;rintro _ rfl));conv=>whnf)|(refine Br.dec (fun _=>?_) (fun _=>?_)<;>first|(exfalso;omega)|conv=>whnf)|(refine Br.n (fun _=>?_) (fun _=>?_)<;>conv=>whnf)|(refine Br.b (fun _=>?_) (fun _=>?_)<;>conv=>whnf))
    all_goals
     have hmm:(its[m].s.proc==mainS)=(its[m].s.proc==[109,97,105,110]):=rfl
    all_goals first
     | (refine RetK.flt ⟨fun h=>by omega,fun hP=>absurd hP (hB ?_)⟩
        rw [hmm]
        simp_all
        done)
     | (refine ⟨m+1,⟨by omega,hst ?_⟩,by omega,Le.of_eq rfl⟩
        rw [hmm]
        simp_all
        done)
     | trace_state
end Go.Ab
