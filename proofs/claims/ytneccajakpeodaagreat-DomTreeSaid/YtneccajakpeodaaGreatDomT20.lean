/- The reference's touched globals; variables with two names; arguments that fit. -/
import Derived.Test.YtneccajakpeodaaGreatDomT13
import Derived.Test.YtneccajakpeodaaGreatDomT14
import Derived.Test.YtneccajakpeodaaGreatDomT16
import Derived.Test.YtneccajakpeodaaGreatDomT17
import Derived.Test.YtneccajakpeodaaGreatDomT18
import Derived.Test.YtneccajakpeodaaGreatDomT19
set_option linter.unusedSimpArgs false
set_option linter.unusedVariables false
set_option maxRecDepth 100000
set_option maxHeartbeats 16000000
namespace Go.Ab
open Go.Proofs
theorem z9a (p:Pg) (t:S):q6d p t=(ZK t).filter fun v=>inS p.globals v:=by
 unfold q6d
 congr 1
 funext v
 exact (q7a _ _).symm
theorem DR (p:Pg) (hf:Fit p) (hs:(QM p).1=0) (n:Str) (hn:n∈procsN p):SpecP Tryz.prog 298 [.agg p.cells,.str n] (fun r=>r=QD (VM p n)):=by
 refine SpecP.body HK QQ Tryz.func298 rfl Tryz.call298 (by show 2≤_;decide) ?_
 conv=>whnf
 obtain ⟨hm,hb,hns⟩:=ZN hs
 obtain ⟨hg,hpl,hcn⟩:=XP hm
 obtain ⟨hal,hak⟩:=x7s hs hn
 have hC:=BN p n hs hn
 have hgl:VM p n=q6x (VD p n):=rfl
 have hgr:VD p n=(z1l p n).flatMap (q0j p):=rfl
 rw [hgl]
 generalize z1l p n=ns at hal hak hgr hC ⊢
 have hnl:(ns.map AV.str).length=ns.length:=List.length_map _
 repeat' (first|((first|(intro (_:_≤9223372036854775807))|(refine DrawK.auto QQ mixed (by kernel_rfl) ?_)|(refine And.intro rfl ?_)|(refine And.intro ⟨by decide,by decide⟩ ?_)|(refine And.intro ⟨rfl,rfl,by decide⟩ ?_)|(refine BsK.pure (fun x hx=>by rcases List.mem_singleton.1 hx with rfl;rfl) rfl ?_)|(refine IdxK.map (by omega) (fun _=>rfl) ?_)|(refine IdxK.xs (by omega) ?_)|(refine IdxK.ss (by omega) ?_)|(refine ByteK.at (by omega) ?_)|(refine Wr.i64 (by omega) (by omega) ?_)|(refine CallK.pure hC (.cons (Sub.refl _) (.cons (Sub.refl _) .nil)) ?_;rintro _ rfl));conv=>whnf)|(refine Br.dec (fun _ => ?_) (fun _ => ?_)<;>first|(exfalso;omega)|conv=>whnf)|(refine Br.dec2 (fun _ => ?_) (fun _ => ?_)<;>first|(exfalso;omega)|conv=>whnf)|(refine Br.n (fun _ => ?_) (fun _ => ?_)<;>conv=>whnf)|(refine Br.b (fun _ => ?_) (fun _ => ?_)<;>conv=>whnf))
 refine LoopK.inv QQ (fun i:Nat×List Str=>⟨[(2,.p (.ip p.cells)),(5,.hd 0 0 i.2.length),(16,.p (QD ns)),(17,.p (.int .i64 (ns.map AV.str).length)),(18,.p (.int .i64 i.1))],[(0,.own 9 1 (i.2.map .str))]⟩)
  (fun i=>i.1≤ns.length∧i.2.length≤4020000*i.1∧i.2++(ns.drop i.1).flatMap (q0j p)=VD p n) (fun i=>ns.length-i.1) (0,[])
  (Le.mk [(0,.own 9 1 [])] (by simp [Chunk.new0];rfl) (by simp) (by simp) (.cons (.refl _) (.cons (.nil List.mem_cons_self) (.cons (.refl _) (.cons (.refl _) (.cons (.refl _) .nil))))) (.new List.mem_cons_self .nil))
  ⟨Nat.zero_le _,by simp,by rw [hgr];rfl⟩ ?_
 rintro ⟨j,acc⟩ ⟨h2,h3,h4⟩
 simp only at h2 h3 h4 ⊢
 rcases Nat.lt_or_ge j ns.length with hj|hj
 rotate_left 1
 ·have hacc:acc=VD p n:=by
   rw [List.drop_eq_nil_of_le hj] at h4
   simpa using h4
  have hS:=WJ acc (by omega)
  rw [← hacc]
  conv=>whnf
  repeat' (first|((first|(intro (_:_≤9223372036854775807))|(refine DrawK.auto QQ mixed (by kernel_rfl) ?_)|(refine And.intro rfl ?_)|(refine And.intro ⟨by decide,by decide⟩ ?_)|(refine And.intro ⟨rfl,rfl,by decide⟩ ?_)|(refine BsK.pure (fun x hx=>by rcases List.mem_singleton.1 hx with rfl;rfl) rfl ?_)|(refine IdxK.map (by omega) (fun _=>rfl) ?_)|(refine IdxK.xs (by omega) ?_)|(refine IdxK.ss (by omega) ?_)|(refine ByteK.at (by omega) ?_)|(refine Wr.i64 (by omega) (by omega) ?_)|(refine CallK.give hS (.cons (.hd rfl (by simp)) .nil) ?_;rintro _ rfl));conv=>whnf)|(refine Br.dec (fun _ => ?_) (fun _ => ?_)<;>first|(exfalso;omega)|conv=>whnf)|(refine Br.dec2 (fun _ => ?_) (fun _ => ?_)<;>first|(exfalso;omega)|conv=>whnf)|(refine Br.n (fun _ => ?_) (fun _ => ?_)<;>conv=>whnf)|(refine Br.b (fun _ => ?_) (fun _ => ?_)<;>conv=>whnf))
  all_goals exact RetK.p rfl
 obtain ⟨k,hk,hik,hfk,hnk⟩:=NB (hak _ (List.getElem_mem hj))
 have hgn:q0j p ns[j]=(flL p.procs[k].body).flatMap (q6d p):=by unfold q0j;rw [hfk]
 rw [WH hj,hgn] at h4
 have hfp:=hf.pr (List.getElem_mem hk)
 have hN:=ZG p ns[j]
 rw [x9g hk hfk] at hN
 have hF:=XQ p.procs[k]
 have hmap:(WG p.procs[k]).map RI.s=flL p.procs[k].body:=by rw [JZ hm (List.getElem_mem hk)];exact q0h 1 0 false _
 have hrl:=KR p.procs[k]
 have hargs : ∀ x∈WG p.procs[k],wS x.s≤20000:=fun x hx=>by
  have hmm:x.s∈flL p.procs[k].body:=by
   rw [← hmap]
   exact List.mem_map.2 ⟨_,hx,rfl⟩
  have:=q3h _ _ hmm
  unfold wPr at hfp
  omega
 rw [← hmap] at h4
 generalize WG p.procs[k]=its at hargs hrl h4 hF
 have hil:=YA its
 conv=>whnf
 repeat' (first|((first|(intro (_:_≤9223372036854775807))|(refine DrawK.auto QQ mixed (by kernel_rfl) ?_)|(refine And.intro rfl ?_)|(refine And.intro ⟨by decide,by decide⟩ ?_)|(refine And.intro ⟨rfl,rfl,by decide⟩ ?_)|(refine BsK.pure (fun x hx=>by rcases List.mem_singleton.1 hx with rfl;rfl) rfl ?_)|(refine IdxK.map (by omega) (fun _=>rfl) ?_)|(refine IdxK.xs (by omega) ?_)|(refine IdxK.ss (by omega) ?_)|(refine ByteK.at (by omega) ?_)|(refine Wr.i64 (by omega) (by omega) ?_)|(refine CallK.pure hN (.cons (Sub.refl _) (.cons (Sub.refl _) .nil)) ?_;rintro _ rfl)|(refine CallK.pure hF (.cons (Sub.refl _) .nil) ?_;rintro _ rfl));conv=>whnf)|(refine Br.dec (fun _ => ?_) (fun _ => ?_)<;>first|(exfalso;omega)|conv=>whnf)|(refine Br.dec2 (fun _ => ?_) (fun _ => ?_)<;>first|(exfalso;omega)|conv=>whnf)|(refine Br.n (fun _ => ?_) (fun _ => ?_)<;>conv=>whnf)|(refine Br.b (fun _ => ?_) (fun _ => ?_)<;>conv=>whnf))
 refine LoopK.inv QQ (fun i:Nat×List Str=>⟨[(2,.p (.ip p.cells)),(5,.hd 0 0 i.2.length),(16,.p (QD ns)),(17,.p (.int .i64 (ns.map AV.str).length)),(18,.p (.int .i64 j)),(29,.p (q8t its)),(30,.p (.int .i64 (its.map fun i=>AV.agg i.cells).length)),(31,.p (.int .i64 i.1))],[(0,.own 9 1 (i.2.map .str))]⟩)
  (fun i=>i.1≤its.length∧i.2.length≤acc.length+20000*i.1∧i.2++(((its.drop i.1).map RI.s).flatMap (q6d p)++(ns.drop (j+1)).flatMap (q0j p))=VD p n) (fun i=>its.length-i.1) (0,acc)
  (Le.of_eq rfl) ⟨Nat.zero_le _,by simp,h4⟩ ?_
 rintro ⟨m,acc2⟩ ⟨h6,h7,h8⟩
 simp only at h6 h7 h8 ⊢
 rcases Nat.lt_or_ge m its.length with hm'|hm'
 rotate_left 1
 ·rw [List.drop_eq_nil_of_le hm'] at h8
  conv=>whnf
  repeat' (first|((first|(intro (_:_≤9223372036854775807))|(refine DrawK.auto QQ mixed (by kernel_rfl) ?_)|(refine And.intro rfl ?_)|(refine And.intro ⟨by decide,by decide⟩ ?_)|(refine And.intro ⟨rfl,rfl,by decide⟩ ?_)|(refine BsK.pure (fun x hx=>by rcases List.mem_singleton.1 hx with rfl;rfl) rfl ?_)|(refine IdxK.map (by omega) (fun _=>rfl) ?_)|(refine IdxK.xs (by omega) ?_)|(refine IdxK.ss (by omega) ?_)|(refine ByteK.at (by omega) ?_)|(refine Wr.i64 (by omega) (by omega) ?_));conv=>whnf)|(refine Br.dec (fun _ => ?_) (fun _ => ?_)<;>first|(exfalso;omega)|conv=>whnf)|(refine Br.dec2 (fun _ => ?_) (fun _ => ?_)<;>first|(exfalso;omega)|conv=>whnf)|(refine Br.n (fun _ => ?_) (fun _ => ?_)<;>conv=>whnf)|(refine Br.b (fun _ => ?_) (fun _ => ?_)<;>conv=>whnf))
  exact ⟨(j+1,acc2),⟨by simp only;omega,by simp only;omega,by simpa using h8⟩,by simp only;omega,Le.of_eq rfl⟩
 have hw:=hargs _ (List.getElem_mem hm')
 have hna:its[m].s.args.length≤20000:=by
  have:=q9n its[m].s
  have:=YL its[m].s.args
  omega
 have hnw:=x9p its[m].s
 rw [List.drop_eq_getElem_cons hm',List.map_cons,List.flatMap_cons,List.append_assoc] at h8
 have hgt:=z9a p its[m].s
 have hSd:=KJ its[m].s hna
 rw [hgt] at h8
 generalize ZK its[m].s=vs at hnw h8 hSd
 have hvl:(vs.map AV.str).length=vs.length:=List.length_map _
 conv=>whnf
 repeat' (first|((first|(intro (_:_≤9223372036854775807))|(refine DrawK.auto QQ mixed (by kernel_rfl) ?_)|(refine And.intro rfl ?_)|(refine And.intro ⟨by decide,by decide⟩ ?_)|(refine And.intro ⟨rfl,rfl,by decide⟩ ?_)|(refine BsK.pure (fun x hx=>by rcases List.mem_singleton.1 hx with rfl;rfl) rfl ?_)|(refine IdxK.map (by omega) (fun _=>rfl) ?_)|(refine IdxK.xs (by omega) ?_)|(refine IdxK.ss (by omega) ?_)|(refine ByteK.at (by omega) ?_)|(refine Wr.i64 (by omega) (by omega) ?_)|(refine CallK.pure hSd (.cons (Sub.refl _) .nil) ?_;rintro _ rfl));conv=>whnf)|(refine Br.dec (fun _ => ?_) (fun _ => ?_)<;>first|(exfalso;omega)|conv=>whnf)|(refine Br.dec2 (fun _ => ?_) (fun _ => ?_)<;>first|(exfalso;omega)|conv=>whnf)|(refine Br.n (fun _ => ?_) (fun _ => ?_)<;>conv=>whnf)|(refine Br.b (fun _ => ?_) (fun _ => ?_)<;>conv=>whnf))
 refine LoopK.inv QQ (fun i:Nat×List Str=>⟨[(2,.p (.ip p.cells)),(5,.hd 0 0 i.2.length),(16,.p (QD ns)),(17,.p (.int .i64 (ns.map AV.str).length)),(18,.p (.int .i64 j)),(29,.p (q8t its)),(30,.p (.int .i64 (its.map fun i=>AV.agg i.cells).length)),(31,.p (.int .i64 m)),(37,.p (QD vs)),(38,.p (.int .i64 (vs.map AV.str).length)),(39,.p (.int .i64 i.1))],[(0,.own 9 1 (i.2.map .str))]⟩)
  (fun i=>i.1≤vs.length∧i.2.length≤acc2.length+i.1∧i.2++((vs.drop i.1).filter (fun v=>inS p.globals v)++(((its.drop (m+1)).map RI.s).flatMap (q6d p)++(ns.drop (j+1)).flatMap (q0j p)))=VD p n) (fun i=>vs.length-i.1) (0,acc2)
  (Le.of_eq rfl) ⟨Nat.zero_le _,by simp,h8⟩ ?_
 rintro ⟨q,acc3⟩ ⟨h9,h10,h11⟩
 simp only at h9 h10 h11 ⊢
 rcases Nat.lt_or_ge q vs.length with hq|hq
 ·rw [List.drop_eq_getElem_cons hq,List.filter_cons] at h11
  conv=>whnf
  repeat' (first|((first|(intro (_:_≤9223372036854775807))|(refine CallK.pure (QS _ _) (by repeat' (first|exact ArgP.nil|refine ArgP.cons ?_ ?_|exact Sub.refl _|exact Sub.tt rfl|exact Sub.ff rfl)) ?_;rintro _ rfl)|(refine DrawK.auto QQ mixed (by kernel_rfl) ?_)|(refine And.intro rfl ?_)|(refine And.intro ⟨by decide,by decide⟩ ?_)|(refine And.intro ⟨rfl,rfl,by decide⟩ ?_)|(refine BsK.pure (fun x hx=>by rcases List.mem_singleton.1 hx with rfl;rfl) rfl ?_)|(refine IdxK.map (by omega) (fun _=>rfl) ?_)|(refine IdxK.xs (by omega) ?_)|(refine IdxK.ss (by omega) ?_)|(refine ByteK.at (by omega) ?_)|(refine Wr.i64 (by omega) (by omega) ?_)|(refine AppK.str1 (by simp) (by simp;omega) ?_));conv=>whnf)|(refine Br.dec (fun _ => ?_) (fun _ => ?_)<;>first|(exfalso;omega)|conv=>whnf)|(refine Br.dec2 (fun _ => ?_) (fun _ => ?_)<;>first|(exfalso;omega)|conv=>whnf)|(refine Br.n (fun _ => ?_) (fun _ => ?_)<;>conv=>whnf)|(refine Br.b (fun _ => ?_) (fun _ => ?_)<;>conv=>whnf))
  ·exact ⟨(q+1,acc3++[vs[q]]),⟨by simp only;omega,by simp;omega,by rw [if_pos (by assumption)] at h11;simpa using h11⟩,by simp only;omega,Le.of_eq (by simp only [List.length_append,List.map_append];rfl)⟩
  ·exact ⟨(q+1,acc3),⟨by simp only;omega,by simp only;omega,by rw [if_neg (by simp [*])] at h11;exact h11⟩,by simp only;omega,Le.of_eq rfl⟩
 ·rw [List.drop_eq_nil_of_le hq] at h11
  conv=>whnf
  repeat' (first|((first|(intro (_:_≤9223372036854775807))|(refine DrawK.auto QQ mixed (by kernel_rfl) ?_)|(refine And.intro rfl ?_)|(refine And.intro ⟨by decide,by decide⟩ ?_)|(refine And.intro ⟨rfl,rfl,by decide⟩ ?_)|(refine BsK.pure (fun x hx=>by rcases List.mem_singleton.1 hx with rfl;rfl) rfl ?_)|(refine IdxK.map (by omega) (fun _=>rfl) ?_)|(refine IdxK.xs (by omega) ?_)|(refine IdxK.ss (by omega) ?_)|(refine ByteK.at (by omega) ?_)|(refine Wr.i64 (by omega) (by omega) ?_));conv=>whnf)|(refine Br.dec (fun _ => ?_) (fun _ => ?_)<;>first|(exfalso;omega)|conv=>whnf)|(refine Br.dec2 (fun _ => ?_) (fun _ => ?_)<;>first|(exfalso;omega)|conv=>whnf)|(refine Br.n (fun _ => ?_) (fun _ => ?_)<;>conv=>whnf)|(refine Br.b (fun _ => ?_) (fun _ => ?_)<;>conv=>whnf))
  exact ⟨(m+1,acc3),⟨by simp only;omega,by simp only;omega,by simpa using h11⟩,by simp only;omega,Le.of_eq rfl⟩
def apR (touched:List Str):List Arg→List Str→Bool
 | [],_=>true
 | a::r,seen=>bif a.ref then (bif inS seen a.name||inS touched a.name then false else apR touched r (seen++[a.name])) else apR touched r seen
theorem w1q (touched:List Str) (nm:Str) : ∀ (l:List Arg) (pre seen:List Str),(pre=[]∧nm=[]∨pre=[nm])→(∀ a∈l,a.ref=true→a.name≠[])→apR touched l (pre++seen)=XW nm touched l seen
 | [],_,_,_,_=>rfl
 | a::r,pre,seen,hp,ha=>by
   have ih:=fun s=>w1q touched nm r pre s hp fun b hb=>ha b (List.mem_cons_of_mem _ hb)
   rw [apR,XW]
   cases hr:a.ref with
   | false=>exact ih seen
   | true =>
     have hne:=ha a List.mem_cons_self hr
     have h1:inS (pre++seen) a.name=((a.name==nm)||(seen.any fun s=>a.name==s)):=by
      rw [q7a,List.any_append]
      rcases hp with ⟨rfl,rfl⟩|rfl
      ·have:(a.name==([]:Str))=false:=beq_eq_false_iff_ne.2 hne
       rw [this]
       rfl
      ·simp
     have h2:(inS (pre++seen) a.name||inS touched a.name)=((seen.any fun s=>a.name==s)||((a.name==nm)||touched.any fun s=>a.name==s)):=by
      rw [h1,q7a]
      cases (a.name==nm)<;>cases (seen.any fun s=>a.name==s)<;>rfl
     rw [cond_true,cond_true,h2,List.append_assoc,ih (seen++[a.name])]
def z5g (p:Pg) (t:S):Bool:=VO p t&&XW t.name (VM p t.proc) t.args []
theorem NU (p:Pg) (hf:Fit p) (hs:(QM p).1=0) (t:S) (hpr:t.proc∈procsN p) (ha:t.args.length≤20000) (hne : ∀ a∈t.args,a.ref=true→a.name≠[]):SpecP Tryz.prog 273 [.agg p.cells,.agg t.cells] (fun r=>r = .bool (z5g p t)):=by
 refine SpecP.body DD QQ Tryz.func273 rfl Tryz.call273 (by show 2≤_;decide) ?_
 conv=>whnf
 have hC:=VR p t
 have hal:(t.args.map fun a=>AV.agg a.cells).length=t.args.length:=List.length_map _
 have hT:=DR p hf hs t.proc hpr
 have hE:=fun pre h=>w1q (VM p t.proc) t.name t.args pre [] h hne
 unfold z5g
 generalize VM p t.proc=G at *
 cases hfi:VO p t with
 | false =>
   rw [hfi] at hC
   repeat' (first|((first|(intro (_:_≤9223372036854775807))|(refine DrawK.auto QQ mixed (by kernel_rfl) ?_)|(refine And.intro rfl ?_)|(refine And.intro ⟨by decide,by decide⟩ ?_)|(refine And.intro ⟨rfl,rfl,by decide⟩ ?_)|(refine BsK.pure (fun x hx=>by rcases List.mem_singleton.1 hx with rfl;rfl) rfl ?_)|(refine IdxK.map (by omega) (fun _=>rfl) ?_)|(refine IdxK.xs (by omega) ?_)|(refine IdxK.ss (by omega) ?_)|(refine ByteK.at (by omega) ?_)|(refine Wr.i64 (by omega) (by omega) ?_)|(refine CallK.pure hC (.cons (Sub.refl _) (.cons (Sub.refl _) .nil)) ?_;rintro _ rfl));conv=>whnf)|(refine Br.dec (fun _ => ?_) (fun _ => ?_)<;>first|(exfalso;omega)|conv=>whnf)|(refine Br.dec2 (fun _ => ?_) (fun _ => ?_)<;>first|(exfalso;omega)|conv=>whnf)|(refine Br.n (fun _ => ?_) (fun _ => ?_)<;>conv=>whnf)|(refine Br.b (fun _ => ?_) (fun _ => ?_)<;>conv=>whnf))
   all_goals first
    | (exfalso;simp_all;done)
    | exact RetK.ff rfl
 | true =>
   rw [hfi] at hC
   rw [Bool.true_and]
   repeat' (first|((first|(intro (_:_≤9223372036854775807))|(refine DrawK.auto QQ mixed (by kernel_rfl) ?_)|(refine And.intro rfl ?_)|(refine And.intro ⟨by decide,by decide⟩ ?_)|(refine And.intro ⟨rfl,rfl,by decide⟩ ?_)|(refine BsK.pure (fun x hx=>by rcases List.mem_singleton.1 hx with rfl;rfl) rfl ?_)|(refine IdxK.map (by omega) (fun _=>rfl) ?_)|(refine IdxK.xs (by omega) ?_)|(refine IdxK.ss (by omega) ?_)|(refine ByteK.at (by omega) ?_)|(refine Wr.i64 (by omega) (by omega) ?_)|(refine CallK.pure hC (.cons (Sub.refl _) (.cons (Sub.refl _) .nil)) ?_;rintro _ rfl)|(refine AppK.str1 (by simp) (by simp) ?_));conv=>whnf)|(refine Br.dec (fun _ => ?_) (fun _ => ?_)<;>first|(exfalso;omega)|conv=>whnf)|(refine Br.dec2 (fun _ => ?_) (fun _ => ?_)<;>first|(exfalso;omega)|conv=>whnf)|(refine Br.n (fun _ => ?_) (fun _ => ?_)<;>conv=>whnf)|(refine Br.b (fun _ => ?_) (fun _ => ?_)<;>conv=>whnf))
   all_goals simp only [show (ByteArray.mk #[]).data.toList=[] from rfl] at *
   all_goals first
    | (exfalso;simp_all;done)
    | skip
   all_goals
    first
    | (have hq:(t.name==[])=false:=by assumption
       have hE:=hE [t.name] (.inr rfl)
       rw [List.append_nil] at hE
       rw [← hE]
       generalize hpre:([t.name]:List Str)=pre at hE)
    | (have hq:(t.name==[])=true:=by assumption
       have hE:=hE [] (.inl ⟨rfl,by simpa using hq⟩)
       rw [List.append_nil] at hE
       rw [← hE]
       generalize hpre:([]:List Str)=pre at hE)
    have hpl:pre.length≤1:=by rw [← hpre];simp
    refine LoopK.inv QQ (fun x:Nat×List Str=>⟨[(2,.p (.ip p.cells)),(3,.p (.ip t.cells)),(5,.hd 0 0 x.2.length),(21,.p (.sl (t.args.map fun a => .agg a.cells))),(22,.p (.int .i64 (t.args.map fun a=>AV.agg a.cells).length)),(23,.p (.int .i64 x.1))],[(0,.own 9 1 (x.2.map .str))]⟩) (fun x=>x.1≤t.args.length∧x.2.length≤x.1+1∧apR G (t.args.drop x.1) x.2=apR G t.args pre) (fun x=>t.args.length-x.1) (0,pre)
     (by subst hpre;first|exact Le.of_eq rfl|exact (Le.mk [(0,.own 9 1 [])] (by simp [Chunk.new0];rfl) (by simp) (by simp) (.cons (.refl _) (.cons (.refl _) (.cons (.nil List.mem_cons_self) (.cons (.refl _) (.cons (.refl _) (.cons (.refl _) .nil)))))) (.new List.mem_cons_self .nil))) ⟨Nat.zero_le _,by simp only;omega,rfl⟩ ?_
    rintro ⟨j,acc⟩ ⟨h2,h3,h4⟩
    simp only at h2 h3 h4 ⊢
    rcases Nat.lt_or_ge j t.args.length with hj|hj
    ·rw [List.drop_eq_getElem_cons hj,apR] at h4
     rw [← h4]
     conv=>whnf
     repeat' (first|((first|(intro (_:_≤9223372036854775807))|(refine DrawK.auto QQ mixed (by kernel_rfl) ?_)|(refine And.intro rfl ?_)|(refine And.intro ⟨by decide,by decide⟩ ?_)|(refine And.intro ⟨rfl,rfl,by decide⟩ ?_)|(refine BsK.pure (fun x hx=>by rcases List.mem_singleton.1 hx with rfl;rfl) rfl ?_)|(refine IdxK.map (by omega) (fun _=>rfl) ?_)|(refine IdxK.xs (by omega) ?_)|(refine IdxK.ss (by omega) ?_)|(refine ByteK.at (by omega) ?_)|(refine Wr.i64 (by omega) (by omega) ?_)|(refine CallK.borrow (QS acc (t.args[j]'hj).name) (.cons (.hd rfl (by simp)) (.cons (.p (Sub.refl _)) .nil)) (by rintro _ rfl;rfl) ?_;rintro _ rfl)|(refine CallK.pure hT (.cons (Sub.refl _) (.cons (Sub.refl _) .nil)) ?_;rintro _ rfl)|(refine CallK.pure (QS G (t.args[j]'hj).name) (.cons (Sub.refl _) (.cons (Sub.refl _) .nil)) ?_;rintro _ rfl)|(refine AppK.str1 (by simp) (by simp;omega) ?_));conv=>whnf)|(refine Br.dec (fun _ => ?_) (fun _ => ?_)<;>first|(exfalso;omega)|conv=>whnf)|(refine Br.dec2 (fun _ => ?_) (fun _ => ?_)<;>first|(exfalso;omega)|conv=>whnf)|(refine Br.n (fun _ => ?_) (fun _ => ?_)<;>conv=>whnf)|(refine Br.b (fun _ => ?_) (fun _ => ?_)<;>conv=>whnf))
     all_goals first
      | (exfalso;simp_all;done)
      | exact RetK.ff (by simp [*])
      | exact ⟨(j+1,acc++[t.args[j].name]),⟨by simp only;omega,by simp;omega,by simp only;simp [*]⟩,by simp only;omega,Le.of_eq (by simp only [List.length_append,List.map_append];rfl)⟩
      | exact ⟨(j+1,acc),⟨by simp only;omega,by simp only;omega,by simp only;simp [*]⟩,by simp only;omega,Le.of_eq rfl⟩
    ·rw [List.drop_eq_nil_of_le hj,apR] at h4
     rw [← h4]
     conv=>whnf
     repeat' (first|((first|(intro (_:_≤9223372036854775807))|(refine DrawK.auto QQ mixed (by kernel_rfl) ?_)|(refine And.intro rfl ?_)|(refine And.intro ⟨by decide,by decide⟩ ?_)|(refine And.intro ⟨rfl,rfl,by decide⟩ ?_)|(refine BsK.pure (fun x hx=>by rcases List.mem_singleton.1 hx with rfl;rfl) rfl ?_)|(refine IdxK.map (by omega) (fun _=>rfl) ?_)|(refine IdxK.xs (by omega) ?_)|(refine IdxK.ss (by omega) ?_)|(refine ByteK.at (by omega) ?_)|(refine Wr.i64 (by omega) (by omega) ?_));conv=>whnf)|(refine Br.dec (fun _ => ?_) (fun _ => ?_)<;>first|(exfalso;omega)|conv=>whnf)|(refine Br.dec2 (fun _ => ?_) (fun _ => ?_)<;>first|(exfalso;omega)|conv=>whnf)|(refine Br.n (fun _ => ?_) (fun _ => ?_)<;>conv=>whnf)|(refine Br.b (fun _ => ?_) (fun _ => ?_)<;>conv=>whnf))
     exact RetK.tt rfl
theorem QN (c a:Int):SpecP Tryz.prog 266 [.int .i64 c,.int .i64 a] (fun r=>r=FF c a):=by
 refine SpecP.body DI QQ Tryz.func266 rfl Tryz.call266 (by show 2≤_;decide) ?_
 conv=>whnf
 repeat' (first|((first|(intro (_:_≤9223372036854775807))|(refine DrawK.auto QQ mixed (by kernel_rfl) ?_)|(refine And.intro rfl ?_)|(refine And.intro ⟨by decide,by decide⟩ ?_)|(refine And.intro ⟨rfl,rfl,by decide⟩ ?_)|(refine BsK.pure (fun x hx=>by rcases List.mem_singleton.1 hx with rfl;rfl) rfl ?_)|(refine IdxK.map (by omega) (fun _=>rfl) ?_)|(refine IdxK.xs (by omega) ?_)|(refine IdxK.ss (by omega) ?_)|(refine ByteK.at (by omega) ?_)|(refine Wr.i64 (by omega) (by omega) ?_));conv=>whnf)|(refine Br.dec (fun _ => ?_) (fun _ => ?_)<;>first|(exfalso;omega)|conv=>whnf)|(refine Br.dec2 (fun _ => ?_) (fun _ => ?_)<;>first|(exfalso;omega)|conv=>whnf)|(refine Br.n (fun _ => ?_) (fun _ => ?_)<;>conv=>whnf)|(refine Br.b (fun _ => ?_) (fun _ => ?_)<;>conv=>whnf))
 exact RetK.fault rfl rfl
theorem RetK.flt {H:Heap} {a b:Int} {P:Prop} (h:a=0↔P):RetK H (.p (.agg [.int .i64 a,.int .i64 b])) (fun r => ∃ c d,r=FF c d∧(c=0↔P)):=⟨_,.p (Sub.refl _),a,b,rfl,h⟩
def fltR (P:Prop) (r:AV):Prop := ∃ c d,r=FF c d∧(c=0↔P)
theorem MV (p:Pg) (hm:VJ p=true):SpecP Tryz.prog 203 [.agg p.cells] (fun r=>fltR (∀ t∈YN p,t.kind=4→VO p t=true) r):=by
 refine SpecP.body DG QQ Tryz.func203 rfl Tryz.call203 (by show 1≤_;decide) ?_
 conv=>whnf
 have hA:=UX p
 have hms:=x3g hm
 rw [← hms]
 generalize allR p=L at *
 have hLl:=YA L
 repeat' (first|((first|(intro (_:_≤9223372036854775807))|(refine DrawK.auto QQ mixed (by kernel_rfl) ?_)|(refine And.intro rfl ?_)|(refine And.intro ⟨by decide,by decide⟩ ?_)|(refine And.intro ⟨rfl,rfl,by decide⟩ ?_)|(refine BsK.pure (fun x hx=>by rcases List.mem_singleton.1 hx with rfl;rfl) rfl ?_)|(refine IdxK.map (by omega) (fun _=>rfl) ?_)|(refine IdxK.xs (by omega) ?_)|(refine IdxK.ss (by omega) ?_)|(refine ByteK.at (by omega) ?_)|(refine Wr.i64 (by omega) (by omega) ?_)|(refine CallK.pure hA (.cons (Sub.refl _) .nil) ?_;rintro _ rfl));conv=>whnf)|(refine Br.dec (fun _ => ?_) (fun _ => ?_)<;>first|(exfalso;omega)|conv=>whnf)|(refine Br.dec2 (fun _ => ?_) (fun _ => ?_)<;>first|(exfalso;omega)|conv=>whnf)|(refine Br.n (fun _ => ?_) (fun _ => ?_)<;>conv=>whnf)|(refine Br.b (fun _ => ?_) (fun _ => ?_)<;>conv=>whnf))
 refine LoopK.inv QQ (fun j:Nat=>⟨[(1,.p (.ip p.cells)),(2,.ptr 1 0),(6,.p (q8t L)),(7,.p (.int .i64 (L.map fun i=>AV.agg i.cells).length)),(8,.p (.int .i64 j))],[(1,.obj 90 [.p (.int .i64 0),.p (.int .i64 0)])]⟩) (fun j=>j≤L.length ∧ ∀ x∈L.take j,x.s.kind=4→VO p x.s=true) (fun j=>L.length-j) 0 (Le.of_eq rfl) ⟨Nat.zero_le _,fun x hx=>by rw [List.take_zero] at hx;cases hx⟩ ?_
 rintro j ⟨h2,h3⟩
 rcases Nat.lt_or_ge j L.length with hj|hj
 ·have hC:=VR p L[j].s
  have hmem:L[j].s∈L.map RI.s:=List.mem_map.2 ⟨_,List.getElem_mem hj,rfl⟩
  have hst:(L[j].s.kind=4→VO p L[j].s=true) → ∀ x∈L.take (j+1),x.s.kind=4→VO p x.s=true:=fun h x hx=>by
   rcases (QT hj).1 hx with h4|rfl
   ·exact h3 x h4
   ·exact h
  conv=>whnf
  repeat' (first|((first|(intro (_:_≤9223372036854775807))|(refine DrawK.auto QQ mixed (by kernel_rfl) ?_)|(refine And.intro rfl ?_)|(refine And.intro ⟨by decide,by decide⟩ ?_)|(refine And.intro ⟨rfl,rfl,by decide⟩ ?_)|(refine BsK.pure (fun x hx=>by rcases List.mem_singleton.1 hx with rfl;rfl) rfl ?_)|(refine IdxK.map (by omega) (fun _=>rfl) ?_)|(refine IdxK.xs (by omega) ?_)|(refine IdxK.ss (by omega) ?_)|(refine ByteK.at (by omega) ?_)|(refine Wr.i64 (by omega) (by omega) ?_)|(refine CallK.pure hC (.cons (Sub.refl _) (.cons (Sub.refl _) .nil)) ?_;rintro _ rfl)|(refine CallK.pure (QN 6 _) (.cons (Sub.refl _) (.cons (Sub.refl _) .nil)) ?_;rintro _ rfl));conv=>whnf)|(refine Br.dec (fun _ => ?_) (fun _ => ?_)<;>first|(exfalso;omega)|conv=>whnf)|(refine Br.dec2 (fun _ => ?_) (fun _ => ?_)<;>first|(exfalso;omega)|conv=>whnf)|(refine Br.n (fun _ => ?_) (fun _ => ?_)<;>conv=>whnf)|(refine Br.b (fun _ => ?_) (fun _ => ?_)<;>conv=>whnf))
  all_goals first
   | exact ⟨j+1,⟨hj,hst fun h=>by first|assumption|omega⟩,by omega,Le.of_eq rfl⟩
   | (refine RetK.flt ⟨fun h=>by omega,fun h => ?_⟩
      have:=h _ hmem (by omega)
      simp_all
      done)
 ·conv=>whnf
  repeat' (first|((first|(intro (_:_≤9223372036854775807))|(refine DrawK.auto QQ mixed (by kernel_rfl) ?_)|(refine And.intro rfl ?_)|(refine And.intro ⟨by decide,by decide⟩ ?_)|(refine And.intro ⟨rfl,rfl,by decide⟩ ?_)|(refine BsK.pure (fun x hx=>by rcases List.mem_singleton.1 hx with rfl;rfl) rfl ?_)|(refine IdxK.map (by omega) (fun _=>rfl) ?_)|(refine IdxK.xs (by omega) ?_)|(refine IdxK.ss (by omega) ?_)|(refine ByteK.at (by omega) ?_)|(refine Wr.i64 (by omega) (by omega) ?_));conv=>whnf)|(refine Br.dec (fun _ => ?_) (fun _ => ?_)<;>first|(exfalso;omega)|conv=>whnf)|(refine Br.dec2 (fun _ => ?_) (fun _ => ?_)<;>first|(exfalso;omega)|conv=>whnf)|(refine Br.n (fun _ => ?_) (fun _ => ?_)<;>conv=>whnf)|(refine Br.b (fun _ => ?_) (fun _ => ?_)<;>conv=>whnf))
  refine RetK.flt ⟨fun _ t ht => ?_,fun _=>rfl⟩
  obtain ⟨x,hx,rfl⟩:=List.mem_map.1 ht
  exact h3 x (by rw [List.take_of_length_le hj];exact hx)
theorem FU (p:Pg) (hf:Fit p) (hs:(QM p).1=0) (har : ∀ t∈YN p,t.kind=4→VO p t=true):SpecP Tryz.prog 205 [.agg p.cells] (fun r=>fltR (∀ t∈YN p,t.kind=4→XW t.name (VM p t.proc) t.args []=true) r):=by
 refine SpecP.body GG QQ Tryz.func205 rfl Tryz.call205 (by show 1≤_;decide) ?_
 conv=>whnf
 obtain ⟨hm,hb,hns⟩:=ZN hs
 have hA:=UX p
 have hms:=x3g hm
 have hok : ∀ x∈allR p,oneOk x.s=true:=fun x hx=>by rw [x0h hm] at hx;exact (z2n hm x hx).2
 have hap : ∀ x∈allR p,x.s.kind=4→SpecP Tryz.prog 273 [.agg p.cells,.agg x.s.cells] (fun r=>r = .bool (XW x.s.name (VM p x.s.proc) x.s.args [])):=fun x hx hk=>by
  have hxs:x.s∈YN p:=by rw [← hms];exact List.mem_map.2 ⟨x,hx,rfl⟩
  have hx2:=hxs
  unfold YN at hx2
  obtain ⟨f,hf1,hf2⟩:=List.mem_flatMap.1 hx2
  have hpc:=(q0p hs hf1 hf2 hk).1
  have hw:=q3h _ _ hf2
  have hwp:=hf.pr hf1
  have h1:=q9n x.s
  have h2:=YL x.s.args
  have h3:=NU p hf hs x.s hpc (by unfold wPr at hwp;omega) fun a ha hr he=>by
   have h4:=List.all_eq_true.1 (VT (hok x hx)).args a ha
   unfold argR at h4
   rw [hr,cond_true,he] at h4
   simp at h4
   have:=q0x h4.1
   cases this
  unfold z5g at h3
  rw [har _ hxs hk,Bool.true_and] at h3
  exact h3
 rw [← hms]
 clear hms har hok
 generalize allR p=L at *
 have hLl:=YA L
 repeat' (first|((first|(intro (_:_≤9223372036854775807))|(refine DrawK.auto QQ mixed (by kernel_rfl) ?_)|(refine And.intro rfl ?_)|(refine And.intro ⟨by decide,by decide⟩ ?_)|(refine And.intro ⟨rfl,rfl,by decide⟩ ?_)|(refine BsK.pure (fun x hx=>by rcases List.mem_singleton.1 hx with rfl;rfl) rfl ?_)|(refine IdxK.map (by omega) (fun _=>rfl) ?_)|(refine IdxK.xs (by omega) ?_)|(refine IdxK.ss (by omega) ?_)|(refine ByteK.at (by omega) ?_)|(refine Wr.i64 (by omega) (by omega) ?_)|(refine CallK.pure hA (.cons (Sub.refl _) .nil) ?_;rintro _ rfl));conv=>whnf)|(refine Br.dec (fun _ => ?_) (fun _ => ?_)<;>first|(exfalso;omega)|conv=>whnf)|(refine Br.dec2 (fun _ => ?_) (fun _ => ?_)<;>first|(exfalso;omega)|conv=>whnf)|(refine Br.n (fun _ => ?_) (fun _ => ?_)<;>conv=>whnf)|(refine Br.b (fun _ => ?_) (fun _ => ?_)<;>conv=>whnf))
 refine LoopK.inv QQ (fun j:Nat=>⟨[(1,.p (.ip p.cells)),(2,.ptr 1 0),(6,.p (q8t L)),(7,.p (.int .i64 (L.map fun i=>AV.agg i.cells).length)),(8,.p (.int .i64 j))],[(1,.obj 90 [.p (.int .i64 0),.p (.int .i64 0)])]⟩) (fun j=>j≤L.length ∧ ∀ x∈L.take j,x.s.kind=4→XW x.s.name (VM p x.s.proc) x.s.args []=true) (fun j=>L.length-j) 0 (Le.of_eq rfl) ⟨Nat.zero_le _,fun x hx=>by rw [List.take_zero] at hx;cases hx⟩ ?_
 rintro j ⟨h2,h3⟩
 rcases Nat.lt_or_ge j L.length with hj|hj
 ·have hC:=hap _ (List.getElem_mem hj)
  have hmem:L[j].s∈L.map RI.s:=List.mem_map.2 ⟨_,List.getElem_mem hj,rfl⟩
  have hst:(L[j].s.kind=4→XW L[j].s.name (VM p L[j].s.proc) L[j].s.args []=true) → ∀ x∈L.take (j+1),x.s.kind=4→XW x.s.name (VM p x.s.proc) x.s.args []=true:=fun h x hx=>by
   rcases (QT hj).1 hx with h4|rfl
   ·exact h3 x h4
   ·exact h
  conv=>whnf
  repeat' (first|((first|(intro (_:_≤9223372036854775807))|(refine DrawK.auto QQ mixed (by kernel_rfl) ?_)|(refine And.intro rfl ?_)|(refine And.intro ⟨by decide,by decide⟩ ?_)|(refine And.intro ⟨rfl,rfl,by decide⟩ ?_)|(refine BsK.pure (fun x hx=>by rcases List.mem_singleton.1 hx with rfl;rfl) rfl ?_)|(refine IdxK.map (by omega) (fun _=>rfl) ?_)|(refine IdxK.xs (by omega) ?_)|(refine IdxK.ss (by omega) ?_)|(refine ByteK.at (by omega) ?_)|(refine Wr.i64 (by omega) (by omega) ?_)|(refine CallK.pure (hC (by omega)) (.cons (Sub.refl _) (.cons (Sub.refl _) .nil)) ?_;rintro _ rfl)|(refine CallK.pure (QN 8 _) (.cons (Sub.refl _) (.cons (Sub.refl _) .nil)) ?_;rintro _ rfl));conv=>whnf)|(refine Br.dec (fun _ => ?_) (fun _ => ?_)<;>first|(exfalso;omega)|conv=>whnf)|(refine Br.dec2 (fun _ => ?_) (fun _ => ?_)<;>first|(exfalso;omega)|conv=>whnf)|(refine Br.n (fun _ => ?_) (fun _ => ?_)<;>conv=>whnf)|(refine Br.b (fun _ => ?_) (fun _ => ?_)<;>conv=>whnf))
  all_goals first
   | exact ⟨j+1,⟨hj,hst fun h=>by first|assumption|omega⟩,by omega,Le.of_eq rfl⟩
   | (refine RetK.flt ⟨fun h=>by omega,fun h => ?_⟩
      have:=h _ hmem (by omega)
      simp_all
      done)
 ·conv=>whnf
  repeat' (first|((first|(intro (_:_≤9223372036854775807))|(refine DrawK.auto QQ mixed (by kernel_rfl) ?_)|(refine And.intro rfl ?_)|(refine And.intro ⟨by decide,by decide⟩ ?_)|(refine And.intro ⟨rfl,rfl,by decide⟩ ?_)|(refine BsK.pure (fun x hx=>by rcases List.mem_singleton.1 hx with rfl;rfl) rfl ?_)|(refine IdxK.map (by omega) (fun _=>rfl) ?_)|(refine IdxK.xs (by omega) ?_)|(refine IdxK.ss (by omega) ?_)|(refine ByteK.at (by omega) ?_)|(refine Wr.i64 (by omega) (by omega) ?_));conv=>whnf)|(refine Br.dec (fun _ => ?_) (fun _ => ?_)<;>first|(exfalso;omega)|conv=>whnf)|(refine Br.dec2 (fun _ => ?_) (fun _ => ?_)<;>first|(exfalso;omega)|conv=>whnf)|(refine Br.n (fun _ => ?_) (fun _ => ?_)<;>conv=>whnf)|(refine Br.b (fun _ => ?_) (fun _ => ?_)<;>conv=>whnf))
  refine RetK.flt ⟨fun _ t ht => ?_,fun _=>rfl⟩
  obtain ⟨x,hx,rfl⟩:=List.mem_map.1 ht
  exact h3 x (by rw [List.take_of_length_le hj];exact hx)
open Go.Proofs
theorem x6b (p:Pg):XO p=false↔XX p.globals=false∧XX (procsN p)=false∧(VY p mainS).2=true∧(VY p mainS).1.params.length=0:=by
 unfold XO VY
 have h1:(procsN p).any (fun s=>mainS==s)=(p.procs.find? fun f=>f.name==mainS).isSome:=by
  unfold procsN
  rw [Bool.eq_iff_iff,List.find?_isSome,List.any_map,List.any_eq_true]
  simp only [Function.comp,beq_iff_eq]
  exact ⟨fun ⟨x,a,b⟩=>⟨x,a,b.symm⟩,fun ⟨x,a,b⟩=>⟨x,a,b.symm⟩⟩
 have h2:(p.procs.find? fun f=>mainS==f.name)=p.procs.find? fun f=>f.name==mainS:=by
  congr 1
  funext f
  exact Bool.beq_comm
 rw [h1,h2]
 cases p.procs.find? fun f=>f.name==mainS with
 | none=>simp
 | some f=>simp
theorem x8m {p:Pg} (hf:Fit p) {f:Pr} (h:f∈p.procs):f.params.length≤20000∧f.vars.length≤20000∧f.fin.length≤20000∧p.globals.length≤20000:=by
 have h1:=hf.pr h
 have h2:=GF f.vars
 have h3:=GF f.fin
 have h4:=GF p.globals
 have h5:wPg p≤20000:=hf
 have h6:f.params.length≤w3b f.params:=by
  generalize f.params=l
  induction l with
  | nil=>exact Nat.zero_le _
  | cons a r ih =>
    rw [w3b,List.length_cons]
    omega
 unfold wPr at h1
 unfold wPg at h5
 omega
theorem MR (p:Pg) (hf:Fit p):SpecP Tryz.prog 202 [.agg p.cells] (fun r=>fltR ((QM p).1=0) r):=by
 refine SpecP.body DJ QQ Tryz.func202 rfl Tryz.call202 (by show 1≤_;decide) ?_
 conv=>whnf
 have hM:=YK p
 cases hm:VJ p with
 | false =>
   rw [hm] at hM
   repeat' (first|((first|(intro (_:_≤9223372036854775807))|(refine DrawK.auto QQ mixed (by kernel_rfl) ?_)|(refine And.intro rfl ?_)|(refine And.intro ⟨by decide,by decide⟩ ?_)|(refine And.intro ⟨rfl,rfl,by decide⟩ ?_)|(refine BsK.pure (fun x hx=>by rcases List.mem_singleton.1 hx with rfl;rfl) rfl ?_)|(refine IdxK.map (by omega) (fun _=>rfl) ?_)|(refine IdxK.xs (by omega) ?_)|(refine IdxK.ss (by omega) ?_)|(refine ByteK.at (by omega) ?_)|(refine Wr.i64 (by omega) (by omega) ?_)|(refine CallK.pure hM (.cons (Sub.refl _) .nil) ?_;rintro _ rfl)|(refine CallK.pure (QN 1 0) (.cons (Sub.refl _) (.cons (Sub.refl _) .nil)) ?_;rintro _ rfl));conv=>whnf)|(refine Br.dec (fun _ => ?_) (fun _ => ?_)<;>first|(exfalso;omega)|conv=>whnf)|(refine Br.dec2 (fun _ => ?_) (fun _ => ?_)<;>first|(exfalso;omega)|conv=>whnf)|(refine Br.n (fun _ => ?_) (fun _ => ?_)<;>conv=>whnf)|(refine Br.b (fun _ => ?_) (fun _ => ?_)<;>conv=>whnf))
   all_goals first
    | (exfalso;simp_all;done)
    | (refine RetK.flt ⟨fun h=>by omega,fun h => ?_⟩
       have:=(ZN h).1
       rw [hm] at this
       cases this)
 | true =>
   rw [hm] at hM
   obtain ⟨hg,hpl,hcn⟩:=XP hm
   rw [z5w hm,x6b]
   have hpll:(p.procs.map fun f=>AV.agg f.cells).length=p.procs.length:=List.length_map _
   repeat' (first|((first|(intro (_:_≤9223372036854775807))|(refine DrawK.auto QQ mixed (by kernel_rfl) ?_)|(refine And.intro rfl ?_)|(refine And.intro ⟨by decide,by decide⟩ ?_)|(refine And.intro ⟨rfl,rfl,by decide⟩ ?_)|(refine BsK.pure (fun x hx=>by rcases List.mem_singleton.1 hx with rfl;rfl) rfl ?_)|(refine IdxK.map (by omega) (fun _=>rfl) ?_)|(refine IdxK.xs (by omega) ?_)|(refine IdxK.ss (by omega) ?_)|(refine ByteK.at (by omega) ?_)|(refine Wr.i64 (by omega) (by omega) ?_)|(refine CallK.pure hM (.cons (Sub.refl _) .nil) ?_;rintro _ rfl));conv=>whnf)|(refine Br.dec (fun _ => ?_) (fun _ => ?_)<;>first|(exfalso;omega)|conv=>whnf)|(refine Br.dec2 (fun _ => ?_) (fun _ => ?_)<;>first|(exfalso;omega)|conv=>whnf)|(refine Br.n (fun _ => ?_) (fun _ => ?_)<;>conv=>whnf)|(refine Br.b (fun _ => ?_) (fun _ => ?_)<;>conv=>whnf))
   all_goals first
    | (exfalso;simp_all;done)
    | skip
   refine LoopK.inv QQ (fun x:Nat×List Str=>⟨[(1,.p (.ip p.cells)),(2,.ptr 1 0),(3,.hd 0 0 x.2.length),(19,.p (.sl (p.procs.map fun f => .agg f.cells))),(20,.p (.int .i64 (p.procs.map fun f=>AV.agg f.cells).length)),(21,.p (.int .i64 x.1))],[(0,.own 9 1 (x.2.map .str)),(1,.obj 90 [.p (.int .i64 0),.p (.int .i64 0)])]⟩) (fun x=>x.1≤p.procs.length∧x.2=(procsN p).take x.1) (fun x=>p.procs.length-x.1) (0,[])
    (Le.mk [(0,.own 9 1 [])] (by simp [Chunk.new0];rfl) (by simp) (by simp) (.cons (.refl _) (.cons (.refl _) (.cons (.nil List.mem_cons_self) (.cons (.refl _) (.cons (.refl _) (.cons (.refl _) .nil)))))) (.new List.mem_cons_self (.cons rfl (.refl _) .nil))) ⟨Nat.zero_le _,by simp⟩ ?_
   rintro ⟨j,acc⟩ ⟨h2,h3⟩
   simp only at h2 h3 ⊢
   have hpn:(procsN p).length=p.procs.length:=by simp [procsN]
   rcases Nat.lt_or_ge j p.procs.length with hj|hj
   ·have e1:(procsN p).take (j+1)=acc++[p.procs[j].name]:=by
     rw [List.take_succ_eq_append_getElem (by omega),← h3]
     simp [procsN]
    have hal:acc.length≤16:=by rw [h3,List.length_take];omega
    conv=>whnf
    repeat' (first|((first|(intro (_:_≤9223372036854775807))|(refine DrawK.auto QQ mixed (by kernel_rfl) ?_)|(refine And.intro rfl ?_)|(refine And.intro ⟨by decide,by decide⟩ ?_)|(refine And.intro ⟨rfl,rfl,by decide⟩ ?_)|(refine BsK.pure (fun x hx=>by rcases List.mem_singleton.1 hx with rfl;rfl) rfl ?_)|(refine IdxK.map (by omega) (fun _=>rfl) ?_)|(refine IdxK.xs (by omega) ?_)|(refine IdxK.ss (by omega) ?_)|(refine ByteK.at (by omega) ?_)|(refine Wr.i64 (by omega) (by omega) ?_)|(refine AppK.str1 (by simp) (by simp;omega) ?_));conv=>whnf)|(refine Br.dec (fun _ => ?_) (fun _ => ?_)<;>first|(exfalso;omega)|conv=>whnf)|(refine Br.dec2 (fun _ => ?_) (fun _ => ?_)<;>first|(exfalso;omega)|conv=>whnf)|(refine Br.n (fun _ => ?_) (fun _ => ?_)<;>conv=>whnf)|(refine Br.b (fun _ => ?_) (fun _ => ?_)<;>conv=>whnf))
    all_goals exact ⟨(j+1,acc++[p.procs[j].name]),⟨by simp only;omega,by simp only;rw [e1]⟩,by simp only;omega,Le.of_eq (by simp only [List.length_append,List.map_append];rfl)⟩
   rw [List.take_of_length_le (by omega)] at h3
   subst h3
   have hN:=ZG p mainS
   have hmq : ∀ q:Prop,((VY p mainS).2=true∧(VY p mainS).1.params.length=0∧q)→q:=fun q h=>h.2.2
   have hT1:=XL p.globals
   have hT2:=XL (procsN p)
   generalize (VY p mainS).2=mk at *
   generalize (VY p mainS).1=mf at *
   have hmfl:(mf.params.map fun a=>AV.agg a.cells).length=mf.params.length:=List.length_map _
   conv=>whnf
   repeat' (first|((first|(intro (_:_≤9223372036854775807))|(refine DrawK.auto QQ mixed (by kernel_rfl) ?_)|(refine And.intro rfl ?_)|(refine And.intro ⟨by decide,by decide⟩ ?_)|(refine And.intro ⟨rfl,rfl,by decide⟩ ?_)|(refine BsK.pure (fun x hx=>by rcases List.mem_singleton.1 hx with rfl;rfl) rfl ?_)|(refine IdxK.map (by omega) (fun _=>rfl) ?_)|(refine IdxK.xs (by omega) ?_)|(refine IdxK.ss (by omega) ?_)|(refine ByteK.at (by omega) ?_)|(refine Wr.i64 (by omega) (by omega) ?_)|(refine CallK.pure hN (.cons (Sub.refl _) (.cons (Sub.refl _) .nil)) ?_;rintro _ rfl)|(refine CallK.pure hT1 (.cons (Sub.refl _) .nil) ?_;rintro _ rfl)|(refine CallK.borrow hT2 (.cons (.hd rfl (by simp)) .nil) (by rintro _ rfl;rfl) ?_;rintro _ rfl)|(refine CallK.pure (QN 5 0) (.cons (Sub.refl _) (.cons (Sub.refl _) .nil)) ?_;rintro _ rfl));conv=>whnf)|(refine Br.dec (fun _ => ?_) (fun _ => ?_)<;>first|(exfalso;omega)|conv=>whnf)|(refine Br.dec2 (fun _ => ?_) (fun _ => ?_)<;>first|(exfalso;omega)|conv=>whnf)|(refine Br.n (fun _ => ?_) (fun _ => ?_)<;>conv=>whnf)|(refine Br.b (fun _ => ?_) (fun _ => ?_)<;>conv=>whnf))
   all_goals first
    | (refine RetK.flt ⟨fun h=>by omega,fun ⟨⟨h4,h5,h6,h7⟩,h8⟩ => ?_⟩
       exfalso
       simp_all
       done)
    | (refine RetK.flt ⟨fun h=>by omega,fun ⟨⟨h4,h5,h6,h7⟩,h8⟩ => ?_⟩
       omega)
    | skip
   have G1:XX p.globals=false:=by assumption
   have G2:XX (procsN p)=false:=by assumption
   have G3:mk=true:=by assumption
   have G4:mf.params.length=0:=by omega
   have hIff:(((XX p.globals=false∧XX (procsN p)=false∧mk=true∧mf.params.length=0) ∧ ∀ f∈p.procs,ScopeOK p f) ↔ ∀ f∈p.procs,ScopeOK p f):=⟨fun h=>h.2,fun h=>⟨⟨G1,G2,G3,G4⟩,h⟩⟩
   rw [hIff]
   clear hIff hT1 hT2 hN hmq G1 G2 G3 G4
   refine LoopK.inv QQ (fun j:Nat=>⟨[(1,.p (.ip p.cells)),(2,.ptr 1 0),(3,.hd 0 0 (procsN p).length),(55,.p (.sl (p.procs.map fun f => .agg f.cells))),(56,.p (.int .i64 (p.procs.map fun f=>AV.agg f.cells).length)),(57,.p (.int .i64 j))],[(0,.own 9 1 ((procsN p).map .str)),(1,.obj 90 [.p (.int .i64 0),.p (.int .i64 0)])]⟩) (fun j=>j≤p.procs.length ∧ ∀ f∈p.procs.take j,ScopeOK p f) (fun j=>p.procs.length-j) 0
    (Le.of_eq rfl) ⟨Nat.zero_le _,fun f h=>by rw [List.take_zero] at h;cases h⟩ ?_
   rintro j ⟨h2,h3⟩
   rcases Nat.lt_or_ge j p.procs.length with hj|hj
   rotate_left 1
   ·rw [List.take_of_length_le hj] at h3
    conv=>whnf
    repeat' (first|((first|(intro (_:_≤9223372036854775807))|(refine DrawK.auto QQ mixed (by kernel_rfl) ?_)|(refine And.intro rfl ?_)|(refine And.intro ⟨by decide,by decide⟩ ?_)|(refine And.intro ⟨rfl,rfl,by decide⟩ ?_)|(refine BsK.pure (fun x hx=>by rcases List.mem_singleton.1 hx with rfl;rfl) rfl ?_)|(refine IdxK.map (by omega) (fun _=>rfl) ?_)|(refine IdxK.xs (by omega) ?_)|(refine IdxK.ss (by omega) ?_)|(refine ByteK.at (by omega) ?_)|(refine Wr.i64 (by omega) (by omega) ?_));conv=>whnf)|(refine Br.dec (fun _ => ?_) (fun _ => ?_)<;>first|(exfalso;omega)|conv=>whnf)|(refine Br.dec2 (fun _ => ?_) (fun _ => ?_)<;>first|(exfalso;omega)|conv=>whnf)|(refine Br.n (fun _ => ?_) (fun _ => ?_)<;>conv=>whnf)|(refine Br.b (fun _ => ?_) (fun _ => ?_)<;>conv=>whnf))
    exact RetK.flt ⟨fun _=>h3,fun _=>rfl⟩
   have hfm:=List.getElem_mem hj
   obtain ⟨w1,w2,w3,w4⟩:=x8m hf hfm
   have hwp:=hf.pr hfm
   have hPm:=BT p.procs[j] (by omega)
   have hF:=XQ p.procs[j]
   have hmap:(WG p.procs[j]).map RI.s=flL p.procs[j].body:=by rw [JZ hm hfm];exact q0h 1 0 false _
   have hrl:=KR p.procs[j]
   have hargs : ∀ x∈WG p.procs[j],x.s.args.length≤20000:=fun x hx=>by
    have hmm:x.s∈flL p.procs[j].body:=by
     rw [← hmap]
     exact List.mem_map.2 ⟨_,hx,rfl⟩
    have h4:=q3h _ _ hmm
    have h5:=q9n x.s
    have h6:=YL x.s.args
    unfold wPr at hwp
    omega
   have hav:allV p p.procs[j]=p.globals++((p.procs[j].params.map Param.name)++p.procs[j].vars):=rfl
   have hT:=XL (allV p p.procs[j])
   rw [hav] at hT
   have hnd:=ZU (l:=allV p p.procs[j])
   rw [hav] at hnd
   have hbad : ¬ScopeOK p p.procs[j] → ¬∀ f∈p.procs,ScopeOK p f:=fun h h2=>h (h2 _ hfm)
   have hgood:ScopeOK p p.procs[j] → ∀ f∈p.procs.take (j+1),ScopeOK p f:=fun h f hfq=>by
    rcases (QT hj).1 hfq with h4|rfl
    ·exact h3 f h4
    ·exact h
   have hok:((p.globals++((p.procs[j].params.map Param.name)++p.procs[j].vars)).Nodup ∧ ∀ x∈WG p.procs[j],knownB p p.procs[j] (procsN p) x.s=true)↔ScopeOK p p.procs[j]:=by
    constructor
    ·rintro ⟨a,b⟩
     exact ⟨a,fun t ht=>by
      rw [← hmap] at ht
      obtain ⟨x,hx,rfl⟩:=List.mem_map.1 ht
      exact b x hx⟩
    ·rintro ⟨a,b⟩
     exact ⟨a,fun x hx=>b _ (by rw [← hmap];exact List.mem_map.2 ⟨x,hx,rfl⟩)⟩
   have hkd:=fun v=>LO p p.procs[j] v
   have hkn : ∀ t:S,knownB p p.procs[j] (procsN p) t=((ZK t).all (fun n => !(KI p p.procs[j] n==0))&&(decide (t.kind≠4)||(!(t.proc==mainS)&&inS (procsN p) t.proc))):=fun t=>by rw [q7a];rfl
   clear hav hwp hmap hfm
   generalize WG p.procs[j]=its at *
   generalize ScopeOK p p.procs[j]=SK at *
   have hil:=YA its
   rw [show QD (p.globals++((p.procs[j].params.map Param.name)++p.procs[j].vars))=AV.sl (p.globals.map .str++(p.procs[j].params.map Param.name).map .str++p.procs[j].vars.map .str) by unfold QD;rw [List.map_append,List.map_append,List.append_assoc]] at hT
   conv=>whnf
   repeat' (first|((first|(intro (_:_≤9223372036854775807))|(refine DrawK.auto QQ mixed (by kernel_rfl) ?_)|(refine And.intro rfl ?_)|(refine And.intro ⟨by decide,by decide⟩ ?_)|(refine And.intro ⟨rfl,rfl,by decide⟩ ?_)|(refine IdxK.map (by omega) (fun _=>rfl) ?_)|(refine IdxK.xs (by omega) ?_)|(refine IdxK.ss (by omega) ?_)|(refine ByteK.at (by omega) ?_)|(refine Wr.i64 (by omega) (by omega) ?_)|(refine CallK.pure hPm (.cons (Sub.refl _) .nil) ?_;rintro _ rfl)|(refine BsK.own (fun x hx=>by cases hx) rfl ?_)|(refine AppK.strs _ (by simp) (by simp;omega) ?_)|(refine CallK.borrow hT (.cons (.hd rfl (by simp<;>omega)) .nil) (by rintro _ rfl;rfl) ?_;rintro _ rfl)|(refine CallK.pure (QN 5 0) (.cons (Sub.refl _) (.cons (Sub.refl _) .nil)) ?_;rintro _ rfl)|(refine CallK.pure hF (.cons (Sub.refl _) .nil) ?_;rintro _ rfl));conv=>whnf)|(refine Br.dec (fun _ => ?_) (fun _ => ?_)<;>first|(exfalso;omega)|conv=>whnf)|(refine Br.dec2 (fun _ => ?_) (fun _ => ?_)<;>first|(exfalso;omega)|conv=>whnf)|(refine Br.n (fun _ => ?_) (fun _ => ?_)<;>conv=>whnf)|(refine Br.b (fun _ => ?_) (fun _ => ?_)<;>conv=>whnf))
   all_goals first
    | (refine RetK.flt ⟨fun h=>by omega,fun hP=>absurd hP (hbad fun hS => ?_)⟩
       have:=hnd.2 (hok.2 hS).1
       simp_all
       done)
    | skip
   have hND:=hnd.1 (by assumption)
   have hbad2 : ∀ x∈its,knownB p p.procs[j] (procsN p) x.s=false → ¬∀ f∈p.procs,ScopeOK p f:=fun x hx h=>hbad fun hS=>by
    have:=(hok.2 hS).2 x hx
    rw [this] at h
    cases h
   clear hT hnd
   refine LoopK.inv QQ (fun m:Nat=>⟨[(1,.p (.ip p.cells)),(2,.ptr 1 0),(3,.hd 0 0 (procsN p).length),(9,.p (.ip p.procs[j].cells)),(55,.p (.sl (p.procs.map fun f => .agg f.cells))),(56,.p (.int .i64 (p.procs.map fun f=>AV.agg f.cells).length)),(57,.p (.int .i64 j)),(74,.p (q8t its)),(75,.p (.int .i64 (its.map fun i=>AV.agg i.cells).length)),(76,.p (.int .i64 m))],[(0,.own 9 1 ((procsN p).map .str)),(1,.obj 90 [.p (.int .i64 0),.p (.int .i64 0)])]⟩) (fun m=>m≤its.length ∧ ∀ x∈its.take m,knownB p p.procs[j] (procsN p) x.s=true) (fun m=>its.length-m) 0
    (Le.of_eq rfl) ⟨Nat.zero_le _,fun x h=>by rw [List.take_zero] at h;cases h⟩ ?_
   rintro m ⟨h4,h5⟩
   rcases Nat.lt_or_ge m its.length with hm'|hm'
   rotate_left 1
   ·rw [List.take_of_length_le hm'] at h5
    conv=>whnf
    repeat' (first|((first|(intro (_:_≤9223372036854775807))|(refine DrawK.auto QQ mixed (by kernel_rfl) ?_)|(refine And.intro rfl ?_)|(refine And.intro ⟨by decide,by decide⟩ ?_)|(refine And.intro ⟨rfl,rfl,by decide⟩ ?_)|(refine BsK.pure (fun x hx=>by rcases List.mem_singleton.1 hx with rfl;rfl) rfl ?_)|(refine IdxK.map (by omega) (fun _=>rfl) ?_)|(refine IdxK.xs (by omega) ?_)|(refine IdxK.ss (by omega) ?_)|(refine ByteK.at (by omega) ?_)|(refine Wr.i64 (by omega) (by omega) ?_));conv=>whnf)|(refine Br.dec (fun _ => ?_) (fun _ => ?_)<;>first|(exfalso;omega)|conv=>whnf)|(refine Br.dec2 (fun _ => ?_) (fun _ => ?_)<;>first|(exfalso;omega)|conv=>whnf)|(refine Br.n (fun _ => ?_) (fun _ => ?_)<;>conv=>whnf)|(refine Br.b (fun _ => ?_) (fun _ => ?_)<;>conv=>whnf))
    exact ⟨j+1,⟨by omega,hgood (hok.1 ⟨hND,h5⟩)⟩,by omega,Le.of_eq rfl⟩
   have hna:=hargs _ (List.getElem_mem hm')
   have hSd:=KJ its[m].s hna
   have hB:=hbad2 _ (List.getElem_mem hm')
   have hst:knownB p p.procs[j] (procsN p) its[m].s=true → ∀ x∈its.take (m+1),knownB p p.procs[j] (procsN p) x.s=true:=fun h x hx=>by
    rcases (QT hm').1 hx with h6|rfl
    ·exact h5 x h6
    ·exact h
   rw [hkn] at hB hst
   have hIn:=QS (procsN p) its[m].s.proc
   generalize ZK its[m].s=vs at *
   have hvl:(vs.map AV.str).length=vs.length:=List.length_map _
   conv=>whnf
   repeat' (first|((first|(intro (_:_≤9223372036854775807))|(refine DrawK.auto QQ mixed (by kernel_rfl) ?_)|(refine And.intro rfl ?_)|(refine And.intro ⟨by decide,by decide⟩ ?_)|(refine And.intro ⟨rfl,rfl,by decide⟩ ?_)|(refine BsK.pure (fun x hx=>by rcases List.mem_singleton.1 hx with rfl;rfl) rfl ?_)|(refine IdxK.map (by omega) (fun _=>rfl) ?_)|(refine IdxK.xs (by omega) ?_)|(refine IdxK.ss (by omega) ?_)|(refine ByteK.at (by omega) ?_)|(refine Wr.i64 (by omega) (by omega) ?_)|(refine CallK.pure hSd (.cons (Sub.refl _) .nil) ?_;rintro _ rfl));conv=>whnf)|(refine Br.dec (fun _ => ?_) (fun _ => ?_)<;>first|(exfalso;omega)|conv=>whnf)|(refine Br.dec2 (fun _ => ?_) (fun _ => ?_)<;>first|(exfalso;omega)|conv=>whnf)|(refine Br.n (fun _ => ?_) (fun _ => ?_)<;>conv=>whnf)|(refine Br.b (fun _ => ?_) (fun _ => ?_)<;>conv=>whnf))
   refine LoopK.inv QQ (fun q:Nat=>⟨[(1,.p (.ip p.cells)),(2,.ptr 1 0),(3,.hd 0 0 (procsN p).length),(9,.p (.ip p.procs[j].cells)),(11,.p (.ip its[m].cells)),(55,.p (.sl (p.procs.map fun f => .agg f.cells))),(56,.p (.int .i64 (p.procs.map fun f=>AV.agg f.cells).length)),(57,.p (.int .i64 j)),(74,.p (q8t its)),(75,.p (.int .i64 (its.map fun i=>AV.agg i.cells).length)),(76,.p (.int .i64 m)),(82,.p (QD vs)),(83,.p (.int .i64 (vs.map AV.str).length)),(84,.p (.int .i64 q))],[(0,.own 9 1 ((procsN p).map .str)),(1,.obj 90 [.p (.int .i64 0),.p (.int .i64 0)])]⟩) (fun q=>q≤vs.length∧(vs.drop q).all (fun n => !(KI p p.procs[j] n==0))=vs.all fun n => !(KI p p.procs[j] n==0)) (fun q=>vs.length-q) 0
    (Le.of_eq rfl) ⟨Nat.zero_le _,rfl⟩ ?_
   rintro q ⟨h6,h7⟩
   rcases Nat.lt_or_ge q vs.length with hq|hq
   ·have hK:=hkd vs[q]
    conv=>whnf
    repeat' (first|((first|(intro (_:_≤9223372036854775807))|(refine DrawK.auto QQ mixed (by kernel_rfl) ?_)|(refine And.intro rfl ?_)|(refine And.intro ⟨by decide,by decide⟩ ?_)|(refine And.intro ⟨rfl,rfl,by decide⟩ ?_)|(refine BsK.pure (fun x hx=>by rcases List.mem_singleton.1 hx with rfl;rfl) rfl ?_)|(refine IdxK.map (by omega) (fun _=>rfl) ?_)|(refine IdxK.xs (by omega) ?_)|(refine IdxK.ss (by omega) ?_)|(refine ByteK.at (by omega) ?_)|(refine Wr.i64 (by omega) (by omega) ?_)|(refine CallK.pure hK (.cons (Sub.refl _) (.cons (Sub.refl _) (.cons (Sub.refl _) .nil))) ?_;rintro _ rfl)|(refine CallK.pure (QN 5 _) (.cons (Sub.refl _) (.cons (Sub.refl _) .nil)) ?_;rintro _ rfl));conv=>whnf)|(refine Br.dec (fun _ => ?_) (fun _ => ?_)<;>first|(exfalso;omega)|conv=>whnf)|(refine Br.dec2 (fun _ => ?_) (fun _ => ?_)<;>first|(exfalso;omega)|conv=>whnf)|(refine Br.n (fun _ => ?_) (fun _ => ?_)<;>conv=>whnf)|(refine Br.b (fun _ => ?_) (fun _ => ?_)<;>conv=>whnf))
    all_goals first
     | (refine RetK.flt ⟨fun h=>by omega,fun hP=>absurd hP (hB ?_)⟩
        have hk0:KI p p.procs[j] vs[q]=0:=by assumption
        have e:=LH (p:=fun n => !(KI p p.procs[j] n==0)) hq (by rw [hk0];rfl)
        rw [← h7,e]
        rfl)
     | (have hk0 : ¬KI p p.procs[j] vs[q]=0:=by assumption
        exact ⟨q+1,⟨by omega,by rw [← h7,JN (p:=fun n => !(KI p p.procs[j] n==0)) hq (by simpa using hk0)]⟩,by omega,Le.of_eq rfl⟩)
     | trace_state
   ·rw [JH hq] at h7
    rw [← h7,Bool.true_and] at hB hst
    conv=>whnf
    repeat' (first|((first|(intro (_:_≤9223372036854775807))|(refine DrawK.auto QQ mixed (by kernel_rfl) ?_)|(refine And.intro rfl ?_)|(refine And.intro ⟨by decide,by decide⟩ ?_)|(refine And.intro ⟨rfl,rfl,by decide⟩ ?_)|(refine BsK.pure (fun x hx=>by rcases List.mem_singleton.1 hx with rfl;rfl) rfl ?_)|(refine IdxK.map (by omega) (fun _=>rfl) ?_)|(refine IdxK.xs (by omega) ?_)|(refine IdxK.ss (by omega) ?_)|(refine ByteK.at (by omega) ?_)|(refine Wr.i64 (by omega) (by omega) ?_)|(refine CallK.borrow hIn (.cons (.hd rfl (by simp)) (.cons (.p (Sub.refl _)) .nil)) (by rintro _ rfl;rfl) ?_;rintro _ rfl)|(refine CallK.pure (QN 5 _) (.cons (Sub.refl _) (.cons (Sub.refl _) .nil)) ?_;rintro _ rfl));conv=>whnf)|(refine Br.dec (fun _ => ?_) (fun _ => ?_)<;>first|(exfalso;omega)|conv=>whnf)|(refine Br.dec2 (fun _ => ?_) (fun _ => ?_)<;>first|(exfalso;omega)|conv=>whnf)|(refine Br.n (fun _ => ?_) (fun _ => ?_)<;>conv=>whnf)|(refine Br.b (fun _ => ?_) (fun _ => ?_)<;>conv=>whnf))
    all_goals
     have hmm:(its[m].s.proc==mainS)=(its[m].s.proc==[109,97,105,110]):=rfl
    all_goals first
     | (refine RetK.flt ⟨fun h=>by omega,fun hP=>absurd hP (hB ?_)⟩
        rw [hmm]
        simp_all
        done)
     | (refine ⟨m+1,⟨by omega,hst ?_⟩,by omega,Le.of_eq rfl⟩
        rw [hmm]
        simp_all
        done)
     | trace_state
open Go.Proofs
def x3p (L:List RI) (f:Pr) (x:RI):Bool:=if x.s.kind=7∨x.s.kind=8 then (x4r L.reverse x.s.id).2 else if x.s.kind=10 then inS (q5w f) x.s.name else true
theorem w4t (f:Pr) (n:Str):(atB f n).2=inS (q5w f) n:=by
 rw [Bool.eq_iff_iff,x6a]
 unfold atB q5w
 rw [List.mem_append,List.mem_flatMap]
 cases hq:(flL f.body).find? fun t=>t.labels.any fun s=>n==s with
 | some t =>
   have h1:=List.mem_of_find?_eq_some hq
   have h2:=List.find?_some hq
   obtain ⟨s,hs,he⟩:=List.any_eq_true.1 h2
   have he:n=s:=eq_of_beq he
   exact ⟨fun _ => .inl ⟨t,h1,he▸hs⟩,fun _=>rfl⟩
 | none =>
   have h1:=List.find?_eq_none.1 hq
   have h2 : ¬∃ a∈flL f.body,n∈a.labels:=fun ⟨t,ht,hn⟩=>h1 t ht (List.any_eq_true.2 ⟨n,hn,beq_self_eq_true n⟩)
   cases hc:f.fin.any fun s=>n==s with
   | true =>
     obtain ⟨s,hs,he⟩:=List.any_eq_true.1 hc
     have he:n=s:=eq_of_beq he
     exact ⟨fun _ => .inr (he▸hs),fun _=>rfl⟩
   | false =>
     refine ⟨fun h=>by simp at h,fun h => ?_⟩
     rcases h with h|h
     ·exact absurd h h2
     ·have:=List.any_eq_false.1 hc n h
      simp at this
theorem z1k {p:Pg} (h:VJ p=true) {j:Nat} {f:Pr} (hj:p.procs[j]? = some f):HJ p j f↔(∀ x∈flatU f,x3p (flatU f) f x=true)∧(q5w f).Nodup:=by
 have key : ∀ it∈itsOf p j f,∀ x∈flatU f,x.s=it.s→x3p (flatU f) f x=ZO f it:=fun it hi x hx he=>by
  unfold x3p ZO
  rw [he,x5a h hj hi,w4t]
  congr 1
  by_cases h0:it.loop=0<;>simp [h0]
 unfold HJ
 refine and_congr_left fun _=>⟨fun h1 x hx => ?_,fun h1 it hi => ?_⟩
 ·have h2:x.s∈flL f.body:=by
   rw [← show (flatU f).map RI.s=flL f.body from q0h 1 0 false f.body]
   exact List.mem_map.2 ⟨x,hx,rfl⟩
  obtain ⟨it,hi,he⟩:=z8u (p:=p) (j:=j) h2
  rw [key it hi x hx he.symm]
  exact h1 it hi
 ·obtain ⟨x,hx,he⟩:=z8r (q3w hi)
  rw [← key it hi x hx he]
  exact h1 x hx
theorem z4w (f:Pr):q5w f=(flatU f).flatMap (fun x=>x.s.labels)++f.fin:=by
 unfold q5w
 rw [← show (flatU f).map RI.s=flL f.body from q0h 1 0 false f.body,List.flatMap_map]
theorem MS (p:Pg) (hf:Fit p) (hm:VJ p=true):SpecP Tryz.prog 204 [.agg p.cells] (fun r=>fltR (∀ j f,p.procs[j]? = some f→HJ p j f) r):=by
 refine SpecP.body DC QQ Tryz.func204 rfl Tryz.call204 (by show 1≤_;decide) ?_
 conv=>whnf
 obtain ⟨hg,hpl,hcn⟩:=XP hm
 have hpll:(p.procs.map fun f=>AV.agg f.cells).length=p.procs.length:=List.length_map _
 repeat' (first|((first|(intro (_:_≤9223372036854775807))|(refine DrawK.auto QQ mixed (by kernel_rfl) ?_)|(refine And.intro rfl ?_)|(refine And.intro ⟨by decide,by decide⟩ ?_)|(refine And.intro ⟨rfl,rfl,by decide⟩ ?_)|(refine BsK.pure (fun x hx=>by rcases List.mem_singleton.1 hx with rfl;rfl) rfl ?_)|(refine IdxK.map (by omega) (fun _=>rfl) ?_)|(refine IdxK.xs (by omega) ?_)|(refine IdxK.ss (by omega) ?_)|(refine ByteK.at (by omega) ?_)|(refine Wr.i64 (by omega) (by omega) ?_));conv=>whnf)|(refine Br.dec (fun _ => ?_) (fun _ => ?_)<;>first|(exfalso;omega)|conv=>whnf)|(refine Br.dec2 (fun _ => ?_) (fun _ => ?_)<;>first|(exfalso;omega)|conv=>whnf)|(refine Br.n (fun _ => ?_) (fun _ => ?_)<;>conv=>whnf)|(refine Br.b (fun _ => ?_) (fun _ => ?_)<;>conv=>whnf))
 refine LoopK.inv QQ (fun j:Nat=>⟨[(2,.ptr 1 0),(13,.p (.sl (p.procs.map fun f => .agg f.cells))),(14,.p (.int .i64 (p.procs.map fun f=>AV.agg f.cells).length)),(15,.p (.int .i64 j))],[(1,.obj 90 [.p (.int .i64 0),.p (.int .i64 0)])]⟩) (fun j=>j≤p.procs.length ∧ ∀ k f,k<j→p.procs[k]? = some f→HJ p k f) (fun j=>p.procs.length-j) 0
  (Le.of_eq rfl) ⟨Nat.zero_le _,fun k f h=>absurd h (Nat.not_lt_zero _)⟩ ?_
 rintro j ⟨h2,h3⟩
 rcases Nat.lt_or_ge j p.procs.length with hj|hj
 rotate_left 1
 ·conv=>whnf
  repeat' (first|((first|(intro (_:_≤9223372036854775807))|(refine DrawK.auto QQ mixed (by kernel_rfl) ?_)|(refine And.intro rfl ?_)|(refine And.intro ⟨by decide,by decide⟩ ?_)|(refine And.intro ⟨rfl,rfl,by decide⟩ ?_)|(refine BsK.pure (fun x hx=>by rcases List.mem_singleton.1 hx with rfl;rfl) rfl ?_)|(refine IdxK.map (by omega) (fun _=>rfl) ?_)|(refine IdxK.xs (by omega) ?_)|(refine IdxK.ss (by omega) ?_)|(refine ByteK.at (by omega) ?_)|(refine Wr.i64 (by omega) (by omega) ?_));conv=>whnf)|(refine Br.dec (fun _ => ?_) (fun _ => ?_)<;>first|(exfalso;omega)|conv=>whnf)|(refine Br.dec2 (fun _ => ?_) (fun _ => ?_)<;>first|(exfalso;omega)|conv=>whnf)|(refine Br.n (fun _ => ?_) (fun _ => ?_)<;>conv=>whnf)|(refine Br.b (fun _ => ?_) (fun _ => ?_)<;>conv=>whnf))
  exact RetK.flt ⟨fun _ k f hk=>h3 k f (by have:=(List.getElem?_eq_some_iff.1 hk).1;omega) hk,fun _=>rfl⟩
 have hfm:=List.getElem_mem hj
 obtain ⟨w1,w2,w3,w4⟩:=x8m hf hfm
 have hwp:=hf.pr hfm
 have hpj':p.procs[j]? = some p.procs[j]:=List.getElem?_eq_getElem hj
 have hF:=XQ p.procs[j]
 rw [JZ hm hfm] at hF
 have hrl:(flatU p.procs[j]).length≤200:=by rw [show flatU p.procs[j]=fuL 1 0 false p.procs[j].body from rfl,YF];have:=DY _ _ hfm;omega
 have hlab : ∀ x∈flatU p.procs[j],x.s.labels.length≤20000:=fun x hx=>by
  have hmm:x.s∈flL p.procs[j].body:=by
   rw [← show (flatU p.procs[j]).map RI.s=flL p.procs[j].body from q0h 1 0 false _]
   exact List.mem_map.2 ⟨_,hx,rfl⟩
  have h4:=q3h _ _ hmm
  have h5:=q9n x.s
  have h6:=GF x.s.labels
  unfold wPr at hwp
  omega
 have hLb:=BE p.procs[j] (by rw [JZ hm hfm];exact hlab) w3
 rw [JZ hm hfm,← z4w] at hLb
 have hbad : ¬HJ p j p.procs[j] → ¬∀ j f,p.procs[j]? = some f→HJ p j f:=fun h h2=>h (h2 j _ hpj')
 have hgood:HJ p j p.procs[j] → ∀ k f,k<j+1→p.procs[k]? = some f→HJ p k f:=fun h k f hk hf2=>by
  rcases Nat.lt_or_ge k j with h4|h4
  ·exact h3 k f h4 hf2
  ·obtain rfl:k=j:=by omega
   rw [hpj'] at hf2
   exact Option.some.inj hf2▸h
 rw [z1k hm hpj'] at hbad hgood
 have hlf:=z4w p.procs[j]
 have hld : ∀ x,x3p (flatU p.procs[j]) p.procs[j] x=if x.s.kind=7∨x.s.kind=8 then (x4r (flatU p.procs[j]).reverse x.s.id).2 else if x.s.kind=10 then inS (q5w p.procs[j]) x.s.name else true:=fun x=>rfl
 have hAr:=fun id=>BH (flatU p.procs[j]) id
 have hIn:=fun x=>QS (q5w p.procs[j]) x
 generalize x3p (flatU p.procs[j]) p.procs[j]=ld at *
 generalize flatU p.procs[j]=L at *
 generalize q5w p.procs[j]=LB at *
 have hLl:=YA L
 conv=>whnf
 repeat' (first|((first|(intro (_:_≤9223372036854775807))|(refine DrawK.auto QQ mixed (by kernel_rfl) ?_)|(refine And.intro rfl ?_)|(refine And.intro ⟨by decide,by decide⟩ ?_)|(refine And.intro ⟨rfl,rfl,by decide⟩ ?_)|(refine BsK.pure (fun x hx=>by rcases List.mem_singleton.1 hx with rfl;rfl) rfl ?_)|(refine IdxK.map (by omega) (fun _=>rfl) ?_)|(refine IdxK.xs (by omega) ?_)|(refine IdxK.ss (by omega) ?_)|(refine ByteK.at (by omega) ?_)|(refine Wr.i64 (by omega) (by omega) ?_)|(refine CallK.pure hF (.cons (Sub.refl _) .nil) ?_;rintro _ rfl));conv=>whnf)|(refine Br.dec (fun _ => ?_) (fun _ => ?_)<;>first|(exfalso;omega)|conv=>whnf)|(refine Br.dec2 (fun _ => ?_) (fun _ => ?_)<;>first|(exfalso;omega)|conv=>whnf)|(refine Br.n (fun _ => ?_) (fun _ => ?_)<;>conv=>whnf)|(refine Br.b (fun _ => ?_) (fun _ => ?_)<;>conv=>whnf))
 refine LoopK.inv QQ (fun x:Nat×List Str=>⟨[(2,.ptr 1 0),(4,.p (.ip p.procs[j].cells)),(5,.hd 0 0 x.2.length),(6,.p (q8t L)),(13,.p (.sl (p.procs.map fun f => .agg f.cells))),(14,.p (.int .i64 (p.procs.map fun f=>AV.agg f.cells).length)),(15,.p (.int .i64 j)),(21,.p (q8t L)),(22,.p (.int .i64 (L.map fun i=>AV.agg i.cells).length)),(23,.p (.int .i64 x.1))],[(0,.own 9 1 (x.2.map .str)),(1,.obj 90 [.p (.int .i64 0),.p (.int .i64 0)])]⟩) (fun x=>x.1≤L.length∧x.2=(L.take x.1).flatMap (fun x=>x.s.labels)∧x.2.length≤20000*x.1∧x.2.Nodup ∧ ∀ y∈L.take x.1,ld y=true) (fun x=>L.length-x.1) (0,[])
  (Le.mk [(0,.own 9 1 [])] (by simp [Chunk.new0];rfl) (by simp) (by simp) (.cons (.refl _) (.cons (.refl _) (.cons (.nil List.mem_cons_self) (.cons (.refl _) (.cons (.refl _) (.cons (.refl _) (.cons (.refl _) (.cons (.refl _) (.cons (.refl _) (.cons (.refl _) .nil)))))))))) (.new List.mem_cons_self (.cons rfl (.refl _) .nil))) ⟨Nat.zero_le _,by simp,by simp,by simp,fun y h=>by rw [List.take_zero] at h;cases h⟩ ?_
 rintro ⟨k,acc⟩ ⟨h4,h5,h6,h7,h8⟩
 simp only at h4 h5 h6 h7 h8 ⊢
 rcases Nat.lt_or_ge k L.length with hk|hk
 ·have hlk:=hlab _ (List.getElem_mem hk)
  have e1:(L.take (k+1)).flatMap (fun x=>x.s.labels)=acc++L[k].s.labels:=by rw [List.take_succ_eq_append_getElem hk,List.flatMap_append,← h5];simp
  have hT:=XL (acc++L[k].s.labels)
  have hAk:=hAr L[k].s.id
  have hIk:=hIn L[k].s.name
  have hldk:=hld L[k]
  have hsub:LB.Nodup→(acc++L[k].s.labels).Nodup:=fun h=>by
   rw [hlf,← List.take_append_drop (k+1) L,List.flatMap_append,e1,List.append_assoc] at h
   exact (List.nodup_append.1 h).1
  have hno : ∀ {d:Int} {H:Heap},(ld L[k]=false∨XX (acc++L[k].s.labels)=true)→RetK H (.p (.agg [.int .i64 7,.int .i64 d])) (fun r=>fltR (∀ j f,p.procs[j]? = some f→HJ p j f) r):=fun h=>by
   refine RetK.flt ⟨fun h=>by omega,fun hP=>absurd hP (hbad fun ⟨h9,h10⟩ => ?_)⟩
   rcases h with h|h
   ·rw [h9 _ (List.getElem_mem hk)] at h
    cases h
   ·rw [ZU.2 (hsub h10)] at h
    cases h
  have hyes:ld L[k]=true → ∀ y∈L.take (k+1),ld y=true:=fun h y hy=>by
   rcases (QT hk).1 hy with h9|rfl
   ·exact h8 y h9
   ·exact h
  rw [← ZU] at hsub
  rw [show QD (acc++L[k].s.labels)=AV.sl (acc.map .str++L[k].s.labels.map .str) by unfold QD;rw [List.map_append]] at hT
  generalize hal:acc++L[k].s.labels=al at hT hno e1
  have hall:al.length=acc.length+L[k].s.labels.length:=by rw [← hal];simp
  generalize (x4r L.reverse L[k].s.id).2=ar at *
  conv=>whnf
  repeat' (first|((first|(intro (_:_≤9223372036854775807))|(refine DrawK.auto QQ mixed (by kernel_rfl) ?_)|(refine And.intro rfl ?_)|(refine And.intro ⟨by decide,by decide⟩ ?_)|(refine And.intro ⟨rfl,rfl,by decide⟩ ?_)|(refine BsK.pure (fun x hx=>by rcases List.mem_singleton.1 hx with rfl;rfl) rfl ?_)|(refine IdxK.map (by omega) (fun _=>rfl) ?_)|(refine IdxK.xs (by omega) ?_)|(refine IdxK.ss (by omega) ?_)|(refine ByteK.at (by omega) ?_)|(refine Wr.i64 (by omega) (by omega) ?_)|(refine AppK.strs _ (by simp) (by simp;omega) ?_)|(refine CallK.borrow hT (.cons (.hd rfl (by simp)) .nil) (by rintro _ rfl;rfl) ?_;rintro _ rfl)|(refine CallK.pure hAk (.cons (Sub.refl _) (.cons (Sub.refl _) .nil)) ?_;rintro _ rfl)|(refine CallK.pure hLb (.cons (Sub.refl _) .nil) ?_;rintro _ rfl)|(refine CallK.pure hIk (.cons (Sub.refl _) (.cons (Sub.refl _) .nil)) ?_;rintro _ rfl)|(refine CallK.pure (QN 7 _) (.cons (Sub.refl _) (.cons (Sub.refl _) .nil)) ?_;rintro _ rfl));conv=>whnf)|(refine Br.dec (fun _ => ?_) (fun _ => ?_)<;>first|(exfalso;omega)|conv=>whnf)|(refine Br.dec2 (fun _ => ?_) (fun _ => ?_)<;>first|(exfalso;omega)|conv=>whnf)|(refine Br.n (fun _ => ?_) (fun _ => ?_)<;>conv=>whnf)|(refine Br.b (fun _ => ?_) (fun _ => ?_)<;>conv=>whnf))
  all_goals first
   | exact hno (.inr (by assumption))
   | (refine hno (.inl ?_)
      rw [hldk]
      simp_all
      done)
   | (refine ⟨(k+1,al),⟨by simp only;omega,by simp only;rw [e1],by simp only;omega,ZU.1 (by assumption),hyes ?_⟩,by simp only;omega,Le.of_eq (by subst hal;simp only [List.length_append,List.map_append,List.length_map];rfl)⟩
      rw [hldk]
      simp_all
      done)
   | trace_state
 ·rw [List.take_of_length_le hk] at h5 h8
  have e2:LB=acc++p.procs[j].fin:=by rw [hlf,← h5]
  have hT:=XL (acc++p.procs[j].fin)
  rw [show QD (acc++p.procs[j].fin)=AV.sl (acc.map .str++p.procs[j].fin.map .str) by unfold QD;rw [List.map_append]] at hT
  conv=>whnf
  repeat' (first|((first|(intro (_:_≤9223372036854775807))|(refine DrawK.auto QQ mixed (by kernel_rfl) ?_)|(refine And.intro rfl ?_)|(refine And.intro ⟨by decide,by decide⟩ ?_)|(refine And.intro ⟨rfl,rfl,by decide⟩ ?_)|(refine BsK.pure (fun x hx=>by rcases List.mem_singleton.1 hx with rfl;rfl) rfl ?_)|(refine IdxK.map (by omega) (fun _=>rfl) ?_)|(refine IdxK.xs (by omega) ?_)|(refine IdxK.ss (by omega) ?_)|(refine ByteK.at (by omega) ?_)|(refine Wr.i64 (by omega) (by omega) ?_)|(refine AppK.strs _ (by simp) (by simp;omega) ?_)|(refine CallK.borrow hT (.cons (.hd rfl (by simp)) .nil) (by rintro _ rfl;rfl) ?_;rintro _ rfl)|(refine CallK.pure (QN 7 0) (.cons (Sub.refl _) (.cons (Sub.refl _) .nil)) ?_;rintro _ rfl));conv=>whnf)|(refine Br.dec (fun _ => ?_) (fun _ => ?_)<;>first|(exfalso;omega)|conv=>whnf)|(refine Br.dec2 (fun _ => ?_) (fun _ => ?_)<;>first|(exfalso;omega)|conv=>whnf)|(refine Br.n (fun _ => ?_) (fun _ => ?_)<;>conv=>whnf)|(refine Br.b (fun _ => ?_) (fun _ => ?_)<;>conv=>whnf))
  all_goals first
   | (refine RetK.flt ⟨fun h=>by omega,fun hP=>absurd hP (hbad fun ⟨h9,h10⟩ => ?_)⟩
      rw [e2,← ZU] at h10
      simp_all
      done)
   | (refine ⟨j+1,⟨by omega,hgood ⟨h8,?_⟩⟩,by omega,Le.of_eq rfl⟩
      rw [e2,← ZU]
      assumption)
theorem fltR.yes {P:Prop} {r:AV} (h:fltR P r) (hp:P) : ∃ d,r=FF 0 d:=by
 obtain ⟨c,d,rfl,h⟩:=h
 rw [h.2 hp]
 exact ⟨d,rfl⟩
theorem fltR.no {P:Prop} {r:AV} (h:fltR P r) (hp : ¬P) : ∃ c d,c≠0∧r=FF c d:=by
 obtain ⟨c,d,rfl,h⟩:=h
 exact ⟨c,d,fun e=>hp (h.1 e),rfl⟩
theorem q2q (p:Pg) (hf:Fit p):SpecP Tryz.prog 142 [.agg p.cells] (fun r=>fltR (ZQ p=true) r):=by
 refine SpecP.body NC QQ Tryz.func142 rfl Tryz.call142 (by show 1≤_;decide) ?_
 conv=>whnf
 have hS:=MR p hf
 by_cases hs:(QM p).1=0
 rotate_left 1
 ·have hS:=hS.mono fun r h=>h.no hs
  have hno : ¬ZQ p=true:=fun h=>hs (x0c.1 h).2.1
  repeat' (first|((first|(intro (_:_≤9223372036854775807))|(refine DrawK.auto QQ mixed (by kernel_rfl) ?_)|(refine And.intro rfl ?_)|(refine And.intro ⟨by decide,by decide⟩ ?_)|(refine And.intro ⟨rfl,rfl,by decide⟩ ?_)|(refine BsK.pure (fun x hx=>by rcases List.mem_singleton.1 hx with rfl;rfl) rfl ?_)|(refine IdxK.map (by omega) (fun _=>rfl) ?_)|(refine IdxK.xs (by omega) ?_)|(refine IdxK.ss (by omega) ?_)|(refine ByteK.at (by omega) ?_)|(refine Wr.i64 (by omega) (by omega) ?_)|(refine CallK.pure hS (.cons (Sub.refl _) .nil) ?_;rintro _ ⟨c,d,hc,rfl⟩));conv=>whnf)|(refine Br.dec (fun _ => ?_) (fun _ => ?_)<;>first|(exfalso;omega)|conv=>whnf)|(refine Br.dec2 (fun _ => ?_) (fun _ => ?_)<;>first|(exfalso;omega)|conv=>whnf)|(refine Br.n (fun _ => ?_) (fun _ => ?_)<;>conv=>whnf)|(refine Br.b (fun _ => ?_) (fun _ => ?_)<;>conv=>whnf))
  all_goals first
   | (exfalso;omega)
   | exact RetK.flt ⟨fun h=>absurd h hc,fun h=>absurd h hno⟩
 have hS:=hS.mono fun r h=>h.yes hs
 have hm:=(ZN hs).1
 have hA:=MV p hm
 rw [← x1m hs] at hA
 by_cases ha:(WP p).1=0
 rotate_left 1
 ·have hA:=hA.mono fun r h=>h.no ha
  have hno : ¬ZQ p=true:=fun h=>ha (x0c.1 h).2.2.1
  repeat' (first|((first|(intro (_:_≤9223372036854775807))|(refine DrawK.auto QQ mixed (by kernel_rfl) ?_)|(refine And.intro rfl ?_)|(refine And.intro ⟨by decide,by decide⟩ ?_)|(refine And.intro ⟨rfl,rfl,by decide⟩ ?_)|(refine BsK.pure (fun x hx=>by rcases List.mem_singleton.1 hx with rfl;rfl) rfl ?_)|(refine IdxK.map (by omega) (fun _=>rfl) ?_)|(refine IdxK.xs (by omega) ?_)|(refine IdxK.ss (by omega) ?_)|(refine ByteK.at (by omega) ?_)|(refine Wr.i64 (by omega) (by omega) ?_)|(refine CallK.pure hS (.cons (Sub.refl _) .nil) ?_;rintro _ ⟨d0,rfl⟩)|(refine CallK.pure hA (.cons (Sub.refl _) .nil) ?_;rintro _ ⟨c,d,hc,rfl⟩));conv=>whnf)|(refine Br.dec (fun _ => ?_) (fun _ => ?_)<;>first|(exfalso;omega)|conv=>whnf)|(refine Br.dec2 (fun _ => ?_) (fun _ => ?_)<;>first|(exfalso;omega)|conv=>whnf)|(refine Br.n (fun _ => ?_) (fun _ => ?_)<;>conv=>whnf)|(refine Br.b (fun _ => ?_) (fun _ => ?_)<;>conv=>whnf))
  all_goals first
   | (exfalso;omega)
   | exact RetK.flt ⟨fun h=>absurd h hc,fun h=>absurd h hno⟩
 have hA:=hA.mono fun r h=>h.yes ha
 have hJ:=MS p hf hm
 rw [← w0x hs] at hJ
 by_cases hj:(DM p).1=0
 rotate_left 1
 ·have hJ:=hJ.mono fun r h=>h.no hj
  have hno : ¬ZQ p=true:=fun h=>hj (x0c.1 h).2.2.2.1
  repeat' (first|((first|(intro (_:_≤9223372036854775807))|(refine DrawK.auto QQ mixed (by kernel_rfl) ?_)|(refine And.intro rfl ?_)|(refine And.intro ⟨by decide,by decide⟩ ?_)|(refine And.intro ⟨rfl,rfl,by decide⟩ ?_)|(refine BsK.pure (fun x hx=>by rcases List.mem_singleton.1 hx with rfl;rfl) rfl ?_)|(refine IdxK.map (by omega) (fun _=>rfl) ?_)|(refine IdxK.xs (by omega) ?_)|(refine IdxK.ss (by omega) ?_)|(refine ByteK.at (by omega) ?_)|(refine Wr.i64 (by omega) (by omega) ?_)|(refine CallK.pure hS (.cons (Sub.refl _) .nil) ?_;rintro _ ⟨d0,rfl⟩)|(refine CallK.pure hA (.cons (Sub.refl _) .nil) ?_;rintro _ ⟨d1,rfl⟩)|(refine CallK.pure hJ (.cons (Sub.refl _) .nil) ?_;rintro _ ⟨c,d,hc,rfl⟩));conv=>whnf)|(refine Br.dec (fun _ => ?_) (fun _ => ?_)<;>first|(exfalso;omega)|conv=>whnf)|(refine Br.dec2 (fun _ => ?_) (fun _ => ?_)<;>first|(exfalso;omega)|conv=>whnf)|(refine Br.n (fun _ => ?_) (fun _ => ?_)<;>conv=>whnf)|(refine Br.b (fun _ => ?_) (fun _ => ?_)<;>conv=>whnf))
  all_goals first
   | (exfalso;omega)
   | exact RetK.flt ⟨fun h=>absurd h hc,fun h=>absurd h hno⟩
 have hJ:=hJ.mono fun r h=>h.yes hj
 have hT:=FU p hf hs ((x1m hs).1 ha)
 rw [← z6n ha] at hT
 have hiff:ZQ p=true↔(KF p).1=0:=by
  rw [x0c]
  exact ⟨fun h=>h.2.2.2.2,fun h=>⟨hm,hs,ha,hj,h⟩⟩
 repeat' (first|((first|(intro (_:_≤9223372036854775807))|(refine DrawK.auto QQ mixed (by kernel_rfl) ?_)|(refine And.intro rfl ?_)|(refine And.intro ⟨by decide,by decide⟩ ?_)|(refine And.intro ⟨rfl,rfl,by decide⟩ ?_)|(refine BsK.pure (fun x hx=>by rcases List.mem_singleton.1 hx with rfl;rfl) rfl ?_)|(refine IdxK.map (by omega) (fun _=>rfl) ?_)|(refine IdxK.xs (by omega) ?_)|(refine IdxK.ss (by omega) ?_)|(refine ByteK.at (by omega) ?_)|(refine Wr.i64 (by omega) (by omega) ?_)|(refine CallK.pure hS (.cons (Sub.refl _) .nil) ?_;rintro _ ⟨d0,rfl⟩)|(refine CallK.pure hA (.cons (Sub.refl _) .nil) ?_;rintro _ ⟨d1,rfl⟩)|(refine CallK.pure hJ (.cons (Sub.refl _) .nil) ?_;rintro _ ⟨d2,rfl⟩)|(refine CallK.pure hT (.cons (Sub.refl _) .nil) ?_;rintro _ ⟨c,d,rfl,hc⟩));conv=>whnf)|(refine Br.dec (fun _ => ?_) (fun _ => ?_)<;>first|(exfalso;omega)|conv=>whnf)|(refine Br.dec2 (fun _ => ?_) (fun _ => ?_)<;>first|(exfalso;omega)|conv=>whnf)|(refine Br.n (fun _ => ?_) (fun _ => ?_)<;>conv=>whnf)|(refine Br.b (fun _ => ?_) (fun _ => ?_)<;>conv=>whnf))
 all_goals first
  | (exfalso;omega)
  | exact RetK.flt (hc.trans hiff.symm)
theorem LX (p:Pg) (hf:Fit p):SpecP Tryz.prog 85 [.agg p.cells] (fun r=>r = .bool (ZQ p)):=by
 refine SpecP.body DB QQ Tryz.func85 rfl Tryz.call85 (by show 1≤_;decide) ?_
 conv=>whnf
 repeat' (first|((first|(intro (_:_≤9223372036854775807))|(refine DrawK.auto QQ mixed (by kernel_rfl) ?_)|(refine And.intro rfl ?_)|(refine And.intro ⟨by decide,by decide⟩ ?_)|(refine And.intro ⟨rfl,rfl,by decide⟩ ?_)|(refine BsK.pure (fun x hx=>by rcases List.mem_singleton.1 hx with rfl;rfl) rfl ?_)|(refine IdxK.map (by omega) (fun _=>rfl) ?_)|(refine IdxK.xs (by omega) ?_)|(refine IdxK.ss (by omega) ?_)|(refine ByteK.at (by omega) ?_)|(refine Wr.i64 (by omega) (by omega) ?_)|(refine CallK.pure (q2q p hf) (.cons (Sub.refl _) .nil) ?_;rintro _ ⟨c,d,rfl,hc⟩));conv=>whnf)|(refine Br.dec (fun _ => ?_) (fun _ => ?_)<;>first|(exfalso;omega)|conv=>whnf)|(refine Br.dec2 (fun _ => ?_) (fun _ => ?_)<;>first|(exfalso;omega)|conv=>whnf)|(refine Br.n (fun _ => ?_) (fun _ => ?_)<;>conv=>whnf)|(refine Br.b (fun _ => ?_) (fun _ => ?_)<;>conv=>whnf))
 all_goals
  refine RetK.bool ?_
  first
  | rw [Bool.eq_iff_iff,beq_iff_eq];exact hc
  | rw [Bool.eq_iff_iff,decide_eq_true_eq];exact hc
open Go.Proofs
open Go.Proofs
open Go.Proofs
open Go.Proofs
theorem z6p {p:Pg} (hm:VJ p=true) {j:Nat} {f:Pr} (hj:p.procs[j]? = some f):(flatU f).length≤200:=by
 rw [show flatU f=fuL 1 0 false f.body from rfl,YF]
 have:=DY _ _ (List.mem_of_getElem? hj)
 have:=XP hm
 omega
open Go.Proofs
theorem Wr.u64 {n:Int} {K:Int→Prop} (h1:0≤n) (h2:n≤18446744073709551615) (hk:K n):Wr .u64 n K :=
 .fit ⟨by simp [IntKind.min,IntKind.signed];omega,by simp [IntKind.max,IntKind.signed,IntKind.bits];omega⟩ hk
theorem ValO.half {P:Program} {hr:Bool} {s:St} {o:Oper} {K:LV→Prop} {t u:TypeId} {x y:Operand} (hop:o.op = .binOp .shr t x y u) {a:Int} (ha:0≤a) (hx:QR s.sl x = .p (.int .u64 a)) (hy:QR s.sl y = .p (.int .u64 1)) {m:Int} (hm:m=a / 2) (hK:K (.p (.int .u64 m))):ValO P hr s o K:=by
 subst hm
 refine ⟨fun σ β ac w hs _=>⟨_,.int .u64 (a / 2),hK,.p (.int _ _),fun w' _ _ => ?_⟩⟩
 have h1:=QW hs x
 have h2:=QW hs y
 rw [hx] at h1
 rw [hy] at h2
 cases h1 with
 | p h1 =>
   cases h2 with
   | p h2 =>
     have key : ∀ (n:Int) (v:Value),Rep σ (.int .u64 n) v→v = .int .u64 n:=fun n v hv=>by
      cases hv
      rfl
     have e1:=key _ _ h1
     have e2:=key _ _ h2
     have e3:a.fdiv (2 ^ 1)=a / 2:=Int.fdiv_eq_ediv_of_nonneg _ (by decide)
     have hg:(eqGuard .shr t x y (.int .u64 a) (.int .u64 1)).run P w' = .ok () w':=by unfold eqGuard;rfl
     simp only [execOp,hop,e1,e2,Sem.run_bind,hg,Result.andThen_ok,binOp,Op.shift]
     rw [if_neg (by decide)]
     simp only [show min (1:Int).toNat IntKind.u64.bits=1 by decide,e3]
     rfl
def JA (l:List Int):Heap:=[(1000,.own 3 1 (l.map (.int .i64)))]
theorem q9f {l:List Int} {k:Nat} {x:Int} (h:l[k]? = some x):(l.map (AV.int .i64))[k]? = some (.int .i64 x):=by rw [List.getElem?_map,h];rfl
def HB (P X Q Y S:List Int) (i:Nat):List Int:=P++(Y.take i++X.drop i)++Q++(X.take i++Y.drop i)++S
theorem z4q {P X Q Y S:List Int} (h:X.length=Y.length) (i:Nat) (hi:i≤X.length):(HB P X Q Y S i).length=P.length+X.length+Q.length+X.length+S.length:=by
 unfold HB
 simp only [List.length_append,List.length_take,List.length_drop]
 omega
theorem w3u {P X Q Y S:List Int} (h:X.length=Y.length) {i:Nat} (hi:i<X.length):(HB P X Q Y S i)[P.length+i]? = some X[i]:=by
 unfold HB
 have e1:(Y.take i).length=i:=by rw [List.length_take];omega
 rw [List.append_assoc,List.append_assoc,List.append_assoc,List.getElem?_append_right (by omega),show P.length+i-P.length=i by omega,List.append_assoc,List.getElem?_append_right (by omega),e1,Nat.sub_self,List.getElem?_append_left (by rw [List.length_drop];omega),List.getElem?_drop,Nat.add_zero,List.getElem?_eq_getElem hi]
theorem w2d {P X Q Y S:List Int} (h:X.length=Y.length) {i:Nat} (hi:i<X.length):(HB P X Q Y S i)[P.length+X.length+Q.length+i]? = some (Y[i]'(by omega)):=by
 unfold HB
 have e1:(Y.take i).length=i:=by rw [List.length_take];omega
 have e2:(X.take i).length=i:=by rw [List.length_take];omega
 have e3:(P++(Y.take i++X.drop i)++Q).length=P.length+X.length+Q.length:=by
  simp only [List.length_append,List.length_drop,e1]
  omega
 rw [List.append_assoc,List.getElem?_append_right (by omega),e3,show P.length+X.length+Q.length+i-(P.length+X.length+Q.length)=i by omega,List.append_assoc,List.getElem?_append_right (by omega),e2,Nat.sub_self,List.getElem?_append_left (by rw [List.length_drop];omega),List.getElem?_drop,Nat.add_zero,List.getElem?_eq_getElem (by omega)]
theorem q4v (A B:List Int) (x y:Int) {k:Nat} (hk:k=A.length):(A++x::B).set k y=A++y::B:=by
 subst hk
 rw [List.set_append_right _ _ (Nat.le_refl _),Nat.sub_self,List.set_cons_zero]
theorem z5p {P X Q Y S:List Int} (h:X.length=Y.length) {i:Nat} (hi:i<X.length):((HB P X Q Y S i).set (P.length+i) (Y[i]'(by omega))).set (P.length+X.length+Q.length+i) X[i]=HB P X Q Y S (i+1):=by
 have e1:(Y.take i).length=i:=by rw [List.length_take];omega
 have e2:(X.take i).length=i:=by rw [List.length_take];omega
 have d1:X.drop i=X[i]::X.drop (i+1):=List.drop_eq_getElem_cons hi
 have d2:Y.drop i=(Y[i]'(by omega))::Y.drop (i+1):=List.drop_eq_getElem_cons (by omega)
 have t1:X.take (i+1)=X.take i++[X[i]]:=List.take_succ_eq_append_getElem hi
 have t2:Y.take (i+1)=Y.take i++[Y[i]'(by omega)]:=List.take_succ_eq_append_getElem (by omega)
 have dl:(X.drop (i+1)).length=X.length-(i+1):=List.length_drop
 unfold HB
 rw [d1,d2,t1,t2]
 clear d1 d2 t1 t2
 generalize X[i]=x
 generalize Y[i]'(by omega)=y
 generalize Y.take i=a at e1
 generalize X.take i=b at e2
 generalize X.drop (i+1)=c at dl
 generalize Y.drop (i+1)=d
 have s1:P++(a++x::c)++Q++(b++y::d)++S=(P++a)++x::(c++Q++(b++y::d)++S):=by simp
 rw [s1,q4v _ _ _ _ (by rw [List.length_append];omega)]
 have s2:(P++a)++y::(c++Q++(b++y::d)++S)=(P++a++y::c++Q++b)++y::(d++S):=by simp
 rw [s2,q4v _ _ _ _ (by simp only [List.length_append,List.length_cons];omega)]
 simp
theorem UN (P X Q Y S:List Int) (h:X.length=Y.length) (c:AV) (hl:P.length+X.length+Q.length+Y.length+S.length≤1000000):SpecH Tryz.prog 322 [.hd 1000 0 (P.length+X.length+Q.length+X.length+S.length),.p (.int .i64 P.length),.p (.int .i64 (P.length+X.length+Q.length:Nat)),.p (.int .i64 X.length),.p c] (JA (HB P X Q Y S 0)) (fun r H=>r = .p (.tup [])∧H=JA (HB P X Q Y S X.length)):=by
 refine SpecH.body VS QQ Tryz.func322 rfl Tryz.call322 (by show 5≤_;decide) ?_
 conv=>whnf
 skip
 refine LoopK.inv QQ (fun i:Nat=>⟨[(0,.hd 1000 0 (P.length+X.length+Q.length+X.length+S.length)),(1,.p (.int .i64 P.length)),(2,.p (.int .i64 (P.length+X.length+Q.length:Nat))),(3,.p (.int .i64 X.length)),(10,.p (.int .i64 i))],JA (HB P X Q Y S i)⟩) (fun i=>i≤X.length) (fun i=>X.length-i) 0 (Le.of_eq rfl) (Nat.zero_le _) ?_
 intro i h2
 rcases Nat.lt_or_ge i X.length with hi|hi
 ·have hlen:=z4q (P:=P) (Q:=Q) (S:=S) h i h2
  have g1:=q9f (w3u (P:=P) (Q:=Q) (S:=S) h hi)
  have g2:=q9f (w2d (P:=P) (Q:=Q) (S:=S) h hi)
  have hst:=z5p (P:=P) (Q:=Q) (S:=S) h hi
  generalize HB P X Q Y S i=row at hlen g1 g2 hst ⊢
  generalize X[i]=x at g1 hst
  generalize Y[i]'(by omega)=y at g2 hst
  have g3:((row.map (AV.int .i64)).set (P.length+i) (.int .i64 y))[P.length+X.length+Q.length+i]? = some (.int .i64 y):=by rw [List.getElem?_set_ne (by omega)];exact g2
  unfold JA
  conv=>whnf
  repeat' (first|((first|(refine DrawK.auto QQ mixed (by kernel_rfl) ?_)|(refine And.intro rfl ?_)|(refine Wr.i64 (by omega) (by omega) ?_)|(refine IdxL.mk (P.length+i) (by omega) (by omega) ?_)|(refine IdxL.mk (P.length+X.length+Q.length+i) (by omega) (by omega) ?_)|(refine LdOwn.mk (P.length+X.length+Q.length+i) 0 _ (by omega) g2 ?_)|(refine LdOwn.mk (P.length+i) 0 _ (by omega) g1 ?_)|(refine StOwn.mk (P.length+i) 0 _ (.int .i64 y) (by omega) g1 (Nat.le_refl _) rfl ?_)|(refine StOwn.mk (P.length+X.length+Q.length+i) 0 _ (.int .i64 x) (by omega) g3 (Nat.le_refl _) rfl ?_));conv=>whnf)|(refine Br.dec (fun _ => ?_) (fun _ => ?_)<;>first|(exfalso;omega)|conv=>whnf))
  exact ⟨i+1,by omega,by omega,Le.of_eq (by rw [← hst,List.map_set,List.map_set];rfl)⟩
 ·have he:i=X.length:=by omega
  subst he
  unfold JA
  conv=>whnf
  repeat' (refine Br.dec (fun _ => ?_) (fun _ => ?_)<;>first|(exfalso;omega)|conv=>whnf)
  exact ⟨_,LSub.refl _,rfl,rfl⟩
end Go.Ab
