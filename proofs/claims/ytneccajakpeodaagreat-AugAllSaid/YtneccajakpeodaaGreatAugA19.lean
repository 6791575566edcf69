/- The reference's jumps; all that must hold of a program: just what the program checks. -/
import Derived.Test.YtneccajakpeodaaGreatAugA13
import Derived.Test.YtneccajakpeodaaGreatAugA14
import Derived.Test.YtneccajakpeodaaGreatAugA16
import Derived.Test.YtneccajakpeodaaGreatAugA17
import Derived.Test.YtneccajakpeodaaGreatAugA18
set_option linter.unusedSimpArgs false
set_option linter.unusedVariables false
set_option maxRecDepth 100000
set_option maxHeartbeats 16000000
namespace Go.Ab
open Go.Proofs
def x4k (L:List RI) (f:Pr) (x:RI):Bool:=if x.s.kind=7∨x.s.kind=8 then (x5v L.reverse x.s.id).2 else if x.s.kind=10 then inS (q5i f) x.s.name else true
theorem w2r (f:Pr) (n:Str):(atB f n).2=inS (q5i f) n:=by
 rw [Bool.eq_iff_iff,x5d]
 unfold atB q5i
 rw [List.mem_append,List.mem_flatMap]
 cases hq:(flL f.body).find? fun t=>t.labels.any fun s=>n==s with
 | some t =>
   have h1:=List.mem_of_find?_eq_some hq
   have h2:=List.find?_some hq
   obtain ⟨s,hs,he⟩:=List.any_eq_true.1 h2
   have he:n=s:=eq_of_beq he
   exact ⟨fun _ => .inl ⟨t,h1,he▸hs⟩,fun _=>rfl⟩
 | none =>
   have h1:=List.find?_eq_none.1 hq
   have h2 : ¬∃ a∈flL f.body,n∈a.labels:=fun ⟨t,ht,hn⟩=>h1 t ht (List.any_eq_true.2 ⟨n,hn,beq_self_eq_true n⟩)
   cases hc:f.fin.any fun s=>n==s with
   | true =>
     obtain ⟨s,hs,he⟩:=List.any_eq_true.1 hc
     have he:n=s:=eq_of_beq he
     exact ⟨fun _ => .inr (he▸hs),fun _=>rfl⟩
   | false =>
     refine ⟨fun h=>by simp at h,fun h => ?_⟩
     rcases h with h|h
     ·exact absurd h h2
     ·have:=List.any_eq_false.1 hc n h
      simp at this
theorem z0x {p:Pg} (h:VX p=true) {j:Nat} {f:Pr} (hj:p.procs[j]? = some f):HY p j f↔(∀ x∈flatU f,x4k (flatU f) f x=true)∧(q5i f).Nodup:=by
 have key : ∀ it∈itsOf p j f,∀ x∈flatU f,x.s=it.s→x4k (flatU f) f x=VQ f it:=fun it hi x hx he=>by
  unfold x4k VQ
  rw [he,q4w h hj hi,w2r]
  congr 1
  by_cases h0:it.loop=0<;>simp [h0]
 unfold HY
 refine and_congr_left fun _=>⟨fun h1 x hx => ?_,fun h1 it hi => ?_⟩
 ·have h2:x.s∈flL f.body:=by
   rw [← show (flatU f).map RI.s=flL f.body from BH 1 0 false f.body]
   exact List.mem_map.2 ⟨x,hx,rfl⟩
  obtain ⟨it,hi,he⟩:=w5b (p:=p) (j:=j) h2
  rw [key it hi x hx he.symm]
  exact h1 it hi
 ·obtain ⟨x,hx,he⟩:=x1r (q7z hi)
  rw [← key it hi x hx he]
  exact h1 x hx
theorem z3z (f:Pr):q5i f=(flatU f).flatMap (fun x=>x.s.labels)++f.fin:=by
 unfold q5i
 rw [← show (flatU f).map RI.s=flL f.body from BH 1 0 false f.body,List.flatMap_map]
theorem NO (p:Pg) (hf:Fit p) (hm:VX p=true):SpecP Tryz.prog 204 [.agg p.cells] (fun r=>fltR (∀ j f,p.procs[j]? = some f→HY p j f) r):=by
 refine SpecP.body DN QQ Tryz.func204 rfl Tryz.call204 (by show 1≤_;decide) ?_
 conv=>whnf
 obtain ⟨hg,hpl,hcn⟩:=XS hm
 have hpll:(p.procs.map fun f=>AV.agg f.cells).length=p.procs.length:=List.length_map _
 repeat' (intro (_:_≤9223372036854775807);conv=>whnf)
 refine LoopK.inv QQ (fun j:Nat=>⟨[(2,.ptr 1 0),(13,.p (.sl (p.procs.map fun f => .agg f.cells))),(14,.p (.int .i64 (p.procs.map fun f=>AV.agg f.cells).length)),(15,.p (.int .i64 j))],[(1,.obj 90 [.p (.int .i64 0),.p (.int .i64 0)])]⟩) (fun j=>j≤p.procs.length ∧ ∀ k f,k<j→p.procs[k]? = some f→HY p k f) (fun j=>p.procs.length-j) 0
  (Le.of_eq rfl) ⟨Nat.zero_le _,fun k f h=>absurd h (Nat.not_lt_zero _)⟩ ?_
 rintro j ⟨h2,h3⟩
 rcases Nat.lt_or_ge j p.procs.length with hj|hj
 rotate_left 1
 ·conv=>whnf
  repeat' (first|(refine And.intro rfl ?_;conv=>whnf)|(refine Br.dec (fun _=>?_) (fun _=>?_)<;>first|(exfalso;omega)|conv=>whnf))
  exact RetK.flt ⟨fun _ k f hk=>h3 k f (by have:=(List.getElem?_eq_some_iff.1 hk).1;omega) hk,fun _=>rfl⟩
 have hfm:=List.getElem_mem hj
 obtain ⟨w1,w2,w3,w4⟩:=x7e hf hfm
 have hwp:=hf.pr hfm
 have hpj':p.procs[j]? = some p.procs[j]:=List.getElem?_eq_getElem hj
 have hF:=XZ p.procs[j]
 rw [JP hm hfm] at hF
 have hrl:(flatU p.procs[j]).length≤200:=by rw [show flatU p.procs[j]=fuL 1 0 false p.procs[j].body from rfl,WB];have:=GF _ _ hfm;omega
 have hlab : ∀ x∈flatU p.procs[j],x.s.labels.length≤20000:=fun x hx=>by
  have hmm:x.s∈flL p.procs[j].body:=by
   rw [← show (flatU p.procs[j]).map RI.s=flL p.procs[j].body from BH 1 0 false _]
   exact List.mem_map.2 ⟨_,hx,rfl⟩
  have h4:=q4k _ _ hmm
  have h5:=x0a x.s
  have h6:=GY x.s.labels
  unfold wPr at hwp
  omega
 have hLb:=NU p.procs[j] (by rw [JP hm hfm];exact hlab) w3
 rw [JP hm hfm,← z3z] at hLb
 have hbad : ¬HY p j p.procs[j] → ¬∀ j f,p.procs[j]? = some f→HY p j f:=fun h h2=>h (h2 j _ hpj')
 have hgood:HY p j p.procs[j] → ∀ k f,k<j+1→p.procs[k]? = some f→HY p k f:=fun h k f hk hf2=>by
  rcases Nat.lt_or_ge k j with h4|h4
  ·exact h3 k f h4 hf2
  ·obtain rfl:k=j:=by omega
   rw [hpj'] at hf2
   exact Option.some.inj hf2▸h
 rw [z0x hm hpj'] at hbad hgood
 have hlf:=z3z p.procs[j]
 have hld : ∀ x,x4k (flatU p.procs[j]) p.procs[j] x=if x.s.kind=7∨x.s.kind=8 then (x5v (flatU p.procs[j]).reverse x.s.id).2 else if x.s.kind=10 then inS (q5i p.procs[j]) x.s.name else true:=fun x=>rfl
 have hAr:=fun id=>YA (flatU p.procs[j]) id
 have hIn:=fun x=>QM (q5i p.procs[j]) x
 generalize x4k (flatU p.procs[j]) p.procs[j]=ld at *
 generalize flatU p.procs[j]=L at *
 generalize q5i p.procs[j]=LB at *
 have hLl:=WJ L
 conv=>whnf
 repeat' (first|((first|intro (_:_≤9223372036854775807)|refine And.intro rfl ?_|refine IdxK.map (by omega) (fun _=>rfl) ?_|(refine CallK.pure hF (.cons (Sub.refl _) .nil) ?_;rintro _ rfl));conv=>whnf)|(refine Br.dec (fun _=>?_) (fun _=>?_)<;>first|(exfalso;omega)|conv=>whnf))
 refine LoopK.inv QQ (fun x:Nat×List Str=>⟨[(2,.ptr 1 0),(4,.p (.ip p.procs[j].cells)),(5,.hd 0 0 x.2.length),(6,.p (JF L)),(13,.p (.sl (p.procs.map fun f => .agg f.cells))),(14,.p (.int .i64 (p.procs.map fun f=>AV.agg f.cells).length)),(15,.p (.int .i64 j)),(21,.p (JF L)),(22,.p (.int .i64 (L.map fun i=>AV.agg i.cells).length)),(23,.p (.int .i64 x.1))],[(0,.own 9 1 (x.2.map .str)),(1,.obj 90 [.p (.int .i64 0),.p (.int .i64 0)])]⟩) (fun x=>x.1≤L.length∧x.2=(L.take x.1).flatMap (fun x=>x.s.labels)∧x.2.length≤20000*x.1∧x.2.Nodup ∧ ∀ y∈L.take x.1,ld y=true) (fun x=>L.length-x.1) (0,[])
  (Le.mk [(0,.own 9 1 [])] (by simp [Chunk.new0];rfl) (by simp) (by simp) (.cons (.refl _) (.cons (.refl _) (.cons (.nil List.mem_cons_self) (.cons (.refl _) (.cons (.refl _) (.cons (.refl _) (.cons (.refl _) (.cons (.refl _) (.cons (.refl _) (.cons (.refl _) .nil)))))))))) (.new List.mem_cons_self (.cons rfl (.refl _) .nil))) ⟨Nat.zero_le _,by simp,by simp,by simp,fun y h=>by rw [List.take_zero] at h;cases h⟩ ?_
 rintro ⟨k,acc⟩ ⟨h4,h5,h6,h7,h8⟩
 simp only at h4 h5 h6 h7 h8 ⊢
 rcases Nat.lt_or_ge k L.length with hk|hk
 ·have hlk:=hlab _ (List.getElem_mem hk)
  have e1:(L.take (k+1)).flatMap (fun x=>x.s.labels)=acc++L[k].s.labels:=by rw [List.take_succ_eq_append_getElem hk,List.flatMap_append,← h5];simp
  have hT:=XE (acc++L[k].s.labels)
  have hAk:=hAr L[k].s.id
  have hIk:=hIn L[k].s.name
  have hldk:=hld L[k]
  have hsub:LB.Nodup→(acc++L[k].s.labels).Nodup:=fun h=>by
   rw [hlf,← List.take_append_drop (k+1) L,List.flatMap_append,e1,List.append_assoc] at h
   exact (List.nodup_append.1 h).1
  have hno : ∀ {d:Int} {H:Heap},(ld L[k]=false∨XW (acc++L[k].s.labels)=true)→RetK H (.p (.agg [.int .i64 7,.int .i64 d])) (fun r=>fltR (∀ j f,p.procs[j]? = some f→HY p j f) r):=fun h=>by
   refine RetK.flt ⟨fun h=>by omega,fun hP=>absurd hP (hbad fun ⟨h9,h10⟩ => ?_)⟩
   rcases h with h|h
   ·rw [h9 _ (List.getElem_mem hk)] at h
    cases h
   ·rw [ZP.2 (hsub h10)] at h
    cases h
  have hyes:ld L[k]=true → ∀ y∈L.take (k+1),ld y=true:=fun h y hy=>by
   rcases (QC hk).1 hy with h9|rfl
   ·exact h8 y h9
   ·exact h
  rw [← ZP] at hsub
  rw [show QH (acc++L[k].s.labels)=AV.sl (acc.map .str++L[k].s.labels.map .str) by unfold QH;rw [List.map_append]] at hT
  generalize hal:acc++L[k].s.labels=al at hT hno e1
  have hall:al.length=acc.length+L[k].s.labels.length:=by rw [← hal];simp
  generalize (x5v L.reverse L[k].s.id).2=ar at *
  conv=>whnf
  repeat' (first|((first|refine DrawK.auto QQ mixed (by kernel_rfl) ?_|refine And.intro rfl ?_|(refine And.intro ⟨by decide,by decide⟩ ?_)|refine IdxK.map (by omega) (fun _=>rfl) ?_|refine Wr.i64 (by omega) (by omega) ?_|refine AppK.strs _ (by simp) (by simp;omega) ?_|(refine CallK.borrow hT (.cons (.hd rfl (by simp)) .nil) (by rintro _ rfl;rfl) ?_;rintro _ rfl)|(refine CallK.pure hAk (.cons (Sub.refl _) (.cons (Sub.refl _) .nil)) ?_;rintro _ rfl)|(refine CallK.pure hLb (.cons (Sub.refl _) .nil) ?_;rintro _ rfl)|(refine CallK.pure hIk (.cons (Sub.refl _) (.cons (Sub.refl _) .nil)) ?_;rintro _ rfl)|(refine CallK.pure (QP 7 _) (.cons (Sub.refl _) (.cons (Sub.refl _) .nil)) ?_;rintro _ rfl));conv=>whnf)|(refine Br.dec (fun _=>?_) (fun _=>?_)<;>first|(exfalso;omega)|conv=>whnf)|(refine Br.n (fun _=>?_) (fun _=>?_)<;>conv=>whnf)|(refine Br.b (fun _=>?_) (fun _=>?_)<;>conv=>whnf))
  all_goals first
   | exact hno (.inr (by assumption))
   | (refine hno (.inl ?_)
      rw [hldk]
      simp_all
      done)
   | (refine ⟨(k+1,al),⟨by simp only;omega,by simp only;rw [e1],by simp only;omega,ZP.1 (by assumption),hyes ?_⟩,by simp only;omega,Le.of_eq (by subst hal;simp only [List.length_append,List.map_append,List.length_map];rfl)⟩
      rw [hldk]
      simp_all
      done)
   | trace_state
 ·rw [List.take_of_length_le hk] at h5 h8
  have e2:LB=acc++p.procs[j].fin:=by rw [hlf,← h5]
  have hT:=XE (acc++p.procs[j].fin)
  rw [show QH (acc++p.procs[j].fin)=AV.sl (acc.map .str++p.procs[j].fin.map .str) by unfold QH;rw [List.map_append]] at hT
  conv=>whnf
  repeat' (first|((first|refine And.intro rfl ?_|(refine And.intro ⟨by decide,by decide⟩ ?_)|refine Wr.i64 (by omega) (by omega) ?_|refine AppK.strs _ (by simp) (by simp;omega) ?_|(refine CallK.borrow hT (.cons (.hd rfl (by simp)) .nil) (by rintro _ rfl;rfl) ?_;rintro _ rfl)|(refine CallK.pure (QP 7 0) (.cons (Sub.refl _) (.cons (Sub.refl _) .nil)) ?_;rintro _ rfl));conv=>whnf)|(refine Br.dec (fun _=>?_) (fun _=>?_)<;>first|(exfalso;omega)|conv=>whnf)|(refine Br.b (fun _=>?_) (fun _=>?_)<;>conv=>whnf))
  all_goals first
   | (refine RetK.flt ⟨fun h=>by omega,fun hP=>absurd hP (hbad fun ⟨h9,h10⟩ => ?_)⟩
      rw [e2,← ZP] at h10
      simp_all
      done)
   | (refine ⟨j+1,⟨by omega,hgood ⟨h8,?_⟩⟩,by omega,Le.of_eq rfl⟩
      rw [e2,← ZP]
      assumption)
theorem fltR.yes {P:Prop} {r:AV} (h:fltR P r) (hp:P) : ∃ d,r=HI 0 d:=by
 obtain ⟨c,d,rfl,h⟩:=h
 rw [h.2 hp]
 exact ⟨d,rfl⟩
theorem fltR.no {P:Prop} {r:AV} (h:fltR P r) (hp : ¬P) : ∃ c d,c≠0∧r=HI c d:=by
 obtain ⟨c,d,rfl,h⟩:=h
 exact ⟨c,d,fun e=>hp (h.1 e),rfl⟩
theorem q2a (p:Pg) (hf:Fit p):SpecP Tryz.prog 142 [.agg p.cells] (fun r=>fltR (ZB p=true) r):=by
 refine SpecP.body MY QQ Tryz.func142 rfl Tryz.call142 (by show 1≤_;decide) ?_
 conv=>whnf
 have hS:=NL p hf
 by_cases hs:(QN p).1=0
 rotate_left 1
 ·have hS:=hS.mono fun r h=>h.no hs
  have hno : ¬ZB p=true:=fun h=>hs (x0t.1 h).2.1
  repeat' (first|((first|refine And.intro rfl ?_|(refine CallK.pure hS (.cons (Sub.refl _) .nil) ?_;rintro _ ⟨c,d,hc,rfl⟩));conv=>whnf)|(refine Br.dec (fun _=>?_) (fun _=>?_)<;>first|(exfalso;omega)|conv=>whnf))
  all_goals first
   | (exfalso;omega)
   | exact RetK.flt ⟨fun h=>absurd h hc,fun h=>absurd h hno⟩
 have hS:=hS.mono fun r h=>h.yes hs
 have hm:=(WT hs).1
 have hA:=LE p hm
 rw [← x3h hs] at hA
 by_cases ha:(WI p).1=0
 rotate_left 1
 ·have hA:=hA.mono fun r h=>h.no ha
  have hno : ¬ZB p=true:=fun h=>ha (x0t.1 h).2.2.1
  repeat' (first|((first|refine And.intro rfl ?_|(refine CallK.pure hS (.cons (Sub.refl _) .nil) ?_;rintro _ ⟨d0,rfl⟩)|(refine CallK.pure hA (.cons (Sub.refl _) .nil) ?_;rintro _ ⟨c,d,hc,rfl⟩));conv=>whnf)|(refine Br.dec (fun _=>?_) (fun _=>?_)<;>first|(exfalso;omega)|conv=>whnf))
  all_goals first
   | (exfalso;omega)
   | exact RetK.flt ⟨fun h=>absurd h hc,fun h=>absurd h hno⟩
 have hA:=hA.mono fun r h=>h.yes ha
 have hJ:=NO p hf hm
 rw [← z6n hs] at hJ
 by_cases hj:(DL p).1=0
 rotate_left 1
 ·have hJ:=hJ.mono fun r h=>h.no hj
  have hno : ¬ZB p=true:=fun h=>hj (x0t.1 h).2.2.2.1
  repeat' (first|((first|refine And.intro rfl ?_|(refine CallK.pure hS (.cons (Sub.refl _) .nil) ?_;rintro _ ⟨d0,rfl⟩)|(refine CallK.pure hA (.cons (Sub.refl _) .nil) ?_;rintro _ ⟨d1,rfl⟩)|(refine CallK.pure hJ (.cons (Sub.refl _) .nil) ?_;rintro _ ⟨c,d,hc,rfl⟩));conv=>whnf)|(refine Br.dec (fun _=>?_) (fun _=>?_)<;>first|(exfalso;omega)|conv=>whnf))
  all_goals first
   | (exfalso;omega)
   | exact RetK.flt ⟨fun h=>absurd h hc,fun h=>absurd h hno⟩
 have hJ:=hJ.mono fun r h=>h.yes hj
 have hT:=HO p hf hs ((x3h hs).1 ha)
 rw [← z4h ha] at hT
 have hiff:ZB p=true↔(KJ p).1=0:=by
  rw [x0t]
  exact ⟨fun h=>h.2.2.2.2,fun h=>⟨hm,hs,ha,hj,h⟩⟩
 repeat' (first|((first|refine And.intro rfl ?_|(refine CallK.pure hS (.cons (Sub.refl _) .nil) ?_;rintro _ ⟨d0,rfl⟩)|(refine CallK.pure hA (.cons (Sub.refl _) .nil) ?_;rintro _ ⟨d1,rfl⟩)|(refine CallK.pure hJ (.cons (Sub.refl _) .nil) ?_;rintro _ ⟨d2,rfl⟩)|(refine CallK.pure hT (.cons (Sub.refl _) .nil) ?_;rintro _ ⟨c,d,rfl,hc⟩));conv=>whnf)|(refine Br.dec (fun _=>?_) (fun _=>?_)<;>first|(exfalso;omega)|conv=>whnf))
 all_goals first
  | (exfalso;omega)
  | exact RetK.flt (hc.trans hiff.symm)
theorem JB (p:Pg) (hf:Fit p):SpecP Tryz.prog 85 [.agg p.cells] (fun r=>r = .bool (ZB p)):=by
 refine SpecP.body DD QQ Tryz.func85 rfl Tryz.call85 (by show 1≤_;decide) ?_
 conv=>whnf
 repeat' (refine CallK.pure (q2a p hf) (.cons (Sub.refl _) .nil) ?_;rintro _ ⟨c,d,rfl,hc⟩;conv=>whnf)
 all_goals
  refine RetK.bool ?_
  first
  | rw [Bool.eq_iff_iff,beq_iff_eq];exact hc
  | rw [Bool.eq_iff_iff,decide_eq_true_eq];exact hc
open Go.Proofs
theorem JM (l:List RI) (id:Int):SpecP Tryz.prog 143 [JF l,.int .i64 id] (fun r=>r = .agg (itemR l id).cells):=by
 refine SpecP.body BW QQ Tryz.func143 rfl Tryz.call143 (by show 2≤_;decide) ?_
 conv=>whnf
 intro (_:_≤9223372036854775807)
 have hLl:=WJ l
 conv=>whnf
 refine LoopK.inv QQ (fun k:Nat=>⟨[(1,.p (.int .i64 id)),(4,.ptr 0 0),(7,.p (JF l)),(8,.p (.int .i64 (l.map fun i=>AV.agg i.cells).length)),(9,.p (.int .i64 k))],[(0,.obj 103 [.p (.int .i64 0),.p (.int .i64 0),.p .nils,.p (.str []),.p (.str []),.p (.int .i64 0),.p (.int .i64 0),.p (.str []),.p .nils,.p .ff,.p .nils,.p .nils,.p .nils,.p (.int .i64 0),.p (.int .i64 0),.p .ff])]⟩) (fun k=>k≤l.length∧(l.drop k).find? (fun x=>decide (x.s.id=id))=l.find? fun x=>decide (x.s.id=id)) (fun k=>l.length-k) 0 (Le.of_eq rfl) ⟨Nat.zero_le _,rfl⟩ ?_
 rintro k ⟨h4,h5⟩
 rcases Nat.lt_or_ge k l.length with hk|hk
 rotate_left 1
 ·rw [List.drop_eq_nil_of_le hk,List.find?_nil] at h5
  have hO:itemR l id=RI0:=by unfold itemR;rw [← h5];rfl
  rw [hO]
  conv=>whnf
  repeat' (first|(refine And.intro rfl ?_;conv=>whnf)|(refine Br.dec (fun _=>?_) (fun _=>?_)<;>first|(exfalso;omega)|conv=>whnf))
  exact ⟨_,.p w0p,rfl⟩
 rw [x3s hk] at h5
 conv=>whnf
 repeat' (first|((first|refine And.intro rfl ?_|refine IdxK.map (by omega) (fun _=>rfl) ?_|refine Wr.i64 (by omega) (by omega) ?_);conv=>whnf)|(refine Br.dec (fun _=>?_) (fun _=>?_)<;>first|(exfalso;omega)|conv=>whnf))
 ·have hid:l[k].s.id=id:=by assumption
  rw [if_pos (decide_eq_true hid)] at h5
  have hO:itemR l id=l[k]:=by unfold itemR;rw [← h5];rfl
  rw [hO]
  exact ⟨_,.p (Sub.refl _),rfl⟩
 ·have hid : ¬l[k].s.id=id:=by assumption
  rw [if_neg (by simpa using hid)] at h5
  exact ⟨k+1,⟨hk,h5⟩,by omega,Le.of_eq rfl⟩
theorem q0f (l:List RI) (x:RI) (hl:l.length≤1000000):SpecP Tryz.prog 144 [JF l,.agg x.cells] (fun r=>r=QS (stdR l x)):=by
 refine SpecP.body PK QQ Tryz.func144 rfl Tryz.call144 (by show 2≤_;decide) ?_
 conv=>whnf
 intro (_:_≤9223372036854775807)
 have hLl:=WJ l
 have hsd:stdR l x=(l.filter (inI x.inn x.els)).map fun y=>y.s.id:=rfl
 rw [hsd]
 conv=>whnf
 refine LoopK.inv QQ (fun q:Nat×List Int=>⟨[(3,.p (.ip x.cells)),(5,.hd 0 0 q.2.length),(8,.p (JF l)),(9,.p (.int .i64 (l.map fun i=>AV.agg i.cells).length)),(10,.p (.int .i64 q.1))],[(0,.own 3 1 (q.2.map (.int .i64)))]⟩) (fun q=>q.1≤l.length∧q.2=((l.take q.1).filter (inI x.inn x.els)).map (fun y=>y.s.id)∧q.2.length≤q.1) (fun q=>l.length-q.1) (0,[])
  (Le.mk [(0,.own 3 1 [])] (by simp [Chunk.new0];rfl) (by simp) (by simp) (.cons (.refl _) (.cons (.nil List.mem_cons_self) (.cons (.refl _) (.cons (.refl _) (.cons (.refl _) .nil))))) (.new List.mem_cons_self .nil)) ⟨Nat.zero_le _,by simp,by simp⟩ ?_
 rintro ⟨j,acc⟩ ⟨h2,h3,h4⟩
 simp only at h2 h3 h4 ⊢
 rcases Nat.lt_or_ge j l.length with hj|hj
 ·have h6:=List.take_succ_eq_append_getElem hj
  have hin:inI x.inn x.els l[j]=(decide (l[j].inn=x.inn)&&(l[j].els==x.els)):=rfl
  conv=>whnf
  repeat' (first|((first|refine And.intro rfl ?_|(refine And.intro ⟨by decide,by decide⟩ ?_)|refine BsK.pure (fun x hx=>by rcases List.mem_singleton.1 hx with rfl;rfl) rfl ?_|refine IdxK.map (by omega) (fun _=>rfl) ?_|refine Wr.i64 (by omega) (by omega) ?_|refine AppK.int1 (by simp) (by simp;omega) ?_|refine ValO.boolEql QQ rfl rfl rfl rfl rfl ?_);conv=>whnf)|(refine Br.dec (fun _=>?_) (fun _=>?_)<;>first|(exfalso;omega)|conv=>whnf))
  all_goals first
   | exact ⟨(j+1,acc++[l[j].s.id]),⟨by simp only;omega,by simp only;rw [h6,List.filter_append,List.map_append,← h3,List.filter_cons_of_pos (by rw [hin];simp_all)];rfl,by simp;omega⟩,by simp only;omega,Le.of_eq (by simp only [List.length_append,List.map_append];rfl)⟩
   | exact ⟨(j+1,acc),⟨by simp only;omega,by simp only;rw [h6,List.filter_append,List.map_append,← h3,List.filter_cons_of_neg (by rw [hin];simp_all)];simp,by simp only;omega⟩,by simp only;omega,Le.of_eq rfl⟩
   | trace_state
 ·rw [List.take_of_length_le hj] at h3
  subst h3
  conv=>whnf
  repeat' (refine Br.dec (fun _=>?_) (fun _=>?_)<;>first|(exfalso;omega)|conv=>whnf)
  exact ⟨_,.hd rfl (by simp),rfl⟩
theorem ZH (l:List RI) (id:Int) (e:Bool) (o:Int):SpecP Tryz.prog 145 [JF l,.int .i64 id,.bool e,.int .i64 o] (fun r=>r = .int .i64 (w1k l id e o)):=by
 refine SpecP.body FA QQ Tryz.func145 rfl Tryz.call145 (by show 4≤_;decide) ?_
 conv=>whnf
 intro (_:_≤9223372036854775807)
 have hLl:=WJ l
 conv=>whnf
 refine LoopK.inv QQ (fun k:Nat=>⟨[(1,.p (.int .i64 id)),(2,.p (.bool e)),(3,.p (.int .i64 o)),(11,.p (JF l)),(12,.p (.int .i64 (l.map fun i=>AV.agg i.cells).length)),(13,.p (.int .i64 k))],[]⟩) (fun k=>k≤l.length∧(l.drop k).find? (inI id e)=l.find? (inI id e)) (fun k=>l.length-k) 0 (Le.of_eq rfl) ⟨Nat.zero_le _,rfl⟩ ?_
 rintro k ⟨h4,h5⟩
 rcases Nat.lt_or_ge k l.length with hk|hk
 rotate_left 1
 ·rw [List.drop_eq_nil_of_le hk,List.find?_nil] at h5
  conv=>whnf
  repeat' (refine Br.dec (fun _=>?_) (fun _=>?_)<;>first|(exfalso;omega)|conv=>whnf)
  exact RetK.int (by unfold w1k;rw [← h5];rfl)
 rw [x3s hk] at h5
 have hin:inI id e l[k]=(decide (l[k].inn=id)&&(l[k].els==e)):=rfl
 rw [hin] at h5
 conv=>whnf
 repeat' (first|((first|refine And.intro rfl ?_|refine IdxK.map (by omega) (fun _=>rfl) ?_|refine Wr.i64 (by omega) (by omega) ?_|refine ValO.boolEql QQ rfl rfl rfl rfl rfl ?_);conv=>whnf)|(refine Br.dec (fun _=>?_) (fun _=>?_)<;>first|(exfalso;omega)|conv=>whnf))
 all_goals first
  | (rw [if_pos (by simp_all)] at h5
     exact RetK.int (by unfold w1k;rw [← h5];rfl))
  | (rw [if_neg (by simp_all)] at h5
     exact ⟨k+1,⟨hk,h5⟩,by omega,Le.of_eq rfl⟩)
  | trace_state
theorem x7v {r:List Int} {i:Nat} {id:Int} (h:i+1<r.length):nextIn (r.drop i) id=if r[i]=id then some r[i+1] else nextIn (r.drop (i+1)) id:=by
 rw [List.drop_eq_getElem_cons (show i<r.length by omega),List.drop_eq_getElem_cons h]
 rfl
theorem z0s {r:List Int} {i:Nat} {id:Int} (h:r.length≤i+1):nextIn (r.drop i) id=none:=by
 rcases Nat.lt_or_ge i r.length with hi|hi
 ·rw [List.drop_eq_getElem_cons hi,List.drop_eq_nil_of_le h]
  rfl
 ·rw [List.drop_eq_nil_of_le hi]
  rfl
theorem XU (l:List RI) (hl:l.length≤1000000) (id v:Int) (hv:nextIn (stdR l (itemR l id)) id=some v∨(nextIn (stdR l (itemR l id)) id=none∧(((itemR l id).inn=0∧v = -1)∨((itemR l id).inn≠0∧(itemR l (itemR l id).inn).s.kind=6∧v=(itemR l id).inn)∨((itemR l id).inn≠0∧(itemR l (itemR l id).inn).s.kind≠6∧SpecP Tryz.prog 87 [JF l,.int .i64 (itemR l id).inn] (fun r=>r = .int .i64 v))))):SpecP Tryz.prog 87 [JF l,.int .i64 id] (fun r=>r = .int .i64 v):=by
 refine SpecP.body HG QQ Tryz.func87 rfl Tryz.call87 (by show 2≤_;decide) ?_
 conv=>whnf
 have hI:=JM l id
 have hI2:=JM l (itemR l id).inn
 have hR:=q0f l (itemR l id) hl
 have hrl:(stdR l (itemR l id)).length≤l.length:=by
  unfold stdR
  rw [List.length_map]
  exact List.length_filter_le _ _
 generalize itemR l (itemR l id).inn=y at *
 generalize itemR l id=x at *
 generalize stdR l x=R at *
 have hRl:(R.map (AV.int .i64)).length=R.length:=List.length_map _
 repeat' ((first|refine And.intro rfl ?_|(refine CallK.pure hI (.cons (Sub.refl _) (.cons (Sub.refl _) .nil)) ?_;rintro _ rfl)|(refine CallK.pure hR (.cons (Sub.refl _) (.cons (Sub.refl _) .nil)) ?_;rintro _ rfl));conv=>whnf)
 refine LoopK.inv QQ (fun i:Nat=>⟨[(0,.p (JF l)),(1,.p (.int .i64 id)),(5,.p (.ip x.cells)),(6,.p (QS R)),(7,.p (.int .i64 i))],[]⟩) (fun i=>i≤R.length∧nextIn (R.drop i) id=nextIn R id) (fun i=>R.length-i) 0 (Le.of_eq rfl) ⟨Nat.zero_le _,rfl⟩ ?_
 rintro i ⟨h2,h3⟩
 rcases Nat.lt_or_ge (i+1) R.length with hi|hi
 ·have g1:(R.map (AV.int .i64))[i]? = some (.int .i64 R[i]):=by rw [List.getElem?_map,List.getElem?_eq_getElem (by omega)];rfl
  have g2:(R.map (AV.int .i64))[i+1]? = some (.int .i64 R[i+1]):=by rw [List.getElem?_map,List.getElem?_eq_getElem hi];rfl
  have hst:=x7v (id:=id) hi
  conv=>whnf
  repeat' (first|((first|intro (_:_≤9223372036854775807)|refine IdxK.map (by omega) (fun _=>rfl) ?_|refine Wr.eq (m:=((i+1:Nat):Int)) (by omega) (by omega) (by omega) ?_);conv=>whnf)|(refine Br.dec (fun _=>?_) (fun _=>?_)<;>first|(exfalso;omega)|conv=>whnf))
  all_goals first
   | (rw [if_pos (by assumption)] at hst
      rw [hst] at h3
      rcases hv with hv|hv
      ·rw [hv] at h3
       exact RetK.int (Option.some.inj h3)
      ·rw [hv.1] at h3
       cases h3)
   | (rw [if_neg (by assumption)] at hst
      exact ⟨i+1,⟨by omega,by rw [← hst];exact h3⟩,by omega,Le.of_eq rfl⟩)
   | trace_state
 ·rw [z0s hi] at h3
  rw [← h3] at hv
  rcases hv with hv|⟨_,⟨h4,rfl⟩|⟨h4,h5,rfl⟩|⟨h4,h5,h6⟩⟩
  ·cases hv
  all_goals
   conv=>whnf
   repeat' (first|((first|intro (_:_≤9223372036854775807)|refine Wr.eq (m:=((i+1:Nat):Int)) (by omega) (by omega) (by omega) ?_|(refine CallK.pure hI2 (.cons (Sub.refl _) (.cons (Sub.refl _) .nil)) ?_;rintro _ rfl)|(refine CallK.pure h6 (.cons (Sub.refl _) (.cons (Sub.refl _) .nil)) ?_;rintro _ rfl));conv=>whnf)|(refine Br.dec (fun _=>?_) (fun _=>?_)<;>first|(exfalso;omega)|conv=>whnf))
   all_goals first
    | (exfalso;omega)
    | exact RetK.int rfl
    | trace_state
theorem FK {l:List RI} (hl:l.length≤1000000) {id v:Int} (h:BehP l id v):SpecP Tryz.prog 87 [JF l,.int .i64 id] (fun r=>r = .int .i64 v):=by
 induction h with
 | next h=>exact XU l hl _ _ (.inl h)
 | exit h h0=>exact XU l hl _ _ (.inr ⟨h,.inl ⟨h0,rfl⟩⟩)
 | loop h h0 hk=>exact XU l hl _ _ (.inr ⟨h,.inr (.inl ⟨h0,hk,rfl⟩)⟩)
 | up h h0 hk _ ih=>exact XU l hl _ _ (.inr ⟨h,.inr (.inr ⟨h0,hk,ih⟩)⟩)
open Go.Proofs
def slB (a b:Step):Bool:=if a.src≠b.src then z8p a.src b.src else if a.dst≠b.dst then z8p a.dst b.dst else decide (a.kind<b.kind)
def slP (a b:Step):Prop:=slB a b=true
def ltP (a b:Step):Prop:=ordP a.src b.src∨(a.src=b.src∧ordP a.dst b.dst)
theorem q0n {a b:Step}:slP a b↔ordP a.src b.src∨(a.src=b.src∧(ordP a.dst b.dst∨(a.dst=b.dst∧a.kind<b.kind))):=by
 unfold slP slB
 by_cases h1:a.src=b.src
 ·rw [if_neg (fun h=>h h1)]
  have i1 : ¬ordP a.src b.src:=fun h=>ordP.irr b.src (h1▸h)
  by_cases h2:a.dst=b.dst
  ·rw [if_neg (fun h=>h h2)]
   have i2 : ¬ordP a.dst b.dst:=fun h=>ordP.irr b.dst (h2▸h)
   rw [decide_eq_true_eq]
   exact ⟨fun h => .inr ⟨h1,.inr ⟨h2,h⟩⟩,fun h=>(h.resolve_left i1).2.elim (fun h3=>absurd h3 i2) fun h3=>h3.2⟩
  ·rw [if_pos h2]
   exact ⟨fun h => .inr ⟨h1,.inl h⟩,fun h=>(h.resolve_left i1).2.elim id fun h3=>absurd h3.1 h2⟩
 ·rw [if_pos h1]
  exact ⟨fun h => .inl h,fun h=>h.elim id fun h3=>absurd h3.1 h1⟩
theorem slP.irr (a:Step) : ¬slP a a:=fun h=>by
 rw [q0n] at h
 rcases h with h|⟨_,h|⟨_,h⟩⟩
 ·exact ordP.irr _ h
 ·exact ordP.irr _ h
 ·omega
theorem slP.trans (a b c:Step) (h1:slP a b) (h2:slP b c):slP a c:=by
 rw [q0n] at *
 rcases h1 with h1|⟨e1,h1⟩
 ·rcases h2 with h2|⟨e2,_⟩
  ·exact .inl (ordP.trans _ _ _ h1 h2)
  ·exact .inl (e2▸h1)
 ·rcases h2 with h2|⟨e2,h2⟩
  ·exact .inl (e1▸h2)
  ·refine .inr ⟨e1.trans e2,?_⟩
   rcases h1 with h1|⟨e3,h1⟩
   ·rcases h2 with h2|⟨e4,_⟩
    ·exact .inl (ordP.trans _ _ _ h1 h2)
    ·exact .inl (e4▸h1)
   ·rcases h2 with h2|⟨e4,h2⟩
    ·exact .inl (e3▸h2)
    ·exact .inr ⟨e3.trans e4,by omega⟩
theorem slP.total (a b:Step) (h:a≠b):slP a b∨slP b a:=by
 rw [q0n,q0n]
 by_cases h1:a.src=b.src
 ·by_cases h2:a.dst=b.dst
  ·have h3:a.kind≠b.kind:=fun h3=>h (Step.eq_of h1 h2 h3)
   rcases Int.lt_or_gt_of_ne h3 with h4|h4
   ·exact .inl (.inr ⟨h1,.inr ⟨h2,h4⟩⟩)
   ·exact .inr (.inr ⟨h1.symm,.inr ⟨h2.symm,h4⟩⟩)
  ·rcases ordP.total _ _ h2 with h3|h3
   ·exact .inl (.inr ⟨h1,.inl h3⟩)
   ·exact .inr (.inr ⟨h1.symm,.inl h3⟩)
 ·rcases ordP.total _ _ h1 with h3|h3
  ·exact .inl (.inl h3)
  ·exact .inr (.inl h3)
theorem slP.lt {a b:Step} (h:slP a b) (hn : ¬(a.src=b.src∧a.dst=b.dst)):ltP a b:=by
 rw [q0n] at h
 rcases h with h|⟨e,h|⟨e2,_⟩⟩
 ·exact .inl h
 ·exact .inr ⟨e,h⟩
 ·exact absurd ⟨e,e2⟩ hn
theorem ltP.sl {a b c:Step} (h:ltP a b) (h2:slP b c):ltP a c:=by
 rw [q0n] at h2
 rcases h with h|⟨e,h⟩
 ·rcases h2 with h2|⟨e2,_⟩
  ·exact .inl (ordP.trans _ _ _ h h2)
  ·exact .inl (e2▸h)
 ·rcases h2 with h2|⟨e2,h2|⟨e3,_⟩⟩
  ·exact .inl (e▸h2)
  ·exact .inr ⟨e.trans e2,ordP.trans _ _ _ h h2⟩
  ·exact .inr ⟨e.trans e2,e3▸h⟩
structure InvO (P out:List Step):Prop where
 lt:out.Pairwise ltP
 sub : ∀ o∈out,o∈P
 all : ∀ s∈P,∃ o∈out,o.src=s.src∧o.dst=s.dst
 last:out.getLast? = P.getLast?
theorem InvO.nil:InvO [] []:=⟨.nil,fun _ h=>h,fun _ h=>(by cases h),rfl⟩
theorem InvO.same {P o:List Step} {z m:Step} (h:InvO P (o++[z])) (hm : ∀ p∈P,slP p m) (h1:z.src=m.src) (h2:z.dst=m.dst):InvO (P++[m]) (o++[m]):=by
 have hl:=h.lt
 rw [List.pairwise_append] at hl
 refine ⟨?_,fun x hx => ?_,fun s hs => ?_,by simp⟩
 ·rw [List.pairwise_append]
  refine ⟨hl.1,List.pairwise_singleton _ _,fun a ha b hb => ?_⟩
  rw [List.mem_singleton.1 hb]
  have h3:=hl.2.2 a ha z (List.mem_singleton.2 rfl)
  unfold ltP at h3 ⊢
  rw [← h1,← h2]
  exact h3
 ·rcases List.mem_append.1 hx with hx|hx
  ·exact List.mem_append.2 (.inl (h.sub x (List.mem_append.2 (.inl hx))))
  ·exact List.mem_append.2 (.inr hx)
 ·rcases List.mem_append.1 hs with hs|hs
  ·obtain ⟨x,hx,e1,e2⟩:=h.all s hs
   rcases List.mem_append.1 hx with hx|hx
   ·exact ⟨x,List.mem_append.2 (.inl hx),e1,e2⟩
   ·rw [List.mem_singleton.1 hx] at e1 e2
    exact ⟨m,List.mem_append.2 (.inr (List.mem_singleton.2 rfl)),h1▸e1,h2▸e2⟩
  ·rw [List.mem_singleton.1 hs]
   exact ⟨m,List.mem_append.2 (.inr (List.mem_singleton.2 rfl)),rfl,rfl⟩
theorem InvO.new {P out:List Step} {m:Step} (h:InvO P out) (hm : ∀ p∈P,slP p m) (hn : ∀ o z,out=o++[z] → ¬(z.src=m.src∧z.dst=m.dst)):InvO (P++[m]) (out++[m]):=by
 refine ⟨?_,fun x hx => ?_,fun s hs => ?_,by simp⟩
 ·rw [List.pairwise_append]
  refine ⟨h.lt,List.pairwise_singleton _ _,fun a ha b hb => ?_⟩
  rw [List.mem_singleton.1 hb]
  rcases List.eq_nil_or_concat out with rfl|⟨o,z,rfl⟩
  ·cases ha
  ·rw [List.concat_eq_append] at *
   have hz:ltP z m:=(hm z (h.sub z (List.mem_append.2 (.inr (List.mem_singleton.2 rfl))))).lt (hn o z rfl)
   rcases List.mem_append.1 ha with ha|ha
   ·have hl:=h.lt
    rw [List.pairwise_append] at hl
    exact (hl.2.2 a ha z (List.mem_singleton.2 rfl)).sl (hm z (h.sub z (List.mem_append.2 (.inr (List.mem_singleton.2 rfl)))))
   ·rw [List.mem_singleton.1 ha]
    exact hz
 ·rcases List.mem_append.1 hx with hx|hx
  ·exact List.mem_append.2 (.inl (h.sub x hx))
  ·exact List.mem_append.2 (.inr hx)
 ·rcases List.mem_append.1 hs with hs|hs
  ·obtain ⟨x,hx,e⟩:=h.all s hs
   exact ⟨x,List.mem_append.2 (.inl hx),e⟩
  ·rw [List.mem_singleton.1 hs]
   exact ⟨m,List.mem_append.2 (.inr (List.mem_singleton.2 rfl)),rfl,rfl⟩
theorem InvO.none {P:List Step} (h:InvO P []):P=[]:=by
 have:=h.last
 rw [List.getLast?_nil] at this
 exact List.getLast?_eq_none_iff.1 this.symm
theorem InvO.left {l P o:List Step} {z:Step} {i:Nat} (h:InvO P (o++[z])) (hR:RiseI slP l P i) {s:Step} (hs:s∈l):s∉P↔slP z s:=by
 have hl:=h.last
 rw [List.getLast?_append] at hl
 simp only [List.getLast?_singleton,Option.some_or] at hl
 obtain ⟨Q,rfl⟩:=List.getLast?_eq_some_iff.1 hl.symm
 constructor
 ·exact fun hn=>hR.seg s hs hn z (List.mem_append.2 (.inr (List.mem_singleton.2 rfl)))
 ·intro hz hm
  have hr:=hR.rise
  rw [List.pairwise_append] at hr
  rcases List.mem_append.1 hm with hm|hm
  ·exact slP.irr _ (slP.trans _ _ _ hz (hr.2.2 s hm z (List.mem_singleton.2 rfl)))
  ·rw [List.mem_singleton.1 hm] at hz
   exact slP.irr _ hz
def x1m (a b:Int):List Step→Int→Int
 | [],k=>k
 | s::r,k=>x1m a b r (if s.src=a∧s.dst=b∧s.kind<k then s.kind else k)
def x8b (l:List Step) (o:Step):Step:=⟨o.src,o.dst,x1m o.src o.dst l o.kind⟩
theorem q6p (a b:Int) : ∀ (l:List Step) (k:Int),(x1m a b l k=k ∨ ∃ s∈l,s.src=a∧s.dst=b∧s.kind=x1m a b l k)∧x1m a b l k≤k ∧ ∀ s∈l,s.src=a→s.dst=b→x1m a b l k≤s.kind
 | [],k=>⟨.inl rfl,Int.le_refl _,fun _ h=>(by cases h)⟩
 | s::r,k=>by
   obtain ⟨h1,h2,h3⟩:=q6p a b r (if s.src=a∧s.dst=b∧s.kind<k then s.kind else k)
   rw [x1m]
   split at h1
   ·rename_i hc
    rw [if_pos hc] at h2 h3 ⊢
    refine ⟨?_,by omega,fun t ht e1 e2 => ?_⟩
    ·rcases h1 with h1|⟨t,ht,h4⟩
     ·exact .inr ⟨s,List.mem_cons_self,hc.1,hc.2.1,h1.symm⟩
     ·exact .inr ⟨t,List.mem_cons_of_mem _ ht,h4⟩
    ·rcases List.mem_cons.1 ht with rfl|ht
     ·exact h2
     ·exact h3 t ht e1 e2
   ·rename_i hc
    rw [if_neg hc] at h2 h3 ⊢
    refine ⟨?_,h2,fun t ht e1 e2 => ?_⟩
    ·rcases h1 with h1|⟨t,ht,h4⟩
     ·exact .inl h1
     ·exact .inr ⟨t,List.mem_cons_of_mem _ ht,h4⟩
    ·rcases List.mem_cons.1 ht with rfl|ht
     ·have : ¬t.kind<k:=fun h=>hc ⟨e1,e2,h⟩
      omega
     ·exact h3 t ht e1 e2
theorem x5z {a b:Int} : ∀ {l:List Step} {k:Int} {j:Nat} (hj:j<l.length),x1m a b (l.take (j+1)) k=(if l[j].src=a∧l[j].dst=b∧l[j].kind<x1m a b (l.take j) k then l[j].kind else x1m a b (l.take j) k)
 | [],_,_,hj=>by simp at hj
 | s::r,k,0,_=>rfl
 | s::r,k,j+1,hj=>by
   rw [List.take_succ_cons,List.take_succ_cons,x1m,x1m]
   exact x5z (l:=r) (by simpa using hj)
theorem x9h {a b:Int} (ha:a≤9223372036854775806) (hb:b≤9223372036854775806):ordP a b↔XT a<XT b:=by
 rw [GD]
 unfold XT
 split<;>split<;>omega
theorem z6s {a b:Step} (ha:a.src≤9223372036854775806∧a.dst≤9223372036854775806) (hb:b.src≤9223372036854775806∧b.dst≤9223372036854775806) (h:ltP a b):NT a b:=by
 unfold ltP at h
 rw [x9h ha.1 hb.1,x9h ha.2 hb.2] at h
 unfold NT
 rcases h with h|⟨e,h⟩
 ·exact .inl h
 ·exact .inr ⟨by rw [e],h⟩
def leSt (s:Step):Prop:=s.src≤9223372036854775806∧s.dst≤9223372036854775806
theorem leSt.ok {s:Step} (h:leSt s):okSt s:=by
 unfold leSt at h
 unfold okSt
 omega
theorem z0z {l P out:List Step} {i:Nat} (hle : ∀ s∈l,leSt s) (hR:RiseI slP l P i) (hall : ∀ s∈l,s∈P) (h:InvO P out):out.map (x8b l)=ZY l:=by
 refine (NR (fun s hs=>(hle s hs).ok) ?_ ?_ ?_).symm
 ·rw [List.pairwise_map]
  refine h.lt.imp_of_mem fun {a b} ha hb hab => ?_
  have h1:=hle a (hR.sub a (h.sub a ha))
  have h2:=hle b (hR.sub b (h.sub b hb))
  exact z6s h1 h2 hab
 ·intro s hs
  obtain ⟨o,ho,rfl⟩:=List.mem_map.1 hs
  have hol:=hR.sub o (h.sub o ho)
  rcases (q6p o.src o.dst l o.kind).1 with h1|⟨t,ht,e1,e2,e3⟩
  ·have:x8b l o=o:=by unfold x8b;rw [h1]
   rw [this]
   exact hol
  ·have:x8b l o=t:=Step.eq_of e1.symm e2.symm e3.symm
   rw [this]
   exact ht
 ·intro s hs
  obtain ⟨o,ho,e1,e2⟩:=h.all s (hall s hs)
  exact ⟨x8b l o,List.mem_map.2 ⟨o,ho,rfl⟩,e1,e2,(q6p o.src o.dst l o.kind).2.2 s hs e1.symm e2.symm⟩
def Chunk.short (m:Nat):Chunk→Chunk
 | .own e sz es => .own e sz (es.take m)
 | c=>c
def q2g (k m:Nat):Heap→Heap
 | []=>[]
 | (j,c)::r=>(j,bif j==k then c.short m else c)::q2g k m r
theorem q6j (k m:Nat) : ∀ H:Heap,(q2g k m H).map (·.1)=H.map (·.1)
 | []=>rfl
 | (j,c)::r=>by rw [q2g,List.map_cons,List.map_cons,q6j k m r]
theorem q8b {k m:Nat} : ∀ {H:Heap} {j:Nat} {c':Chunk},(j,c')∈q2g k m H → ∃ c,(j,c)∈H∧(c'=c∨c'=c.short m)
 | [],_,_,h=>by rw [q2g] at h;cases h
 | (j0,c0)::r,j,c',h=>by
   rw [q2g] at h
   rcases List.mem_cons.1 h with h|h
   ·cases h
    refine ⟨c0,List.mem_cons_self,?_⟩
    cases j0==k
    ·exact .inl rfl
    ·exact .inr rfl
   ·obtain ⟨c,h1,h2⟩:=q8b h
    exact ⟨c,List.mem_cons_of_mem _ h1,h2⟩
theorem Le.short {N:Nat} {sl:List (Nat×LV)} {H:Heap} (k m:Nat):Le N ⟨sl,H⟩ ⟨sl,q2g k m H⟩:=fun σ β a w hr=>by
 have hk:=q6j k m H
 refine ⟨σ,β,⟨hr.size,hr.defers,hr.slots,⟨hr.heap.mem,fun j c' hj => ?_,by show ((q2g k m H).map (·.1)).Nodup;rw [hk];exact hr.heap.nodup,fun j hj=>hr.heap.apart j (by rw [← hk];exact hj),fun j hj j' hj'=>hr.heap.inj j (by rw [← hk];exact hj) j' (by rw [← hk];exact hj')⟩⟩,Mem.le_refl σ,Frm.refl _ _,fun _ h h'=>absurd h h',fun b ⟨j,hj,i,hi,hb⟩ => .inl ⟨j,by rw [← hk];exact hj,i,hi,hb⟩,fun _ _ _=>rfl⟩
 obtain ⟨c,h1,h2⟩:=q8b hj
 have hc:=hr.heap.chunks j c h1
 rcases h2 with rfl|rfl
 ·exact hc
 ·cases c with
  | own e sz es =>
    show (Chunk.own e sz (es.take m)).holds σ β w j
    rcases hc with ⟨h3,h4⟩|⟨i,vs,h3,h4,h5,h6,h7,h8,h9⟩
    ·exact .inl ⟨h3,by rw [h4];simp⟩
    ·refine .inr ⟨i,vs,h3,h4,h5,h6,by rw [List.length_take];omega,h8,fun q x hx=>h9 q x ?_⟩
     rw [List.getElem?_take] at hx
     split at hx
     ·exact hx
     ·cases hx
  | obj e cs=>exact hc
  | ext d=>exact hc
open Go.Proofs
theorem XL (a b:Step):SpecP Tryz.prog 161 [.agg a.cells,.agg b.cells] (fun r=>r = .bool (slB a b)):=by
 refine SpecP.body GQ QQ Tryz.func161 rfl Tryz.call161 (by show 2≤_;decide) ?_
 conv=>whnf
 repeat' (first|(refine CallK.pure (JX _ _) (by repeat' (first|exact ArgP.nil|refine ArgP.cons ?_ ?_|exact Sub.refl _|exact Sub.tt rfl|exact Sub.ff rfl)) ?_;rintro _ rfl;conv=>whnf)|(refine Br.dec2 (fun _=>?_) (fun _=>?_)<;>first|(exfalso;omega)|conv=>whnf))
 all_goals exact RetK.bool (by unfold slB;simp [*])
theorem YR (l:List Step):(l.map fun s=>AV.agg s.cells).length=l.length:=List.length_map _
theorem YP (l out:List Step) (hl:l.length≤1000000) (ho:out.length≤1000000):SpecH Tryz.prog 162 [.p (QL l),.hd 2000 0 out.length] [(2000,.own 79 3 (out.map fun s => .agg s.cells))] (fun r H=>r = .hd 2000 0 out.length∧H=[(2000,.own 79 3 ((out.map (x8b l)).map fun s => .agg s.cells))]):=by
 refine SpecH.body HA QQ Tryz.func162 rfl Tryz.call162 (by show 2≤_;decide) ?_
 conv=>whnf
 have hll:=YR l
 repeat' (intro (_:_≤9223372036854775807);conv=>whnf)
 refine LoopK.inv QQ (fun i:Nat=>⟨[(0,.p (QL l)),(1,.hd 2000 0 out.length),(9,.p (.int .i64 out.length)),(10,.p (.int .i64 i))],[(2000,.own 79 3 (((out.take i).map (x8b l)++out.drop i).map fun s => .agg s.cells))]⟩) (fun i=>i≤out.length) (fun i=>out.length-i) 0 (Le.of_eq rfl) (Nat.zero_le _) ?_
 intro i hi
 rcases Nat.lt_or_ge i out.length with hi2|hi2
 ·have hT:((out.take i).map (x8b l)).length=i:=by rw [List.length_map,List.length_take];omega
  have hD:out.drop i=out[i]::out.drop (i+1):=List.drop_eq_getElem_cons hi2
  have hT2:(out.take (i+1)).map (x8b l)=(out.take i).map (x8b l)++[x8b l out[i]]:=by rw [List.take_succ_eq_append_getElem hi2,List.map_append];rfl
  have hDl:i+(out.drop (i+1)).length+1=out.length:=by rw [List.length_drop];omega
  have hf0:x8b l out[i]=⟨out[i].src,out[i].dst,x1m out[i].src out[i].dst (l.take l.length) out[i].kind⟩:=by rw [List.take_length];rfl
  rw [hf0] at hT2
  rw [hD]
  generalize hDe:out.drop (i+1)=D at *
  generalize (out.take i).map (x8b l)=Tk at *
  generalize out[i]=o at *
  conv=>whnf
  repeat' (first|(intro (_:_≤9223372036854775807);conv=>whnf)|(refine Br.dec (fun _=>?_) (fun _=>?_)<;>first|(exfalso;omega)|conv=>whnf))
  refine LoopK.inv QQ (fun j:Nat=>⟨[(0,.p (QL l)),(1,.hd 2000 0 out.length),(5,.p (.int .i64 i)),(9,.p (.int .i64 out.length)),(10,.p (.int .i64 i)),(13,.p (QL l)),(14,.p (.int .i64 (l.map fun s=>AV.agg s.cells).length)),(15,.p (.int .i64 j))],[(2000,.own 79 3 ((Tk++(⟨o.src,o.dst,x1m o.src o.dst (l.take j) o.kind⟩:Step)::D).map fun s => .agg s.cells))]⟩) (fun j=>j≤l.length) (fun j=>l.length-j) 0 (Le.of_eq rfl) (Nat.zero_le _) ?_
  intro j hj
  rcases Nat.lt_or_ge j l.length with hj2|hj2
  ·have hst:=x5z (a:=o.src) (b:=o.dst) (k:=o.kind) hj2
   have g:((Tk++(⟨o.src,o.dst,x1m o.src o.dst (l.take j) o.kind⟩:Step)::D).map fun s=>AV.agg s.cells)[i]? = some (.agg (⟨o.src,o.dst,x1m o.src o.dst (l.take j) o.kind⟩:Step).cells):=by
    rw [List.getElem?_map,List.getElem?_append_right (by omega),hT,Nat.sub_self]
    rfl
   have hset : ∀ k:Int,((Tk++(⟨o.src,o.dst,x1m o.src o.dst (l.take j) o.kind⟩:Step)::D).map fun s=>AV.agg s.cells).set i (.agg (⟨o.src,o.dst,k⟩:Step).cells)=(Tk++(⟨o.src,o.dst,k⟩:Step)::D).map fun s => .agg s.cells:=fun k=>by
    rw [List.map_append,List.map_append,List.map_cons,List.map_cons,List.set_append_right _ _ (by rw [List.length_map,hT];exact Nat.le_refl _),List.length_map,hT,Nat.sub_self]
    rfl
   have hlen:(Tk++(⟨o.src,o.dst,x1m o.src o.dst (l.take j) o.kind⟩:Step)::D).length=out.length:=by rw [List.length_append,List.length_cons,hT];omega
   have hset2:=hset l[j].kind
   generalize x1m o.src o.dst (l.take j) o.kind=fk at *
   generalize hrow:(Tk++(⟨o.src,o.dst,fk⟩:Step)::D).map (fun s=>AV.agg s.cells)=row at *
   conv=>whnf
   repeat' (first|((first|refine DrawK.auto QQ mixed (by kernel_rfl) ?_|refine And.intro rfl ?_|refine IdxK.map (by omega) (fun _=>rfl) ?_|refine Wr.i64 (by omega) (by omega) ?_|refine IdxL.mk i rfl (by omega) ?_|refine LdOwn.mk i 0 _ (by show (0+i)*3+0=i*3+0;omega) g ?_|refine LdOwn.mk i 1 _ (by show (0+i)*3+1=i*3+1;omega) g ?_|refine LdOwn.mk i 2 _ (by show (0+i)*3+2=i*3+2;omega) g ?_);conv=>whnf)|(refine Br.dec (fun _=>?_) (fun _=>?_)<;>first|(exfalso;omega)|conv=>whnf))
   all_goals first
    | exact ⟨j+1,by omega,by omega,Le.of_eq (by rw [hst,if_neg (fun hh=>by first|exact absurd hh.1 (by assumption)|exact absurd hh.2.1 (by assumption)|exact absurd hh.2.2 (by assumption)),← hrow];rfl)⟩
    | (refine StOwn.mk i 2 _ (.agg [.int .i64 o.src,.int .i64 o.dst,.int .i64 l[j].kind]) ?_ g ?_ ?_ ?_
       ·show (0+i)*3+2=i*3+2
        omega
       ·show 2+1≤3
        decide
       ·rfl
       conv=>whnf
       refine Wr.i64 (by omega) (by omega) ?_
       conv=>whnf
       exact ⟨j+1,by omega,by omega,Le.of_eq (by rw [hst,if_pos ⟨by assumption,by assumption,by assumption⟩,← hset2];rfl)⟩)
    | (refine ⟨j+1,by omega,by omega,Le.of_eq ?_⟩;rw [hst,if_neg (fun hh=>by first|exact absurd hh.1 (by assumption)|exact absurd hh.2.1 (by assumption)|exact absurd hh.2.2 (by assumption)),← hrow];rfl)
  ·have hje:j=l.length:=by omega
   subst hje
   conv=>whnf
   repeat' (first|(refine Wr.i64 (by omega) (by omega) ?_;conv=>whnf)|(refine Br.dec (fun _=>?_) (fun _=>?_)<;>first|(exfalso;omega)|conv=>whnf))
   exact ⟨i+1,by omega,by omega,Le.of_eq (by rw [hT2,hDe,List.append_assoc];rfl)⟩
 ·rw [List.take_of_length_le hi2,List.drop_eq_nil_of_le hi2,List.append_nil]
  conv=>whnf
  repeat' (refine Br.dec (fun _=>?_) (fun _=>?_)<;>first|(exfalso;omega)|conv=>whnf)
  exact ⟨_,.refl _,rfl,rfl⟩
def st0:Step:=⟨0,0,0⟩
def z1o (l out:List Step) (i k:Nat) (m:Step) (y:AV):St:=⟨[(0,.p (QL l)),(3,.hd 0 0 out.length),(4,.ptr 1 0),(5,.p y),(10,.p (.int .i64 (l.map fun s=>AV.agg s.cells).length)),(11,.p (.int .i64 i)),(13,.p (QL l)),(14,.p (.int .i64 (l.map fun s=>AV.agg s.cells).length)),(15,.p (.int .i64 k))],[(0,.own 79 3 (out.map fun s => .agg s.cells)),(1,.obj 79 [.p (.int .i64 m.src),.p (.int .i64 m.dst),.p (.int .i64 m.kind)])]⟩
theorem WA (l:List Step) (hl:l.length≤1000000) (hle : ∀ s∈l,leSt s):SpecP Tryz.prog 103 [QL l] (fun r=>r=QL (ZY l)):=by
 refine SpecP.body FH QQ Tryz.func103 rfl Tryz.call103 (by show 1≤_;decide) ?_
 conv=>whnf
 intro (_:_≤9223372036854775807)
 have hll:=YR l
 have fin : ∀ (i:Nat) (P out:List Step),RiseI slP l P i→(∀ s∈l,s∈P)→InvO P out→out.map (x8b l)=ZY l:=fun i P out h1 h2 h3=>z0z hle h1 h2 h3
 conv=>whnf
 refine LoopK.inv QQ (fun x:Nat×List Step×List Step=>⟨[(0,.p (QL l)),(3,.hd 0 0 x.2.2.length),(10,.p (.int .i64 (l.map fun s=>AV.agg s.cells).length)),(11,.p (.int .i64 x.1))],[(0,.own 79 3 (x.2.2.map fun s => .agg s.cells))]⟩) (fun x=>x.1≤l.length∧RiseI slP l x.2.1 x.1∧InvO x.2.1 x.2.2) (fun x=>l.length-x.1) (0,[],[])
  (Le.mk [(0,.own 79 3 [])] (by simp [Chunk.new0];rfl) (by simp) (by simp) (.cons (.refl _) (.cons (.nil List.mem_cons_self) (.cons (.refl _) (.cons (.refl _) .nil)))) (.new List.mem_cons_self .nil)) ⟨Nat.zero_le _,RiseI.zero,InvO.nil⟩ ?_
 rintro ⟨i,P,out⟩ ⟨h2,h3,h4⟩
 simp only at h2 h3 h4 ⊢
 have hPl:=h3.len slP.irr
 have hol:out.length≤P.length:=VK (h4.lt.imp fun {a b} h e=>by subst e;exact h.elim (ordP.irr _) fun h=>ordP.irr _ h.2) h4.sub
 have hoa:=YR out
 rcases Nat.lt_or_ge i l.length with hi|hi
 rotate_left 1
 ·have hF:=fin i P out h3 (fun s hs=>(h3.all slP.irr (by omega)).2 s |>.2 hs) h4
  have hS:=YP l out hl (by omega)
  rw [hF] at hS
  conv=>whnf
  repeat' (first|(refine Br.dec (fun _=>?_) (fun _=>?_)<;>first|(exfalso;omega)|conv=>whnf)|(refine CallK.heap [(2000,0)] 0 (by repeat' (first|exact ArgsH.nil|refine ArgsH.cons ?_ ?_|exact LSub.refl _|exact LSub.p Sub.nils|exact LSub.p (Sub.tt rfl)|exact LSub.p (Sub.ff rfl)|exact LSub.p (Sub.int (by omega)))) (by refine BlksH.cons (j:=0) rfl rfl ?_ ?_;exact CSub.refl _;exact BlksH.nil) hS rfl rfl ?_;rintro l' H' ⟨rfl,rfl⟩;conv=>whnf))
  exact ⟨_,.hd rfl (by rw [← hF];simp),rfl⟩
 conv=>whnf
 repeat' (first|(intro (_:_≤9223372036854775807);conv=>whnf)|(refine Br.dec (fun _=>?_) (fun _=>?_)<;>first|(exfalso;omega)|conv=>whnf))
 refine LoopK.inv QQ (fun x:Nat×Option Step=>z1o l out i x.1 (x.2.getD st0) (.bool x.2.isSome)) (fun x=>x.1≤l.length∧LeastI slP l P x.1 x.2) (fun x=>l.length-x.1) (0,none) (Le.mk [] (by simp) (by simp) (by simp [z1o]) (.cons (.refl _) (.cons (.refl _) (.cons (.refl _) (.cons (.p (Sub.ff rfl)) (.cons (.refl _) (.cons (.refl _) (.cons (.refl _) (.cons (.refl _) (.cons (.refl _) .nil))))))))) (.cons rfl (.refl _) (.cons rfl (.refl _) .nil))) ⟨Nat.zero_le _,LeastI.zero⟩ ?_
 rintro ⟨k,o⟩ ⟨h5,h6⟩
 simp only at h5 h6 ⊢
 rcases Nat.lt_or_ge k l.length with hk|hk
 ·rcases List.eq_nil_or_concat out with rfl|⟨o',z,rfl⟩
  ·have hP:=h4.none
   subst hP
   have hnot:True→l[k]∉([]:List Step):=fun _ h=>by cases h
   have hmem:False→l[k]∈([]:List Step):=fun h=>h.elim
   cases o with
   | none =>
     simp only [z1o,Option.getD_none,Option.isSome_none]
     conv=>whnf
     repeat' (first|((first|intro (_:_≤9223372036854775807)|refine DrawK.auto QQ mixed (by kernel_rfl) ?_|refine And.intro rfl ?_|refine IdxK.map (by omega) (fun _=>rfl) ?_|refine Wr.i64 (by omega) (by omega) ?_);conv=>whnf)|(refine Br.dec (fun _=>?_) (fun _=>?_)<;>first|(exfalso;omega)|conv=>whnf)|(refine Br.n (fun _=>?_) (fun _=>?_)<;>conv=>whnf))
     all_goals first
      | (exfalso;simp_all;done)
      | exact ⟨(k+1,none),⟨by simp only;omega,h6.old hk (hmem (by assumption))⟩,by simp only;omega,Le.of_eq rfl⟩
      | exact ⟨(k+1,some l[k]),⟨by simp only;omega,h6.first hk (hnot trivial)⟩,by simp only;omega,(Le.mk [] (by simp) (by simp) (by simp [z1o]) (.cons (.refl _) (.cons (.refl _) (.cons (.refl _) (.cons (.p (Sub.tt rfl)) (.cons (.refl _) (.cons (.refl _) (.cons (.refl _) (.cons (.refl _) (.cons (.refl _) .nil))))))))) (.cons rfl (.refl _) (.cons rfl (.refl _) .nil)))⟩
      | trace_state
   | some m =>
     simp only [z1o,Option.getD_some,Option.isSome_some]
     have hS2:=XL l[k] m
     conv=>whnf
     repeat' (first|((first|intro (_:_≤9223372036854775807)|refine DrawK.auto QQ mixed (by kernel_rfl) ?_|refine And.intro rfl ?_|refine IdxK.map (by omega) (fun _=>rfl) ?_|refine Wr.i64 (by omega) (by omega) ?_|(refine CallK.pure hS2 (.cons (Sub.refl _) (.cons (Sub.refl _) .nil)) ?_;rintro _ rfl));conv=>whnf)|(refine Br.dec (fun _=>?_) (fun _=>?_)<;>first|(exfalso;omega)|conv=>whnf)|(refine Br.n (fun _=>?_) (fun _=>?_)<;>conv=>whnf)|(refine Br.b (fun _=>?_) (fun _=>?_)<;>conv=>whnf))
     all_goals first
      | (exfalso;simp_all;done)
      | exact ⟨(k+1,some m),⟨by simp only;omega,h6.old hk (hmem (by assumption))⟩,by simp only;omega,Le.of_eq rfl⟩
      | exact ⟨(k+1,some l[k]),⟨by simp only;omega,h6.less slP.trans hk (hnot trivial) (show slB l[k] m=true by assumption)⟩,by simp only;omega,(Le.mk [] (by simp) (by simp) (by simp [z1o]) (.cons (.refl _) (.cons (.refl _) (.cons (.refl _) (.cons (.p (Sub.tt rfl)) (.cons (.refl _) (.cons (.refl _) (.cons (.refl _) (.cons (.refl _) (.cons (.refl _) .nil))))))))) (.cons rfl (.refl _) (.cons rfl (.refl _) .nil)))⟩
      | (have hb:slB l[k] m=false:=by assumption
         exact ⟨(k+1,some m),⟨by simp only;omega,h6.more slP.total hk (fun h=>by unfold slP at h;rw [hb] at h;cases h)⟩,by simp only;omega,Le.of_eq rfl⟩)
      | trace_state
  ·rw [List.concat_eq_append] at *
   have hleft:=h4.left h3 (List.getElem_mem hk)
   have hnot:slB z l[k]=true→l[k]∉P:=fun h=>hleft.2 h
   have hmem:slB z l[k]=false→l[k]∈P:=fun h=>Classical.byContradiction fun hn=>by
    have:=hleft.1 hn
    unfold slP at this
    rw [h] at this
    cases this
   have g:((o'++[z]).map fun s=>AV.agg s.cells)[o'.length]? = some (.agg z.cells):=by simp
   cases o with
   | none =>
     simp only [z1o,Option.getD_none,Option.isSome_none]
     conv=>whnf
     repeat' (first|((first|intro (_:_≤9223372036854775807)|refine DrawK.auto QQ mixed (by kernel_rfl) ?_|refine And.intro rfl ?_|refine IdxK.map (by omega) (fun _=>rfl) ?_|refine Wr.i64 (by omega) (by omega) ?_|refine IdxL.mk o'.length (by simp) (by simp) ?_|refine LdOwn.mk o'.length 0 _ (by show (0+o'.length)*3+0=o'.length*3+0;omega) g ?_|(refine CallK.pure (XL z l[k]) (.cons (Sub.refl _) (.cons (Sub.refl _) .nil)) ?_;rintro _ rfl));conv=>whnf)|(refine Br.dec (fun _=>?_) (fun _=>?_)<;>first|(exfalso;omega)|conv=>whnf)|(refine Br.n (fun _=>?_) (fun _=>?_)<;>conv=>whnf))
     all_goals first
      | (exfalso;simp_all;done)
      | exact ⟨(k+1,none),⟨by simp only;omega,h6.old hk (hmem (by assumption))⟩,by simp only;omega,Le.of_eq rfl⟩
      | exact ⟨(k+1,some l[k]),⟨by simp only;omega,h6.first hk (hnot (by assumption))⟩,by simp only;omega,(Le.mk [] (by simp) (by simp) (by simp [z1o]) (.cons (.refl _) (.cons (.refl _) (.cons (.refl _) (.cons (.p (Sub.tt rfl)) (.cons (.refl _) (.cons (.refl _) (.cons (.refl _) (.cons (.refl _) (.cons (.refl _) .nil))))))))) (.cons rfl (.refl _) (.cons rfl (.refl _) .nil)))⟩
      | trace_state
   | some m =>
     simp only [z1o,Option.getD_some,Option.isSome_some]
     have hS2:=XL l[k] m
     conv=>whnf
     repeat' (first|((first|intro (_:_≤9223372036854775807)|refine DrawK.auto QQ mixed (by kernel_rfl) ?_|refine And.intro rfl ?_|refine IdxK.map (by omega) (fun _=>rfl) ?_|refine Wr.i64 (by omega) (by omega) ?_|refine IdxL.mk o'.length (by simp) (by simp) ?_|refine LdOwn.mk o'.length 0 _ (by show (0+o'.length)*3+0=o'.length*3+0;omega) g ?_|(refine CallK.pure (XL z l[k]) (.cons (Sub.refl _) (.cons (Sub.refl _) .nil)) ?_;rintro _ rfl)|(refine CallK.pure hS2 (.cons (Sub.refl _) (.cons (Sub.refl _) .nil)) ?_;rintro _ rfl));conv=>whnf)|(refine Br.dec (fun _=>?_) (fun _=>?_)<;>first|(exfalso;omega)|conv=>whnf)|(refine Br.n (fun _=>?_) (fun _=>?_)<;>conv=>whnf)|(refine Br.b (fun _=>?_) (fun _=>?_)<;>conv=>whnf))
     all_goals first
      | (exfalso;simp_all;done)
      | exact ⟨(k+1,some m),⟨by simp only;omega,h6.old hk (hmem (by assumption))⟩,by simp only;omega,Le.of_eq rfl⟩
      | exact ⟨(k+1,some l[k]),⟨by simp only;omega,h6.less slP.trans hk (hnot (by assumption)) (show slB l[k] m=true by assumption)⟩,by simp only;omega,(Le.mk [] (by simp) (by simp) (by simp [z1o]) (.cons (.refl _) (.cons (.refl _) (.cons (.refl _) (.cons (.p (Sub.tt rfl)) (.cons (.refl _) (.cons (.refl _) (.cons (.refl _) (.cons (.refl _) (.cons (.refl _) .nil))))))))) (.cons rfl (.refl _) (.cons rfl (.refl _) .nil)))⟩
      | (have hb:slB l[k] m=false:=by assumption
         exact ⟨(k+1,some m),⟨by simp only;omega,h6.more slP.total hk (fun h=>by unfold slP at h;rw [hb] at h;cases h)⟩,by simp only;omega,Le.of_eq rfl⟩)
      | trace_state
 ·obtain rfl:k=l.length:=by omega
  cases o with
  | none =>
    have hF:=fin i P out h3 (by have:=h6;rw [LeastI,List.take_length] at this;exact this) h4
    have hS:=YP l out hl (by omega)
    rw [hF] at hS
    simp only [z1o,Option.getD_none,Option.isSome_none]
    conv=>whnf
    repeat' (first|((first|intro (_:_≤9223372036854775807)|refine DrawK.auto QQ mixed (by kernel_rfl) ?_|refine And.intro rfl ?_|(refine And.intro ⟨by decide,by decide⟩ ?_)|refine BsK.pure (fun x hx=>by rcases List.mem_singleton.1 hx with rfl;rfl) rfl ?_|refine Wr.i64 (by omega) (by omega) ?_);conv=>whnf)|(refine Br.dec (fun _=>?_) (fun _=>?_)<;>first|(exfalso;omega)|conv=>whnf)|(refine Br.n (fun _=>?_) (fun _=>?_)<;>conv=>whnf)|(refine CallK.heap [(2000,0)] 0 (by repeat' (first|exact ArgsH.nil|refine ArgsH.cons ?_ ?_|exact LSub.refl _|exact LSub.p Sub.nils|exact LSub.p (Sub.tt rfl)|exact LSub.p (Sub.ff rfl)|exact LSub.p (Sub.int (by omega)))) (by refine BlksH.cons (j:=0) rfl rfl ?_ ?_;exact CSub.refl _;exact BlksH.nil) hS rfl rfl ?_;rintro l' H' ⟨rfl,rfl⟩;conv=>whnf))
    all_goals first
     | (exfalso;simp_all;done)
     | exact ⟨_,.hd rfl (by rw [← hF];simp),rfl⟩
     | trace_state
  | some m =>
    have hm : ∀ p∈P,slP p m:=fun p hp=>h3.seg m h6.1 h6.2.1 p hp
    have hR:=h3.snoc h6
    simp only [z1o,Option.getD_some,Option.isSome_some]
    rcases List.eq_nil_or_concat out with rfl|⟨o',z,rfl⟩
    ·have hI:=h4.new hm (fun o z h=>by simp at h)
     conv=>whnf
     repeat' (first|((first|intro (_:_≤9223372036854775807)|refine DrawK.auto QQ mixed (by kernel_rfl) ?_|refine And.intro rfl ?_|(refine And.intro ⟨by decide,by decide⟩ ?_)|refine BsK.pure (fun x hx=>by rcases List.mem_singleton.1 hx with rfl;rfl) rfl ?_|refine Wr.i64 (by omega) (by omega) ?_|refine AppK.mk (by simp) rfl (by show (0+1)*24≤140737488355328;decide) (by show 0+1≤9223372036854775807;decide) (fun x hx=>by rcases List.mem_singleton.1 hx with rfl;exact ⟨rfl,rfl⟩) ?_);conv=>whnf)|(refine Br.dec (fun _=>?_) (fun _=>?_)<;>first|(exfalso;omega)|conv=>whnf)|(refine Br.n (fun _=>?_) (fun _=>?_)<;>conv=>whnf))
     all_goals first
      | (exfalso;simp_all;done)
      | exact ⟨(i+1,P++[m],[m]),⟨by simp only;omega,hR,hI⟩,by simp only;omega,Le.of_eq rfl⟩
      | trace_state
    ·rw [List.concat_eq_append] at *
     have g:((o'++[z]).map fun s=>AV.agg s.cells)[o'.length]? = some (.agg z.cells):=by simp
     have hdl:((o'++[z]).map fun s=>AV.agg s.cells).take o'.length=o'.map fun s=>AV.agg s.cells:=by rw [List.map_append,List.take_append_of_le_length (by simp),List.take_of_length_le (by simp)]
     have hlz:(o'++[z]).length=o'.length+1:=by simp
     have hma:(o'++[m]).map (fun s=>AV.agg s.cells)=(o'.map fun s=>AV.agg s.cells)++[.agg m.cells]:=by simp
     have hmb:((o'++[z])++[m]).map (fun s=>AV.agg s.cells)=((o'++[z]).map fun s=>AV.agg s.cells)++[.agg m.cells]:=by simp
     have hsame:=fun h1 h2=>h4.same hm (z:=z) h1 h2
     have hnew:=fun hn : ¬(z.src=m.src∧z.dst=m.dst)=>h4.new hm (fun o y h=>by
      have:=List.append_inj_right' h rfl
      have hy:z=y:=by simpa using this
      exact hy▸hn)
     conv=>whnf
     repeat' (first|((first|intro (_:_≤9223372036854775807)|refine And.intro rfl ?_|(refine And.intro ⟨by decide,by decide⟩ ?_)|refine BsK.pure (fun x hx=>by rcases List.mem_singleton.1 hx with rfl;rfl) rfl ?_|refine Wr.i64 (by omega) (by omega) ?_|refine DrawK.le (id:=16) (Le.short 0 o'.length) (DrawK.auto QQ mixed (by kernel_rfl) ?_)|refine DrawK.auto QQ mixed (by kernel_rfl) ?_|refine IdxL.mk o'.length (by simp) (by simp) ?_|refine LdOwn.mk o'.length 0 _ (by show (0+o'.length)*3+0=o'.length*3+0;omega) g ?_|refine LdOwn.mk o'.length 1 _ (by show (0+o'.length)*3+1=o'.length*3+1;omega) g ?_|refine SlK.mk 0 o'.length rfl (by simp) (by omega) (by simp) ?_|refine AppK.mk (n:=o'.length-0) (by simp) rfl (by show (o'.length-0+1)*24≤140737488355328;omega) (by show o'.length-0+1≤9223372036854775807;omega) (fun x hx=>by rcases List.mem_singleton.1 hx with rfl;exact ⟨rfl,rfl⟩) ?_|refine AppK.mk (n:=(o'++[z]).length) (by simp) rfl (by simp only [hlz];show (o'.length+1+1)*24≤140737488355328;omega) (by simp only [hlz];show o'.length+1+1≤9223372036854775807;omega) (fun x hx=>by rcases List.mem_singleton.1 hx with rfl;exact ⟨rfl,rfl⟩) ?_);conv=>whnf)|(refine Br.dec (fun _=>?_) (fun _=>?_)<;>first|(exfalso;omega)|conv=>whnf)|(refine Br.n (fun _=>?_) (fun _=>?_)<;>conv=>whnf))
     all_goals first
      | contradiction
      | (refine ⟨(i+1,P++[m],o'++[m]),⟨by simp only;omega,hR,hsame (by assumption) (by assumption)⟩,by simp only;omega,Le.of_eq ?_⟩
         rw [hma,← hdl,List.length_append]
         rfl)
      | (refine ⟨(i+1,P++[m],(o'++[z])++[m]),⟨by simp only;omega,hR,hnew (fun hh=>by first|exact absurd hh.1 (by assumption)|exact absurd hh.2 (by assumption))⟩,by simp only;omega,Le.of_eq ?_⟩
         rw [hmb,show ((o'++[z])++[m]).length=(o'++[z]).length+1 by simp]
         rfl)
      | trace_state
open Go.Proofs
theorem z3g (f:Pr) (n:Str):BN (flatU f) f.fin n=atB f n:=by
 unfold BN atB
 rw [← show (flatU f).map RI.s=flL f.body from BH 1 0 false f.body,List.find?_map]
 have hq:(fun t:S=>t.labels.any fun s=>n==s)∘RI.s=fun x:RI=>inS x.s.labels n:=by
  funext x
  exact (q2h _ _).symm
 rw [hq]
 cases (flatU f).find? fun x=>inS x.s.labels n with
 | some x=>rfl
 | none =>
   simp only [Option.map_none]
   rw [q2h]
   cases f.fin.any fun s=>n==s<;>rfl
theorem KT {p:Pg} (hm:VX p=true) {j:Nat} {f:Pr} (hj:p.procs[j]? = some f):(flatU f).length≤200:=by
 rw [show flatU f=fuL 1 0 false f.body from rfl,WB]
 have:=GF _ _ (List.mem_of_getElem? hj)
 have:=XS hm
 omega
def x2l (f:Pr):AV := .agg [JF (flatU f),QH f.fin]
theorem GC (p:Pg) (j:Nat) (f:Pr) (h:ZB p=true) (hj:p.procs[j]? = some f) (it:Item) (hi:it∈itsOf p j f):SpecP Tryz.prog 146 [x2l f,.agg it.s.cells] (fun r=>r=QS (ZE (sheetOf p) f it)):=by
 refine SpecP.body KX QQ Tryz.func146 rfl Tryz.call146 (by show 2≤_;decide) ?_
 conv=>whnf
 have hm:=(QE h).1
 have hlU:=KT hm hj
 have hLl:=WJ (flatU f)
 have hB:=FK (by omega) (x1y hm hj hi)
 have hI1:=ZH (flatU f) it.s.id false it.next
 rw [q1f hm hj (q7z hi),cond_false] at hI1
 have hI2:=ZH (flatU f) it.s.id true it.next
 rw [q1f hm hj (q7z hi),cond_true] at hI2
 have hI3:=ZH (flatU f) it.s.id false it.s.id
 rw [q1f hm hj (q7z hi),cond_false] at hI3
 have hA:=YA (flatU f) it.s.id
 rw [q4w hm hj hi] at hA
 have hBe:=LU (flatU f) f.fin it.s.name
 rw [z3g] at hBe
 have hx:it.s.kind=7 → ∃ u,(sheetOf p).l[(it.loop-1).toNat]? = some u∧SpecP Tryz.prog 87 [JF (flatU f),.int .i64 it.loop] (fun r=>r = .int .i64 u.next):=fun hk=>by
  have h1:=(NQ h hj).1 it hi hk
  have h2:=(q0p hi).2
  obtain ⟨u,hu,hui⟩:=q5t hj (k:=(it.loop-1).toNat) (by omega) (by omega)
  have h3:=z6o h hj (by omega) (by omega) hu
  have h4:=FK (l:=flatU f) (by omega) (x1y hm hj hui)
  rw [show u.s.id=it.loop by omega] at h4
  exact ⟨u,hu,h4⟩
 generalize flatU f=L at *
 repeat' (first|((first|refine DrawK.auto QQ mixed (by kernel_rfl) ?_|refine And.intro rfl ?_|(refine And.intro ⟨by decide,by decide⟩ ?_)|refine BsK.pure (fun x hx=>by rcases List.mem_singleton.1 hx with rfl;rfl) rfl ?_|(refine CallK.pure hB (.cons (Sub.refl _) (.cons (Sub.refl _) .nil)) ?_;rintro _ rfl)|(refine CallK.pure hI1 (.cons (Sub.refl _) (.cons (Sub.refl _) (.cons (Sub.ff rfl) (.cons (Sub.refl _) .nil)))) ?_;rintro _ rfl)|(refine CallK.pure hI2 (.cons (Sub.refl _) (.cons (Sub.refl _) (.cons (Sub.tt rfl) (.cons (Sub.refl _) .nil)))) ?_;rintro _ rfl)|(refine CallK.pure hI3 (.cons (Sub.refl _) (.cons (Sub.refl _) (.cons (Sub.ff rfl) (.cons (Sub.refl _) .nil)))) ?_;rintro _ rfl)|(refine CallK.pure hA (.cons (Sub.refl _) (.cons (Sub.refl _) .nil)) ?_;rintro _ rfl)|(refine CallK.pure hBe (.cons (Sub.refl _) (.cons (Sub.refl _) (.cons (Sub.refl _) .nil))) ?_;rintro _ rfl)|refine BsK.pureL rfl rfl ?_|(obtain ⟨u,hu1,hu2⟩:=hx (by assumption);refine CallK.pure hu2 (.cons (Sub.refl _) (.cons (Sub.refl _) .nil)) ?_;rintro _ rfl));conv=>whnf)|(refine Br.dec (fun _=>?_) (fun _=>?_)<;>first|(exfalso;omega)|conv=>whnf))
 all_goals first
  | (exfalso;omega)
  | exact RetK.p (by unfold ZE;rw [if_neg (by omega),if_neg (by omega),if_pos (by omega),hu1];rfl)
  | exact RetK.p (by unfold ZE;rw [if_pos (by omega)];rfl)
  | exact RetK.p (by unfold ZE;rw [if_neg (by omega),if_pos (by omega)];rfl)
  | exact RetK.p (by unfold ZE;rw [if_neg (by omega),if_neg (by omega),if_neg (by omega),if_pos (by omega)];rfl)
  | exact RetK.p (by unfold ZE;rw [if_neg (by omega),if_neg (by omega),if_neg (by omega),if_neg (by omega),if_pos (by omega)];rfl)
  | exact RetK.p (by unfold ZE;rw [if_neg (by omega),if_neg (by omega),if_neg (by omega),if_neg (by omega),if_neg (by omega),if_pos (by omega)];rfl)
  | exact RetK.p (by unfold ZE;rw [if_neg (by omega),if_neg (by omega),if_neg (by omega),if_neg (by omega),if_neg (by omega),if_neg (by omega)];rfl)
  | trace_state
theorem z9s {p:Pg} (h:VX p=true) {j:Nat} {f:Pr} (hj:p.procs[j]? = some f):(itsOf p j f).length=(flatU f).length ∧ ∀ (k:Nat) (hk:k<(flatU f).length) (hk':k<(itsOf p j f).length),(itsOf p j f)[k].s=(flatU f)[k].s:=by
 obtain ⟨m,hr⟩:=PF h hj
 have hpar:=w2y (j:Nat) 1 0 false f.body (-1) 0 (QR p.procs j) hr
 have hlen:(itsOf p j f).length=(flatU f).length:=by simpa [itsOf,flatU] using congrArg List.length hpar
 refine ⟨hlen,fun k hk hk' => ?_⟩
 have h1:=congrArg (fun l=>l[k]?) hpar
 have e1:itL (j:Nat) 0 (-1) 0 (QR p.procs j) f.body=itsOf p j f:=rfl
 have e2:fuL 1 0 false f.body=flatU f:=rfl
 rw [e1,e2] at h1
 simp only [List.getElem?_map,List.getElem?_eq_getElem hk,List.getElem?_eq_getElem hk',Option.map_some] at h1
 exact congrArg Prod.fst (Option.some.inj h1)
theorem z9n {p:Pg} (h:ZB p=true) {j:Nat} {f:Pr} (hj:p.procs[j]? = some f) : ∀ s∈QK p j f,leSt s:=fun s hs=>by
 obtain ⟨h1,h2⟩:=(NQ h hj).2.1 s hs
 obtain ⟨_,_,hcn⟩:=HE h
 obtain ⟨_,_,_,hlen,hsp⟩:=QG p
 obtain ⟨_,_,hle,_⟩:=hsp j f hj
 unfold okI at h2
 unfold leSt
 omega
def z3q (p:Pg) (j:Nat) (f:Pr) (k:Nat):List Step:=⟨0,w5y p j f,1⟩::((itsOf p j f).take k).flatMap fun it=>(ZE (sheetOf p) f it).map (Step.mk it.s.id · 1)
theorem x4m {p:Pg} {j:Nat} {f:Pr} {k:Nat} (hk:k<(itsOf p j f).length):z3q p j f (k+1)=z3q p j f k++(ZE (sheetOf p) f (itsOf p j f)[k]).map (Step.mk (itsOf p j f)[k].s.id · 1):=by
 unfold z3q
 rw [List.take_succ_eq_append_getElem hk,List.flatMap_append,List.cons_append]
 simp
theorem q3r {p:Pg} {j:Nat} {f:Pr} {k:Nat} (hk:(itsOf p j f).length≤k):z3q p j f k=QK p j f:=by
 unfold z3q
 rw [List.take_of_length_le hk]
 rfl
theorem q3y (p:Pg) (j:Nat) (f:Pr) : ∀ k,(z3q p j f k).length≤1+2*k
 | 0=>by unfold z3q;simp
 | k+1=>by
   rcases Nat.lt_or_ge k (itsOf p j f).length with hk|hk
   ·have:=q3y p j f k
    have h2:=(x2e (sheetOf p) f (itsOf p j f)[k]).2.1
    rw [x4m hk,List.length_append,List.length_map]
    omega
   ·have:=q3y p j f k
    rw [q3r (by omega)]
    rw [q3r hk] at this
    omega
theorem ZK (p:Pg) (j:Nat) (f:Pr) (h:ZB p=true) (hj:p.procs[j]? = some f):SpecP Tryz.prog 90 [x2l f] (fun r=>r=QL (QX p j f).real):=by
 refine SpecP.body KV QQ Tryz.func90 rfl Tryz.call90 (by show 1≤_;decide) ?_
 conv=>whnf
 have hm:=(QE h).1
 have hlU:=KT hm hj
 have hLl:=WJ (flatU f)
 obtain ⟨hil,hat⟩:=z9s hm hj
 have hI:=ZH (flatU f) 0 false (-1)
 rw [x6f hm hj,← z8z h hj] at hI
 have hG:=fun it hi=>GC p j f h hj it hi
 have hreal:(QX p j f).real=ZY (QK p j f):=rfl
 have hle:=z9n h hj
 have hrl:(QK p j f).length≤1000:=by
  rw [← q3r (Nat.le_refl _)]
  have:=q3y p j f (itsOf p j f).length
  omega
 have hS:=WA (QK p j f) (by omega) hle
 rw [hreal]
 repeat' ((first|intro (_:_≤9223372036854775807)|refine And.intro rfl ?_|(refine And.intro ⟨by decide,by decide⟩ ?_)|(refine CallK.pure hI (.cons (Sub.refl _) (.cons (Sub.refl _) (.cons (Sub.ff rfl) (.cons (Sub.refl _) .nil)))) ?_;rintro _ rfl)|refine BsK.own (fun x hx=>by rcases List.mem_singleton.1 hx with rfl;rfl) rfl ?_);conv=>whnf)
 refine LoopK.inv QQ (fun x:Nat=>⟨[(1,.p (.ip [JF (flatU f),QH f.fin])),(3,.hd 0 0 (z3q p j f x).length),(14,.p (JF (flatU f))),(15,.p (.int .i64 ((flatU f).map fun i=>AV.agg i.cells).length)),(16,.p (.int .i64 x))],[(0,.own 79 3 ((z3q p j f x).map fun s => .agg s.cells))]⟩) (fun x=>x≤(flatU f).length) (fun x=>(flatU f).length-x) 0 (Le.of_eq rfl) (Nat.zero_le _) ?_
 intro k hk
 have htl:=q3y p j f k
 rcases Nat.lt_or_ge k (flatU f).length with hk2|hk2
 ·have hki:k<(itsOf p j f).length:=by omega
  have hst:=x4m hki
  have hGk:=hG _ (List.getElem_mem hki)
  have hsk:=hat k hk2 hki
  have hgc:=(x2e (sheetOf p) f (itsOf p j f)[k]).2.1
  have hid:(itsOf p j f)[k].s.id=(flatU f)[k].s.id:=by rw [hsk]
  rw [hsk] at hGk
  rw [hid] at hst
  generalize ZE (sheetOf p) f (itsOf p j f)[k]=gs at *
  have hgl:(gs.map (AV.int .i64)).length=gs.length:=List.length_map _
  generalize z3q p j f k=acc at *
  have hst2:(z3q p j f (k+1)).length=acc.length+gs.length:=by rw [hst,List.length_append,List.length_map]
  conv=>whnf
  repeat' (first|((first|intro (_:_≤9223372036854775807)|refine And.intro rfl ?_|refine IdxK.map (by omega) (fun _=>rfl) ?_|(refine CallK.pure hGk (.cons (Sub.refl _) (.cons (Sub.refl _) .nil)) ?_;rintro _ rfl));conv=>whnf)|(refine Br.dec (fun _=>?_) (fun _=>?_)<;>first|(exfalso;omega)|conv=>whnf))
  refine LoopK.inv QQ (fun q:Nat=>⟨[(1,.p (.ip [JF (flatU f),QH f.fin])),(3,.hd 0 0 (acc.length+q)),(5,.p (.ip (flatU f)[k].cells)),(14,.p (JF (flatU f))),(15,.p (.int .i64 ((flatU f).map fun i=>AV.agg i.cells).length)),(16,.p (.int .i64 k)),(23,.p (QS gs)),(24,.p (.int .i64 (gs.map (AV.int .i64)).length)),(25,.p (.int .i64 q))],[(0,.own 79 3 ((acc++(gs.take q).map (Step.mk (flatU f)[k].s.id · 1)).map fun s => .agg s.cells))]⟩) (fun q=>q≤gs.length) (fun q=>gs.length-q) 0 (Le.of_eq (by rw [List.take_zero,List.map_nil,List.append_nil];rfl)) (Nat.zero_le _) ?_
  intro q hq
  rcases Nat.lt_or_ge q gs.length with hq2|hq2
  ·have e1:acc++(gs.take (q+1)).map (Step.mk (flatU f)[k].s.id · 1)=(acc++(gs.take q).map (Step.mk (flatU f)[k].s.id · 1))++[⟨(flatU f)[k].s.id,gs[q],1⟩]:=by rw [List.take_succ_eq_append_getElem hq2,List.map_append,← List.append_assoc];rfl
   have e2:(acc++(gs.take q).map (Step.mk (flatU f)[k].s.id · 1)).length=acc.length+q:=by rw [List.length_append,List.length_map,List.length_take];omega
   generalize acc++(gs.take q).map (Step.mk (flatU f)[k].s.id · 1)=row at *
   have hrw:=YR row
   conv=>whnf
   repeat' (first|((first|refine And.intro rfl ?_|(refine And.intro ⟨by decide,by decide⟩ ?_)|refine BsK.pure (fun x hx=>by rcases List.mem_singleton.1 hx with rfl;rfl) rfl ?_|refine IdxK.map (by omega) (fun _=>rfl) ?_|refine Wr.i64 (by omega) (by omega) ?_|refine AppK.mk (by omega) rfl (by show (acc.length+q+1)*24≤140737488355328;omega) (by show acc.length+q+1≤9223372036854775807;omega) (fun x hx=>by rcases List.mem_singleton.1 hx with rfl;exact ⟨rfl,rfl⟩) ?_);conv=>whnf)|(refine Br.dec (fun _=>?_) (fun _=>?_)<;>first|(exfalso;omega)|conv=>whnf))
   all_goals exact ⟨q+1,by omega,by omega,Le.of_eq (by rw [e1,List.map_append];rfl)⟩
  ·obtain rfl:q=gs.length:=by omega
   rw [List.take_length]
   conv=>whnf
   repeat' (first|(refine Wr.i64 (by omega) (by omega) ?_;conv=>whnf)|(refine Br.dec (fun _=>?_) (fun _=>?_)<;>first|(exfalso;omega)|conv=>whnf))
   all_goals exact ⟨k+1,by omega,by omega,Le.of_eq (by rw [hst2,hst];rfl)⟩
 ·rw [q3r (by omega)]
  conv=>whnf
  repeat' (first|(refine CallK.give hS (.cons (.hd rfl (by simp)) .nil) ?_;rintro _ rfl;conv=>whnf)|(refine Br.dec (fun _=>?_) (fun _=>?_)<;>first|(exfalso;omega)|conv=>whnf))
  all_goals exact RetK.p rfl
open Go.Proofs
open Go.Proofs
open Go.Proofs
def w5t (l:List Int) (i:Nat):Int:=l.getD i 0
def srt (K:Int→Int) (l:List Int) (a b:Nat):Prop := ∀ i k,a≤i→i<k→k<b→K (w5t l k)≤K (w5t l i)
def hi0 (a m b:Nat):Nat:=if (a+b) / 2<m then (a+b) / 2 else m
open Go.Proofs
open Go.Proofs
open Go.Proofs
def blk (K:Int→Int) (l:List Int) (bs n:Nat):Prop := ∀ q,srt K l (q*bs) (min (q*bs+bs) n)
open Go.Proofs
open Go.Proofs
open Go.Proofs
open Go.Proofs
open Go.Proofs
open Go.Proofs
open Go.Proofs
open Go.Proofs
section
variable {p:Pg} {j:Nat} {f:Pr}
end
open Go.Proofs
section
variable {p:Pg} {j:Nat} {f:Pr}
end
open Go.Proofs
open Go.Proofs
open Go.Proofs
theorem z5c {p:Pg} {n:Str} {k:Nat} {f:Pr} (hw:DK p n=some (QX p k f)) (hk:p.procs[k]? = some f):ZB p=true∧q0m p n=(f,true):=by
 obtain ⟨k',f',hk',he,hc,_,hfi⟩:=YI hw
 have hk2:(QX p k f).j=(QX p k' f').j:=by rw [he]
 have hk3:k=k':=hk2
 subst hk3
 rw [hk] at hk'
 obtain rfl:=Option.some.inj hk'
 refine ⟨hc,?_⟩
 unfold q0m VS
 rw [(QE hc).1,hfi]
 rfl
theorem z0q {p:Pg} {n:Str} (hw:DK p n=none):ZB p=false∨q0m p n=(Pr0,false):=by
 cases hc:ZB p with
 | false=>exact .inl rfl
 | true =>
   refine .inr ?_
   unfold q0m
   rw [(QE hc).1,z1n hw hc]
   rfl
theorem ZX (p:Pg) (hf:Fit p) (n:Str) (k:Nat) (f:Pr) (hw:DK p n=some (QX p k f)) (hk:p.procs[k]? = some f):SpecP Tryz.prog 89 [.agg p.cells,.str n] (fun r=>r = .tup [x2l f,.bool true]):=by
 refine SpecP.body UF QQ Tryz.func89 rfl Tryz.call89 (by show 2≤_;decide) ?_
 conv=>whnf
 obtain ⟨hc,hM⟩:=z5c hw hk
 have hP:=UC p n
 rw [hM] at hP
 have hR:=JB p hf
 rw [hc] at hR
 have hF:=XZ f
 rw [JP (QE hc).1 (List.mem_of_getElem? hk)] at hF
 repeat' (first|((first|refine DrawK.auto QQ mixed (by kernel_rfl) ?_|refine And.intro rfl ?_|(refine CallK.pure hP (.cons (Sub.refl _) (.cons (Sub.refl _) .nil)) ?_;rintro _ rfl)|(refine CallK.pure hR (.cons (Sub.refl _) .nil) ?_;rintro _ rfl)|(refine CallK.pure hF (.cons (Sub.refl _) .nil) ?_;rintro _ rfl));conv=>whnf)|(refine Br.n (fun _=>?_) (fun _=>?_)<;>conv=>whnf))
 all_goals first
  | contradiction
  | exact ⟨_,.p (Sub.tup (.cons (Sub.refl _) (.cons (Sub.tt rfl) .nil))),rfl⟩
theorem ZZ (p:Pg) (hf:Fit p) (n:Str) (hw:DK p n=none):SpecP Tryz.prog 89 [.agg p.cells,.str n] (fun r=>r = .tup [.agg [JF [],QH []],.bool false]):=by
 refine SpecP.body UF QQ Tryz.func89 rfl Tryz.call89 (by show 2≤_;decide) ?_
 conv=>whnf
 have hP:=UC p n
 have hR:=JB p hf
 have hN:=z0q hw
 generalize (q0m p n).1=q at *
 have hN:ZB p=false∨(q0m p n).2=false:=hN.imp id fun h=>by rw [h]
 generalize (q0m p n).2=ok at *
 generalize ZB p=ch at *
 repeat' (first|((first|refine DrawK.auto QQ mixed (by kernel_rfl) ?_|refine And.intro rfl ?_|(refine CallK.pure hP (.cons (Sub.refl _) (.cons (Sub.refl _) .nil)) ?_;rintro _ rfl)|(refine CallK.pure hR (.cons (Sub.refl _) .nil) ?_;rintro _ rfl));conv=>whnf)|(refine Br.n (fun _=>?_) (fun _=>?_)<;>conv=>whnf))
 all_goals first
  | exact ⟨_,.p (Sub.tup (.cons (Sub.agg (.cons Sub.nils (.cons Sub.nils .nil))) (.cons (Sub.ff rfl) .nil))),rfl⟩
  | (exfalso;simp_all;done)
open Go.Proofs
section
variable {p:Pg} {j:Nat} {f:Pr} {n:Str}
end
open Go.Proofs
theorem q4d {F:List Step} {a b x:Int}:Rch (frR F a []) b x↔Rch (stR F) b x:=by
 have e:frR F a []=stR F:=by
  funext u v
  exact propext ⟨fun h=>h.2,fun h=>⟨.inr rfl,h⟩⟩
 rw [e]
theorem z3w {steps:List Step} {at_:Int} {but es:List Int} (h : ∀ x,x∈es↔Rch (frR steps at_ but) at_ x) (hd:es.Nodup):es.length≤steps.length+1:=by
 have:=VK hd (m:=at_::steps.map Step.dst) fun s hs=>by
  have h1:=(h s).1 hs
  cases h1 with
  | refl=>exact List.mem_cons_self
  | tail _ h2 =>
    obtain ⟨_,t,ht,_,rfl⟩:=h2
    exact List.mem_cons_of_mem _ (List.mem_map.2 ⟨t,ht,rfl⟩)
 simpa using this
def w6f (l:List Int) (r:AV):Prop := ∃ m,r=QS m∧m.Pairwise ordP ∧ ∀ s,s∈m↔s∈l
end Go.Ab
