/- The reference's jumps; all that must hold of a program: just what the program checks. -/
import Derived.Test.YtneccajakpeodaaGreatCfgA14
import Derived.Test.YtneccajakpeodaaGreatCfgA15
import Derived.Test.YtneccajakpeodaaGreatCfgA16
import Derived.Test.YtneccajakpeodaaGreatCfgA18
set_option linter.unusedSimpArgs false
set_option linter.unusedVariables false
set_option maxRecDepth 100000
set_option maxHeartbeats 16000000
namespace Go.Ab
open Go.Proofs
def x2w (L:List RI) (f:Pr) (x:RI):Bool:=if x.s.kind=7∨x.s.kind=8 then (x3g L.reverse x.s.id).2 else if x.s.kind=10 then inS (q4y f) x.s.name else true
theorem z9a (f:Pr) (n:Str):(atB f n).2=inS (q4y f) n:=by
 rw [Bool.eq_iff_iff,q4o]
 unfold atB q4y
 rw [List.mem_append,List.mem_flatMap]
 cases hq:(flL f.body).find? fun t=>t.labels.any fun s=>n==s with
 | some t =>
   have h1:=List.mem_of_find?_eq_some hq
   have h2:=List.find?_some hq
   obtain ⟨s,hs,he⟩:=List.any_eq_true.1 h2
   have he:n=s:=eq_of_beq he
   exact ⟨fun _ => .inl ⟨t,h1,he▸hs⟩,fun _=>rfl⟩
 | none =>
   have h1:=List.find?_eq_none.1 hq
   have h2 : ¬∃ a∈flL f.body,n∈a.labels:=fun ⟨t,ht,hn⟩=>h1 t ht (List.any_eq_true.2 ⟨n,hn,beq_self_eq_true n⟩)
   cases hc:f.fin.any fun s=>n==s with
   | true =>
     obtain ⟨s,hs,he⟩:=List.any_eq_true.1 hc
     have he:n=s:=eq_of_beq he
     exact ⟨fun _ => .inr (he▸hs),fun _=>rfl⟩
   | false =>
     refine ⟨fun h=>by simp at h,fun h => ?_⟩
     rcases h with h|h
     ·exact absurd h h2
     ·have:=List.any_eq_false.1 hc n h
      simp at this
theorem x8k {p:Pg} (h:WM p=true) {j:Nat} {f:Pr} (hj:p.procs[j]? = some f):GN p j f↔(∀ x∈flatU f,x2w (flatU f) f x=true)∧(q4y f).Nodup:=by
 have key : ∀ it∈QS p j f,∀ x∈flatU f,x.s=it.s→x2w (flatU f) f x=WB f it:=fun it hi x hx he=>by
  unfold x2w WB
  rw [he,q5f h hj hi,z9a]
  congr 1
  by_cases h0:it.loop=0<;>simp [h0]
 unfold GN
 refine and_congr_left fun _=>⟨fun h1 x hx => ?_,fun h1 it hi => ?_⟩
 ·have h2:x.s∈flL f.body:=by
   rw [← show (flatU f).map RI.s=flL f.body from HG 1 0 false f.body]
   exact List.mem_map.2 ⟨x,hx,rfl⟩
  obtain ⟨it,hi,he⟩:=w1y (p:=p) (j:=j) h2
  rw [key it hi x hx he.symm]
  exact h1 it hi
 ·obtain ⟨x,hx,he⟩:=q9z (q9i hi)
  rw [← key it hi x hx he]
  exact h1 x hx
theorem z2j (f:Pr):q4y f=(flatU f).flatMap (fun x=>x.s.labels)++f.fin:=by
 unfold q4y
 rw [← show (flatU f).map RI.s=flL f.body from HG 1 0 false f.body,List.flatMap_map]
theorem MX (p:Pg) (hf:Fit p) (hm:WM p=true):SpecP Tryz.prog 204 [.agg p.cells] (fun r=>fltR (∀ j f,p.procs[j]? = some f→GN p j f) r):=by
 refine SpecP.body DI QQ Tryz.func204 rfl Tryz.call204 (by show 1≤_;decide) ?_
 conv=>whnf
 obtain ⟨hg,hpl,hcn⟩:=XS hm
 have hpll:(p.procs.map fun f=>AV.agg f.cells).length=p.procs.length:=List.length_map _
 repeat' (first|((first|intro (_:_≤9223372036854775807)|refine DrawK.auto QQ mixed (by kernel_rfl) ?_|refine And.intro rfl ?_|(refine And.intro ⟨by decide,by decide⟩ ?_)|(refine And.intro ⟨rfl,rfl,by decide⟩ ?_)|refine BsK.pure (fun x hx=>by rcases List.mem_singleton.1 hx with rfl;rfl) rfl ?_|refine IdxK.map (by omega) (fun _=>rfl) ?_|refine IdxK.xs (by omega) ?_|refine IdxK.ss (by omega) ?_|(refine ByteK.at (by omega) ?_)|refine Wr.i64 (by omega) (by omega) ?_);conv=>whnf)|(refine Br.dec (fun _=>?_) (fun _=>?_)<;>first|(exfalso;omega)|conv=>whnf)|(refine Br.dec2 (fun _=>?_) (fun _=>?_)<;>first|(exfalso;omega)|conv=>whnf)|(refine Br.n (fun _=>?_) (fun _=>?_)<;>conv=>whnf)|(refine Br.b (fun _=>?_) (fun _=>?_)<;>conv=>whnf))
 refine LoopK.inv QQ (fun j:Nat=>⟨[(2,.ptr 1 0),(13,.p (.sl (p.procs.map fun f => .agg f.cells))),(14,.p (.int .i64 (p.procs.map fun f=>AV.agg f.cells).length)),(15,.p (.int .i64 j))],[(1,.obj 90 [.p (.int .i64 0),.p (.int .i64 0)])]⟩) (fun j=>j≤p.procs.length ∧ ∀ k f,k<j→p.procs[k]? = some f→GN p k f) (fun j=>p.procs.length-j) 0
  (Le.of_eq rfl) ⟨Nat.zero_le _,fun k f h=>absurd h (Nat.not_lt_zero _)⟩ ?_
 rintro j ⟨h2,h3⟩
 rcases Nat.lt_or_ge j p.procs.length with hj|hj
 rotate_left 1
 ·conv=>whnf
  repeat' (first|((first|intro (_:_≤9223372036854775807)|refine DrawK.auto QQ mixed (by kernel_rfl) ?_|refine And.intro rfl ?_|(refine And.intro ⟨by decide,by decide⟩ ?_)|(refine And.intro ⟨rfl,rfl,by decide⟩ ?_)|refine BsK.pure (fun x hx=>by rcases List.mem_singleton.1 hx with rfl;rfl) rfl ?_|refine IdxK.map (by omega) (fun _=>rfl) ?_|refine IdxK.xs (by omega) ?_|refine IdxK.ss (by omega) ?_|(refine ByteK.at (by omega) ?_)|refine Wr.i64 (by omega) (by omega) ?_);conv=>whnf)|(refine Br.dec (fun _=>?_) (fun _=>?_)<;>first|(exfalso;omega)|conv=>whnf)|(refine Br.dec2 (fun _=>?_) (fun _=>?_)<;>first|(exfalso;omega)|conv=>whnf)|(refine Br.n (fun _=>?_) (fun _=>?_)<;>conv=>whnf)|(refine Br.b (fun _=>?_) (fun _=>?_)<;>conv=>whnf))
  exact RetK.flt ⟨fun _ k f hk=>h3 k f (by have:=(List.getElem?_eq_some_iff.1 hk).1;omega) hk,fun _=>rfl⟩
 have hfm:=List.getElem_mem hj
 obtain ⟨w1,w2,w3,w4⟩:=x6o hf hfm
 have hwp:=hf.pr hfm
 have hpj':p.procs[j]? = some p.procs[j]:=List.getElem?_eq_getElem hj
 have hF:=QN p.procs[j]
 rw [ZU hm hfm] at hF
 have hrl:(flatU p.procs[j]).length≤200:=by rw [show flatU p.procs[j]=fuL 1 0 false p.procs[j].body from rfl,JR];have:=DJ _ _ hfm;omega
 have hlab : ∀ x∈flatU p.procs[j],x.s.labels.length≤20000:=fun x hx=>by
  have hmm:x.s∈flL p.procs[j].body:=by
   rw [← show (flatU p.procs[j]).map RI.s=flL p.procs[j].body from HG 1 0 false _]
   exact List.mem_map.2 ⟨_,hx,rfl⟩
  have h4:=q5d _ _ hmm
  have h5:=q8k x.s
  have h6:=KI x.s.labels
  unfold wPr at hwp
  omega
 have hLb:=PB p.procs[j] (by rw [ZU hm hfm];exact hlab) w3
 rw [ZU hm hfm,← z2j] at hLb
 have hbad : ¬GN p j p.procs[j] → ¬∀ j f,p.procs[j]? = some f→GN p j f:=fun h h2=>h (h2 j _ hpj')
 have hgood:GN p j p.procs[j] → ∀ k f,k<j+1→p.procs[k]? = some f→GN p k f:=fun h k f hk hf2=>by
  rcases Nat.lt_or_ge k j with h4|h4
  ·exact h3 k f h4 hf2
  ·obtain rfl:k=j:=by omega
   rw [hpj'] at hf2
   exact Option.some.inj hf2▸h
 rw [x8k hm hpj'] at hbad hgood
 have hlf:=z2j p.procs[j]
 have hld : ∀ x,x2w (flatU p.procs[j]) p.procs[j] x=if x.s.kind=7∨x.s.kind=8 then (x3g (flatU p.procs[j]).reverse x.s.id).2 else if x.s.kind=10 then inS (q4y p.procs[j]) x.s.name else true:=fun x=>rfl
 have hAr:=fun id=>YJ (flatU p.procs[j]) id
 have hIn:=fun x=>QB (q4y p.procs[j]) x
 generalize x2w (flatU p.procs[j]) p.procs[j]=ld at *
 generalize flatU p.procs[j]=L at *
 generalize q4y p.procs[j]=LB at *
 have hLl:=WP L
 conv=>whnf
 repeat' (first|((first|intro (_:_≤9223372036854775807)|refine DrawK.auto QQ mixed (by kernel_rfl) ?_|refine And.intro rfl ?_|(refine And.intro ⟨by decide,by decide⟩ ?_)|(refine And.intro ⟨rfl,rfl,by decide⟩ ?_)|refine BsK.pure (fun x hx=>by rcases List.mem_singleton.1 hx with rfl;rfl) rfl ?_|refine IdxK.map (by omega) (fun _=>rfl) ?_|refine IdxK.xs (by omega) ?_|refine IdxK.ss (by omega) ?_|(refine ByteK.at (by omega) ?_)|refine Wr.i64 (by omega) (by omega) ?_|(refine CallK.pure hF (.cons (Sub.refl _) .nil) ?_;rintro _ rfl));conv=>whnf)|(refine Br.dec (fun _=>?_) (fun _=>?_)<;>first|(exfalso;omega)|conv=>whnf)|(refine Br.dec2 (fun _=>?_) (fun _=>?_)<;>first|(exfalso;omega)|conv=>whnf)|(refine Br.n (fun _=>?_) (fun _=>?_)<;>conv=>whnf)|(refine Br.b (fun _=>?_) (fun _=>?_)<;>conv=>whnf))
 refine LoopK.inv QQ (fun x:Nat×List Str=>⟨[(2,.ptr 1 0),(4,.p (.ip p.procs[j].cells)),(5,.hd 0 0 x.2.length),(6,.p (KT L)),(13,.p (.sl (p.procs.map fun f => .agg f.cells))),(14,.p (.int .i64 (p.procs.map fun f=>AV.agg f.cells).length)),(15,.p (.int .i64 j)),(21,.p (KT L)),(22,.p (.int .i64 (L.map fun i=>AV.agg i.cells).length)),(23,.p (.int .i64 x.1))],[(0,.own 9 1 (x.2.map .str)),(1,.obj 90 [.p (.int .i64 0),.p (.int .i64 0)])]⟩) (fun x=>x.1≤L.length∧x.2=(L.take x.1).flatMap (fun x=>x.s.labels)∧x.2.length≤20000*x.1∧x.2.Nodup ∧ ∀ y∈L.take x.1,ld y=true) (fun x=>L.length-x.1) (0,[])
  (Le.mk [(0,.own 9 1 [])] (by simp [Chunk.new0];rfl) (by simp) (by simp) (.cons (.refl _) (.cons (.refl _) (.cons (.nil List.mem_cons_self) (.cons (.refl _) (.cons (.refl _) (.cons (.refl _) (.cons (.refl _) (.cons (.refl _) (.cons (.refl _) (.cons (.refl _) .nil)))))))))) (.new List.mem_cons_self (.cons rfl (.refl _) .nil))) ⟨Nat.zero_le _,by simp,by simp,by simp,fun y h=>by rw [List.take_zero] at h;cases h⟩ ?_
 rintro ⟨k,acc⟩ ⟨h4,h5,h6,h7,h8⟩
 simp only at h4 h5 h6 h7 h8 ⊢
 rcases Nat.lt_or_ge k L.length with hk|hk
 ·have hlk:=hlab _ (List.getElem_mem hk)
  have e1:(L.take (k+1)).flatMap (fun x=>x.s.labels)=acc++L[k].s.labels:=by rw [List.take_succ_eq_append_getElem hk,List.flatMap_append,← h5];simp
  have hT:=XR (acc++L[k].s.labels)
  have hAk:=hAr L[k].s.id
  have hIk:=hIn L[k].s.name
  have hldk:=hld L[k]
  have hsub:LB.Nodup→(acc++L[k].s.labels).Nodup:=fun h=>by
   rw [hlf,← List.take_append_drop (k+1) L,List.flatMap_append,e1,List.append_assoc] at h
   exact (List.nodup_append.1 h).1
  have hno : ∀ {d:Int} {H:Heap},(ld L[k]=false∨XZ (acc++L[k].s.labels)=true)→RetK H (.p (.agg [.int .i64 7,.int .i64 d])) (fun r=>fltR (∀ j f,p.procs[j]? = some f→GN p j f) r):=fun h=>by
   refine RetK.flt ⟨fun h=>by omega,fun hP=>absurd hP (hbad fun ⟨h9,h10⟩ => ?_)⟩
   rcases h with h|h
   ·rw [h9 _ (List.getElem_mem hk)] at h
    cases h
   ·rw [ZF.2 (hsub h10)] at h
    cases h
  have hyes:ld L[k]=true → ∀ y∈L.take (k+1),ld y=true:=fun h y hy=>by
   rcases (QI hk).1 hy with h9|rfl
   ·exact h8 y h9
   ·exact h
  rw [← ZF] at hsub
  rw [show QH (acc++L[k].s.labels)=AV.sl (acc.map .str++L[k].s.labels.map .str) by unfold QH;rw [List.map_append]] at hT
  generalize hal:acc++L[k].s.labels=al at hT hno e1
  have hall:al.length=acc.length+L[k].s.labels.length:=by rw [← hal];simp
  generalize (x3g L.reverse L[k].s.id).2=ar at *
  conv=>whnf
  repeat' (first|((first|intro (_:_≤9223372036854775807)|refine DrawK.auto QQ mixed (by kernel_rfl) ?_|refine And.intro rfl ?_|(refine And.intro ⟨by decide,by decide⟩ ?_)|(refine And.intro ⟨rfl,rfl,by decide⟩ ?_)|refine BsK.pure (fun x hx=>by rcases List.mem_singleton.1 hx with rfl;rfl) rfl ?_|refine IdxK.map (by omega) (fun _=>rfl) ?_|refine IdxK.xs (by omega) ?_|refine IdxK.ss (by omega) ?_|(refine ByteK.at (by omega) ?_)|refine Wr.i64 (by omega) (by omega) ?_|refine AppK.strs _ (by simp) (by simp;omega) ?_|(refine CallK.borrow hT (.cons (.hd rfl (by simp)) .nil) (by rintro _ rfl;rfl) ?_;rintro _ rfl)|(refine CallK.pure hAk (.cons (Sub.refl _) (.cons (Sub.refl _) .nil)) ?_;rintro _ rfl)|(refine CallK.pure hLb (.cons (Sub.refl _) .nil) ?_;rintro _ rfl)|(refine CallK.pure hIk (.cons (Sub.refl _) (.cons (Sub.refl _) .nil)) ?_;rintro _ rfl)|(refine CallK.pure (QL 7 _) (.cons (Sub.refl _) (.cons (Sub.refl _) .nil)) ?_;rintro _ rfl));conv=>whnf)|(refine Br.dec (fun _=>?_) (fun _=>?_)<;>first|(exfalso;omega)|conv=>whnf)|(refine Br.dec2 (fun _=>?_) (fun _=>?_)<;>first|(exfalso;omega)|conv=>whnf)|(refine Br.n (fun _=>?_) (fun _=>?_)<;>conv=>whnf)|(refine Br.b (fun _=>?_) (fun _=>?_)<;>conv=>whnf))
  all_goals first
   | exact hno (.inr (by assumption))
   | (refine hno (.inl ?_)
      rw [hldk]
      simp_all
      done)
   | (refine ⟨(k+1,al),⟨by simp only;omega,by simp only;rw [e1],by simp only;omega,ZF.1 (by assumption),hyes ?_⟩,by simp only;omega,Le.of_eq (by subst hal;simp only [List.length_append,List.map_append,List.length_map];rfl)⟩
      rw [hldk]
      simp_all
      done)
   | trace_state
 ·rw [List.take_of_length_le hk] at h5 h8
  have e2:LB=acc++p.procs[j].fin:=by rw [hlf,← h5]
  have hT:=XR (acc++p.procs[j].fin)
  rw [show QH (acc++p.procs[j].fin)=AV.sl (acc.map .str++p.procs[j].fin.map .str) by unfold QH;rw [List.map_append]] at hT
  conv=>whnf
  repeat' (first|((first|intro (_:_≤9223372036854775807)|refine DrawK.auto QQ mixed (by kernel_rfl) ?_|refine And.intro rfl ?_|(refine And.intro ⟨by decide,by decide⟩ ?_)|(refine And.intro ⟨rfl,rfl,by decide⟩ ?_)|refine BsK.pure (fun x hx=>by rcases List.mem_singleton.1 hx with rfl;rfl) rfl ?_|refine IdxK.map (by omega) (fun _=>rfl) ?_|refine IdxK.xs (by omega) ?_|refine IdxK.ss (by omega) ?_|(refine ByteK.at (by omega) ?_)|refine Wr.i64 (by omega) (by omega) ?_|refine AppK.strs _ (by simp) (by simp;omega) ?_|(refine CallK.borrow hT (.cons (.hd rfl (by simp)) .nil) (by rintro _ rfl;rfl) ?_;rintro _ rfl)|(refine CallK.pure (QL 7 0) (.cons (Sub.refl _) (.cons (Sub.refl _) .nil)) ?_;rintro _ rfl));conv=>whnf)|(refine Br.dec (fun _=>?_) (fun _=>?_)<;>first|(exfalso;omega)|conv=>whnf)|(refine Br.dec2 (fun _=>?_) (fun _=>?_)<;>first|(exfalso;omega)|conv=>whnf)|(refine Br.n (fun _=>?_) (fun _=>?_)<;>conv=>whnf)|(refine Br.b (fun _=>?_) (fun _=>?_)<;>conv=>whnf))
  all_goals first
   | (refine RetK.flt ⟨fun h=>by omega,fun hP=>absurd hP (hbad fun ⟨h9,h10⟩ => ?_)⟩
      rw [e2,← ZF] at h10
      simp_all
      done)
   | (refine ⟨j+1,⟨by omega,hgood ⟨h8,?_⟩⟩,by omega,Le.of_eq rfl⟩
      rw [e2,← ZF]
      assumption)
theorem fltR.yes {P:Prop} {r:AV} (h:fltR P r) (hp:P) : ∃ d,r=HP 0 d:=by
 obtain ⟨c,d,rfl,h⟩:=h
 rw [h.2 hp]
 exact ⟨d,rfl⟩
theorem fltR.no {P:Prop} {r:AV} (h:fltR P r) (hp : ¬P) : ∃ c d,c≠0∧r=HP c d:=by
 obtain ⟨c,d,rfl,h⟩:=h
 exact ⟨c,d,fun e=>hp (h.1 e),rfl⟩
theorem q2y (p:Pg) (hf:Fit p):SpecP Tryz.prog 142 [.agg p.cells] (fun r=>fltR (VV p=true) r):=by
 refine SpecP.body MM QQ Tryz.func142 rfl Tryz.call142 (by show 1≤_;decide) ?_
 conv=>whnf
 have hS:=MT p hf
 by_cases hs:(QR p).1=0
 rotate_left 1
 ·have hS:=hS.mono fun r h=>h.no hs
  have hno : ¬VV p=true:=fun h=>hs (q9j.1 h).2.1
  repeat' (first|((first|intro (_:_≤9223372036854775807)|refine DrawK.auto QQ mixed (by kernel_rfl) ?_|refine And.intro rfl ?_|(refine And.intro ⟨by decide,by decide⟩ ?_)|(refine And.intro ⟨rfl,rfl,by decide⟩ ?_)|refine BsK.pure (fun x hx=>by rcases List.mem_singleton.1 hx with rfl;rfl) rfl ?_|refine IdxK.map (by omega) (fun _=>rfl) ?_|refine IdxK.xs (by omega) ?_|refine IdxK.ss (by omega) ?_|(refine ByteK.at (by omega) ?_)|refine Wr.i64 (by omega) (by omega) ?_|(refine CallK.pure hS (.cons (Sub.refl _) .nil) ?_;rintro _ ⟨c,d,hc,rfl⟩));conv=>whnf)|(refine Br.dec (fun _=>?_) (fun _=>?_)<;>first|(exfalso;omega)|conv=>whnf)|(refine Br.dec2 (fun _=>?_) (fun _=>?_)<;>first|(exfalso;omega)|conv=>whnf)|(refine Br.n (fun _=>?_) (fun _=>?_)<;>conv=>whnf)|(refine Br.b (fun _=>?_) (fun _=>?_)<;>conv=>whnf))
  all_goals first
   | (exfalso;omega)
   | exact RetK.flt ⟨fun h=>absurd h hc,fun h=>absurd h hno⟩
 have hS:=hS.mono fun r h=>h.yes hs
 have hm:=(WD hs).1
 have hA:=NT p hm
 rw [← x2z hs] at hA
 by_cases ha:(WL p).1=0
 rotate_left 1
 ·have hA:=hA.mono fun r h=>h.no ha
  have hno : ¬VV p=true:=fun h=>ha (q9j.1 h).2.2.1
  repeat' (first|((first|intro (_:_≤9223372036854775807)|refine DrawK.auto QQ mixed (by kernel_rfl) ?_|refine And.intro rfl ?_|(refine And.intro ⟨by decide,by decide⟩ ?_)|(refine And.intro ⟨rfl,rfl,by decide⟩ ?_)|refine BsK.pure (fun x hx=>by rcases List.mem_singleton.1 hx with rfl;rfl) rfl ?_|refine IdxK.map (by omega) (fun _=>rfl) ?_|refine IdxK.xs (by omega) ?_|refine IdxK.ss (by omega) ?_|(refine ByteK.at (by omega) ?_)|refine Wr.i64 (by omega) (by omega) ?_|(refine CallK.pure hS (.cons (Sub.refl _) .nil) ?_;rintro _ ⟨d0,rfl⟩)|(refine CallK.pure hA (.cons (Sub.refl _) .nil) ?_;rintro _ ⟨c,d,hc,rfl⟩));conv=>whnf)|(refine Br.dec (fun _=>?_) (fun _=>?_)<;>first|(exfalso;omega)|conv=>whnf)|(refine Br.dec2 (fun _=>?_) (fun _=>?_)<;>first|(exfalso;omega)|conv=>whnf)|(refine Br.n (fun _=>?_) (fun _=>?_)<;>conv=>whnf)|(refine Br.b (fun _=>?_) (fun _=>?_)<;>conv=>whnf))
  all_goals first
   | (exfalso;omega)
   | exact RetK.flt ⟨fun h=>absurd h hc,fun h=>absurd h hno⟩
 have hA:=hA.mono fun r h=>h.yes ha
 have hJ:=MX p hf hm
 rw [← z5n hs] at hJ
 by_cases hj:(BG p).1=0
 rotate_left 1
 ·have hJ:=hJ.mono fun r h=>h.no hj
  have hno : ¬VV p=true:=fun h=>hj (q9j.1 h).2.2.2.1
  repeat' (first|((first|intro (_:_≤9223372036854775807)|refine DrawK.auto QQ mixed (by kernel_rfl) ?_|refine And.intro rfl ?_|(refine And.intro ⟨by decide,by decide⟩ ?_)|(refine And.intro ⟨rfl,rfl,by decide⟩ ?_)|refine BsK.pure (fun x hx=>by rcases List.mem_singleton.1 hx with rfl;rfl) rfl ?_|refine IdxK.map (by omega) (fun _=>rfl) ?_|refine IdxK.xs (by omega) ?_|refine IdxK.ss (by omega) ?_|(refine ByteK.at (by omega) ?_)|refine Wr.i64 (by omega) (by omega) ?_|(refine CallK.pure hS (.cons (Sub.refl _) .nil) ?_;rintro _ ⟨d0,rfl⟩)|(refine CallK.pure hA (.cons (Sub.refl _) .nil) ?_;rintro _ ⟨d1,rfl⟩)|(refine CallK.pure hJ (.cons (Sub.refl _) .nil) ?_;rintro _ ⟨c,d,hc,rfl⟩));conv=>whnf)|(refine Br.dec (fun _=>?_) (fun _=>?_)<;>first|(exfalso;omega)|conv=>whnf)|(refine Br.dec2 (fun _=>?_) (fun _=>?_)<;>first|(exfalso;omega)|conv=>whnf)|(refine Br.n (fun _=>?_) (fun _=>?_)<;>conv=>whnf)|(refine Br.b (fun _=>?_) (fun _=>?_)<;>conv=>whnf))
  all_goals first
   | (exfalso;omega)
   | exact RetK.flt ⟨fun h=>absurd h hc,fun h=>absurd h hno⟩
 have hJ:=hJ.mono fun r h=>h.yes hj
 have hT:=FO p hf hs ((x2z hs).1 ha)
 rw [← z2n ha] at hT
 have hiff:VV p=true↔(KM p).1=0:=by
  rw [q9j]
  exact ⟨fun h=>h.2.2.2.2,fun h=>⟨hm,hs,ha,hj,h⟩⟩
 repeat' (first|((first|intro (_:_≤9223372036854775807)|refine DrawK.auto QQ mixed (by kernel_rfl) ?_|refine And.intro rfl ?_|(refine And.intro ⟨by decide,by decide⟩ ?_)|(refine And.intro ⟨rfl,rfl,by decide⟩ ?_)|refine BsK.pure (fun x hx=>by rcases List.mem_singleton.1 hx with rfl;rfl) rfl ?_|refine IdxK.map (by omega) (fun _=>rfl) ?_|refine IdxK.xs (by omega) ?_|refine IdxK.ss (by omega) ?_|(refine ByteK.at (by omega) ?_)|refine Wr.i64 (by omega) (by omega) ?_|(refine CallK.pure hS (.cons (Sub.refl _) .nil) ?_;rintro _ ⟨d0,rfl⟩)|(refine CallK.pure hA (.cons (Sub.refl _) .nil) ?_;rintro _ ⟨d1,rfl⟩)|(refine CallK.pure hJ (.cons (Sub.refl _) .nil) ?_;rintro _ ⟨d2,rfl⟩)|(refine CallK.pure hT (.cons (Sub.refl _) .nil) ?_;rintro _ ⟨c,d,rfl,hc⟩));conv=>whnf)|(refine Br.dec (fun _=>?_) (fun _=>?_)<;>first|(exfalso;omega)|conv=>whnf)|(refine Br.dec2 (fun _=>?_) (fun _=>?_)<;>first|(exfalso;omega)|conv=>whnf)|(refine Br.n (fun _=>?_) (fun _=>?_)<;>conv=>whnf)|(refine Br.b (fun _=>?_) (fun _=>?_)<;>conv=>whnf))
 all_goals first
  | (exfalso;omega)
  | exact RetK.flt (hc.trans hiff.symm)
theorem XT (p:Pg) (hf:Fit p):SpecP Tryz.prog 85 [.agg p.cells] (fun r=>r = .bool (VV p)):=by
 refine SpecP.body BH QQ Tryz.func85 rfl Tryz.call85 (by show 1≤_;decide) ?_
 conv=>whnf
 repeat' (first|((first|intro (_:_≤9223372036854775807)|refine DrawK.auto QQ mixed (by kernel_rfl) ?_|refine And.intro rfl ?_|(refine And.intro ⟨by decide,by decide⟩ ?_)|(refine And.intro ⟨rfl,rfl,by decide⟩ ?_)|refine BsK.pure (fun x hx=>by rcases List.mem_singleton.1 hx with rfl;rfl) rfl ?_|refine IdxK.map (by omega) (fun _=>rfl) ?_|refine IdxK.xs (by omega) ?_|refine IdxK.ss (by omega) ?_|(refine ByteK.at (by omega) ?_)|refine Wr.i64 (by omega) (by omega) ?_|(refine CallK.pure (q2y p hf) (.cons (Sub.refl _) .nil) ?_;rintro _ ⟨c,d,rfl,hc⟩));conv=>whnf)|(refine Br.dec (fun _=>?_) (fun _=>?_)<;>first|(exfalso;omega)|conv=>whnf)|(refine Br.dec2 (fun _=>?_) (fun _=>?_)<;>first|(exfalso;omega)|conv=>whnf)|(refine Br.n (fun _=>?_) (fun _=>?_)<;>conv=>whnf)|(refine Br.b (fun _=>?_) (fun _=>?_)<;>conv=>whnf))
 all_goals
  refine RetK.bool ?_
  first
  | rw [Bool.eq_iff_iff,beq_iff_eq];exact hc
  | rw [Bool.eq_iff_iff,decide_eq_true_eq];exact hc
open Go.Proofs
theorem JX (l:List RI) (id:Int):SpecP Tryz.prog 143 [KT l,.int .i64 id] (fun r=>r = .agg (itemR l id).cells):=by
 refine SpecP.body DS QQ Tryz.func143 rfl Tryz.call143 (by show 2≤_;decide) ?_
 conv=>whnf
 intro (_:_≤9223372036854775807)
 have hLl:=WP l
 conv=>whnf
 refine LoopK.inv QQ (fun k:Nat=>⟨[(1,.p (.int .i64 id)),(4,.ptr 0 0),(7,.p (KT l)),(8,.p (.int .i64 (l.map fun i=>AV.agg i.cells).length)),(9,.p (.int .i64 k))],[(0,.obj 103 [.p (.int .i64 0),.p (.int .i64 0),.p .nils,.p (.str []),.p (.str []),.p (.int .i64 0),.p (.int .i64 0),.p (.str []),.p .nils,.p .ff,.p .nils,.p .nils,.p .nils,.p (.int .i64 0),.p (.int .i64 0),.p .ff])]⟩) (fun k=>k≤l.length∧(l.drop k).find? (fun x=>decide (x.s.id=id))=l.find? fun x=>decide (x.s.id=id)) (fun k=>l.length-k) 0 (Le.of_eq rfl) ⟨Nat.zero_le _,rfl⟩ ?_
 rintro k ⟨h4,h5⟩
 rcases Nat.lt_or_ge k l.length with hk|hk
 rotate_left 1
 ·rw [List.drop_eq_nil_of_le hk,List.find?_nil] at h5
  have hO:itemR l id=RI0:=by unfold itemR;rw [← h5];rfl
  rw [hO]
  conv=>whnf
  repeat' (first|((first|intro (_:_≤9223372036854775807)|refine DrawK.auto QQ mixed (by kernel_rfl) ?_|refine And.intro rfl ?_|(refine And.intro ⟨by decide,by decide⟩ ?_)|(refine And.intro ⟨rfl,rfl,by decide⟩ ?_)|refine BsK.pure (fun x hx=>by rcases List.mem_singleton.1 hx with rfl;rfl) rfl ?_|refine IdxK.map (by omega) (fun _=>rfl) ?_|refine IdxK.xs (by omega) ?_|refine IdxK.ss (by omega) ?_|(refine ByteK.at (by omega) ?_)|refine Wr.i64 (by omega) (by omega) ?_);conv=>whnf)|(refine Br.dec (fun _=>?_) (fun _=>?_)<;>first|(exfalso;omega)|conv=>whnf)|(refine Br.dec2 (fun _=>?_) (fun _=>?_)<;>first|(exfalso;omega)|conv=>whnf)|(refine Br.n (fun _=>?_) (fun _=>?_)<;>conv=>whnf)|(refine Br.b (fun _=>?_) (fun _=>?_)<;>conv=>whnf))
  exact ⟨_,.p z2c,rfl⟩
 rw [q4x hk] at h5
 conv=>whnf
 repeat' (first|((first|intro (_:_≤9223372036854775807)|refine DrawK.auto QQ mixed (by kernel_rfl) ?_|refine And.intro rfl ?_|(refine And.intro ⟨by decide,by decide⟩ ?_)|(refine And.intro ⟨rfl,rfl,by decide⟩ ?_)|refine BsK.pure (fun x hx=>by rcases List.mem_singleton.1 hx with rfl;rfl) rfl ?_|refine IdxK.map (by omega) (fun _=>rfl) ?_|refine IdxK.xs (by omega) ?_|refine IdxK.ss (by omega) ?_|(refine ByteK.at (by omega) ?_)|refine Wr.i64 (by omega) (by omega) ?_);conv=>whnf)|(refine Br.dec (fun _=>?_) (fun _=>?_)<;>first|(exfalso;omega)|conv=>whnf)|(refine Br.dec2 (fun _=>?_) (fun _=>?_)<;>first|(exfalso;omega)|conv=>whnf)|(refine Br.n (fun _=>?_) (fun _=>?_)<;>conv=>whnf)|(refine Br.b (fun _=>?_) (fun _=>?_)<;>conv=>whnf))
 ·have hid:l[k].s.id=id:=by assumption
  rw [if_pos (decide_eq_true hid)] at h5
  have hO:itemR l id=l[k]:=by unfold itemR;rw [← h5];rfl
  rw [hO]
  exact ⟨_,.p (Sub.refl _),rfl⟩
 ·have hid : ¬l[k].s.id=id:=by assumption
  rw [if_neg (by simpa using hid)] at h5
  exact ⟨k+1,⟨hk,h5⟩,by omega,Le.of_eq rfl⟩
theorem q0e (l:List RI) (x:RI) (hl:l.length≤1000000):SpecP Tryz.prog 144 [KT l,.agg x.cells] (fun r=>r=ZQ (stdR l x)):=by
 refine SpecP.body NU QQ Tryz.func144 rfl Tryz.call144 (by show 2≤_;decide) ?_
 conv=>whnf
 intro (_:_≤9223372036854775807)
 have hLl:=WP l
 have hsd:stdR l x=(l.filter (inI x.inn x.els)).map fun y=>y.s.id:=rfl
 rw [hsd]
 conv=>whnf
 refine LoopK.inv QQ (fun q:Nat×List Int=>⟨[(3,.p (.ip x.cells)),(5,.hd 0 0 q.2.length),(8,.p (KT l)),(9,.p (.int .i64 (l.map fun i=>AV.agg i.cells).length)),(10,.p (.int .i64 q.1))],[(0,.own 3 1 (q.2.map (.int .i64)))]⟩) (fun q=>q.1≤l.length∧q.2=((l.take q.1).filter (inI x.inn x.els)).map (fun y=>y.s.id)∧q.2.length≤q.1) (fun q=>l.length-q.1) (0,[])
  (Le.mk [(0,.own 3 1 [])] (by simp [Chunk.new0];rfl) (by simp) (by simp) (.cons (.refl _) (.cons (.nil List.mem_cons_self) (.cons (.refl _) (.cons (.refl _) (.cons (.refl _) .nil))))) (.new List.mem_cons_self .nil)) ⟨Nat.zero_le _,by simp,by simp⟩ ?_
 rintro ⟨j,acc⟩ ⟨h2,h3,h4⟩
 simp only at h2 h3 h4 ⊢
 rcases Nat.lt_or_ge j l.length with hj|hj
 ·have h6:=List.take_succ_eq_append_getElem hj
  have hin:inI x.inn x.els l[j]=(decide (l[j].inn=x.inn)&&(l[j].els==x.els)):=rfl
  conv=>whnf
  repeat' (first|((first|intro (_:_≤9223372036854775807)|refine DrawK.auto QQ mixed (by kernel_rfl) ?_|refine And.intro rfl ?_|(refine And.intro ⟨by decide,by decide⟩ ?_)|(refine And.intro ⟨rfl,rfl,by decide⟩ ?_)|refine BsK.pure (fun x hx=>by rcases List.mem_singleton.1 hx with rfl;rfl) rfl ?_|refine IdxK.map (by omega) (fun _=>rfl) ?_|refine IdxK.xs (by omega) ?_|refine IdxK.ss (by omega) ?_|(refine ByteK.at (by omega) ?_)|refine Wr.i64 (by omega) (by omega) ?_|refine AppK.int1 (by simp) (by simp;omega) ?_|refine ValO.boolEql QQ rfl rfl rfl rfl rfl ?_);conv=>whnf)|(refine Br.dec (fun _=>?_) (fun _=>?_)<;>first|(exfalso;omega)|conv=>whnf)|(refine Br.dec2 (fun _=>?_) (fun _=>?_)<;>first|(exfalso;omega)|conv=>whnf)|(refine Br.n (fun _=>?_) (fun _=>?_)<;>conv=>whnf)|(refine Br.b (fun _=>?_) (fun _=>?_)<;>conv=>whnf))
  all_goals first
   | exact ⟨(j+1,acc++[l[j].s.id]),⟨by simp only;omega,by simp only;rw [h6,List.filter_append,List.map_append,← h3,List.filter_cons_of_pos (by rw [hin];simp_all)];rfl,by simp;omega⟩,by simp only;omega,Le.of_eq (by simp only [List.length_append,List.map_append];rfl)⟩
   | exact ⟨(j+1,acc),⟨by simp only;omega,by simp only;rw [h6,List.filter_append,List.map_append,← h3,List.filter_cons_of_neg (by rw [hin];simp_all)];simp,by simp only;omega⟩,by simp only;omega,Le.of_eq rfl⟩
   | trace_state
 ·rw [List.take_of_length_le hj] at h3
  subst h3
  conv=>whnf
  repeat' (first|((first|intro (_:_≤9223372036854775807)|refine DrawK.auto QQ mixed (by kernel_rfl) ?_|refine And.intro rfl ?_|(refine And.intro ⟨by decide,by decide⟩ ?_)|(refine And.intro ⟨rfl,rfl,by decide⟩ ?_)|refine BsK.pure (fun x hx=>by rcases List.mem_singleton.1 hx with rfl;rfl) rfl ?_|refine IdxK.map (by omega) (fun _=>rfl) ?_|refine IdxK.xs (by omega) ?_|refine IdxK.ss (by omega) ?_|(refine ByteK.at (by omega) ?_)|refine Wr.i64 (by omega) (by omega) ?_);conv=>whnf)|(refine Br.dec (fun _=>?_) (fun _=>?_)<;>first|(exfalso;omega)|conv=>whnf)|(refine Br.dec2 (fun _=>?_) (fun _=>?_)<;>first|(exfalso;omega)|conv=>whnf)|(refine Br.n (fun _=>?_) (fun _=>?_)<;>conv=>whnf)|(refine Br.b (fun _=>?_) (fun _=>?_)<;>conv=>whnf))
  exact ⟨_,.hd rfl (by simp),rfl⟩
theorem ZJ (l:List RI) (id:Int) (e:Bool) (o:Int):SpecP Tryz.prog 145 [KT l,.int .i64 id,.bool e,.int .i64 o] (fun r=>r = .int .i64 (z7c l id e o)):=by
 refine SpecP.body FB QQ Tryz.func145 rfl Tryz.call145 (by show 4≤_;decide) ?_
 conv=>whnf
 intro (_:_≤9223372036854775807)
 have hLl:=WP l
 conv=>whnf
 refine LoopK.inv QQ (fun k:Nat=>⟨[(1,.p (.int .i64 id)),(2,.p (.bool e)),(3,.p (.int .i64 o)),(11,.p (KT l)),(12,.p (.int .i64 (l.map fun i=>AV.agg i.cells).length)),(13,.p (.int .i64 k))],[]⟩) (fun k=>k≤l.length∧(l.drop k).find? (inI id e)=l.find? (inI id e)) (fun k=>l.length-k) 0 (Le.of_eq rfl) ⟨Nat.zero_le _,rfl⟩ ?_
 rintro k ⟨h4,h5⟩
 rcases Nat.lt_or_ge k l.length with hk|hk
 rotate_left 1
 ·rw [List.drop_eq_nil_of_le hk,List.find?_nil] at h5
  conv=>whnf
  repeat' (first|((first|intro (_:_≤9223372036854775807)|refine DrawK.auto QQ mixed (by kernel_rfl) ?_|refine And.intro rfl ?_|(refine And.intro ⟨by decide,by decide⟩ ?_)|(refine And.intro ⟨rfl,rfl,by decide⟩ ?_)|refine BsK.pure (fun x hx=>by rcases List.mem_singleton.1 hx with rfl;rfl) rfl ?_|refine IdxK.map (by omega) (fun _=>rfl) ?_|refine IdxK.xs (by omega) ?_|refine IdxK.ss (by omega) ?_|(refine ByteK.at (by omega) ?_)|refine Wr.i64 (by omega) (by omega) ?_);conv=>whnf)|(refine Br.dec (fun _=>?_) (fun _=>?_)<;>first|(exfalso;omega)|conv=>whnf)|(refine Br.dec2 (fun _=>?_) (fun _=>?_)<;>first|(exfalso;omega)|conv=>whnf)|(refine Br.n (fun _=>?_) (fun _=>?_)<;>conv=>whnf)|(refine Br.b (fun _=>?_) (fun _=>?_)<;>conv=>whnf))
  exact RetK.int (by unfold z7c;rw [← h5];rfl)
 rw [q4x hk] at h5
 have hin:inI id e l[k]=(decide (l[k].inn=id)&&(l[k].els==e)):=rfl
 rw [hin] at h5
 conv=>whnf
 repeat' (first|((first|intro (_:_≤9223372036854775807)|refine DrawK.auto QQ mixed (by kernel_rfl) ?_|refine And.intro rfl ?_|(refine And.intro ⟨by decide,by decide⟩ ?_)|(refine And.intro ⟨rfl,rfl,by decide⟩ ?_)|refine BsK.pure (fun x hx=>by rcases List.mem_singleton.1 hx with rfl;rfl) rfl ?_|refine IdxK.map (by omega) (fun _=>rfl) ?_|refine IdxK.xs (by omega) ?_|refine IdxK.ss (by omega) ?_|(refine ByteK.at (by omega) ?_)|refine Wr.i64 (by omega) (by omega) ?_|refine ValO.boolEql QQ rfl rfl rfl rfl rfl ?_);conv=>whnf)|(refine Br.dec (fun _=>?_) (fun _=>?_)<;>first|(exfalso;omega)|conv=>whnf)|(refine Br.dec2 (fun _=>?_) (fun _=>?_)<;>first|(exfalso;omega)|conv=>whnf)|(refine Br.n (fun _=>?_) (fun _=>?_)<;>conv=>whnf)|(refine Br.b (fun _=>?_) (fun _=>?_)<;>conv=>whnf))
 all_goals first
  | (rw [if_pos (by simp_all)] at h5
     exact RetK.int (by unfold z7c;rw [← h5];rfl))
  | (rw [if_neg (by simp_all)] at h5
     exact ⟨k+1,⟨hk,h5⟩,by omega,Le.of_eq rfl⟩)
  | trace_state
theorem x4r {r:List Int} {i:Nat} {id:Int} (h:i+1<r.length):nextIn (r.drop i) id=if r[i]=id then some r[i+1] else nextIn (r.drop (i+1)) id:=by
 rw [List.drop_eq_getElem_cons (show i<r.length by omega),List.drop_eq_getElem_cons h]
 rfl
theorem x8g {r:List Int} {i:Nat} {id:Int} (h:r.length≤i+1):nextIn (r.drop i) id=none:=by
 rcases Nat.lt_or_ge i r.length with hi|hi
 ·rw [List.drop_eq_getElem_cons hi,List.drop_eq_nil_of_le h]
  rfl
 ·rw [List.drop_eq_nil_of_le hi]
  rfl
theorem XW (l:List RI) (hl:l.length≤1000000) (id v:Int) (hv:nextIn (stdR l (itemR l id)) id=some v∨(nextIn (stdR l (itemR l id)) id=none∧(((itemR l id).inn=0∧v = -1)∨((itemR l id).inn≠0∧(itemR l (itemR l id).inn).s.kind=6∧v=(itemR l id).inn)∨((itemR l id).inn≠0∧(itemR l (itemR l id).inn).s.kind≠6∧SpecP Tryz.prog 87 [KT l,.int .i64 (itemR l id).inn] (fun r=>r = .int .i64 v))))):SpecP Tryz.prog 87 [KT l,.int .i64 id] (fun r=>r = .int .i64 v):=by
 refine SpecP.body HY QQ Tryz.func87 rfl Tryz.call87 (by show 2≤_;decide) ?_
 conv=>whnf
 have hI:=JX l id
 have hI2:=JX l (itemR l id).inn
 have hR:=q0e l (itemR l id) hl
 have hrl:(stdR l (itemR l id)).length≤l.length:=by
  unfold stdR
  rw [List.length_map]
  exact List.length_filter_le _ _
 generalize itemR l (itemR l id).inn=y at *
 generalize itemR l id=x at *
 generalize stdR l x=R at *
 have hRl:(R.map (AV.int .i64)).length=R.length:=List.length_map _
 repeat' (first|((first|intro (_:_≤9223372036854775807)|refine DrawK.auto QQ mixed (by kernel_rfl) ?_|refine And.intro rfl ?_|(refine And.intro ⟨by decide,by decide⟩ ?_)|(refine And.intro ⟨rfl,rfl,by decide⟩ ?_)|refine BsK.pure (fun x hx=>by rcases List.mem_singleton.1 hx with rfl;rfl) rfl ?_|refine IdxK.map (by omega) (fun _=>rfl) ?_|refine IdxK.xs (by omega) ?_|refine IdxK.ss (by omega) ?_|(refine ByteK.at (by omega) ?_)|refine Wr.i64 (by omega) (by omega) ?_|(refine CallK.pure hI (.cons (Sub.refl _) (.cons (Sub.refl _) .nil)) ?_;rintro _ rfl)|(refine CallK.pure hR (.cons (Sub.refl _) (.cons (Sub.refl _) .nil)) ?_;rintro _ rfl));conv=>whnf)|(refine Br.dec (fun _=>?_) (fun _=>?_)<;>first|(exfalso;omega)|conv=>whnf)|(refine Br.dec2 (fun _=>?_) (fun _=>?_)<;>first|(exfalso;omega)|conv=>whnf)|(refine Br.n (fun _=>?_) (fun _=>?_)<;>conv=>whnf)|(refine Br.b (fun _=>?_) (fun _=>?_)<;>conv=>whnf))
 refine LoopK.inv QQ (fun i:Nat=>⟨[(0,.p (KT l)),(1,.p (.int .i64 id)),(5,.p (.ip x.cells)),(6,.p (ZQ R)),(7,.p (.int .i64 i))],[]⟩) (fun i=>i≤R.length∧nextIn (R.drop i) id=nextIn R id) (fun i=>R.length-i) 0 (Le.of_eq rfl) ⟨Nat.zero_le _,rfl⟩ ?_
 rintro i ⟨h2,h3⟩
 rcases Nat.lt_or_ge (i+1) R.length with hi|hi
 ·have g1:(R.map (AV.int .i64))[i]? = some (.int .i64 R[i]):=by rw [List.getElem?_map,List.getElem?_eq_getElem (by omega)];rfl
  have g2:(R.map (AV.int .i64))[i+1]? = some (.int .i64 R[i+1]):=by rw [List.getElem?_map,List.getElem?_eq_getElem hi];rfl
  have hst:=x4r (id:=id) hi
  conv=>whnf
  repeat' (first|((first|intro (_:_≤9223372036854775807)|refine DrawK.auto QQ mixed (by kernel_rfl) ?_|refine And.intro rfl ?_|(refine And.intro ⟨by decide,by decide⟩ ?_)|(refine And.intro ⟨rfl,rfl,by decide⟩ ?_)|refine BsK.pure (fun x hx=>by rcases List.mem_singleton.1 hx with rfl;rfl) rfl ?_|refine IdxK.map (by omega) (fun _=>rfl) ?_|refine IdxK.xs (by omega) ?_|refine IdxK.ss (by omega) ?_|(refine ByteK.at (by omega) ?_)|refine Wr.eq (m:=((i+1:Nat):Int)) (by omega) (by omega) (by omega) ?_|(refine IdxK.at (k:=i) rfl g1 rfl ?_)|(refine IdxK.at (k:=i+1) rfl g2 rfl ?_));conv=>whnf)|(refine Br.dec (fun _=>?_) (fun _=>?_)<;>first|(exfalso;omega)|conv=>whnf)|(refine Br.dec2 (fun _=>?_) (fun _=>?_)<;>first|(exfalso;omega)|conv=>whnf)|(refine Br.n (fun _=>?_) (fun _=>?_)<;>conv=>whnf)|(refine Br.b (fun _=>?_) (fun _=>?_)<;>conv=>whnf))
  all_goals first
   | (rw [if_pos (by assumption)] at hst
      rw [hst] at h3
      rcases hv with hv|hv
      ·rw [hv] at h3
       exact RetK.int (Option.some.inj h3)
      ·rw [hv.1] at h3
       cases h3)
   | (rw [if_neg (by assumption)] at hst
      exact ⟨i+1,⟨by omega,by rw [← hst];exact h3⟩,by omega,Le.of_eq rfl⟩)
   | trace_state
 ·rw [x8g hi] at h3
  rw [← h3] at hv
  rcases hv with hv|⟨_,⟨h4,rfl⟩|⟨h4,h5,rfl⟩|⟨h4,h5,h6⟩⟩
  ·cases hv
  all_goals
   conv=>whnf
   repeat' (first|((first|intro (_:_≤9223372036854775807)|refine DrawK.auto QQ mixed (by kernel_rfl) ?_|refine And.intro rfl ?_|(refine And.intro ⟨by decide,by decide⟩ ?_)|(refine And.intro ⟨rfl,rfl,by decide⟩ ?_)|refine BsK.pure (fun x hx=>by rcases List.mem_singleton.1 hx with rfl;rfl) rfl ?_|refine IdxK.map (by omega) (fun _=>rfl) ?_|refine IdxK.xs (by omega) ?_|refine IdxK.ss (by omega) ?_|(refine ByteK.at (by omega) ?_)|refine Wr.eq (m:=((i+1:Nat):Int)) (by omega) (by omega) (by omega) ?_|(refine CallK.pure hI2 (.cons (Sub.refl _) (.cons (Sub.refl _) .nil)) ?_;rintro _ rfl)|(refine CallK.pure h6 (.cons (Sub.refl _) (.cons (Sub.refl _) .nil)) ?_;rintro _ rfl));conv=>whnf)|(refine Br.dec (fun _=>?_) (fun _=>?_)<;>first|(exfalso;omega)|conv=>whnf)|(refine Br.dec2 (fun _=>?_) (fun _=>?_)<;>first|(exfalso;omega)|conv=>whnf)|(refine Br.n (fun _=>?_) (fun _=>?_)<;>conv=>whnf)|(refine Br.b (fun _=>?_) (fun _=>?_)<;>conv=>whnf))
   all_goals first
    | (exfalso;omega)
    | exact RetK.int rfl
    | trace_state
theorem FQ {l:List RI} (hl:l.length≤1000000) {id v:Int} (h:BehP l id v):SpecP Tryz.prog 87 [KT l,.int .i64 id] (fun r=>r = .int .i64 v):=by
 induction h with
 | next h=>exact XW l hl _ _ (.inl h)
 | exit h h0=>exact XW l hl _ _ (.inr ⟨h,.inl ⟨h0,rfl⟩⟩)
 | loop h h0 hk=>exact XW l hl _ _ (.inr ⟨h,.inr (.inl ⟨h0,hk,rfl⟩)⟩)
 | up h h0 hk _ ih=>exact XW l hl _ _ (.inr ⟨h,.inr (.inr ⟨h0,hk,ih⟩)⟩)
open Go.Proofs
def slB (a b:Step):Bool:=if a.src≠b.src then z4b a.src b.src else if a.dst≠b.dst then z4b a.dst b.dst else decide (a.kind<b.kind)
def slP (a b:Step):Prop:=slB a b=true
def ltP (a b:Step):Prop:=ordP a.src b.src∨(a.src=b.src∧ordP a.dst b.dst)
theorem q0v {a b:Step}:slP a b↔ordP a.src b.src∨(a.src=b.src∧(ordP a.dst b.dst∨(a.dst=b.dst∧a.kind<b.kind))):=by
 unfold slP slB
 by_cases h1:a.src=b.src
 ·rw [if_neg (fun h=>h h1)]
  have i1 : ¬ordP a.src b.src:=fun h=>ordP.irr b.src (h1▸h)
  by_cases h2:a.dst=b.dst
  ·rw [if_neg (fun h=>h h2)]
   have i2 : ¬ordP a.dst b.dst:=fun h=>ordP.irr b.dst (h2▸h)
   rw [decide_eq_true_eq]
   exact ⟨fun h => .inr ⟨h1,.inr ⟨h2,h⟩⟩,fun h=>(h.resolve_left i1).2.elim (fun h3=>absurd h3 i2) fun h3=>h3.2⟩
  ·rw [if_pos h2]
   exact ⟨fun h => .inr ⟨h1,.inl h⟩,fun h=>(h.resolve_left i1).2.elim id fun h3=>absurd h3.1 h2⟩
 ·rw [if_pos h1]
  exact ⟨fun h => .inl h,fun h=>h.elim id fun h3=>absurd h3.1 h1⟩
theorem slP.irr (a:Step) : ¬slP a a:=fun h=>by
 rw [q0v] at h
 rcases h with h|⟨_,h|⟨_,h⟩⟩
 ·exact ordP.irr _ h
 ·exact ordP.irr _ h
 ·omega
theorem slP.trans (a b c:Step) (h1:slP a b) (h2:slP b c):slP a c:=by
 rw [q0v] at *
 rcases h1 with h1|⟨e1,h1⟩
 ·rcases h2 with h2|⟨e2,_⟩
  ·exact .inl (ordP.trans _ _ _ h1 h2)
  ·exact .inl (e2▸h1)
 ·rcases h2 with h2|⟨e2,h2⟩
  ·exact .inl (e1▸h2)
  ·refine .inr ⟨e1.trans e2,?_⟩
   rcases h1 with h1|⟨e3,h1⟩
   ·rcases h2 with h2|⟨e4,_⟩
    ·exact .inl (ordP.trans _ _ _ h1 h2)
    ·exact .inl (e4▸h1)
   ·rcases h2 with h2|⟨e4,h2⟩
    ·exact .inl (e3▸h2)
    ·exact .inr ⟨e3.trans e4,by omega⟩
theorem slP.total (a b:Step) (h:a≠b):slP a b∨slP b a:=by
 rw [q0v,q0v]
 by_cases h1:a.src=b.src
 ·by_cases h2:a.dst=b.dst
  ·have h3:a.kind≠b.kind:=fun h3=>h (Step.eq_of h1 h2 h3)
   rcases Int.lt_or_gt_of_ne h3 with h4|h4
   ·exact .inl (.inr ⟨h1,.inr ⟨h2,h4⟩⟩)
   ·exact .inr (.inr ⟨h1.symm,.inr ⟨h2.symm,h4⟩⟩)
  ·rcases ordP.total _ _ h2 with h3|h3
   ·exact .inl (.inr ⟨h1,.inl h3⟩)
   ·exact .inr (.inr ⟨h1.symm,.inl h3⟩)
 ·rcases ordP.total _ _ h1 with h3|h3
  ·exact .inl (.inl h3)
  ·exact .inr (.inl h3)
theorem slP.lt {a b:Step} (h:slP a b) (hn : ¬(a.src=b.src∧a.dst=b.dst)):ltP a b:=by
 rw [q0v] at h
 rcases h with h|⟨e,h|⟨e2,_⟩⟩
 ·exact .inl h
 ·exact .inr ⟨e,h⟩
 ·exact absurd ⟨e,e2⟩ hn
theorem ltP.sl {a b c:Step} (h:ltP a b) (h2:slP b c):ltP a c:=by
 rw [q0v] at h2
 rcases h with h|⟨e,h⟩
 ·rcases h2 with h2|⟨e2,_⟩
  ·exact .inl (ordP.trans _ _ _ h h2)
  ·exact .inl (e2▸h)
 ·rcases h2 with h2|⟨e2,h2|⟨e3,_⟩⟩
  ·exact .inl (e▸h2)
  ·exact .inr ⟨e.trans e2,ordP.trans _ _ _ h h2⟩
  ·exact .inr ⟨e.trans e2,e3▸h⟩
structure InvO (P out:List Step):Prop where
 lt:out.Pairwise ltP
 sub : ∀ o∈out,o∈P
 all : ∀ s∈P,∃ o∈out,o.src=s.src∧o.dst=s.dst
 last:out.getLast? = P.getLast?
theorem InvO.nil:InvO [] []:=⟨.nil,fun _ h=>h,fun _ h=>(by cases h),rfl⟩
theorem InvO.same {P o:List Step} {z m:Step} (h:InvO P (o++[z])) (hm : ∀ p∈P,slP p m) (h1:z.src=m.src) (h2:z.dst=m.dst):InvO (P++[m]) (o++[m]):=by
 have hl:=h.lt
 rw [List.pairwise_append] at hl
 refine ⟨?_,fun x hx => ?_,fun s hs => ?_,by simp⟩
 ·rw [List.pairwise_append]
  refine ⟨hl.1,List.pairwise_singleton _ _,fun a ha b hb => ?_⟩
  rw [List.mem_singleton.1 hb]
  have h3:=hl.2.2 a ha z (List.mem_singleton.2 rfl)
  unfold ltP at h3 ⊢
  rw [← h1,← h2]
  exact h3
 ·rcases List.mem_append.1 hx with hx|hx
  ·exact List.mem_append.2 (.inl (h.sub x (List.mem_append.2 (.inl hx))))
  ·exact List.mem_append.2 (.inr hx)
 ·rcases List.mem_append.1 hs with hs|hs
  ·obtain ⟨x,hx,e1,e2⟩:=h.all s hs
   rcases List.mem_append.1 hx with hx|hx
   ·exact ⟨x,List.mem_append.2 (.inl hx),e1,e2⟩
   ·rw [List.mem_singleton.1 hx] at e1 e2
    exact ⟨m,List.mem_append.2 (.inr (List.mem_singleton.2 rfl)),h1▸e1,h2▸e2⟩
  ·rw [List.mem_singleton.1 hs]
   exact ⟨m,List.mem_append.2 (.inr (List.mem_singleton.2 rfl)),rfl,rfl⟩
theorem InvO.new {P out:List Step} {m:Step} (h:InvO P out) (hm : ∀ p∈P,slP p m) (hn : ∀ o z,out=o++[z] → ¬(z.src=m.src∧z.dst=m.dst)):InvO (P++[m]) (out++[m]):=by
 refine ⟨?_,fun x hx => ?_,fun s hs => ?_,by simp⟩
 ·rw [List.pairwise_append]
  refine ⟨h.lt,List.pairwise_singleton _ _,fun a ha b hb => ?_⟩
  rw [List.mem_singleton.1 hb]
  rcases List.eq_nil_or_concat out with rfl|⟨o,z,rfl⟩
  ·cases ha
  ·rw [List.concat_eq_append] at *
   have hz:ltP z m:=(hm z (h.sub z (List.mem_append.2 (.inr (List.mem_singleton.2 rfl))))).lt (hn o z rfl)
   rcases List.mem_append.1 ha with ha|ha
   ·have hl:=h.lt
    rw [List.pairwise_append] at hl
    exact (hl.2.2 a ha z (List.mem_singleton.2 rfl)).sl (hm z (h.sub z (List.mem_append.2 (.inr (List.mem_singleton.2 rfl)))))
   ·rw [List.mem_singleton.1 ha]
    exact hz
 ·rcases List.mem_append.1 hx with hx|hx
  ·exact List.mem_append.2 (.inl (h.sub x hx))
  ·exact List.mem_append.2 (.inr hx)
 ·rcases List.mem_append.1 hs with hs|hs
  ·obtain ⟨x,hx,e⟩:=h.all s hs
   exact ⟨x,List.mem_append.2 (.inl hx),e⟩
  ·rw [List.mem_singleton.1 hs]
   exact ⟨m,List.mem_append.2 (.inr (List.mem_singleton.2 rfl)),rfl,rfl⟩
theorem InvO.none {P:List Step} (h:InvO P []):P=[]:=by
 have:=h.last
 rw [List.getLast?_nil] at this
 exact List.getLast?_eq_none_iff.1 this.symm
theorem InvO.left {l P o:List Step} {z:Step} {i:Nat} (h:InvO P (o++[z])) (hR:RiseI slP l P i) {s:Step} (hs:s∈l):s∉P↔slP z s:=by
 have hl:=h.last
 rw [List.getLast?_append] at hl
 simp only [List.getLast?_singleton,Option.some_or] at hl
 obtain ⟨Q,rfl⟩:=List.getLast?_eq_some_iff.1 hl.symm
 constructor
 ·exact fun hn=>hR.seg s hs hn z (List.mem_append.2 (.inr (List.mem_singleton.2 rfl)))
 ·intro hz hm
  have hr:=hR.rise
  rw [List.pairwise_append] at hr
  rcases List.mem_append.1 hm with hm|hm
  ·exact slP.irr _ (slP.trans _ _ _ hz (hr.2.2 s hm z (List.mem_singleton.2 rfl)))
  ·rw [List.mem_singleton.1 hm] at hz
   exact slP.irr _ hz
def q8v (a b:Int):List Step→Int→Int
 | [],k=>k
 | s::r,k=>q8v a b r (if s.src=a∧s.dst=b∧s.kind<k then s.kind else k)
def x6e (l:List Step) (o:Step):Step:=⟨o.src,o.dst,q8v o.src o.dst l o.kind⟩
theorem q4i (a b:Int) : ∀ (l:List Step) (k:Int),(q8v a b l k=k ∨ ∃ s∈l,s.src=a∧s.dst=b∧s.kind=q8v a b l k)∧q8v a b l k≤k ∧ ∀ s∈l,s.src=a→s.dst=b→q8v a b l k≤s.kind
 | [],k=>⟨.inl rfl,Int.le_refl _,fun _ h=>(by cases h)⟩
 | s::r,k=>by
   obtain ⟨h1,h2,h3⟩:=q4i a b r (if s.src=a∧s.dst=b∧s.kind<k then s.kind else k)
   rw [q8v]
   split at h1
   ·rename_i hc
    rw [if_pos hc] at h2 h3 ⊢
    refine ⟨?_,by omega,fun t ht e1 e2 => ?_⟩
    ·rcases h1 with h1|⟨t,ht,h4⟩
     ·exact .inr ⟨s,List.mem_cons_self,hc.1,hc.2.1,h1.symm⟩
     ·exact .inr ⟨t,List.mem_cons_of_mem _ ht,h4⟩
    ·rcases List.mem_cons.1 ht with rfl|ht
     ·exact h2
     ·exact h3 t ht e1 e2
   ·rename_i hc
    rw [if_neg hc] at h2 h3 ⊢
    refine ⟨?_,h2,fun t ht e1 e2 => ?_⟩
    ·rcases h1 with h1|⟨t,ht,h4⟩
     ·exact .inl h1
     ·exact .inr ⟨t,List.mem_cons_of_mem _ ht,h4⟩
    ·rcases List.mem_cons.1 ht with rfl|ht
     ·have : ¬t.kind<k:=fun h=>hc ⟨e1,e2,h⟩
      omega
     ·exact h3 t ht e1 e2
theorem x1l {a b:Int} : ∀ {l:List Step} {k:Int} {j:Nat} (hj:j<l.length),q8v a b (l.take (j+1)) k=(if l[j].src=a∧l[j].dst=b∧l[j].kind<q8v a b (l.take j) k then l[j].kind else q8v a b (l.take j) k)
 | [],_,_,hj=>by simp at hj
 | s::r,k,0,_=>rfl
 | s::r,k,j+1,hj=>by
   rw [List.take_succ_cons,List.take_succ_cons,q8v,q8v]
   exact x1l (l:=r) (by simpa using hj)
theorem x7y {a b:Int} (ha:a≤9223372036854775806) (hb:b≤9223372036854775806):ordP a b↔XM a<XM b:=by
 rw [DW]
 unfold XM
 split<;>split<;>omega
theorem z5k {a b:Step} (ha:a.src≤9223372036854775806∧a.dst≤9223372036854775806) (hb:b.src≤9223372036854775806∧b.dst≤9223372036854775806) (h:ltP a b):MY a b:=by
 unfold ltP at h
 rw [x7y ha.1 hb.1,x7y ha.2 hb.2] at h
 unfold MY
 rcases h with h|⟨e,h⟩
 ·exact .inl h
 ·exact .inr ⟨by rw [e],h⟩
def leSt (s:Step):Prop:=s.src≤9223372036854775806∧s.dst≤9223372036854775806
theorem leSt.ok {s:Step} (h:leSt s):q5k s:=by
 unfold leSt at h
 unfold q5k
 omega
theorem x8x {l P out:List Step} {i:Nat} (hle : ∀ s∈l,leSt s) (hR:RiseI slP l P i) (hall : ∀ s∈l,s∈P) (h:InvO P out):out.map (x6e l)=ZD l:=by
 refine (z4y (fun s hs=>(hle s hs).ok) ?_ ?_ ?_).symm
 ·rw [List.pairwise_map]
  refine h.lt.imp_of_mem fun {a b} ha hb hab => ?_
  have h1:=hle a (hR.sub a (h.sub a ha))
  have h2:=hle b (hR.sub b (h.sub b hb))
  exact z5k h1 h2 hab
 ·intro s hs
  obtain ⟨o,ho,rfl⟩:=List.mem_map.1 hs
  have hol:=hR.sub o (h.sub o ho)
  rcases (q4i o.src o.dst l o.kind).1 with h1|⟨t,ht,e1,e2,e3⟩
  ·have:x6e l o=o:=by unfold x6e;rw [h1]
   rw [this]
   exact hol
  ·have:x6e l o=t:=Step.eq_of e1.symm e2.symm e3.symm
   rw [this]
   exact ht
 ·intro s hs
  obtain ⟨o,ho,e1,e2⟩:=h.all s (hall s hs)
  exact ⟨x6e l o,List.mem_map.2 ⟨o,ho,rfl⟩,e1,e2,(q4i o.src o.dst l o.kind).2.2 s hs e1.symm e2.symm⟩
def Chunk.short (m:Nat):Chunk→Chunk
 | .own e sz es => .own e sz (es.take m)
 | c=>c
def q1m (k m:Nat):Heap→Heap
 | []=>[]
 | (j,c)::r=>(j,bif j==k then c.short m else c)::q1m k m r
theorem q4h (k m:Nat) : ∀ H:Heap,(q1m k m H).map (·.1)=H.map (·.1)
 | []=>rfl
 | (j,c)::r=>by rw [q1m,List.map_cons,List.map_cons,q4h k m r]
theorem q6o {k m:Nat} : ∀ {H:Heap} {j:Nat} {c':Chunk},(j,c')∈q1m k m H → ∃ c,(j,c)∈H∧(c'=c∨c'=c.short m)
 | [],_,_,h=>by rw [q1m] at h;cases h
 | (j0,c0)::r,j,c',h=>by
   rw [q1m] at h
   rcases List.mem_cons.1 h with h|h
   ·cases h
    refine ⟨c0,List.mem_cons_self,?_⟩
    cases j0==k
    ·exact .inl rfl
    ·exact .inr rfl
   ·obtain ⟨c,h1,h2⟩:=q6o h
    exact ⟨c,List.mem_cons_of_mem _ h1,h2⟩
theorem Le.short {N:Nat} {sl:List (Nat×LV)} {H:Heap} (k m:Nat):Le N ⟨sl,H⟩ ⟨sl,q1m k m H⟩:=fun σ β a w hr=>by
 have hk:=q4h k m H
 refine ⟨σ,β,⟨hr.size,hr.defers,hr.slots,⟨hr.heap.mem,fun j c' hj => ?_,by show ((q1m k m H).map (·.1)).Nodup;rw [hk];exact hr.heap.nodup,fun j hj=>hr.heap.apart j (by rw [← hk];exact hj),fun j hj j' hj'=>hr.heap.inj j (by rw [← hk];exact hj) j' (by rw [← hk];exact hj')⟩⟩,Mem.le_refl σ,Frm.refl _ _,fun _ h h'=>absurd h h',fun b ⟨j,hj,i,hi,hb⟩ => .inl ⟨j,by rw [← hk];exact hj,i,hi,hb⟩,fun _ _ _=>rfl⟩
 obtain ⟨c,h1,h2⟩:=q6o hj
 have hc:=hr.heap.chunks j c h1
 rcases h2 with rfl|rfl
 ·exact hc
 ·cases c with
  | own e sz es =>
    show (Chunk.own e sz (es.take m)).holds σ β w j
    rcases hc with ⟨h3,h4⟩|⟨i,vs,h3,h4,h5,h6,h7,h8,h9⟩
    ·exact .inl ⟨h3,by rw [h4];simp⟩
    ·refine .inr ⟨i,vs,h3,h4,h5,h6,by rw [List.length_take];omega,h8,fun q x hx=>h9 q x ?_⟩
     rw [List.getElem?_take] at hx
     split at hx
     ·exact hx
     ·cases hx
  | obj e cs=>exact hc
  | ext d=>exact hc
open Go.Proofs
theorem XN (a b:Step):SpecP Tryz.prog 161 [.agg a.cells,.agg b.cells] (fun r=>r = .bool (slB a b)):=by
 refine SpecP.body KW QQ Tryz.func161 rfl Tryz.call161 (by show 2≤_;decide) ?_
 conv=>whnf
 repeat' (first|((first|intro (_:_≤9223372036854775807)|(refine CallK.pure (YN _ _) (by repeat' (first|exact ArgP.nil|refine ArgP.cons ?_ ?_|exact Sub.refl _|exact Sub.tt rfl|exact Sub.ff rfl)) ?_;rintro _ rfl)|refine DrawK.auto QQ mixed (by kernel_rfl) ?_|refine And.intro rfl ?_|(refine And.intro ⟨by decide,by decide⟩ ?_)|(refine And.intro ⟨rfl,rfl,by decide⟩ ?_)|refine BsK.pure (fun x hx=>by rcases List.mem_singleton.1 hx with rfl;rfl) rfl ?_|refine IdxK.map (by omega) (fun _=>rfl) ?_|refine IdxK.xs (by omega) ?_|refine IdxK.ss (by omega) ?_|(refine ByteK.at (by omega) ?_)|refine Wr.i64 (by omega) (by omega) ?_);conv=>whnf)|(refine Br.dec (fun _=>?_) (fun _=>?_)<;>first|(exfalso;omega)|conv=>whnf)|(refine Br.dec2 (fun _=>?_) (fun _=>?_)<;>first|(exfalso;omega)|conv=>whnf)|(refine Br.n (fun _=>?_) (fun _=>?_)<;>conv=>whnf)|(refine Br.b (fun _=>?_) (fun _=>?_)<;>conv=>whnf))
 all_goals exact RetK.bool (by unfold slB;simp [*])
theorem q8g (l:List Step):(l.map fun s=>AV.agg s.cells).length=l.length:=List.length_map _
theorem YZ (l out:List Step) (hl:l.length≤1000000) (ho:out.length≤1000000):SpecH Tryz.prog 162 [.p (QO l),.hd 2000 0 out.length] [(2000,.own 79 3 (out.map fun s => .agg s.cells))] (fun r H=>r = .hd 2000 0 out.length∧H=[(2000,.own 79 3 ((out.map (x6e l)).map fun s => .agg s.cells))]):=by
 refine SpecH.body FM QQ Tryz.func162 rfl Tryz.call162 (by show 2≤_;decide) ?_
 conv=>whnf
 have hll:=q8g l
 repeat' (first|((first|intro (_:_≤9223372036854775807)|refine DrawK.auto QQ mixed (by kernel_rfl) ?_|refine And.intro rfl ?_|(refine And.intro ⟨by decide,by decide⟩ ?_)|(refine And.intro ⟨rfl,rfl,by decide⟩ ?_)|refine BsK.pure (fun x hx=>by rcases List.mem_singleton.1 hx with rfl;rfl) rfl ?_|refine IdxK.map (by omega) (fun _=>rfl) ?_|refine IdxK.xs (by omega) ?_|refine IdxK.ss (by omega) ?_|(refine ByteK.at (by omega) ?_)|refine Wr.i64 (by omega) (by omega) ?_);conv=>whnf)|(refine Br.dec (fun _=>?_) (fun _=>?_)<;>first|(exfalso;omega)|conv=>whnf)|(refine Br.dec2 (fun _=>?_) (fun _=>?_)<;>first|(exfalso;omega)|conv=>whnf)|(refine Br.n (fun _=>?_) (fun _=>?_)<;>conv=>whnf)|(refine Br.b (fun _=>?_) (fun _=>?_)<;>conv=>whnf))
 refine LoopK.inv QQ (fun i:Nat=>⟨[(0,.p (QO l)),(1,.hd 2000 0 out.length),(9,.p (.int .i64 out.length)),(10,.p (.int .i64 i))],[(2000,.own 79 3 (((out.take i).map (x6e l)++out.drop i).map fun s => .agg s.cells))]⟩) (fun i=>i≤out.length) (fun i=>out.length-i) 0 (Le.of_eq rfl) (Nat.zero_le _) ?_
 intro i hi
 rcases Nat.lt_or_ge i out.length with hi2|hi2
 ·have hT:((out.take i).map (x6e l)).length=i:=by rw [List.length_map,List.length_take];omega
  have hD:out.drop i=out[i]::out.drop (i+1):=List.drop_eq_getElem_cons hi2
  have hT2:(out.take (i+1)).map (x6e l)=(out.take i).map (x6e l)++[x6e l out[i]]:=by rw [List.take_succ_eq_append_getElem hi2,List.map_append];rfl
  have hDl:i+(out.drop (i+1)).length+1=out.length:=by rw [List.length_drop];omega
  have hf0:x6e l out[i]=⟨out[i].src,out[i].dst,q8v out[i].src out[i].dst (l.take l.length) out[i].kind⟩:=by rw [List.take_length];rfl
  rw [hf0] at hT2
  rw [hD]
  generalize hDe:out.drop (i+1)=D at *
  generalize (out.take i).map (x6e l)=Tk at *
  generalize out[i]=o at *
  conv=>whnf
  repeat' (first|((first|intro (_:_≤9223372036854775807)|refine DrawK.auto QQ mixed (by kernel_rfl) ?_|refine And.intro rfl ?_|(refine And.intro ⟨by decide,by decide⟩ ?_)|(refine And.intro ⟨rfl,rfl,by decide⟩ ?_)|refine BsK.pure (fun x hx=>by rcases List.mem_singleton.1 hx with rfl;rfl) rfl ?_|refine IdxK.map (by omega) (fun _=>rfl) ?_|refine IdxK.xs (by omega) ?_|refine IdxK.ss (by omega) ?_|(refine ByteK.at (by omega) ?_)|refine Wr.i64 (by omega) (by omega) ?_);conv=>whnf)|(refine Br.dec (fun _=>?_) (fun _=>?_)<;>first|(exfalso;omega)|conv=>whnf)|(refine Br.dec2 (fun _=>?_) (fun _=>?_)<;>first|(exfalso;omega)|conv=>whnf)|(refine Br.n (fun _=>?_) (fun _=>?_)<;>conv=>whnf)|(refine Br.b (fun _=>?_) (fun _=>?_)<;>conv=>whnf))
  refine LoopK.inv QQ (fun j:Nat=>⟨[(0,.p (QO l)),(1,.hd 2000 0 out.length),(5,.p (.int .i64 i)),(9,.p (.int .i64 out.length)),(10,.p (.int .i64 i)),(13,.p (QO l)),(14,.p (.int .i64 (l.map fun s=>AV.agg s.cells).length)),(15,.p (.int .i64 j))],[(2000,.own 79 3 ((Tk++(⟨o.src,o.dst,q8v o.src o.dst (l.take j) o.kind⟩:Step)::D).map fun s => .agg s.cells))]⟩) (fun j=>j≤l.length) (fun j=>l.length-j) 0 (Le.of_eq rfl) (Nat.zero_le _) ?_
  intro j hj
  rcases Nat.lt_or_ge j l.length with hj2|hj2
  ·have hst:=x1l (a:=o.src) (b:=o.dst) (k:=o.kind) hj2
   have g:((Tk++(⟨o.src,o.dst,q8v o.src o.dst (l.take j) o.kind⟩:Step)::D).map fun s=>AV.agg s.cells)[i]? = some (.agg (⟨o.src,o.dst,q8v o.src o.dst (l.take j) o.kind⟩:Step).cells):=by
    rw [List.getElem?_map,List.getElem?_append_right (by omega),hT,Nat.sub_self]
    rfl
   have hset : ∀ k:Int,((Tk++(⟨o.src,o.dst,q8v o.src o.dst (l.take j) o.kind⟩:Step)::D).map fun s=>AV.agg s.cells).set i (.agg (⟨o.src,o.dst,k⟩:Step).cells)=(Tk++(⟨o.src,o.dst,k⟩:Step)::D).map fun s => .agg s.cells:=fun k=>by
    rw [List.map_append,List.map_append,List.map_cons,List.map_cons,List.set_append_right _ _ (by rw [List.length_map,hT];exact Nat.le_refl _),List.length_map,hT,Nat.sub_self]
    rfl
   have hlen:(Tk++(⟨o.src,o.dst,q8v o.src o.dst (l.take j) o.kind⟩:Step)::D).length=out.length:=by rw [List.length_append,List.length_cons,hT];omega
   have hset2:=hset l[j].kind
   generalize q8v o.src o.dst (l.take j) o.kind=fk at *
   generalize hrow:(Tk++(⟨o.src,o.dst,fk⟩:Step)::D).map (fun s=>AV.agg s.cells)=row at *
   conv=>whnf
   repeat' (first|((first|intro (_:_≤9223372036854775807)|refine DrawK.auto QQ mixed (by kernel_rfl) ?_|refine And.intro rfl ?_|(refine And.intro ⟨by decide,by decide⟩ ?_)|(refine And.intro ⟨rfl,rfl,by decide⟩ ?_)|refine BsK.pure (fun x hx=>by rcases List.mem_singleton.1 hx with rfl;rfl) rfl ?_|refine IdxK.map (by omega) (fun _=>rfl) ?_|refine IdxK.xs (by omega) ?_|refine IdxK.ss (by omega) ?_|(refine ByteK.at (by omega) ?_)|refine Wr.i64 (by omega) (by omega) ?_|refine IdxL.mk i rfl (by omega) ?_|refine LdOwn.mk i 0 _ (by show (0+i)*3+0=i*3+0;omega) g ?_|refine LdOwn.mk i 1 _ (by show (0+i)*3+1=i*3+1;omega) g ?_|refine LdOwn.mk i 2 _ (by show (0+i)*3+2=i*3+2;omega) g ?_);conv=>whnf)|(refine Br.dec (fun _=>?_) (fun _=>?_)<;>first|(exfalso;omega)|conv=>whnf)|(refine Br.dec2 (fun _=>?_) (fun _=>?_)<;>first|(exfalso;omega)|conv=>whnf)|(refine Br.n (fun _=>?_) (fun _=>?_)<;>conv=>whnf)|(refine Br.b (fun _=>?_) (fun _=>?_)<;>conv=>whnf))
   all_goals first
    | exact ⟨j+1,by omega,by omega,Le.of_eq (by rw [hst,if_neg (fun hh=>by first|exact absurd hh.1 (by assumption)|exact absurd hh.2.1 (by assumption)|exact absurd hh.2.2 (by assumption)),← hrow];rfl)⟩
    | (refine StOwn.mk i 2 _ (.agg [.int .i64 o.src,.int .i64 o.dst,.int .i64 l[j].kind]) ?_ g ?_ ?_ ?_
       ·show (0+i)*3+2=i*3+2
        omega
       ·show 2+1≤3
        decide
       ·rfl
       conv=>whnf
       refine Wr.i64 (by omega) (by omega) ?_
       conv=>whnf
       exact ⟨j+1,by omega,by omega,Le.of_eq (by rw [hst,if_pos ⟨by assumption,by assumption,by assumption⟩,← hset2];rfl)⟩)
    | (refine ⟨j+1,by omega,by omega,Le.of_eq ?_⟩;rw [hst,if_neg (fun hh=>by first|exact absurd hh.1 (by assumption)|exact absurd hh.2.1 (by assumption)|exact absurd hh.2.2 (by assumption)),← hrow];rfl)
  ·have hje:j=l.length:=by omega
   subst hje
   conv=>whnf
   repeat' (first|((first|intro (_:_≤9223372036854775807)|refine DrawK.auto QQ mixed (by kernel_rfl) ?_|refine And.intro rfl ?_|(refine And.intro ⟨by decide,by decide⟩ ?_)|(refine And.intro ⟨rfl,rfl,by decide⟩ ?_)|refine BsK.pure (fun x hx=>by rcases List.mem_singleton.1 hx with rfl;rfl) rfl ?_|refine IdxK.map (by omega) (fun _=>rfl) ?_|refine IdxK.xs (by omega) ?_|refine IdxK.ss (by omega) ?_|(refine ByteK.at (by omega) ?_)|refine Wr.i64 (by omega) (by omega) ?_);conv=>whnf)|(refine Br.dec (fun _=>?_) (fun _=>?_)<;>first|(exfalso;omega)|conv=>whnf)|(refine Br.dec2 (fun _=>?_) (fun _=>?_)<;>first|(exfalso;omega)|conv=>whnf)|(refine Br.n (fun _=>?_) (fun _=>?_)<;>conv=>whnf)|(refine Br.b (fun _=>?_) (fun _=>?_)<;>conv=>whnf))
   exact ⟨i+1,by omega,by omega,Le.of_eq (by rw [hT2,hDe,List.append_assoc];rfl)⟩
 ·rw [List.take_of_length_le hi2,List.drop_eq_nil_of_le hi2,List.append_nil]
  conv=>whnf
  repeat' (first|((first|intro (_:_≤9223372036854775807)|refine DrawK.auto QQ mixed (by kernel_rfl) ?_|refine And.intro rfl ?_|(refine And.intro ⟨by decide,by decide⟩ ?_)|(refine And.intro ⟨rfl,rfl,by decide⟩ ?_)|refine BsK.pure (fun x hx=>by rcases List.mem_singleton.1 hx with rfl;rfl) rfl ?_|refine IdxK.map (by omega) (fun _=>rfl) ?_|refine IdxK.xs (by omega) ?_|refine IdxK.ss (by omega) ?_|(refine ByteK.at (by omega) ?_)|refine Wr.i64 (by omega) (by omega) ?_);conv=>whnf)|(refine Br.dec (fun _=>?_) (fun _=>?_)<;>first|(exfalso;omega)|conv=>whnf)|(refine Br.dec2 (fun _=>?_) (fun _=>?_)<;>first|(exfalso;omega)|conv=>whnf)|(refine Br.n (fun _=>?_) (fun _=>?_)<;>conv=>whnf)|(refine Br.b (fun _=>?_) (fun _=>?_)<;>conv=>whnf))
  exact ⟨_,.refl _,rfl,rfl⟩
def st0:Step:=⟨0,0,0⟩
def z0x (l out:List Step) (i k:Nat) (m:Step) (y:AV):St:=⟨[(0,.p (QO l)),(3,.hd 0 0 out.length),(4,.ptr 1 0),(5,.p y),(10,.p (.int .i64 (l.map fun s=>AV.agg s.cells).length)),(11,.p (.int .i64 i)),(13,.p (QO l)),(14,.p (.int .i64 (l.map fun s=>AV.agg s.cells).length)),(15,.p (.int .i64 k))],[(0,.own 79 3 (out.map fun s => .agg s.cells)),(1,.obj 79 [.p (.int .i64 m.src),.p (.int .i64 m.dst),.p (.int .i64 m.kind)])]⟩
theorem NH (l:List Step) (hl:l.length≤1000000) (hle : ∀ s∈l,leSt s):SpecP Tryz.prog 103 [QO l] (fun r=>r=QO (ZD l)):=by
 refine SpecP.body FS QQ Tryz.func103 rfl Tryz.call103 (by show 1≤_;decide) ?_
 conv=>whnf
 intro (_:_≤9223372036854775807)
 have hll:=q8g l
 have fin : ∀ (i:Nat) (P out:List Step),RiseI slP l P i→(∀ s∈l,s∈P)→InvO P out→out.map (x6e l)=ZD l:=fun i P out h1 h2 h3=>x8x hle h1 h2 h3
 conv=>whnf
 refine LoopK.inv QQ (fun x:Nat×List Step×List Step=>⟨[(0,.p (QO l)),(3,.hd 0 0 x.2.2.length),(10,.p (.int .i64 (l.map fun s=>AV.agg s.cells).length)),(11,.p (.int .i64 x.1))],[(0,.own 79 3 (x.2.2.map fun s => .agg s.cells))]⟩) (fun x=>x.1≤l.length∧RiseI slP l x.2.1 x.1∧InvO x.2.1 x.2.2) (fun x=>l.length-x.1) (0,[],[])
  (Le.mk [(0,.own 79 3 [])] (by simp [Chunk.new0];rfl) (by simp) (by simp) (.cons (.refl _) (.cons (.nil List.mem_cons_self) (.cons (.refl _) (.cons (.refl _) .nil)))) (.new List.mem_cons_self .nil)) ⟨Nat.zero_le _,RiseI.zero,InvO.nil⟩ ?_
 rintro ⟨i,P,out⟩ ⟨h2,h3,h4⟩
 simp only at h2 h3 h4 ⊢
 have hPl:=h3.len slP.irr
 have hol:out.length≤P.length:=YG (h4.lt.imp fun {a b} h e=>by subst e;exact h.elim (ordP.irr _) fun h=>ordP.irr _ h.2) h4.sub
 have hoa:=q8g out
 rcases Nat.lt_or_ge i l.length with hi|hi
 rotate_left 1
 ·have hF:=fin i P out h3 (fun s hs=>(h3.all slP.irr (by omega)).2 s |>.2 hs) h4
  have hS:=YZ l out hl (by omega)
  rw [hF] at hS
  conv=>whnf
  repeat' (first|((first|intro (_:_≤9223372036854775807)|refine DrawK.auto QQ mixed (by kernel_rfl) ?_|refine And.intro rfl ?_|(refine And.intro ⟨by decide,by decide⟩ ?_)|(refine And.intro ⟨rfl,rfl,by decide⟩ ?_)|refine BsK.pure (fun x hx=>by rcases List.mem_singleton.1 hx with rfl;rfl) rfl ?_|refine IdxK.map (by omega) (fun _=>rfl) ?_|refine IdxK.xs (by omega) ?_|refine IdxK.ss (by omega) ?_|(refine ByteK.at (by omega) ?_)|refine Wr.i64 (by omega) (by omega) ?_);conv=>whnf)|(refine Br.dec (fun _=>?_) (fun _=>?_)<;>first|(exfalso;omega)|conv=>whnf)|(refine Br.dec2 (fun _=>?_) (fun _=>?_)<;>first|(exfalso;omega)|conv=>whnf)|(refine Br.n (fun _=>?_) (fun _=>?_)<;>conv=>whnf)|(refine Br.b (fun _=>?_) (fun _=>?_)<;>conv=>whnf)|(refine CallK.heap [(2000,0)] 0 (by repeat' (first|exact ArgsH.nil|refine ArgsH.cons ?_ ?_|exact LSub.refl _|exact LSub.p Sub.nils|exact LSub.p (Sub.tt rfl)|exact LSub.p (Sub.ff rfl)|exact LSub.p (Sub.int (by omega)))) (by refine BlksH.cons (j:=0) rfl rfl ?_ ?_;exact CSub.refl _;exact BlksH.nil) hS rfl rfl ?_;rintro l' H' ⟨rfl,rfl⟩;conv=>whnf))
  exact ⟨_,.hd rfl (by rw [← hF];simp),rfl⟩
 conv=>whnf
 repeat' (first|((first|intro (_:_≤9223372036854775807)|refine DrawK.auto QQ mixed (by kernel_rfl) ?_|refine And.intro rfl ?_|(refine And.intro ⟨by decide,by decide⟩ ?_)|(refine And.intro ⟨rfl,rfl,by decide⟩ ?_)|refine BsK.pure (fun x hx=>by rcases List.mem_singleton.1 hx with rfl;rfl) rfl ?_|refine IdxK.map (by omega) (fun _=>rfl) ?_|refine IdxK.xs (by omega) ?_|refine IdxK.ss (by omega) ?_|(refine ByteK.at (by omega) ?_)|refine Wr.i64 (by omega) (by omega) ?_);conv=>whnf)|(refine Br.dec (fun _=>?_) (fun _=>?_)<;>first|(exfalso;omega)|conv=>whnf)|(refine Br.dec2 (fun _=>?_) (fun _=>?_)<;>first|(exfalso;omega)|conv=>whnf)|(refine Br.n (fun _=>?_) (fun _=>?_)<;>conv=>whnf)|(refine Br.b (fun _=>?_) (fun _=>?_)<;>conv=>whnf))
 refine LoopK.inv QQ (fun x:Nat×Option Step=>z0x l out i x.1 (x.2.getD st0) (.bool x.2.isSome)) (fun x=>x.1≤l.length∧LeastI slP l P x.1 x.2) (fun x=>l.length-x.1) (0,none) (Le.mk [] (by simp) (by simp) (by simp [z0x]) (.cons (.refl _) (.cons (.refl _) (.cons (.refl _) (.cons (.p (Sub.ff rfl)) (.cons (.refl _) (.cons (.refl _) (.cons (.refl _) (.cons (.refl _) (.cons (.refl _) .nil))))))))) (.cons rfl (.refl _) (.cons rfl (.refl _) .nil))) ⟨Nat.zero_le _,LeastI.zero⟩ ?_
 rintro ⟨k,o⟩ ⟨h5,h6⟩
 simp only at h5 h6 ⊢
 rcases Nat.lt_or_ge k l.length with hk|hk
 ·rcases List.eq_nil_or_concat out with rfl|⟨o',z,rfl⟩
  ·have hP:=h4.none
   subst hP
   have hnot:True→l[k]∉([]:List Step):=fun _ h=>by cases h
   have hmem:False→l[k]∈([]:List Step):=fun h=>h.elim
   cases o with
   | none =>
     simp only [z0x,Option.getD_none,Option.isSome_none]
     conv=>whnf
     repeat' (first|((first|intro (_:_≤9223372036854775807)|refine DrawK.auto QQ mixed (by kernel_rfl) ?_|refine And.intro rfl ?_|(refine And.intro ⟨by decide,by decide⟩ ?_)|(refine And.intro ⟨rfl,rfl,by decide⟩ ?_)|refine BsK.pure (fun x hx=>by rcases List.mem_singleton.1 hx with rfl;rfl) rfl ?_|refine IdxK.map (by omega) (fun _=>rfl) ?_|refine IdxK.xs (by omega) ?_|refine IdxK.ss (by omega) ?_|(refine ByteK.at (by omega) ?_)|refine Wr.i64 (by omega) (by omega) ?_);conv=>whnf)|(refine Br.dec (fun _=>?_) (fun _=>?_)<;>first|(exfalso;omega)|conv=>whnf)|(refine Br.dec2 (fun _=>?_) (fun _=>?_)<;>first|(exfalso;omega)|conv=>whnf)|(refine Br.n (fun _=>?_) (fun _=>?_)<;>conv=>whnf)|(refine Br.b (fun _=>?_) (fun _=>?_)<;>conv=>whnf))
     all_goals first
      | (exfalso;simp_all;done)
      | exact ⟨(k+1,none),⟨by simp only;omega,h6.old hk (hmem (by assumption))⟩,by simp only;omega,Le.of_eq rfl⟩
      | exact ⟨(k+1,some l[k]),⟨by simp only;omega,h6.first hk (hnot trivial)⟩,by simp only;omega,(Le.mk [] (by simp) (by simp) (by simp [z0x]) (.cons (.refl _) (.cons (.refl _) (.cons (.refl _) (.cons (.p (Sub.tt rfl)) (.cons (.refl _) (.cons (.refl _) (.cons (.refl _) (.cons (.refl _) (.cons (.refl _) .nil))))))))) (.cons rfl (.refl _) (.cons rfl (.refl _) .nil)))⟩
      | trace_state
   | some m =>
     simp only [z0x,Option.getD_some,Option.isSome_some]
     have hS2:=XN l[k] m
     conv=>whnf
     repeat' (first|((first|intro (_:_≤9223372036854775807)|refine DrawK.auto QQ mixed (by kernel_rfl) ?_|refine And.intro rfl ?_|(refine And.intro ⟨by decide,by decide⟩ ?_)|(refine And.intro ⟨rfl,rfl,by decide⟩ ?_)|refine BsK.pure (fun x hx=>by rcases List.mem_singleton.1 hx with rfl;rfl) rfl ?_|refine IdxK.map (by omega) (fun _=>rfl) ?_|refine IdxK.xs (by omega) ?_|refine IdxK.ss (by omega) ?_|(refine ByteK.at (by omega) ?_)|refine Wr.i64 (by omega) (by omega) ?_|(refine CallK.pure hS2 (.cons (Sub.refl _) (.cons (Sub.refl _) .nil)) ?_;rintro _ rfl));conv=>whnf)|(refine Br.dec (fun _=>?_) (fun _=>?_)<;>first|(exfalso;omega)|conv=>whnf)|(refine Br.dec2 (fun _=>?_) (fun _=>?_)<;>first|(exfalso;omega)|conv=>whnf)|(refine Br.n (fun _=>?_) (fun _=>?_)<;>conv=>whnf)|(refine Br.b (fun _=>?_) (fun _=>?_)<;>conv=>whnf))
     all_goals first
      | (exfalso;simp_all;done)
      | exact ⟨(k+1,some m),⟨by simp only;omega,h6.old hk (hmem (by assumption))⟩,by simp only;omega,Le.of_eq rfl⟩
      | exact ⟨(k+1,some l[k]),⟨by simp only;omega,h6.less slP.trans hk (hnot trivial) (show slB l[k] m=true by assumption)⟩,by simp only;omega,(Le.mk [] (by simp) (by simp) (by simp [z0x]) (.cons (.refl _) (.cons (.refl _) (.cons (.refl _) (.cons (.p (Sub.tt rfl)) (.cons (.refl _) (.cons (.refl _) (.cons (.refl _) (.cons (.refl _) (.cons (.refl _) .nil))))))))) (.cons rfl (.refl _) (.cons rfl (.refl _) .nil)))⟩
      | (have hb:slB l[k] m=false:=by assumption
         exact ⟨(k+1,some m),⟨by simp only;omega,h6.more slP.total hk (fun h=>by unfold slP at h;rw [hb] at h;cases h)⟩,by simp only;omega,Le.of_eq rfl⟩)
      | trace_state
  ·rw [List.concat_eq_append] at *
   have hleft:=h4.left h3 (List.getElem_mem hk)
   have hnot:slB z l[k]=true→l[k]∉P:=fun h=>hleft.2 h
   have hmem:slB z l[k]=false→l[k]∈P:=fun h=>Classical.byContradiction fun hn=>by
    have:=hleft.1 hn
    unfold slP at this
    rw [h] at this
    cases this
   have g:((o'++[z]).map fun s=>AV.agg s.cells)[o'.length]? = some (.agg z.cells):=by simp
   cases o with
   | none =>
     simp only [z0x,Option.getD_none,Option.isSome_none]
     conv=>whnf
     repeat' (first|((first|intro (_:_≤9223372036854775807)|refine DrawK.auto QQ mixed (by kernel_rfl) ?_|refine And.intro rfl ?_|(refine And.intro ⟨by decide,by decide⟩ ?_)|(refine And.intro ⟨rfl,rfl,by decide⟩ ?_)|refine BsK.pure (fun x hx=>by rcases List.mem_singleton.1 hx with rfl;rfl) rfl ?_|refine IdxK.map (by omega) (fun _=>rfl) ?_|refine IdxK.xs (by omega) ?_|refine IdxK.ss (by omega) ?_|(refine ByteK.at (by omega) ?_)|refine Wr.i64 (by omega) (by omega) ?_|refine IdxL.mk o'.length (by simp) (by simp) ?_|refine LdOwn.mk o'.length 0 _ (by show (0+o'.length)*3+0=o'.length*3+0;omega) g ?_|refine LdOwn.mk o'.length 1 _ (by show (0+o'.length)*3+1=o'.length*3+1;omega) g ?_|(refine CallK.pure (XN z l[k]) (.cons (Sub.refl _) (.cons (Sub.refl _) .nil)) ?_;rintro _ rfl));conv=>whnf)|(refine Br.dec (fun _=>?_) (fun _=>?_)<;>first|(exfalso;omega)|conv=>whnf)|(refine Br.dec2 (fun _=>?_) (fun _=>?_)<;>first|(exfalso;omega)|conv=>whnf)|(refine Br.n (fun _=>?_) (fun _=>?_)<;>conv=>whnf)|(refine Br.b (fun _=>?_) (fun _=>?_)<;>conv=>whnf))
     all_goals first
      | (exfalso;simp_all;done)
      | exact ⟨(k+1,none),⟨by simp only;omega,h6.old hk (hmem (by assumption))⟩,by simp only;omega,Le.of_eq rfl⟩
      | exact ⟨(k+1,some l[k]),⟨by simp only;omega,h6.first hk (hnot (by assumption))⟩,by simp only;omega,(Le.mk [] (by simp) (by simp) (by simp [z0x]) (.cons (.refl _) (.cons (.refl _) (.cons (.refl _) (.cons (.p (Sub.tt rfl)) (.cons (.refl _) (.cons (.refl _) (.cons (.refl _) (.cons (.refl _) (.cons (.refl _) .nil))))))))) (.cons rfl (.refl _) (.cons rfl (.refl _) .nil)))⟩
      | trace_state
   | some m =>
     simp only [z0x,Option.getD_some,Option.isSome_some]
     have hS2:=XN l[k] m
     conv=>whnf
     repeat' (first|((first|intro (_:_≤9223372036854775807)|refine DrawK.auto QQ mixed (by kernel_rfl) ?_|refine And.intro rfl ?_|(refine And.intro ⟨by decide,by decide⟩ ?_)|(refine And.intro ⟨rfl,rfl,by decide⟩ ?_)|refine BsK.pure (fun x hx=>by rcases List.mem_singleton.1 hx with rfl;rfl) rfl ?_|refine IdxK.map (by omega) (fun _=>rfl) ?_|refine IdxK.xs (by omega) ?_|refine IdxK.ss (by omega) ?_|(refine ByteK.at (by omega) ?_)|refine Wr.i64 (by omega) (by omega) ?_|refine IdxL.mk o'.length (by simp) (by simp) ?_|refine LdOwn.mk o'.length 0 _ (by show (0+o'.length)*3+0=o'.length*3+0;omega) g ?_|refine LdOwn.mk o'.length 1 _ (by show (0+o'.length)*3+1=o'.length*3+1;omega) g ?_|(refine CallK.pure (XN z l[k]) (.cons (Sub.refl _) (.cons (Sub.refl _) .nil)) ?_;rintro _ rfl)|(refine CallK.pure hS2 (.cons (Sub.refl _) (.cons (Sub.refl _) .nil)) ?_;rintro _ rfl));conv=>whnf)|(refine Br.dec (fun _=>?_) (fun _=>?_)<;>first|(exfalso;omega)|conv=>whnf)|(refine Br.dec2 (fun _=>?_) (fun _=>?_)<;>first|(exfalso;omega)|conv=>whnf)|(refine Br.n (fun _=>?_) (fun _=>?_)<;>conv=>whnf)|(refine Br.b (fun _=>?_) (fun _=>?_)<;>conv=>whnf))
     all_goals first
      | (exfalso;simp_all;done)
      | exact ⟨(k+1,some m),⟨by simp only;omega,h6.old hk (hmem (by assumption))⟩,by simp only;omega,Le.of_eq rfl⟩
      | exact ⟨(k+1,some l[k]),⟨by simp only;omega,h6.less slP.trans hk (hnot (by assumption)) (show slB l[k] m=true by assumption)⟩,by simp only;omega,(Le.mk [] (by simp) (by simp) (by simp [z0x]) (.cons (.refl _) (.cons (.refl _) (.cons (.refl _) (.cons (.p (Sub.tt rfl)) (.cons (.refl _) (.cons (.refl _) (.cons (.refl _) (.cons (.refl _) (.cons (.refl _) .nil))))))))) (.cons rfl (.refl _) (.cons rfl (.refl _) .nil)))⟩
      | (have hb:slB l[k] m=false:=by assumption
         exact ⟨(k+1,some m),⟨by simp only;omega,h6.more slP.total hk (fun h=>by unfold slP at h;rw [hb] at h;cases h)⟩,by simp only;omega,Le.of_eq rfl⟩)
      | trace_state
 ·obtain rfl:k=l.length:=by omega
  cases o with
  | none =>
    have hF:=fin i P out h3 (by have:=h6;rw [LeastI,List.take_length] at this;exact this) h4
    have hS:=YZ l out hl (by omega)
    rw [hF] at hS
    simp only [z0x,Option.getD_none,Option.isSome_none]
    conv=>whnf
    repeat' (first|((first|intro (_:_≤9223372036854775807)|refine DrawK.auto QQ mixed (by kernel_rfl) ?_|refine And.intro rfl ?_|(refine And.intro ⟨by decide,by decide⟩ ?_)|(refine And.intro ⟨rfl,rfl,by decide⟩ ?_)|refine BsK.pure (fun x hx=>by rcases List.mem_singleton.1 hx with rfl;rfl) rfl ?_|refine IdxK.map (by omega) (fun _=>rfl) ?_|refine IdxK.xs (by omega) ?_|refine IdxK.ss (by omega) ?_|(refine ByteK.at (by omega) ?_)|refine Wr.i64 (by omega) (by omega) ?_);conv=>whnf)|(refine Br.dec (fun _=>?_) (fun _=>?_)<;>first|(exfalso;omega)|conv=>whnf)|(refine Br.dec2 (fun _=>?_) (fun _=>?_)<;>first|(exfalso;omega)|conv=>whnf)|(refine Br.n (fun _=>?_) (fun _=>?_)<;>conv=>whnf)|(refine Br.b (fun _=>?_) (fun _=>?_)<;>conv=>whnf)|(refine CallK.heap [(2000,0)] 0 (by repeat' (first|exact ArgsH.nil|refine ArgsH.cons ?_ ?_|exact LSub.refl _|exact LSub.p Sub.nils|exact LSub.p (Sub.tt rfl)|exact LSub.p (Sub.ff rfl)|exact LSub.p (Sub.int (by omega)))) (by refine BlksH.cons (j:=0) rfl rfl ?_ ?_;exact CSub.refl _;exact BlksH.nil) hS rfl rfl ?_;rintro l' H' ⟨rfl,rfl⟩;conv=>whnf))
    all_goals first
     | (exfalso;simp_all;done)
     | exact ⟨_,.hd rfl (by rw [← hF];simp),rfl⟩
     | trace_state
  | some m =>
    have hm : ∀ p∈P,slP p m:=fun p hp=>h3.seg m h6.1 h6.2.1 p hp
    have hR:=h3.snoc h6
    simp only [z0x,Option.getD_some,Option.isSome_some]
    rcases List.eq_nil_or_concat out with rfl|⟨o',z,rfl⟩
    ·have hI:=h4.new hm (fun o z h=>by simp at h)
     conv=>whnf
     repeat' (first|((first|intro (_:_≤9223372036854775807)|refine DrawK.auto QQ mixed (by kernel_rfl) ?_|refine And.intro rfl ?_|(refine And.intro ⟨by decide,by decide⟩ ?_)|(refine And.intro ⟨rfl,rfl,by decide⟩ ?_)|refine BsK.pure (fun x hx=>by rcases List.mem_singleton.1 hx with rfl;rfl) rfl ?_|refine IdxK.map (by omega) (fun _=>rfl) ?_|refine IdxK.xs (by omega) ?_|refine IdxK.ss (by omega) ?_|(refine ByteK.at (by omega) ?_)|refine Wr.i64 (by omega) (by omega) ?_|refine AppK.mk (by simp) rfl (by show (0+1)*24≤140737488355328;decide) (by show 0+1≤9223372036854775807;decide) (fun x hx=>by rcases List.mem_singleton.1 hx with rfl;exact ⟨rfl,rfl⟩) ?_);conv=>whnf)|(refine Br.dec (fun _=>?_) (fun _=>?_)<;>first|(exfalso;omega)|conv=>whnf)|(refine Br.dec2 (fun _=>?_) (fun _=>?_)<;>first|(exfalso;omega)|conv=>whnf)|(refine Br.n (fun _=>?_) (fun _=>?_)<;>conv=>whnf)|(refine Br.b (fun _=>?_) (fun _=>?_)<;>conv=>whnf))
     all_goals first
      | (exfalso;simp_all;done)
      | exact ⟨(i+1,P++[m],[m]),⟨by simp only;omega,hR,hI⟩,by simp only;omega,Le.of_eq rfl⟩
      | trace_state
    ·rw [List.concat_eq_append] at *
     have g:((o'++[z]).map fun s=>AV.agg s.cells)[o'.length]? = some (.agg z.cells):=by simp
     have hdl:((o'++[z]).map fun s=>AV.agg s.cells).take o'.length=o'.map fun s=>AV.agg s.cells:=by rw [List.map_append,List.take_append_of_le_length (by simp),List.take_of_length_le (by simp)]
     have hlz:(o'++[z]).length=o'.length+1:=by simp
     have hma:(o'++[m]).map (fun s=>AV.agg s.cells)=(o'.map fun s=>AV.agg s.cells)++[.agg m.cells]:=by simp
     have hmb:((o'++[z])++[m]).map (fun s=>AV.agg s.cells)=((o'++[z]).map fun s=>AV.agg s.cells)++[.agg m.cells]:=by simp
     have hsame:=fun h1 h2=>h4.same hm (z:=z) h1 h2
     have hnew:=fun hn : ¬(z.src=m.src∧z.dst=m.dst)=>h4.new hm (fun o y h=>by
      have:=List.append_inj_right' h rfl
      have hy:z=y:=by simpa using this
      exact hy▸hn)
     conv=>whnf
     repeat' (first|((first|intro (_:_≤9223372036854775807)|refine And.intro rfl ?_|(refine And.intro ⟨by decide,by decide⟩ ?_)|(refine And.intro ⟨rfl,rfl,by decide⟩ ?_)|refine BsK.pure (fun x hx=>by rcases List.mem_singleton.1 hx with rfl;rfl) rfl ?_|refine IdxK.map (by omega) (fun _=>rfl) ?_|refine IdxK.xs (by omega) ?_|refine IdxK.ss (by omega) ?_|(refine ByteK.at (by omega) ?_)|refine Wr.i64 (by omega) (by omega) ?_|refine DrawK.le (id:=16) (Le.short 0 o'.length) (DrawK.auto QQ mixed (by kernel_rfl) ?_)|refine DrawK.auto QQ mixed (by kernel_rfl) ?_|refine IdxL.mk o'.length (by simp) (by simp) ?_|refine LdOwn.mk o'.length 0 _ (by show (0+o'.length)*3+0=o'.length*3+0;omega) g ?_|refine LdOwn.mk o'.length 1 _ (by show (0+o'.length)*3+1=o'.length*3+1;omega) g ?_|refine SlK.mk 0 o'.length rfl (by simp) (by omega) (by simp) ?_|refine AppK.mk (n:=o'.length-0) (by simp) rfl (by show (o'.length-0+1)*24≤140737488355328;omega) (by show o'.length-0+1≤9223372036854775807;omega) (fun x hx=>by rcases List.mem_singleton.1 hx with rfl;exact ⟨rfl,rfl⟩) ?_|refine AppK.mk (n:=(o'++[z]).length) (by simp) rfl (by simp only [hlz];show (o'.length+1+1)*24≤140737488355328;omega) (by simp only [hlz];show o'.length+1+1≤9223372036854775807;omega) (fun x hx=>by rcases List.mem_singleton.1 hx with rfl;exact ⟨rfl,rfl⟩) ?_);conv=>whnf)|(refine Br.dec (fun _=>?_) (fun _=>?_)<;>first|(exfalso;omega)|conv=>whnf)|(refine Br.dec2 (fun _=>?_) (fun _=>?_)<;>first|(exfalso;omega)|conv=>whnf)|(refine Br.n (fun _=>?_) (fun _=>?_)<;>conv=>whnf)|(refine Br.b (fun _=>?_) (fun _=>?_)<;>conv=>whnf))
     all_goals first
      | contradiction
      | (refine ⟨(i+1,P++[m],o'++[m]),⟨by simp only;omega,hR,hsame (by assumption) (by assumption)⟩,by simp only;omega,Le.of_eq ?_⟩
         rw [hma,← hdl,List.length_append]
         rfl)
      | (refine ⟨(i+1,P++[m],(o'++[z])++[m]),⟨by simp only;omega,hR,hnew (fun hh=>by first|exact absurd hh.1 (by assumption)|exact absurd hh.2 (by assumption))⟩,by simp only;omega,Le.of_eq ?_⟩
         rw [hmb,show ((o'++[z])++[m]).length=(o'++[z]).length+1 by simp]
         rfl)
      | trace_state
end Go.Ab
