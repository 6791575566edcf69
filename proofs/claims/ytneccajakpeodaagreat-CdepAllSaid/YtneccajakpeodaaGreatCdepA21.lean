/- LAW: the least step that is left, again and again; of those with one way the one of the least kind. -/
import Derived.Test.YtneccajakpeodaaGreatCdepA13
import Derived.Test.YtneccajakpeodaaGreatCdepA14
import Derived.Test.YtneccajakpeodaaGreatCdepA16
import Derived.Test.YtneccajakpeodaaGreatCdepA17
import Derived.Test.YtneccajakpeodaaGreatCdepA18
import Derived.Test.YtneccajakpeodaaGreatCdepA19
import Derived.Test.YtneccajakpeodaaGreatCdepA20
set_option linter.unusedSimpArgs false
set_option linter.unusedVariables false
set_option maxRecDepth 100000
set_option maxHeartbeats 16000000
namespace Go.Ab
open Go.Proofs
def slB (a b:Step):Bool:=if a.src≠b.src then w1i a.src b.src else if a.dst≠b.dst then w1i a.dst b.dst else decide (a.kind<b.kind)
def slP (a b:Step):Prop:=slB a b=true
def ltP (a b:Step):Prop:=ordP a.src b.src∨(a.src=b.src∧ordP a.dst b.dst)
theorem q2l {a b:Step}:slP a b↔ordP a.src b.src∨(a.src=b.src∧(ordP a.dst b.dst∨(a.dst=b.dst∧a.kind<b.kind))):=by
 unfold slP slB
 by_cases h1:a.src=b.src
 ·rw [if_neg (fun h=>h h1)]
  have i1 : ¬ordP a.src b.src:=fun h=>ordP.irr b.src (h1▸h)
  by_cases h2:a.dst=b.dst
  ·rw [if_neg (fun h=>h h2)]
   have i2 : ¬ordP a.dst b.dst:=fun h=>ordP.irr b.dst (h2▸h)
   rw [decide_eq_true_eq]
   exact ⟨fun h => .inr ⟨h1,.inr ⟨h2,h⟩⟩,fun h=>(h.resolve_left i1).2.elim (fun h3=>absurd h3 i2) fun h3=>h3.2⟩
  ·rw [if_pos h2]
   exact ⟨fun h => .inr ⟨h1,.inl h⟩,fun h=>(h.resolve_left i1).2.elim id fun h3=>absurd h3.1 h2⟩
 ·rw [if_pos h1]
  exact ⟨fun h => .inl h,fun h=>h.elim id fun h3=>absurd h3.1 h1⟩
theorem slP.irr (a:Step) : ¬slP a a:=fun h=>by
 rw [q2l] at h
 rcases h with h|⟨_,h|⟨_,h⟩⟩
 ·exact ordP.irr _ h
 ·exact ordP.irr _ h
 ·omega
theorem slP.trans (a b c:Step) (h1:slP a b) (h2:slP b c):slP a c:=by
 rw [q2l] at *
 rcases h1 with h1|⟨e1,h1⟩
 ·rcases h2 with h2|⟨e2,_⟩
  ·exact .inl (ordP.trans _ _ _ h1 h2)
  ·exact .inl (e2▸h1)
 ·rcases h2 with h2|⟨e2,h2⟩
  ·exact .inl (e1▸h2)
  ·refine .inr ⟨e1.trans e2,?_⟩
   rcases h1 with h1|⟨e3,h1⟩
   ·rcases h2 with h2|⟨e4,_⟩
    ·exact .inl (ordP.trans _ _ _ h1 h2)
    ·exact .inl (e4▸h1)
   ·rcases h2 with h2|⟨e4,h2⟩
    ·exact .inl (e3▸h2)
    ·exact .inr ⟨e3.trans e4,by omega⟩
theorem slP.total (a b:Step) (h:a≠b):slP a b∨slP b a:=by
 rw [q2l,q2l]
 by_cases h1:a.src=b.src
 ·by_cases h2:a.dst=b.dst
  ·have h3:a.kind≠b.kind:=fun h3=>h (Step.eq_of h1 h2 h3)
   rcases Int.lt_or_gt_of_ne h3 with h4|h4
   ·exact .inl (.inr ⟨h1,.inr ⟨h2,h4⟩⟩)
   ·exact .inr (.inr ⟨h1.symm,.inr ⟨h2.symm,h4⟩⟩)
  ·rcases ordP.total _ _ h2 with h3|h3
   ·exact .inl (.inr ⟨h1,.inl h3⟩)
   ·exact .inr (.inr ⟨h1.symm,.inl h3⟩)
 ·rcases ordP.total _ _ h1 with h3|h3
  ·exact .inl (.inl h3)
  ·exact .inr (.inl h3)
theorem slP.lt {a b:Step} (h:slP a b) (hn : ¬(a.src=b.src∧a.dst=b.dst)):ltP a b:=by
 rw [q2l] at h
 rcases h with h|⟨e,h|⟨e2,_⟩⟩
 ·exact .inl h
 ·exact .inr ⟨e,h⟩
 ·exact absurd ⟨e,e2⟩ hn
theorem ltP.sl {a b c:Step} (h:ltP a b) (h2:slP b c):ltP a c:=by
 rw [q2l] at h2
 rcases h with h|⟨e,h⟩
 ·rcases h2 with h2|⟨e2,_⟩
  ·exact .inl (ordP.trans _ _ _ h h2)
  ·exact .inl (e2▸h)
 ·rcases h2 with h2|⟨e2,h2|⟨e3,_⟩⟩
  ·exact .inl (e▸h2)
  ·exact .inr ⟨e.trans e2,ordP.trans _ _ _ h h2⟩
  ·exact .inr ⟨e.trans e2,e3▸h⟩
structure InvO (P out:List Step):Prop where
 lt:out.Pairwise ltP
 sub : ∀ o∈out,o∈P
 all : ∀ s∈P,∃ o∈out,o.src=s.src∧o.dst=s.dst
 last:out.getLast? = P.getLast?
theorem InvO.nil:InvO [] []:=⟨.nil,fun _ h=>h,fun _ h=>(by cases h),rfl⟩
theorem InvO.same {P o:List Step} {z m:Step} (h:InvO P (o++[z])) (hm : ∀ p∈P,slP p m) (h1:z.src=m.src) (h2:z.dst=m.dst):InvO (P++[m]) (o++[m]):=by
 have hl:=h.lt
 rw [List.pairwise_append] at hl
 refine ⟨?_,fun x hx => ?_,fun s hs => ?_,by simp⟩
 ·rw [List.pairwise_append]
  refine ⟨hl.1,List.pairwise_singleton _ _,fun a ha b hb => ?_⟩
  rw [List.mem_singleton.1 hb]
  have h3:=hl.2.2 a ha z (List.mem_singleton.2 rfl)
  unfold ltP at h3 ⊢
  rw [← h1,← h2]
  exact h3
 ·rcases List.mem_append.1 hx with hx|hx
  ·exact List.mem_append.2 (.inl (h.sub x (List.mem_append.2 (.inl hx))))
  ·exact List.mem_append.2 (.inr hx)
 ·rcases List.mem_append.1 hs with hs|hs
  ·obtain ⟨x,hx,e1,e2⟩:=h.all s hs
   rcases List.mem_append.1 hx with hx|hx
   ·exact ⟨x,List.mem_append.2 (.inl hx),e1,e2⟩
   ·rw [List.mem_singleton.1 hx] at e1 e2
    exact ⟨m,List.mem_append.2 (.inr (List.mem_singleton.2 rfl)),h1▸e1,h2▸e2⟩
  ·rw [List.mem_singleton.1 hs]
   exact ⟨m,List.mem_append.2 (.inr (List.mem_singleton.2 rfl)),rfl,rfl⟩
theorem InvO.new {P out:List Step} {m:Step} (h:InvO P out) (hm : ∀ p∈P,slP p m) (hn : ∀ o z,out=o++[z] → ¬(z.src=m.src∧z.dst=m.dst)):InvO (P++[m]) (out++[m]):=by
 refine ⟨?_,fun x hx => ?_,fun s hs => ?_,by simp⟩
 ·rw [List.pairwise_append]
  refine ⟨h.lt,List.pairwise_singleton _ _,fun a ha b hb => ?_⟩
  rw [List.mem_singleton.1 hb]
  rcases List.eq_nil_or_concat out with rfl|⟨o,z,rfl⟩
  ·cases ha
  ·rw [List.concat_eq_append] at *
   have hz:ltP z m:=(hm z (h.sub z (List.mem_append.2 (.inr (List.mem_singleton.2 rfl))))).lt (hn o z rfl)
   rcases List.mem_append.1 ha with ha|ha
   ·have hl:=h.lt
    rw [List.pairwise_append] at hl
    exact (hl.2.2 a ha z (List.mem_singleton.2 rfl)).sl (hm z (h.sub z (List.mem_append.2 (.inr (List.mem_singleton.2 rfl)))))
   ·rw [List.mem_singleton.1 ha]
    exact hz
 ·rcases List.mem_append.1 hx with hx|hx
  ·exact List.mem_append.2 (.inl (h.sub x hx))
  ·exact List.mem_append.2 (.inr hx)
 ·rcases List.mem_append.1 hs with hs|hs
  ·obtain ⟨x,hx,e⟩:=h.all s hs
   exact ⟨x,List.mem_append.2 (.inl hx),e⟩
  ·rw [List.mem_singleton.1 hs]
   exact ⟨m,List.mem_append.2 (.inr (List.mem_singleton.2 rfl)),rfl,rfl⟩
theorem InvO.none {P:List Step} (h:InvO P []):P=[]:=by
 have:=h.last
 rw [List.getLast?_nil] at this
 exact List.getLast?_eq_none_iff.1 this.symm
theorem InvO.left {l P o:List Step} {z:Step} {i:Nat} (h:InvO P (o++[z])) (hR:RiseI slP l P i) {s:Step} (hs:s∈l):s∉P↔slP z s:=by
 have hl:=h.last
 rw [List.getLast?_append] at hl
 simp only [List.getLast?_singleton,Option.some_or] at hl
 obtain ⟨Q,rfl⟩:=List.getLast?_eq_some_iff.1 hl.symm
 constructor
 ·exact fun hn=>hR.seg s hs hn z (List.mem_append.2 (.inr (List.mem_singleton.2 rfl)))
 ·intro hz hm
  have hr:=hR.rise
  rw [List.pairwise_append] at hr
  rcases List.mem_append.1 hm with hm|hm
  ·exact slP.irr _ (slP.trans _ _ _ hz (hr.2.2 s hm z (List.mem_singleton.2 rfl)))
  ·rw [List.mem_singleton.1 hm] at hz
   exact slP.irr _ hz
def x3d (a b:Int):List Step→Int→Int
 | [],k=>k
 | s::r,k=>x3d a b r (if s.src=a∧s.dst=b∧s.kind<k then s.kind else k)
def z2i (l:List Step) (o:Step):Step:=⟨o.src,o.dst,x3d o.src o.dst l o.kind⟩
theorem q7b (a b:Int) : ∀ (l:List Step) (k:Int),(x3d a b l k=k ∨ ∃ s∈l,s.src=a∧s.dst=b∧s.kind=x3d a b l k)∧x3d a b l k≤k ∧ ∀ s∈l,s.src=a→s.dst=b→x3d a b l k≤s.kind
 | [],k=>⟨.inl rfl,Int.le_refl _,fun _ h=>(by cases h)⟩
 | s::r,k=>by
   obtain ⟨h1,h2,h3⟩:=q7b a b r (if s.src=a∧s.dst=b∧s.kind<k then s.kind else k)
   rw [x3d]
   split at h1
   ·rename_i hc
    rw [if_pos hc] at h2 h3 ⊢
    refine ⟨?_,by omega,fun t ht e1 e2 => ?_⟩
    ·rcases h1 with h1|⟨t,ht,h4⟩
     ·exact .inr ⟨s,List.mem_cons_self,hc.1,hc.2.1,h1.symm⟩
     ·exact .inr ⟨t,List.mem_cons_of_mem _ ht,h4⟩
    ·rcases List.mem_cons.1 ht with rfl|ht
     ·exact h2
     ·exact h3 t ht e1 e2
   ·rename_i hc
    rw [if_neg hc] at h2 h3 ⊢
    refine ⟨?_,h2,fun t ht e1 e2 => ?_⟩
    ·rcases h1 with h1|⟨t,ht,h4⟩
     ·exact .inl h1
     ·exact .inr ⟨t,List.mem_cons_of_mem _ ht,h4⟩
    ·rcases List.mem_cons.1 ht with rfl|ht
     ·have : ¬t.kind<k:=fun h=>hc ⟨e1,e2,h⟩
      omega
     ·exact h3 t ht e1 e2
theorem x4r {a b:Int} : ∀ {l:List Step} {k:Int} {j:Nat} (hj:j<l.length),x3d a b (l.take (j+1)) k=(if l[j].src=a∧l[j].dst=b∧l[j].kind<x3d a b (l.take j) k then l[j].kind else x3d a b (l.take j) k)
 | [],_,_,hj=>by simp at hj
 | s::r,k,0,_=>rfl
 | s::r,k,j+1,hj=>by
   rw [List.take_succ_cons,List.take_succ_cons,x3d,x3d]
   exact x4r (l:=r) (by simpa using hj)
theorem z0n {a b:Int} (ha:a≤9223372036854775806) (hb:b≤9223372036854775806):ordP a b↔XE a<XE b:=by
 rw [HH]
 unfold XE
 split<;>split<;>omega
theorem w1d {a b:Step} (ha:a.src≤9223372036854775806∧a.dst≤9223372036854775806) (hb:b.src≤9223372036854775806∧b.dst≤9223372036854775806) (h:ltP a b):q0g a b:=by
 unfold ltP at h
 rw [z0n ha.1 hb.1,z0n ha.2 hb.2] at h
 unfold q0g
 rcases h with h|⟨e,h⟩
 ·exact .inl h
 ·exact .inr ⟨by rw [e],h⟩
def leSt (s:Step):Prop:=s.src≤9223372036854775806∧s.dst≤9223372036854775806
theorem leSt.ok {s:Step} (h:leSt s):okSt s:=by
 unfold leSt at h
 unfold okSt
 omega
theorem z3c {l P out:List Step} {i:Nat} (hle : ∀ s∈l,leSt s) (hR:RiseI slP l P i) (hall : ∀ s∈l,s∈P) (h:InvO P out):out.map (z2i l)=ZM l:=by
 refine (q5b (fun s hs=>(hle s hs).ok) ?_ ?_ ?_).symm
 ·rw [List.pairwise_map]
  refine h.lt.imp_of_mem fun {a b} ha hb hab => ?_
  have h1:=hle a (hR.sub a (h.sub a ha))
  have h2:=hle b (hR.sub b (h.sub b hb))
  exact w1d h1 h2 hab
 ·intro s hs
  obtain ⟨o,ho,rfl⟩:=List.mem_map.1 hs
  have hol:=hR.sub o (h.sub o ho)
  rcases (q7b o.src o.dst l o.kind).1 with h1|⟨t,ht,e1,e2,e3⟩
  ·have:z2i l o=o:=by unfold z2i;rw [h1]
   rw [this]
   exact hol
  ·have:z2i l o=t:=Step.eq_of e1.symm e2.symm e3.symm
   rw [this]
   exact ht
 ·intro s hs
  obtain ⟨o,ho,e1,e2⟩:=h.all s (hall s hs)
  exact ⟨z2i l o,List.mem_map.2 ⟨o,ho,rfl⟩,e1,e2,(q7b o.src o.dst l o.kind).2.2 s hs e1.symm e2.symm⟩
def Chunk.short (m:Nat):Chunk→Chunk
 | .own e sz es => .own e sz (es.take m)
 | c=>c
def q3b (k m:Nat):Heap→Heap
 | []=>[]
 | (j,c)::r=>(j,bif j==k then c.short m else c)::q3b k m r
theorem q6q (k m:Nat) : ∀ H:Heap,(q3b k m H).map (·.1)=H.map (·.1)
 | []=>rfl
 | (j,c)::r=>by rw [q3b,List.map_cons,List.map_cons,q6q k m r]
theorem x1q {k m:Nat} : ∀ {H:Heap} {j:Nat} {c':Chunk},(j,c')∈q3b k m H → ∃ c,(j,c)∈H∧(c'=c∨c'=c.short m)
 | [],_,_,h=>by rw [q3b] at h;cases h
 | (j0,c0)::r,j,c',h=>by
   rw [q3b] at h
   rcases List.mem_cons.1 h with h|h
   ·cases h
    refine ⟨c0,List.mem_cons_self,?_⟩
    cases j0==k
    ·exact .inl rfl
    ·exact .inr rfl
   ·obtain ⟨c,h1,h2⟩:=x1q h
    exact ⟨c,List.mem_cons_of_mem _ h1,h2⟩
theorem Le.short {N:Nat} {sl:List (Nat×LV)} {H:Heap} (k m:Nat):Le N ⟨sl,H⟩ ⟨sl,q3b k m H⟩:=fun σ β a w hr=>by
 have hk:=q6q k m H
 refine ⟨σ,β,⟨hr.size,hr.defers,hr.slots,⟨hr.heap.mem,fun j c' hj => ?_,by show ((q3b k m H).map (·.1)).Nodup;rw [hk];exact hr.heap.nodup,fun j hj=>hr.heap.apart j (by rw [← hk];exact hj),fun j hj j' hj'=>hr.heap.inj j (by rw [← hk];exact hj) j' (by rw [← hk];exact hj')⟩⟩,Mem.le_refl σ,Frm.refl _ _,fun _ h h'=>absurd h h',fun b ⟨j,hj,i,hi,hb⟩ => .inl ⟨j,by rw [← hk];exact hj,i,hi,hb⟩,fun _ _ _=>rfl⟩
 obtain ⟨c,h1,h2⟩:=x1q hj
 have hc:=hr.heap.chunks j c h1
 rcases h2 with rfl|rfl
 ·exact hc
 ·cases c with
  | own e sz es =>
    show (Chunk.own e sz (es.take m)).holds σ β w j
    rcases hc with ⟨h3,h4⟩|⟨i,vs,h3,h4,h5,h6,h7,h8,h9⟩
    ·exact .inl ⟨h3,by rw [h4];simp⟩
    ·refine .inr ⟨i,vs,h3,h4,h5,h6,by rw [List.length_take];omega,h8,fun q x hx=>h9 q x ?_⟩
     rw [List.getElem?_take] at hx
     split at hx
     ·exact hx
     ·cases hx
  | obj e cs=>exact hc
  | ext d=>exact hc
open Go.Proofs
theorem XS (a b:Step):SpecP Tryz.prog 161 [.agg a.cells,.agg b.cells] (fun r=>r = .bool (slB a b)):=by
 refine SpecP.body GO QQ Tryz.func161 rfl Tryz.call161 (by show 2≤_;decide) ?_
 conv=>whnf
 repeat' (first|(refine CallK.pure (YS _ _) (by repeat' (first|exact ArgP.nil|refine ArgP.cons ?_ ?_|exact Sub.refl _|exact Sub.tt rfl|exact Sub.ff rfl)) ?_;rintro _ rfl;conv=>whnf)|(refine Br.dec2 (fun _=>?_) (fun _=>?_)<;>first|(exfalso;omega)|conv=>whnf))
 all_goals exact RetK.bool (by unfold slB;simp [*])
theorem KK (l:List Step):(l.map fun s=>AV.agg s.cells).length=l.length:=List.length_map _
theorem YO (l out:List Step) (hl:l.length≤1000000) (ho:out.length≤1000000):SpecH Tryz.prog 162 [.p (QL l),.hd 2000 0 out.length] [(2000,.own 79 3 (out.map fun s => .agg s.cells))] (fun r H=>r = .hd 2000 0 out.length∧H=[(2000,.own 79 3 ((out.map (z2i l)).map fun s => .agg s.cells))]):=by
 refine SpecH.body DG QQ Tryz.func162 rfl Tryz.call162 (by show 2≤_;decide) ?_
 conv=>whnf
 have hll:=KK l
 repeat' (intro (_:_≤9223372036854775807);conv=>whnf)
 refine LoopK.inv QQ (fun i:Nat=>⟨[(0,.p (QL l)),(1,.hd 2000 0 out.length),(9,.p (.int .i64 out.length)),(10,.p (.int .i64 i))],[(2000,.own 79 3 (((out.take i).map (z2i l)++out.drop i).map fun s => .agg s.cells))]⟩) (fun i=>i≤out.length) (fun i=>out.length-i) 0 (Le.of_eq rfl) (Nat.zero_le _) ?_
 intro i hi
 rcases Nat.lt_or_ge i out.length with hi2|hi2
 ·have hT:((out.take i).map (z2i l)).length=i:=by rw [List.length_map,List.length_take];omega
  have hD:out.drop i=out[i]::out.drop (i+1):=List.drop_eq_getElem_cons hi2
  have hT2:(out.take (i+1)).map (z2i l)=(out.take i).map (z2i l)++[z2i l out[i]]:=by rw [List.take_succ_eq_append_getElem hi2,List.map_append];rfl
  have hDl:i+(out.drop (i+1)).length+1=out.length:=by rw [List.length_drop];omega
  have hf0:z2i l out[i]=⟨out[i].src,out[i].dst,x3d out[i].src out[i].dst (l.take l.length) out[i].kind⟩:=by rw [List.take_length];rfl
  rw [hf0] at hT2
  rw [hD]
  generalize hDe:out.drop (i+1)=D at *
  generalize (out.take i).map (z2i l)=Tk at *
  generalize out[i]=o at *
  conv=>whnf
  repeat' (first|(intro (_:_≤9223372036854775807);conv=>whnf)|(refine Br.dec (fun _=>?_) (fun _=>?_)<;>first|(exfalso;omega)|conv=>whnf))
  refine LoopK.inv QQ (fun j:Nat=>⟨[(0,.p (QL l)),(1,.hd 2000 0 out.length),(5,.p (.int .i64 i)),(9,.p (.int .i64 out.length)),(10,.p (.int .i64 i)),(13,.p (QL l)),(14,.p (.int .i64 (l.map fun s=>AV.agg s.cells).length)),(15,.p (.int .i64 j))],[(2000,.own 79 3 ((Tk++(⟨o.src,o.dst,x3d o.src o.dst (l.take j) o.kind⟩:Step)::D).map fun s => .agg s.cells))]⟩) (fun j=>j≤l.length) (fun j=>l.length-j) 0 (Le.of_eq rfl) (Nat.zero_le _) ?_
  intro j hj
  rcases Nat.lt_or_ge j l.length with hj2|hj2
  ·have hst:=x4r (a:=o.src) (b:=o.dst) (k:=o.kind) hj2
   have g:((Tk++(⟨o.src,o.dst,x3d o.src o.dst (l.take j) o.kind⟩:Step)::D).map fun s=>AV.agg s.cells)[i]? = some (.agg (⟨o.src,o.dst,x3d o.src o.dst (l.take j) o.kind⟩:Step).cells):=by
    rw [List.getElem?_map,List.getElem?_append_right (by omega),hT,Nat.sub_self]
    rfl
   have hset : ∀ k:Int,((Tk++(⟨o.src,o.dst,x3d o.src o.dst (l.take j) o.kind⟩:Step)::D).map fun s=>AV.agg s.cells).set i (.agg (⟨o.src,o.dst,k⟩:Step).cells)=(Tk++(⟨o.src,o.dst,k⟩:Step)::D).map fun s => .agg s.cells:=fun k=>by
    rw [List.map_append,List.map_append,List.map_cons,List.map_cons,List.set_append_right _ _ (by rw [List.length_map,hT];exact Nat.le_refl _),List.length_map,hT,Nat.sub_self]
    rfl
   have hlen:(Tk++(⟨o.src,o.dst,x3d o.src o.dst (l.take j) o.kind⟩:Step)::D).length=out.length:=by rw [List.length_append,List.length_cons,hT];omega
   have hset2:=hset l[j].kind
   generalize x3d o.src o.dst (l.take j) o.kind=fk at *
   generalize hrow:(Tk++(⟨o.src,o.dst,fk⟩:Step)::D).map (fun s=>AV.agg s.cells)=row at *
   conv=>whnf
   repeat' (first|((first|refine DrawK.auto QQ mixed (by kernel_rfl) ?_|refine And.intro rfl ?_|refine IdxK.map (by omega) (fun _=>rfl) ?_|refine Wr.i64 (by omega) (by omega) ?_|refine IdxL.mk i rfl (by omega) ?_|refine LdOwn.mk i 0 _ (by show (0+i)*3+0=i*3+0;omega) g ?_|refine LdOwn.mk i 1 _ (by show (0+i)*3+1=i*3+1;omega) g ?_|refine LdOwn.mk i 2 _ (by show (0+i)*3+2=i*3+2;omega) g ?_);conv=>whnf)|(refine Br.dec (fun _=>?_) (fun _=>?_)<;>first|(exfalso;omega)|conv=>whnf))
   all_goals first
    | exact ⟨j+1,by omega,by omega,Le.of_eq (by rw [hst,if_neg (fun hh=>by first|exact absurd hh.1 (by assumption)|exact absurd hh.2.1 (by assumption)|exact absurd hh.2.2 (by assumption)),← hrow];rfl)⟩
    | (refine StOwn.mk i 2 _ (.agg [.int .i64 o.src,.int .i64 o.dst,.int .i64 l[j].kind]) ?_ g ?_ ?_ ?_
       ·show (0+i)*3+2=i*3+2
        omega
       ·show 2+1≤3
        decide
       ·rfl
       conv=>whnf
       refine Wr.i64 (by omega) (by omega) ?_
       conv=>whnf
       exact ⟨j+1,by omega,by omega,Le.of_eq (by rw [hst,if_pos ⟨by assumption,by assumption,by assumption⟩,← hset2];rfl)⟩)
    | (refine ⟨j+1,by omega,by omega,Le.of_eq ?_⟩;rw [hst,if_neg (fun hh=>by first|exact absurd hh.1 (by assumption)|exact absurd hh.2.1 (by assumption)|exact absurd hh.2.2 (by assumption)),← hrow];rfl)
  ·have hje:j=l.length:=by omega
   subst hje
   conv=>whnf
   repeat' (first|(refine Wr.i64 (by omega) (by omega) ?_;conv=>whnf)|(refine Br.dec (fun _=>?_) (fun _=>?_)<;>first|(exfalso;omega)|conv=>whnf))
   exact ⟨i+1,by omega,by omega,Le.of_eq (by rw [hT2,hDe,List.append_assoc];rfl)⟩
 ·rw [List.take_of_length_le hi2,List.drop_eq_nil_of_le hi2,List.append_nil]
  conv=>whnf
  repeat' (refine Br.dec (fun _=>?_) (fun _=>?_)<;>first|(exfalso;omega)|conv=>whnf)
  exact ⟨_,.refl _,rfl,rfl⟩
def st0:Step:=⟨0,0,0⟩
def z5d (l out:List Step) (i k:Nat) (m:Step) (y:AV):St:=⟨[(0,.p (QL l)),(3,.hd 0 0 out.length),(4,.ptr 1 0),(5,.p y),(10,.p (.int .i64 (l.map fun s=>AV.agg s.cells).length)),(11,.p (.int .i64 i)),(13,.p (QL l)),(14,.p (.int .i64 (l.map fun s=>AV.agg s.cells).length)),(15,.p (.int .i64 k))],[(0,.own 79 3 (out.map fun s => .agg s.cells)),(1,.obj 79 [.p (.int .i64 m.src),.p (.int .i64 m.dst),.p (.int .i64 m.kind)])]⟩
theorem JQ (l:List Step) (hl:l.length≤1000000) (hle : ∀ s∈l,leSt s):SpecP Tryz.prog 103 [QL l] (fun r=>r=QL (ZM l)):=by
 refine SpecP.body BT QQ Tryz.func103 rfl Tryz.call103 (by show 1≤_;decide) ?_
 conv=>whnf
 intro (_:_≤9223372036854775807)
 have hll:=KK l
 have fin : ∀ (i:Nat) (P out:List Step),RiseI slP l P i→(∀ s∈l,s∈P)→InvO P out→out.map (z2i l)=ZM l:=fun i P out h1 h2 h3=>z3c hle h1 h2 h3
 conv=>whnf
 refine LoopK.inv QQ (fun x:Nat×List Step×List Step=>⟨[(0,.p (QL l)),(3,.hd 0 0 x.2.2.length),(10,.p (.int .i64 (l.map fun s=>AV.agg s.cells).length)),(11,.p (.int .i64 x.1))],[(0,.own 79 3 (x.2.2.map fun s => .agg s.cells))]⟩) (fun x=>x.1≤l.length∧RiseI slP l x.2.1 x.1∧InvO x.2.1 x.2.2) (fun x=>l.length-x.1) (0,[],[])
  (Le.mk [(0,.own 79 3 [])] (by simp [Chunk.new0];rfl) (by simp) (by simp) (.cons (.refl _) (.cons (.nil List.mem_cons_self) (.cons (.refl _) (.cons (.refl _) .nil)))) (.new List.mem_cons_self .nil)) ⟨Nat.zero_le _,RiseI.zero,InvO.nil⟩ ?_
 rintro ⟨i,P,out⟩ ⟨h2,h3,h4⟩
 simp only at h2 h3 h4 ⊢
 have hPl:=h3.len slP.irr
 have hol:out.length≤P.length:=WS (h4.lt.imp fun {a b} h e=>by subst e;exact h.elim (ordP.irr _) fun h=>ordP.irr _ h.2) h4.sub
 have hoa:=KK out
 rcases Nat.lt_or_ge i l.length with hi|hi
 rotate_left 1
 ·have hF:=fin i P out h3 (fun s hs=>(h3.all slP.irr (by omega)).2 s |>.2 hs) h4
  have hS:=YO l out hl (by omega)
  rw [hF] at hS
  conv=>whnf
  repeat' (first|(refine Br.dec (fun _=>?_) (fun _=>?_)<;>first|(exfalso;omega)|conv=>whnf)|(refine CallK.heap [(2000,0)] 0 (by repeat' (first|exact ArgsH.nil|refine ArgsH.cons ?_ ?_|exact LSub.refl _|exact LSub.p Sub.nils|exact LSub.p (Sub.tt rfl)|exact LSub.p (Sub.ff rfl)|exact LSub.p (Sub.int (by omega)))) (by refine BlksH.cons (j:=0) rfl rfl ?_ ?_;exact CSub.refl _;exact BlksH.nil) hS rfl rfl ?_;rintro l' H' ⟨rfl,rfl⟩;conv=>whnf))
  exact ⟨_,.hd rfl (by rw [← hF];simp),rfl⟩
 conv=>whnf
 repeat' (first|(intro (_:_≤9223372036854775807);conv=>whnf)|(refine Br.dec (fun _=>?_) (fun _=>?_)<;>first|(exfalso;omega)|conv=>whnf))
 refine LoopK.inv QQ (fun x:Nat×Option Step=>z5d l out i x.1 (x.2.getD st0) (.bool x.2.isSome)) (fun x=>x.1≤l.length∧LeastI slP l P x.1 x.2) (fun x=>l.length-x.1) (0,none) (Le.mk [] (by simp) (by simp) (by simp [z5d]) (.cons (.refl _) (.cons (.refl _) (.cons (.refl _) (.cons (.p (Sub.ff rfl)) (.cons (.refl _) (.cons (.refl _) (.cons (.refl _) (.cons (.refl _) (.cons (.refl _) .nil))))))))) (.cons rfl (.refl _) (.cons rfl (.refl _) .nil))) ⟨Nat.zero_le _,LeastI.zero⟩ ?_
 rintro ⟨k,o⟩ ⟨h5,h6⟩
 simp only at h5 h6 ⊢
 rcases Nat.lt_or_ge k l.length with hk|hk
 ·rcases List.eq_nil_or_concat out with rfl|⟨o',z,rfl⟩
  ·have hP:=h4.none
   subst hP
   have hnot:True→l[k]∉([]:List Step):=fun _ h=>by cases h
   have hmem:False→l[k]∈([]:List Step):=fun h=>h.elim
   cases o with
   | none =>
     simp only [z5d,Option.getD_none,Option.isSome_none]
     conv=>whnf
     repeat' (first|((first|intro (_:_≤9223372036854775807)|refine DrawK.auto QQ mixed (by kernel_rfl) ?_|refine And.intro rfl ?_|refine IdxK.map (by omega) (fun _=>rfl) ?_|refine Wr.i64 (by omega) (by omega) ?_);conv=>whnf)|(refine Br.dec (fun _=>?_) (fun _=>?_)<;>first|(exfalso;omega)|conv=>whnf)|(refine Br.n (fun _=>?_) (fun _=>?_)<;>conv=>whnf))
     all_goals first
      | (exfalso;simp_all;done)
      | exact ⟨(k+1,none),⟨by simp only;omega,h6.old hk (hmem (by assumption))⟩,by simp only;omega,Le.of_eq rfl⟩
      | exact ⟨(k+1,some l[k]),⟨by simp only;omega,h6.first hk (hnot trivial)⟩,by simp only;omega,(Le.mk [] (by simp) (by simp) (by simp [z5d]) (.cons (.refl _) (.cons (.refl _) (.cons (.refl _) (.cons (.p (Sub.tt rfl)) (.cons (.refl _) (.cons (.refl _) (.cons (.refl _) (.cons (.refl _) (.cons (.refl _) .nil))))))))) (.cons rfl (.refl _) (.cons rfl (.refl _) .nil)))⟩
      | trace_state
   | some m =>
     simp only [z5d,Option.getD_some,Option.isSome_some]
     have hS2:=XS l[k] m
     conv=>whnf
     repeat' (first|((first|intro (_:_≤9223372036854775807)|refine DrawK.auto QQ mixed (by kernel_rfl) ?_|refine And.intro rfl ?_|refine IdxK.map (by omega) (fun _=>rfl) ?_|refine Wr.i64 (by omega) (by omega) ?_|(refine CallK.pure hS2 (.cons (Sub.refl _) (.cons (Sub.refl _) .nil)) ?_;rintro _ rfl));conv=>whnf)|(refine Br.dec (fun _=>?_) (fun _=>?_)<;>first|(exfalso;omega)|conv=>whnf)|(refine Br.n (fun _=>?_) (fun _=>?_)<;>conv=>whnf)|(refine Br.b (fun _=>?_) (fun _=>?_)<;>conv=>whnf))
     all_goals first
      | (exfalso;simp_all;done)
      | exact ⟨(k+1,some m),⟨by simp only;omega,h6.old hk (hmem (by assumption))⟩,by simp only;omega,Le.of_eq rfl⟩
      | exact ⟨(k+1,some l[k]),⟨by simp only;omega,h6.less slP.trans hk (hnot trivial) (show slB l[k] m=true by assumption)⟩,by simp only;omega,(Le.mk [] (by simp) (by simp) (by simp [z5d]) (.cons (.refl _) (.cons (.refl _) (.cons (.refl _) (.cons (.p (Sub.tt rfl)) (.cons (.refl _) (.cons (.refl _) (.cons (.refl _) (.cons (.refl _) (.cons (.refl _) .nil))))))))) (.cons rfl (.refl _) (.cons rfl (.refl _) .nil)))⟩
      | (have hb:slB l[k] m=false:=by assumption
         exact ⟨(k+1,some m),⟨by simp only;omega,h6.more slP.total hk (fun h=>by unfold slP at h;rw [hb] at h;cases h)⟩,by simp only;omega,Le.of_eq rfl⟩)
      | trace_state
  ·rw [List.concat_eq_append] at *
   have hleft:=h4.left h3 (List.getElem_mem hk)
   have hnot:slB z l[k]=true→l[k]∉P:=fun h=>hleft.2 h
   have hmem:slB z l[k]=false→l[k]∈P:=fun h=>Classical.byContradiction fun hn=>by
    have:=hleft.1 hn
    unfold slP at this
    rw [h] at this
    cases this
   have g:((o'++[z]).map fun s=>AV.agg s.cells)[o'.length]? = some (.agg z.cells):=by simp
   cases o with
   | none =>
     simp only [z5d,Option.getD_none,Option.isSome_none]
     conv=>whnf
     repeat' (first|((first|intro (_:_≤9223372036854775807)|refine DrawK.auto QQ mixed (by kernel_rfl) ?_|refine And.intro rfl ?_|refine IdxK.map (by omega) (fun _=>rfl) ?_|refine Wr.i64 (by omega) (by omega) ?_|refine IdxL.mk o'.length (by simp) (by simp) ?_|refine LdOwn.mk o'.length 0 _ (by show (0+o'.length)*3+0=o'.length*3+0;omega) g ?_|(refine CallK.pure (XS z l[k]) (.cons (Sub.refl _) (.cons (Sub.refl _) .nil)) ?_;rintro _ rfl));conv=>whnf)|(refine Br.dec (fun _=>?_) (fun _=>?_)<;>first|(exfalso;omega)|conv=>whnf)|(refine Br.n (fun _=>?_) (fun _=>?_)<;>conv=>whnf))
     all_goals first
      | (exfalso;simp_all;done)
      | exact ⟨(k+1,none),⟨by simp only;omega,h6.old hk (hmem (by assumption))⟩,by simp only;omega,Le.of_eq rfl⟩
      | exact ⟨(k+1,some l[k]),⟨by simp only;omega,h6.first hk (hnot (by assumption))⟩,by simp only;omega,(Le.mk [] (by simp) (by simp) (by simp [z5d]) (.cons (.refl _) (.cons (.refl _) (.cons (.refl _) (.cons (.p (Sub.tt rfl)) (.cons (.refl _) (.cons (.refl _) (.cons (.refl _) (.cons (.refl _) (.cons (.refl _) .nil))))))))) (.cons rfl (.refl _) (.cons rfl (.refl _) .nil)))⟩
      | trace_state
   | some m =>
     simp only [z5d,Option.getD_some,Option.isSome_some]
     have hS2:=XS l[k] m
     conv=>whnf
     repeat' (first|((first|intro (_:_≤9223372036854775807)|refine DrawK.auto QQ mixed (by kernel_rfl) ?_|refine And.intro rfl ?_|refine IdxK.map (by omega) (fun _=>rfl) ?_|refine Wr.i64 (by omega) (by omega) ?_|refine IdxL.mk o'.length (by simp) (by simp) ?_|refine LdOwn.mk o'.length 0 _ (by show (0+o'.length)*3+0=o'.length*3+0;omega) g ?_|(refine CallK.pure (XS z l[k]) (.cons (Sub.refl _) (.cons (Sub.refl _) .nil)) ?_;rintro _ rfl)|(refine CallK.pure hS2 (.cons (Sub.refl _) (.cons (Sub.refl _) .nil)) ?_;rintro _ rfl));conv=>whnf)|(refine Br.dec (fun _=>?_) (fun _=>?_)<;>first|(exfalso;omega)|conv=>whnf)|(refine Br.n (fun _=>?_) (fun _=>?_)<;>conv=>whnf)|(refine Br.b (fun _=>?_) (fun _=>?_)<;>conv=>whnf))
     all_goals first
      | (exfalso;simp_all;done)
      | exact ⟨(k+1,some m),⟨by simp only;omega,h6.old hk (hmem (by assumption))⟩,by simp only;omega,Le.of_eq rfl⟩
      | exact ⟨(k+1,some l[k]),⟨by simp only;omega,h6.less slP.trans hk (hnot (by assumption)) (show slB l[k] m=true by assumption)⟩,by simp only;omega,(Le.mk [] (by simp) (by simp) (by simp [z5d]) (.cons (.refl _) (.cons (.refl _) (.cons (.refl _) (.cons (.p (Sub.tt rfl)) (.cons (.refl _) (.cons (.refl _) (.cons (.refl _) (.cons (.refl _) (.cons (.refl _) .nil))))))))) (.cons rfl (.refl _) (.cons rfl (.refl _) .nil)))⟩
      | (have hb:slB l[k] m=false:=by assumption
         exact ⟨(k+1,some m),⟨by simp only;omega,h6.more slP.total hk (fun h=>by unfold slP at h;rw [hb] at h;cases h)⟩,by simp only;omega,Le.of_eq rfl⟩)
      | trace_state
 ·obtain rfl:k=l.length:=by omega
  cases o with
  | none =>
    have hF:=fin i P out h3 (by have:=h6;rw [LeastI,List.take_length] at this;exact this) h4
    have hS:=YO l out hl (by omega)
    rw [hF] at hS
    simp only [z5d,Option.getD_none,Option.isSome_none]
    conv=>whnf
    repeat' (first|((first|intro (_:_≤9223372036854775807)|refine DrawK.auto QQ mixed (by kernel_rfl) ?_|refine And.intro rfl ?_|(refine And.intro ⟨by decide,by decide⟩ ?_)|refine BsK.pure (fun x hx=>by rcases List.mem_singleton.1 hx with rfl;rfl) rfl ?_|refine Wr.i64 (by omega) (by omega) ?_);conv=>whnf)|(refine Br.dec (fun _=>?_) (fun _=>?_)<;>first|(exfalso;omega)|conv=>whnf)|(refine Br.n (fun _=>?_) (fun _=>?_)<;>conv=>whnf)|(refine CallK.heap [(2000,0)] 0 (by repeat' (first|exact ArgsH.nil|refine ArgsH.cons ?_ ?_|exact LSub.refl _|exact LSub.p Sub.nils|exact LSub.p (Sub.tt rfl)|exact LSub.p (Sub.ff rfl)|exact LSub.p (Sub.int (by omega)))) (by refine BlksH.cons (j:=0) rfl rfl ?_ ?_;exact CSub.refl _;exact BlksH.nil) hS rfl rfl ?_;rintro l' H' ⟨rfl,rfl⟩;conv=>whnf))
    all_goals first
     | (exfalso;simp_all;done)
     | exact ⟨_,.hd rfl (by rw [← hF];simp),rfl⟩
     | trace_state
  | some m =>
    have hm : ∀ p∈P,slP p m:=fun p hp=>h3.seg m h6.1 h6.2.1 p hp
    have hR:=h3.snoc h6
    simp only [z5d,Option.getD_some,Option.isSome_some]
    rcases List.eq_nil_or_concat out with rfl|⟨o',z,rfl⟩
    ·have hI:=h4.new hm (fun o z h=>by simp at h)
     conv=>whnf
     repeat' (first|((first|intro (_:_≤9223372036854775807)|refine DrawK.auto QQ mixed (by kernel_rfl) ?_|refine And.intro rfl ?_|(refine And.intro ⟨by decide,by decide⟩ ?_)|refine BsK.pure (fun x hx=>by rcases List.mem_singleton.1 hx with rfl;rfl) rfl ?_|refine Wr.i64 (by omega) (by omega) ?_|refine AppK.mk (by simp) rfl (by show (0+1)*24≤140737488355328;decide) (by show 0+1≤9223372036854775807;decide) (fun x hx=>by rcases List.mem_singleton.1 hx with rfl;exact ⟨rfl,rfl⟩) ?_);conv=>whnf)|(refine Br.dec (fun _=>?_) (fun _=>?_)<;>first|(exfalso;omega)|conv=>whnf)|(refine Br.n (fun _=>?_) (fun _=>?_)<;>conv=>whnf))
     all_goals first
      | (exfalso;simp_all;done)
      | exact ⟨(i+1,P++[m],[m]),⟨by simp only;omega,hR,hI⟩,by simp only;omega,Le.of_eq rfl⟩
      | trace_state
    ·rw [List.concat_eq_append] at *
     have g:((o'++[z]).map fun s=>AV.agg s.cells)[o'.length]? = some (.agg z.cells):=by simp
     have hdl:((o'++[z]).map fun s=>AV.agg s.cells).take o'.length=o'.map fun s=>AV.agg s.cells:=by rw [List.map_append,List.take_append_of_le_length (by simp),List.take_of_length_le (by simp)]
     have hlz:(o'++[z]).length=o'.length+1:=by simp
     have hma:(o'++[m]).map (fun s=>AV.agg s.cells)=(o'.map fun s=>AV.agg s.cells)++[.agg m.cells]:=by simp
     have hmb:((o'++[z])++[m]).map (fun s=>AV.agg s.cells)=((o'++[z]).map fun s=>AV.agg s.cells)++[.agg m.cells]:=by simp
     have hsame:=fun h1 h2=>h4.same hm (z:=z) h1 h2
     have hnew:=fun hn : ¬(z.src=m.src∧z.dst=m.dst)=>h4.new hm (fun o y h=>by
      have:=List.append_inj_right' h rfl
      have hy:z=y:=by simpa using this
      exact hy▸hn)
     conv=>whnf
     repeat' (first|((first|intro (_:_≤9223372036854775807)|refine And.intro rfl ?_|(refine And.intro ⟨by decide,by decide⟩ ?_)|refine BsK.pure (fun x hx=>by rcases List.mem_singleton.1 hx with rfl;rfl) rfl ?_|refine Wr.i64 (by omega) (by omega) ?_|refine DrawK.le (id:=16) (Le.short 0 o'.length) (DrawK.auto QQ mixed (by kernel_rfl) ?_)|refine DrawK.auto QQ mixed (by kernel_rfl) ?_|refine IdxL.mk o'.length (by simp) (by simp) ?_|refine LdOwn.mk o'.length 0 _ (by show (0+o'.length)*3+0=o'.length*3+0;omega) g ?_|refine LdOwn.mk o'.length 1 _ (by show (0+o'.length)*3+1=o'.length*3+1;omega) g ?_|refine SlK.mk 0 o'.length rfl (by simp) (by omega) (by simp) ?_|refine AppK.mk (n:=o'.length-0) (by simp) rfl (by show (o'.length-0+1)*24≤140737488355328;omega) (by show o'.length-0+1≤9223372036854775807;omega) (fun x hx=>by rcases List.mem_singleton.1 hx with rfl;exact ⟨rfl,rfl⟩) ?_|refine AppK.mk (n:=(o'++[z]).length) (by simp) rfl (by simp only [hlz];show (o'.length+1+1)*24≤140737488355328;omega) (by simp only [hlz];show o'.length+1+1≤9223372036854775807;omega) (fun x hx=>by rcases List.mem_singleton.1 hx with rfl;exact ⟨rfl,rfl⟩) ?_);conv=>whnf)|(refine Br.dec (fun _=>?_) (fun _=>?_)<;>first|(exfalso;omega)|conv=>whnf)|(refine Br.n (fun _=>?_) (fun _=>?_)<;>conv=>whnf))
     all_goals first
      | contradiction
      | (refine ⟨(i+1,P++[m],o'++[m]),⟨by simp only;omega,hR,hsame (by assumption) (by assumption)⟩,by simp only;omega,Le.of_eq ?_⟩
         rw [hma,← hdl,List.length_append]
         rfl)
      | (refine ⟨(i+1,P++[m],(o'++[z])++[m]),⟨by simp only;omega,hR,hnew (fun hh=>by first|exact absurd hh.1 (by assumption)|exact absurd hh.2 (by assumption))⟩,by simp only;omega,Le.of_eq ?_⟩
         rw [hmb,show ((o'++[z])++[m]).length=(o'++[z]).length+1 by simp]
         rfl)
      | trace_state
open Go.Proofs
theorem z6v (f:Pr) (n:Str):NY (flatU f) f.fin n=atB f n:=by
 unfold NY atB
 rw [← show (flatU f).map RI.s=flL f.body from DW 1 0 false f.body,List.find?_map]
 have hq:(fun t:S=>t.labels.any fun s=>n==s)∘RI.s=fun x:RI=>inS x.s.labels n:=by
  funext x
  exact (q4u _ _).symm
 rw [hq]
 cases (flatU f).find? fun x=>inS x.s.labels n with
 | some x=>rfl
 | none =>
   simp only [Option.map_none]
   rw [q4u]
   cases f.fin.any fun s=>n==s<;>rfl
theorem YI {p:Pg} (hm:WI p=true) {j:Nat} {f:Pr} (hj:p.procs[j]? = some f):(flatU f).length≤200:=by
 rw [show flatU f=fuL 1 0 false f.body from rfl,WQ]
 have:=HM _ _ (List.mem_of_getElem? hj)
 have:=ZX hm
 omega
def x9v (f:Pr):AV := .agg [YN (flatU f),QD f.fin]
theorem FJ (p:Pg) (j:Nat) (f:Pr) (h:XK p=true) (hj:p.procs[j]? = some f) (it:Item) (hi:it∈itsOf p j f):SpecP Tryz.prog 146 [x9v f,.agg it.s.cells] (fun r=>r=QF (WY (sheetOf p) f it)):=by
 refine SpecP.body KA QQ Tryz.func146 rfl Tryz.call146 (by show 2≤_;decide) ?_
 conv=>whnf
 have hm:=(QK h).1
 have hlU:=YI hm hj
 have hLl:=ZI (flatU f)
 have hB:=FI (by omega) (x3i hm hj hi)
 have hI1:=ZB (flatU f) it.s.id false it.next
 rw [q2a hm hj (PK hi),cond_false] at hI1
 have hI2:=ZB (flatU f) it.s.id true it.next
 rw [q2a hm hj (PK hi),cond_true] at hI2
 have hI3:=ZB (flatU f) it.s.id false it.s.id
 rw [q2a hm hj (PK hi),cond_false] at hI3
 have hA:=JK (flatU f) it.s.id
 rw [q6l hm hj hi] at hA
 have hBe:=LR (flatU f) f.fin it.s.name
 rw [z6v] at hBe
 have hx:it.s.kind=7 → ∃ u,(sheetOf p).l[(it.loop-1).toNat]? = some u∧SpecP Tryz.prog 87 [YN (flatU f),.int .i64 it.loop] (fun r=>r = .int .i64 u.next):=fun hk=>by
  have h1:=(BG h hj).1 it hi hk
  have h2:=(MO hi).2
  obtain ⟨u,hu,hui⟩:=GN hj (k:=(it.loop-1).toNat) (by omega) (by omega)
  have h3:=x1f h hj (by omega) (by omega) hu
  have h4:=FI (l:=flatU f) (by omega) (x3i hm hj hui)
  rw [show u.s.id=it.loop by omega] at h4
  exact ⟨u,hu,h4⟩
 generalize flatU f=L at *
 repeat' (first|((first|refine DrawK.auto QQ mixed (by kernel_rfl) ?_|refine And.intro rfl ?_|(refine And.intro ⟨by decide,by decide⟩ ?_)|refine BsK.pure (fun x hx=>by rcases List.mem_singleton.1 hx with rfl;rfl) rfl ?_|(refine CallK.pure hB (.cons (Sub.refl _) (.cons (Sub.refl _) .nil)) ?_;rintro _ rfl)|(refine CallK.pure hI1 (.cons (Sub.refl _) (.cons (Sub.refl _) (.cons (Sub.ff rfl) (.cons (Sub.refl _) .nil)))) ?_;rintro _ rfl)|(refine CallK.pure hI2 (.cons (Sub.refl _) (.cons (Sub.refl _) (.cons (Sub.tt rfl) (.cons (Sub.refl _) .nil)))) ?_;rintro _ rfl)|(refine CallK.pure hI3 (.cons (Sub.refl _) (.cons (Sub.refl _) (.cons (Sub.ff rfl) (.cons (Sub.refl _) .nil)))) ?_;rintro _ rfl)|(refine CallK.pure hA (.cons (Sub.refl _) (.cons (Sub.refl _) .nil)) ?_;rintro _ rfl)|(refine CallK.pure hBe (.cons (Sub.refl _) (.cons (Sub.refl _) (.cons (Sub.refl _) .nil))) ?_;rintro _ rfl)|refine BsK.pureL rfl rfl ?_|(obtain ⟨u,hu1,hu2⟩:=hx (by assumption);refine CallK.pure hu2 (.cons (Sub.refl _) (.cons (Sub.refl _) .nil)) ?_;rintro _ rfl));conv=>whnf)|(refine Br.dec (fun _=>?_) (fun _=>?_)<;>first|(exfalso;omega)|conv=>whnf))
 all_goals first
  | (exfalso;omega)
  | exact RetK.p (by unfold WY;rw [if_neg (by omega),if_neg (by omega),if_pos (by omega),hu1];rfl)
  | exact RetK.p (by unfold WY;rw [if_pos (by omega)];rfl)
  | exact RetK.p (by unfold WY;rw [if_neg (by omega),if_pos (by omega)];rfl)
  | exact RetK.p (by unfold WY;rw [if_neg (by omega),if_neg (by omega),if_neg (by omega),if_pos (by omega)];rfl)
  | exact RetK.p (by unfold WY;rw [if_neg (by omega),if_neg (by omega),if_neg (by omega),if_neg (by omega),if_pos (by omega)];rfl)
  | exact RetK.p (by unfold WY;rw [if_neg (by omega),if_neg (by omega),if_neg (by omega),if_neg (by omega),if_neg (by omega),if_pos (by omega)];rfl)
  | exact RetK.p (by unfold WY;rw [if_neg (by omega),if_neg (by omega),if_neg (by omega),if_neg (by omega),if_neg (by omega),if_neg (by omega)];rfl)
  | trace_state
theorem w3f {p:Pg} (h:WI p=true) {j:Nat} {f:Pr} (hj:p.procs[j]? = some f):(itsOf p j f).length=(flatU f).length ∧ ∀ (k:Nat) (hk:k<(flatU f).length) (hk':k<(itsOf p j f).length),(itsOf p j f)[k].s=(flatU f)[k].s:=by
 obtain ⟨m,hr⟩:=DX h hj
 have hpar:=w7z (j:Nat) 1 0 false f.body (-1) 0 (QN p.procs j) hr
 have hlen:(itsOf p j f).length=(flatU f).length:=by simpa [itsOf,flatU] using congrArg List.length hpar
 refine ⟨hlen,fun k hk hk' => ?_⟩
 have h1:=congrArg (fun l=>l[k]?) hpar
 have e1:itL (j:Nat) 0 (-1) 0 (QN p.procs j) f.body=itsOf p j f:=rfl
 have e2:fuL 1 0 false f.body=flatU f:=rfl
 rw [e1,e2] at h1
 simp only [List.getElem?_map,List.getElem?_eq_getElem hk,List.getElem?_eq_getElem hk',Option.map_some] at h1
 exact congrArg Prod.fst (Option.some.inj h1)
theorem w3i {p:Pg} (h:XK p=true) {j:Nat} {f:Pr} (hj:p.procs[j]? = some f) : ∀ s∈QH p j f,leSt s:=fun s hs=>by
 obtain ⟨h1,h2⟩:=(BG h hj).2.1 s hs
 obtain ⟨_,_,hcn⟩:=UY h
 obtain ⟨_,_,_,hlen,hsp⟩:=QJ p
 obtain ⟨_,_,hle,_⟩:=hsp j f hj
 unfold okI at h2
 unfold leSt
 omega
def z9p (p:Pg) (j:Nat) (f:Pr) (k:Nat):List Step:=⟨0,w8r p j f,1⟩::((itsOf p j f).take k).flatMap fun it=>(WY (sheetOf p) f it).map (Step.mk it.s.id · 1)
theorem x6e {p:Pg} {j:Nat} {f:Pr} {k:Nat} (hk:k<(itsOf p j f).length):z9p p j f (k+1)=z9p p j f k++(WY (sheetOf p) f (itsOf p j f)[k]).map (Step.mk (itsOf p j f)[k].s.id · 1):=by
 unfold z9p
 rw [List.take_succ_eq_append_getElem hk,List.flatMap_append,List.cons_append]
 simp
theorem q5u {p:Pg} {j:Nat} {f:Pr} {k:Nat} (hk:(itsOf p j f).length≤k):z9p p j f k=QH p j f:=by
 unfold z9p
 rw [List.take_of_length_le hk]
 rfl
theorem q5f (p:Pg) (j:Nat) (f:Pr) : ∀ k,(z9p p j f k).length≤1+2*k
 | 0=>by unfold z9p;simp
 | k+1=>by
   rcases Nat.lt_or_ge k (itsOf p j f).length with hk|hk
   ·have:=q5f p j f k
    have h2:=(x5f (sheetOf p) f (itsOf p j f)[k]).2.1
    rw [x6e hk,List.length_append,List.length_map]
    omega
   ·have:=q5f p j f k
    rw [q5u (by omega)]
    rw [q5u hk] at this
    omega
theorem HB (p:Pg) (j:Nat) (f:Pr) (h:XK p=true) (hj:p.procs[j]? = some f):SpecP Tryz.prog 90 [x9v f] (fun r=>r=QL (QX p j f).real):=by
 refine SpecP.body KG QQ Tryz.func90 rfl Tryz.call90 (by show 1≤_;decide) ?_
 conv=>whnf
 have hm:=(QK h).1
 have hlU:=YI hm hj
 have hLl:=ZI (flatU f)
 obtain ⟨hil,hat⟩:=w3f hm hj
 have hI:=ZB (flatU f) 0 false (-1)
 rw [z0q hm hj,← w2v h hj] at hI
 have hG:=fun it hi=>FJ p j f h hj it hi
 have hreal:(QX p j f).real=ZM (QH p j f):=rfl
 have hle:=w3i h hj
 have hrl:(QH p j f).length≤1000:=by
  rw [← q5u (Nat.le_refl _)]
  have:=q5f p j f (itsOf p j f).length
  omega
 have hS:=JQ (QH p j f) (by omega) hle
 rw [hreal]
 repeat' ((first|intro (_:_≤9223372036854775807)|refine And.intro rfl ?_|(refine And.intro ⟨by decide,by decide⟩ ?_)|(refine CallK.pure hI (.cons (Sub.refl _) (.cons (Sub.refl _) (.cons (Sub.ff rfl) (.cons (Sub.refl _) .nil)))) ?_;rintro _ rfl)|refine BsK.own (fun x hx=>by rcases List.mem_singleton.1 hx with rfl;rfl) rfl ?_);conv=>whnf)
 refine LoopK.inv QQ (fun x:Nat=>⟨[(1,.p (.ip [YN (flatU f),QD f.fin])),(3,.hd 0 0 (z9p p j f x).length),(14,.p (YN (flatU f))),(15,.p (.int .i64 ((flatU f).map fun i=>AV.agg i.cells).length)),(16,.p (.int .i64 x))],[(0,.own 79 3 ((z9p p j f x).map fun s => .agg s.cells))]⟩) (fun x=>x≤(flatU f).length) (fun x=>(flatU f).length-x) 0 (Le.of_eq rfl) (Nat.zero_le _) ?_
 intro k hk
 have htl:=q5f p j f k
 rcases Nat.lt_or_ge k (flatU f).length with hk2|hk2
 ·have hki:k<(itsOf p j f).length:=by omega
  have hst:=x6e hki
  have hGk:=hG _ (List.getElem_mem hki)
  have hsk:=hat k hk2 hki
  have hgc:=(x5f (sheetOf p) f (itsOf p j f)[k]).2.1
  have hid:(itsOf p j f)[k].s.id=(flatU f)[k].s.id:=by rw [hsk]
  rw [hsk] at hGk
  rw [hid] at hst
  generalize WY (sheetOf p) f (itsOf p j f)[k]=gs at *
  have hgl:(gs.map (AV.int .i64)).length=gs.length:=List.length_map _
  generalize z9p p j f k=acc at *
  have hst2:(z9p p j f (k+1)).length=acc.length+gs.length:=by rw [hst,List.length_append,List.length_map]
  conv=>whnf
  repeat' (first|((first|intro (_:_≤9223372036854775807)|refine And.intro rfl ?_|refine IdxK.map (by omega) (fun _=>rfl) ?_|(refine CallK.pure hGk (.cons (Sub.refl _) (.cons (Sub.refl _) .nil)) ?_;rintro _ rfl));conv=>whnf)|(refine Br.dec (fun _=>?_) (fun _=>?_)<;>first|(exfalso;omega)|conv=>whnf))
  refine LoopK.inv QQ (fun q:Nat=>⟨[(1,.p (.ip [YN (flatU f),QD f.fin])),(3,.hd 0 0 (acc.length+q)),(5,.p (.ip (flatU f)[k].cells)),(14,.p (YN (flatU f))),(15,.p (.int .i64 ((flatU f).map fun i=>AV.agg i.cells).length)),(16,.p (.int .i64 k)),(23,.p (QF gs)),(24,.p (.int .i64 (gs.map (AV.int .i64)).length)),(25,.p (.int .i64 q))],[(0,.own 79 3 ((acc++(gs.take q).map (Step.mk (flatU f)[k].s.id · 1)).map fun s => .agg s.cells))]⟩) (fun q=>q≤gs.length) (fun q=>gs.length-q) 0 (Le.of_eq (by rw [List.take_zero,List.map_nil,List.append_nil];rfl)) (Nat.zero_le _) ?_
  intro q hq
  rcases Nat.lt_or_ge q gs.length with hq2|hq2
  ·have e1:acc++(gs.take (q+1)).map (Step.mk (flatU f)[k].s.id · 1)=(acc++(gs.take q).map (Step.mk (flatU f)[k].s.id · 1))++[⟨(flatU f)[k].s.id,gs[q],1⟩]:=by rw [List.take_succ_eq_append_getElem hq2,List.map_append,← List.append_assoc];rfl
   have e2:(acc++(gs.take q).map (Step.mk (flatU f)[k].s.id · 1)).length=acc.length+q:=by rw [List.length_append,List.length_map,List.length_take];omega
   generalize acc++(gs.take q).map (Step.mk (flatU f)[k].s.id · 1)=row at *
   have hrw:=KK row
   conv=>whnf
   repeat' (first|((first|refine And.intro rfl ?_|(refine And.intro ⟨by decide,by decide⟩ ?_)|refine BsK.pure (fun x hx=>by rcases List.mem_singleton.1 hx with rfl;rfl) rfl ?_|refine IdxK.map (by omega) (fun _=>rfl) ?_|refine Wr.i64 (by omega) (by omega) ?_|refine AppK.mk (by omega) rfl (by show (acc.length+q+1)*24≤140737488355328;omega) (by show acc.length+q+1≤9223372036854775807;omega) (fun x hx=>by rcases List.mem_singleton.1 hx with rfl;exact ⟨rfl,rfl⟩) ?_);conv=>whnf)|(refine Br.dec (fun _=>?_) (fun _=>?_)<;>first|(exfalso;omega)|conv=>whnf))
   all_goals exact ⟨q+1,by omega,by omega,Le.of_eq (by rw [e1,List.map_append];rfl)⟩
  ·obtain rfl:q=gs.length:=by omega
   rw [List.take_length]
   conv=>whnf
   repeat' (first|(refine Wr.i64 (by omega) (by omega) ?_;conv=>whnf)|(refine Br.dec (fun _=>?_) (fun _=>?_)<;>first|(exfalso;omega)|conv=>whnf))
   all_goals exact ⟨k+1,by omega,by omega,Le.of_eq (by rw [hst2,hst];rfl)⟩
 ·rw [q5u (by omega)]
  conv=>whnf
  repeat' (first|(refine CallK.give hS (.cons (.hd rfl (by simp)) .nil) ?_;rintro _ rfl;conv=>whnf)|(refine Br.dec (fun _=>?_) (fun _=>?_)<;>first|(exfalso;omega)|conv=>whnf))
  all_goals exact RetK.p rfl
open Go.Proofs
open Go.Proofs
open Go.Proofs
def v1m (l:List Int) (i:Nat):Int:=l.getD i 0
def srt (K:Int→Int) (l:List Int) (a b:Nat):Prop := ∀ i k,a≤i→i<k→k<b→K (v1m l k)≤K (v1m l i)
def hi0 (a m b:Nat):Nat:=if (a+b) / 2<m then (a+b) / 2 else m
open Go.Proofs
open Go.Proofs
open Go.Proofs
def blk (K:Int→Int) (l:List Int) (bs n:Nat):Prop := ∀ q,srt K l (q*bs) (min (q*bs+bs) n)
open Go.Proofs
open Go.Proofs
open Go.Proofs
open Go.Proofs
open Go.Proofs
open Go.Proofs
open Go.Proofs
open Go.Proofs
section
variable {p:Pg} {j:Nat} {f:Pr}
end
open Go.Proofs
section
variable {p:Pg} {j:Nat} {f:Pr}
end
open Go.Proofs
theorem z2x {σ:Mem} {a b:Int} {v:Value} (h:Rep σ (.agg [.int .i64 a,.int .i64 b]) v):v = .agg #[.int .i64 a,.int .i64 b]:=by
 cases h with
 | agg cs vs u hn hc hr =>
   have hs:vs.size=2:=hn
   have g : ∀ (j:Nat) (n:Int),[AV.int .i64 a,.int .i64 b][j]? = some (.int .i64 n)→vs[j]? = some (.int .i64 n):=fun j n hj=>by
    have h1:=hc j _ hj
    have h2:=hr j _ hj
    cases hu:u j<;>rw [hu] at h2<;>cases h2
    rw [h1,hu]
   congr 1
   apply Array.ext_getElem?
   intro i
   match i with
   | 0=>exact g 0 _ rfl
   | 1=>exact g 1 _ rfl
   | i+2=>rw [Array.getElem?_eq_none (by omega),Array.getElem?_eq_none (by simp)]
theorem ValO.pairNe {hr:Bool} {s:St} {o:Oper} {K:LV→Prop} {x y:Operand} {u:TypeId} (hop:o.op = .binOp .neq 47 x y u) {a b:Int×Int} (hx:QI s.sl x = .p (.agg [.int .i64 a.1,.int .i64 a.2])) (hy:QI s.sl y = .p (.agg [.int .i64 b.1,.int .i64 b.2]))
  (hK:K (.p (.bool (!decide (a=b))))):ValO Tryz.prog hr s o K:=by
 refine ⟨fun σ β ac w hs _=>⟨_,.bool (!decide (a=b)),hK,.p (.bool _),fun w' _ _ => ?_⟩⟩
 have h1:ac.eval x = .agg #[.int .i64 a.1,.int .i64 a.2]:=by
  have:=QU hs x
  rw [hx] at this
  cases this with
  | p h=>exact z2x h
 have h2:ac.eval y = .agg #[.int .i64 b.1,.int .i64 b.2]:=by
  have:=QU hs y
  rw [hy] at this
  cases this with
  | p h=>exact z2x h
 have hu:Tryz.prog.underlying 47=some (.array 2 3):=by kernel_rfl
 have hi:Tryz.prog.underlying 3=some (.int .i64):=by kernel_rfl
 have hin:Tryz.prog.info? 3=some ((Tryz.prog.info? 3).getD default):=by kernel_rfl
 have hce:Tryz.prog.cellsOf 3=1:=by kernel_rfl
 have he:(Op.equalIn 10000 47 (.agg #[.int .i64 a.1,.int .i64 a.2]) (.agg #[.int .i64 b.1,.int .i64 b.2])).run Tryz.prog w' = .ok (decide (a=b)) w':=by
  rw [run_equalIn_array w' 9999 _ _ hu hin,hce]
  have p0 : ∀ x y:Int,(part 3 #[.int .i64 x,.int .i64 y] 0).run Tryz.prog w' = .ok (.int .i64 x) w':=fun x y=>run_part_plain w' (by kernel_rfl) rfl
  have p1 : ∀ x y:Int,(part 3 #[.int .i64 x,.int .i64 y] 1).run Tryz.prog w' = .ok (.int .i64 y) w':=fun x y=>run_part_plain w' (by kernel_rfl) rfl
  have ei : ∀ x y:Int,(Op.equalIn 9999 3 (.int .i64 x) (.int .i64 y)).run Tryz.prog w' = .ok (x==y) w':=fun a b=>run_equalIn_int (P:=Tryz.prog) w' 9998 3 .i64 .i64 a b hi
  have e:decide (a=b)=((a.1==b.1)&&(a.2==b.2)):=by
   cases a;cases b
   simp only [Prod.mk.injEq,Bool.decide_and]
   rfl
  rw [e,show List.range 2=[0,1] from rfl]
  simp only [Op.eqItems,Nat.zero_mul,Nat.one_mul,Sem.run_bind,p0,p1,Result.andThen_ok,ei]
  cases h1:(a.1==b.1)<;>cases h2:(a.2==b.2)<;>simp [p1,ei,h1,h2]
 simp only [execOp,hop,h1,h2,Sem.run_bind,run_eqGuard_agg _ _ _ _ _ _ _ (show Tryz.prog.eqGuardType Tryz.prog.depth 47=false by kernel_rfl),Result.andThen_ok,run_neq_struct,he,Sem.run_pure]
theorem BL (l m:List (Int×Int)):SpecP Tryz.prog 41 [.sl (avP l),.sl (avP m)] (fun r=>r = .bool (decide (l=m))):=by
 refine SpecP.body HE QQ Tryz.func41 rfl Tryz.call41 (by show 2≤_;decide) ?_
 conv=>whnf
 have h1:(avP l).length=l.length:=by unfold avP;rw [List.length_map]
 have h2:(avP m).length=m.length:=by unfold avP;rw [List.length_map]
 repeat' (first|(intro (_:_≤9223372036854775807);conv=>whnf)|(refine Br.dec2 (fun _=>?_) (fun _=>?_)<;>first|(exfalso;omega)|conv=>whnf))
 all_goals first
  | exact RetK.ff (decide_eq_false fun h=>by subst h;omega)
  | skip
 have hlen:l.length=m.length:=by omega
 refine LoopK.inv QQ (fun j:Nat=>⟨[(0,.p (.sl (avP l))),(1,.p (.sl (avP m))),(12,.p (.int .i64 (avP l).length)),(13,.p (.int .i64 j))],[]⟩) (fun j=>j≤l.length∧l.take j=m.take j) (fun j=>l.length-j) 0 (Le.of_eq rfl) ⟨Nat.zero_le _,rfl⟩ ?_
 rintro j ⟨h3,h4⟩
 rcases Nat.lt_or_ge j l.length with hj|hj
 ·have e1:(avP l)[j]? = some (.agg [.int .i64 l[j].1,.int .i64 l[j].2]):=by simp [avP,hj]
  have e2:(avP m)[j]? = some (.agg [.int .i64 (m[j]'(by omega)).1,.int .i64 (m[j]'(by omega)).2]):=by simp [avP,show j<m.length by omega]
  have hst:=fun (he:l[j]=(m[j]'(by omega)))=>q7g h4 hj (by omega) he
  have hno:l[j]≠(m[j]'(by omega)) → ¬l=m:=fun hne he=>hne (by subst he;rfl)
  generalize l[j]=u at e1 hst hno
  generalize (m[j]'(by omega))=v at e2 hst hno
  conv=>whnf
  repeat' (first|((first|refine DrawK.auto QQ mixed (by kernel_rfl) ?_|refine Wr.i64 (by omega) (by omega) ?_|(refine IdxK.at (k:=j) rfl e1 rfl ?_)|(refine IdxK.at (k:=j) rfl e2 rfl ?_)|refine ValO.pairNe rfl rfl rfl ?_);conv=>whnf)|(refine Br.dec (fun _=>?_) (fun _=>?_)<;>first|(exfalso;omega)|conv=>whnf)|(refine Br.dec2 (fun _=>?_) (fun _=>?_)<;>first|(exfalso;omega)|conv=>whnf))
  all_goals first
   | exact RetK.ff (decide_eq_false (hno (by simp_all)))
   | exact ⟨j+1,⟨by omega,hst (by simp_all)⟩,by omega,Le.of_eq rfl⟩
   | skip
 ·conv=>whnf
  repeat' (refine Br.dec (fun _=>?_) (fun _=>?_)<;>first|(exfalso;omega)|conv=>whnf)
  exact RetK.tt (decide_eq_true (x3n h4 hj (by omega)))
open Go.Proofs
def avF (nx:List (List Int)) (n b:Nat):Nat→Nat→Bool
 | 0,_=>false
 | k+1,a=>(decide (a=n-1)&&decide (b≠n-1))||(decide (a≠b)&&(nx.getD a []).any fun t=>decide (0≤t)&&avF nx n b k t.toNat)
theorem z8v {nx:List (List Int)} {n b:Nat} : ∀ (k a:Nat),avF nx n b k a=true→Avd nx n b a
 | 0,_,h=>by cases h
 | k+1,a,h=>by
   rw [avF,Bool.or_eq_true,Bool.and_eq_true,Bool.and_eq_true,decide_eq_true_eq,decide_eq_true_eq,decide_eq_true_eq,List.any_eq_true] at h
   rcases h with ⟨rfl,h⟩|⟨h1,t,ht,h2⟩
   ·exact .exit h
   ·rw [Bool.and_eq_true,decide_eq_true_eq] at h2
    exact .step h1 (by rw [Int.toNat_of_nonneg h2.1];exact ht) (z8v k _ h2.2)
theorem x5w {n:Nat} {nx:List (List Int)} {G:List (List Bool)} (hl:G.length=n) (hr : ∀ r∈G,r.length=n) (hlast:G.getD (n-1) []=filRow n (n-1))
  (hfix:((List.range (n-1)).all fun a=>decide (G.getD a []=rowF n nx G a))=true) (hmin:((List.range n).all fun a=>(List.range n).all fun b=>bitF G a b||avF nx n b n a)=true):FollowP n nx G:=by
 have hf : ∀ a,a<n-1→G.getD a []=rowF n nx G a:=fun a ha=>of_decide_eq_true (List.all_eq_true.1 hfix a (List.mem_range.2 ha))
 refine ⟨⟨hl,hr,hlast,fun a b ha hb h => ?_,fun a b ha hb h => ?_⟩,hf⟩
 ·unfold bitF
  rw [hf a ha]
  exact h
 ·have h1:=List.all_eq_true.1 (List.all_eq_true.1 hmin a (List.mem_range.2 ha)) b (List.mem_range.2 hb)
  rw [h,Bool.false_or] at h1
  exact z8v _ _ h1
theorem w9k:ZF (QX someP 1 f1) f1=[(0,1),(0,5),(1,2),(2,3),(2,4),(3,4),(3,5),(4,5)]:=by
 unfold ZF
 rw [v1s]
 kernel_rfl
theorem v1f:ZF (QX someP 0 f0) f0=[(0,1),(0,5),(1,2),(2,3),(3,4),(4,5)]:=by
 unfold ZF
 rw [v2v]
 kernel_rfl
def fol1:List (List Bool):=[[true,false,false,false,false,true],[false,true,true,false,false,true],[false,false,true,false,false,true],[false,false,false,true,false,true],[false,false,false,false,true,true],[false,false,false,false,false,true]]
def fol0:List (List Bool):=[[true,false,false,false,false,true],[false,true,true,true,true,true],[false,false,true,true,true,true],[false,false,false,true,true,true],[false,false,false,false,true,true],[false,false,false,false,false,true]]
theorem v1q:w5p 6 (UW 6 [(0,1),(0,5),(1,2),(2,3),(2,4),(3,4),(3,5),(4,5)])=fol1:=(x5w (by kernel_rfl) (by decide) (by kernel_rfl) (by kernel_rfl) (by kernel_rfl)).eq.symm
theorem v0d:w5p 6 (UW 6 [(0,1),(0,5),(1,2),(2,3),(3,4),(4,5)])=fol0:=(x5w (by kernel_rfl) (by decide) (by kernel_rfl) (by kernel_rfl) (by kernel_rfl)).eq.symm
theorem v0j:x4j someP [112]=[(0,5),(0,6),(6,7),(6,8),(7,8)]:=by
 rw [DB (f:=f1) w1a rfl]
 show x7a (QX someP 1 f1) f1 6=_
 unfold x7a
 rw [w9k,v1q]
 kernel_rfl
theorem v0o:x4j someP [109,97,105,110]=[(0,1),(0,2),(0,3),(0,4)]:=by
 rw [DB (f:=f0) z6t rfl]
 show x7a (QX someP 0 f0) f0 6=_
 unfold x7a
 rw [v1f,v0d]
 kernel_rfl
theorem by8:byR someP [112] 8=[6,7]:=by
 unfold byR
 rw [v0j]
 kernel_rfl
theorem in7:inR someP 7=[6]:=by
 unfold inR
 rw [x2e]
 kernel_rfl
theorem VI:SpecP Tryz.prog 39 [] (fun r=>r = .tt):=by
 have hB:=z0u someP x3r [112] 8
 rw [by8] at hB
 have hI:=z7s someP x3r 7
 rw [in7] at hI
 have hO:=x1a someP x3r [109,97,105,110]
 rw [v0o] at hO
 refine SpecP.body GG QQ Tryz.func39 rfl Tryz.call39 (by show 0≤_;decide) ?_
 conv=>whnf
 repeat' (first|((first|intro (_:_≤9223372036854775807)|refine And.intro rfl ?_|(refine CallK.pure q2x .nil ?_;rintro _ rfl)|(refine CallK.pure hB (.cons (Sub.refl _) (.cons (Sub.refl _) (.cons (Sub.refl _) .nil))) ?_;rintro _ rfl)|(refine CallK.pure hI (.cons (Sub.refl _) (.cons (Sub.refl _) .nil)) ?_;rintro _ rfl)|(refine CallK.pure hO (.cons (Sub.refl _) (.cons (Sub.refl _) .nil)) ?_;rintro _ rfl)|(refine IdxK.at (k:=0) (e := .int .i64 6) rfl rfl rfl ?_)|(refine IdxK.at (k:=1) (e := .int .i64 7) rfl rfl rfl ?_));conv=>whnf)|(refine Br.dec (fun _=>?_) (fun _=>?_)<;>first|(exfalso;omega)|conv=>whnf))
 all_goals first
  | exact RetK.tt rfl
  | exact ⟨_,.p (Sub.tt' rfl),rfl⟩
  | exact ⟨_,.p (Sub.tt rfl),rfl⟩
  | (rename_i h;exact absurd rfl h)
  | skip
open Go.Proofs
theorem q8h {p:Pg} {n:Str} {k:Nat} {f:Pr} (hw:HP p n=some (QX p k f)) (hk:p.procs[k]? = some f):XK p=true∧NQ p n=(f,true):=by
 obtain ⟨k',f',hk',he,hc,_,hfi⟩:=KI hw
 have hk2:(QX p k f).j=(QX p k' f').j:=by rw [he]
 have hk3:k=k':=hk2
 subst hk3
 rw [hk] at hk'
 obtain rfl:=Option.some.inj hk'
 refine ⟨hc,?_⟩
 unfold NQ VE
 rw [(QK hc).1,hfi]
 rfl
theorem x0q {p:Pg} {n:Str} (hw:HP p n=none):XK p=false∨NQ p n=(Pr0,false):=by
 cases hc:XK p with
 | false=>exact .inl rfl
 | true =>
   refine .inr ?_
   unfold NQ
   rw [(QK hc).1,z4j hw hc]
   rfl
theorem HD (p:Pg) (hf:Fit p) (n:Str) (k:Nat) (f:Pr) (hw:HP p n=some (QX p k f)) (hk:p.procs[k]? = some f):SpecP Tryz.prog 86 [.agg p.cells,.str n] (fun r=>r = .tup [YN (flatU f),.bool true]):=by
 refine SpecP.body UA QQ Tryz.func86 rfl Tryz.call86 (by show 2≤_;decide) ?_
 conv=>whnf
 obtain ⟨hc,hM⟩:=q8h hw hk
 have hP:=ZY p n
 rw [hM] at hP
 have hR:=ZV p hf
 rw [hc] at hR
 have hF:=QE f
 rw [WK (QK hc).1 (List.mem_of_getElem? hk)] at hF
 repeat' (first|((first|refine And.intro rfl ?_|(refine CallK.pure hP (.cons (Sub.refl _) (.cons (Sub.refl _) .nil)) ?_;rintro _ rfl)|(refine CallK.pure hR (.cons (Sub.refl _) .nil) ?_;rintro _ rfl)|(refine CallK.pure hF (.cons (Sub.refl _) .nil) ?_;rintro _ rfl));conv=>whnf)|(refine Br.n (fun _=>?_) (fun _=>?_)<;>conv=>whnf))
 all_goals first
  | contradiction
  | exact ⟨_,.p (Sub.tup (.cons (Sub.refl _) (.cons (Sub.tt rfl) .nil))),rfl⟩
theorem HA (p:Pg) (hf:Fit p) (n:Str) (hw:HP p n=none):SpecP Tryz.prog 86 [.agg p.cells,.str n] (fun r=>r = .tup [YN [],.bool false]):=by
 refine SpecP.body UA QQ Tryz.func86 rfl Tryz.call86 (by show 2≤_;decide) ?_
 conv=>whnf
 have hP:=ZY p n
 have hR:=ZV p hf
 have hN:=x0q hw
 generalize (NQ p n).1=q at *
 have hN:XK p=false∨(NQ p n).2=false:=hN.imp id fun h=>by rw [h]
 generalize (NQ p n).2=ok at *
 generalize XK p=ch at *
 repeat' (first|((first|refine And.intro rfl ?_|(refine CallK.pure hP (.cons (Sub.refl _) (.cons (Sub.refl _) .nil)) ?_;rintro _ rfl)|(refine CallK.pure hR (.cons (Sub.refl _) .nil) ?_;rintro _ rfl));conv=>whnf)|(refine Br.n (fun _=>?_) (fun _=>?_)<;>conv=>whnf))
 all_goals first
  | exact ⟨_,.p (Sub.tup (.cons Sub.nils (.cons (Sub.ff rfl) .nil))),rfl⟩
  | (exfalso;simp_all;done)
theorem HW (p:Pg) (hf:Fit p) (n:Str) (k:Nat) (f:Pr) (hw:HP p n=some (QX p k f)) (hk:p.procs[k]? = some f):SpecP Tryz.prog 89 [.agg p.cells,.str n] (fun r=>r = .tup [x9v f,.bool true]):=by
 refine SpecP.body UN QQ Tryz.func89 rfl Tryz.call89 (by show 2≤_;decide) ?_
 conv=>whnf
 obtain ⟨hc,hM⟩:=q8h hw hk
 have hP:=ZY p n
 rw [hM] at hP
 have hR:=ZV p hf
 rw [hc] at hR
 have hF:=QE f
 rw [WK (QK hc).1 (List.mem_of_getElem? hk)] at hF
 repeat' (first|((first|refine DrawK.auto QQ mixed (by kernel_rfl) ?_|refine And.intro rfl ?_|(refine CallK.pure hP (.cons (Sub.refl _) (.cons (Sub.refl _) .nil)) ?_;rintro _ rfl)|(refine CallK.pure hR (.cons (Sub.refl _) .nil) ?_;rintro _ rfl)|(refine CallK.pure hF (.cons (Sub.refl _) .nil) ?_;rintro _ rfl));conv=>whnf)|(refine Br.n (fun _=>?_) (fun _=>?_)<;>conv=>whnf))
 all_goals first
  | contradiction
  | exact ⟨_,.p (Sub.tup (.cons (Sub.refl _) (.cons (Sub.tt rfl) .nil))),rfl⟩
theorem GS (p:Pg) (hf:Fit p) (n:Str) (hw:HP p n=none):SpecP Tryz.prog 89 [.agg p.cells,.str n] (fun r=>r = .tup [.agg [YN [],QD []],.bool false]):=by
 refine SpecP.body UN QQ Tryz.func89 rfl Tryz.call89 (by show 2≤_;decide) ?_
 conv=>whnf
 have hP:=ZY p n
 have hR:=ZV p hf
 have hN:=x0q hw
 generalize (NQ p n).1=q at *
 have hN:XK p=false∨(NQ p n).2=false:=hN.imp id fun h=>by rw [h]
 generalize (NQ p n).2=ok at *
 generalize XK p=ch at *
 repeat' (first|((first|refine DrawK.auto QQ mixed (by kernel_rfl) ?_|refine And.intro rfl ?_|(refine CallK.pure hP (.cons (Sub.refl _) (.cons (Sub.refl _) .nil)) ?_;rintro _ rfl)|(refine CallK.pure hR (.cons (Sub.refl _) .nil) ?_;rintro _ rfl));conv=>whnf)|(refine Br.n (fun _=>?_) (fun _=>?_)<;>conv=>whnf))
 all_goals first
  | exact ⟨_,.p (Sub.tup (.cons (Sub.agg (.cons Sub.nils (.cons Sub.nils .nil))) (.cons (Sub.ff rfl) .nil))),rfl⟩
  | (exfalso;simp_all;done)
def z3x (f:Pr):List Int:=0::(flatU f).map (fun x=>x.s.id)++[-1]
theorem z2u (f:Pr):(z3x f).length=QY f.body+2:=by
 unfold z3x
 have:=WQ 1 0 false f.body
 simp [flatU,this]
theorem z5s {p:Pg} (hm:WI p=true) {k:Nat} {f:Pr} (hk:p.procs[k]? = some f) {x:Nat} (hx:x<QY f.body+2):(z3x f)[x]? = some (QM p k (QY f.body+2:Nat) x):=by
 unfold z3x
 rw [q1m hm hk]
 unfold QM loI YF
 cases x with
 | zero=>rfl
 | succ x =>
   rw [List.cons_append,List.getElem?_cons_succ]
   rw [if_neg (by omega)]
   rcases Nat.lt_or_ge x (QY f.body) with h1|h1
   ·rw [List.getElem?_append_left (by simpa using h1),List.getElem?_map,List.getElem?_range' h1,if_neg (by omega)]
    simp only [Option.map_some]
    congr 1
    omega
   ·obtain rfl:x=QY f.body:=by omega
    rw [List.getElem?_append_right (by simp),if_pos (by omega)]
    simp
theorem x3j {p:Pg} (hm:WI p=true) {k:Nat} {f:Pr} (hk:p.procs[k]? = some f) {x:Int}:x∈z3x f↔plP p k f x:=by
 unfold z3x
 rw [q1m hm hk]
 unfold plP
 simp only [List.cons_append,List.mem_cons,List.mem_append,List.not_mem_nil,or_false]
 constructor
 ·rintro (h|h|h)
  ·exact .inl h
  ·have:=LD h
   exact .inr (.inr (by omega))
  ·exact .inr (.inl h)
 ·rintro (h|h|h)
  ·exact .inl h
  ·exact .inr (.inr h)
  ·exact .inr (.inl (z1g h.1 h.2))
theorem KS (p:Pg) (hf:Fit p) (n:Str) (k:Nat) (f:Pr) (hw:HP p n=some (QX p k f)) (hk:p.procs[k]? = some f):SpecP Tryz.prog 70 [.agg p.cells,.str n] (fun r=>r=QF (z3x f)):=by
 refine SpecP.body UQ QQ Tryz.func70 rfl Tryz.call70 (by show 2≤_;decide) ?_
 conv=>whnf
 have hF:=HD p hf n k f hw hk
 have hlU:=YI (QK (q8h hw hk).1).1 hk
 have hLl:=ZI (flatU f)
 have hp:z3x f=0::(flatU f).map (fun x=>x.s.id)++[-1]:=rfl
 rw [hp]
 generalize flatU f=L at *
 repeat' (first|((first|intro (_:_≤9223372036854775807)|refine And.intro rfl ?_|(refine And.intro ⟨by decide,by decide⟩ ?_)|(refine CallK.pure hF (.cons (Sub.refl _) (.cons (Sub.refl _) .nil)) ?_;rintro _ rfl)|refine BsK.own (fun x hx=>by rcases List.mem_singleton.1 hx with rfl;rfl) rfl ?_);conv=>whnf)|(refine Br.n (fun _=>?_) (fun _=>?_)<;>conv=>whnf))
 all_goals first
  | contradiction
  | skip
 refine LoopK.inv QQ (fun j:Nat=>⟨[(7,.hd 0 0 (j+1)),(19,.p (YN L)),(20,.p (.int .i64 (L.map fun i=>AV.agg i.cells).length)),(21,.p (.int .i64 j))],[(0,.own 3 1 ((0::(L.take j).map (fun x=>x.s.id)).map (.int .i64)))]⟩) (fun j=>j≤L.length) (fun j=>L.length-j) 0 (Le.of_eq rfl) (Nat.zero_le _) ?_
 intro j hj
 have e0:(0::(L.take j).map (fun x=>x.s.id):List Int).length=j+1:=by rw [List.length_cons,List.length_map,List.length_take];omega
 rcases Nat.lt_or_ge j L.length with hj2|hj2
 ·have e1:(0::(L.take (j+1)).map (fun x=>x.s.id):List Int)=(0::(L.take j).map (fun x=>x.s.id))++[L[j].s.id]:=by rw [List.take_succ_eq_append_getElem hj2,List.map_append];rfl
  generalize (0::(L.take j).map (fun x=>x.s.id):List Int)=acc at *
  conv=>whnf
  repeat' (first|((first|refine And.intro rfl ?_|(refine And.intro ⟨by decide,by decide⟩ ?_)|refine BsK.pure (fun x hx=>by rcases List.mem_singleton.1 hx with rfl;rfl) rfl ?_|refine IdxK.map (by omega) (fun _=>rfl) ?_|refine Wr.i64 (by omega) (by omega) ?_|refine AppK.int1 (by simp;omega) (by simp;omega) ?_);conv=>whnf)|(refine Br.dec (fun _=>?_) (fun _=>?_)<;>first|(exfalso;omega)|conv=>whnf))
  all_goals exact ⟨j+1,by omega,by omega,Le.of_eq (by rw [e1,List.map_append];rfl)⟩
 ·rw [List.take_of_length_le hj2] at e0 ⊢
  have e2:(0::L.map (fun x=>x.s.id)++[-1]:List Int)=(0::L.map (fun x=>x.s.id))++[-1]:=rfl
  rw [e2]
  generalize (0::L.map (fun x=>x.s.id):List Int)=acc at *
  conv=>whnf
  repeat' (first|((first|refine And.intro rfl ?_|(refine And.intro ⟨by decide,by decide⟩ ?_)|refine BsK.pure (fun x hx=>by rcases List.mem_singleton.1 hx with rfl;rfl) rfl ?_|refine AppK.int1 (by simp;omega) (by simp;omega) ?_);conv=>whnf)|(refine Br.dec (fun _=>?_) (fun _=>?_)<;>first|(exfalso;omega)|conv=>whnf))
  all_goals exact ⟨_,.hd rfl (by simp;omega),by simp [QF];rfl⟩
theorem KF (p:Pg) (hf:Fit p) (n:Str) (hw:HP p n=none):SpecP Tryz.prog 70 [.agg p.cells,.str n] (fun r=>r=QF []):=by
 refine SpecP.body UQ QQ Tryz.func70 rfl Tryz.call70 (by show 2≤_;decide) ?_
 conv=>whnf
 have hF:=HA p hf n hw
 repeat' (first|((first|intro (_:_≤9223372036854775807)|refine And.intro rfl ?_|(refine And.intro ⟨by decide,by decide⟩ ?_)|refine BsK.pure (fun x hx=>by rcases List.mem_singleton.1 hx with rfl;rfl) rfl ?_|(refine CallK.pure hF (.cons (Sub.refl _) (.cons (Sub.refl _) .nil)) ?_;rintro _ rfl));conv=>whnf)|(refine Br.n (fun _=>?_) (fun _=>?_)<;>conv=>whnf))
 all_goals first
  | contradiction
  | exact ⟨_,.p Sub.nils,rfl⟩
open Go.Proofs
section
variable {p:Pg} {j:Nat} {f:Pr} {n:Str}
end
theorem w1y {p:Pg} (h:XK p=true) {f:Pr} (hf:f∈p.procs) : ∃ k,p.procs[k]? = some f∧HP p f.name=some (QX p k f):=by
 cases hw:HP p f.name with
 | none =>
   exfalso
   unfold HP at hw
   rw [h,cond_true] at hw
   cases hq:p.procs.find? (fun g=>g.name==f.name) with
   | none =>
     have:=List.find?_eq_none.1 hq _ hf
     simp at this
   | some g=>rw [hq] at hw;cases hw
 | some w =>
   obtain ⟨k,g,hkj,rfl,_,hgn,_⟩:=KI hw
   have he:g=f:=BR (x9g h) g (List.mem_of_getElem? hkj) f hf hgn
   subst he
   exact ⟨k,hkj,rfl⟩
theorem w2h {p:Pg} (h:XK p=true) {id:Int} (hid:id∈w8t p 0) : ∃ k f t,p.procs[k]? = some f∧t∈flL f.body∧t.id=id∧HP p (YU p id).2.1=some (QX p k f):=by
 have hm:=(QK h).1
 unfold w8t at hid
 obtain ⟨x,hx,rfl⟩:=List.mem_map.1 hid
 have hx:=(List.mem_filter.1 hx).1
 rw [q1e hm] at hx
 obtain ⟨g,hg,hxg⟩:=List.mem_flatMap.1 hx
 rw [← WK hm hg] at hxg
 unfold YU
 cases hr:q6u p x.s.id with
 | none =>
   exfalso
   unfold q6u at hr
   have h1:=List.findSome?_eq_none_iff.1 hr g hg
   unfold x4e at h1
   rw [Option.map_eq_none_iff,List.find?_eq_none] at h1
   exact h1 x hxg (by simp)
 | some y =>
   obtain ⟨y,nm⟩:=y
   unfold q6u at hr
   obtain ⟨f,hf,h1⟩:=List.exists_of_findSome?_eq_some hr
   unfold x4e at h1
   rw [Option.map_eq_some_iff] at h1
   obtain ⟨z,h2,h3⟩:=h1
   obtain rfl:z=y:=congrArg Prod.fst h3
   have hnm:f.name=nm:=congrArg Prod.snd h3
   obtain ⟨k,hk,hw⟩:=w1y h hf
   refine ⟨k,f,z.s,hk,w0y h hk (List.mem_of_find?_eq_some h2),by simpa using List.find?_some h2,?_⟩
   show HP p nm=_
   rw [← hnm]
   exact hw
open Go.Proofs
theorem z9r {p:Pg} (h:XK p=true) {id:Int} (h1:1≤id) (h2:id≤(sheetOf p).l.length) : ∃ k f it,p.procs[k]? = some f∧it∈itsOf p k f∧it.s.id=id∧HP p (YU p id).2.1=some (QX p k f)∧(YU p id).2.2=true∧w8s p id=(it.next,true):=by
 obtain ⟨_,_,_,hlen,_⟩:=QJ p
 obtain ⟨j,f,hj,h3,h4⟩:=x3y p.procs (id-1).toNat (by omega)
 obtain ⟨it,h5,h6⟩:=GN hj h3 h4
 have h7:=x1f h hj h3 h4 h5
 have h8:it.s.id=id:=by omega
 have hm:=(QK h).1
 obtain ⟨x,hx,hxs⟩:=q5y (PK h6)
 have hid:id∈w8t p 0:=by
  unfold w8t
  refine List.mem_map.2 ⟨x,List.mem_filter.2 ⟨?_,rfl⟩,by rw [hxs,h8]⟩
  rw [q1e hm]
  exact List.mem_flatMap.2 ⟨f,List.mem_of_getElem? hj,hx⟩
 obtain ⟨k,g,t,hk,ht,hti,hw⟩:=w2h h hid
 have hb:=VX hm hk ht
 have hbl:QN p.procs k+QY g.body≤(sheetOf p).l.length:=by
  obtain ⟨_,_,_,_,hsp⟩:=QJ p
  have:=(hsp k g hk).2.2.1
  omega
 obtain ⟨it2,h9,h10⟩:=GN hk (k:=(id-1).toNat) (by omega) (by omega)
 rw [h5] at h9
 obtain rfl:=Option.some.inj h9
 refine ⟨k,g,it,hk,h10,h8,hw,?_,?_⟩
 ·cases ho:(YU p id).2.2 with
  | true=>rfl
  | false =>
    exfalso
    unfold YU at ho
    cases hr:q6u p id with
    | some y=>rw [hr] at ho;cases ho
    | none =>
      unfold q6u at hr
      have h11:=List.findSome?_eq_none_iff.1 hr f (List.mem_of_getElem? hj)
      unfold x4e at h11
      rw [Option.map_eq_none_iff,List.find?_eq_none] at h11
      rw [WK hm (List.mem_of_getElem? hj)] at h11
      exact h11 x hx (by rw [hxs,h8];simp)
 ·unfold w8s
  rw [h,h5,decide_eq_true h1,decide_eq_true h2]
  rfl
theorem z9e {p:Pg} (h:XK p=true) {id:Int} (h1 : ¬(1≤id∧id≤(sheetOf p).l.length)):(YU p id).2.2=false∧w8s p id=(0,false):=by
 have hm:=(QK h).1
 constructor
 ·unfold YU
  cases hr:q6u p id with
  | none=>rfl
  | some y =>
    exfalso
    unfold q6u at hr
    obtain ⟨f,hf,h2⟩:=List.exists_of_findSome?_eq_some hr
    unfold x4e at h2
    rw [Option.map_eq_some_iff] at h2
    obtain ⟨z,h3,_⟩:=h2
    obtain ⟨k,hk,rfl⟩:=List.mem_iff_getElem.1 hf
    have hk':p.procs[k]? = some p.procs[k]:=List.getElem?_eq_getElem hk
    have hb:=VX hm hk' (w0y h hk' (List.mem_of_find?_eq_some h3))
    have hz:z.s.id=id:=by simpa using List.find?_some h3
    obtain ⟨_,_,_,hlen,hsp⟩:=QJ p
    have:=(hsp k _ hk').2.2.1
    omega
 ·unfold w8s
  have e:(decide (1≤id)&&decide (id≤(sheetOf p).l.length))=false:=by
   rw [Bool.eq_false_iff]
   intro e
   rw [Bool.and_eq_true,decide_eq_true_eq,decide_eq_true_eq] at e
   exact h1 e
  rw [h,e]
  rfl
theorem q5a {F:List Step} {a b x:Int}:Rch (frR F a []) b x↔Rch (stR F) b x:=by
 have e:frR F a []=stR F:=by
  funext u v
  exact propext ⟨fun h=>h.2,fun h=>⟨.inr rfl,h⟩⟩
 rw [e]
theorem z9y {steps:List Step} {at_:Int} {but es:List Int} (h : ∀ x,x∈es↔Rch (frR steps at_ but) at_ x) (hd:es.Nodup):es.length≤steps.length+1:=by
 have:=WS hd (m:=at_::steps.map Step.dst) fun s hs=>by
  have h1:=(h s).1 hs
  cases h1 with
  | refl=>exact List.mem_cons_self
  | tail _ h2 =>
    obtain ⟨_,t,ht,_,rfl⟩:=h2
    exact List.mem_cons_of_mem _ (List.mem_map.2 ⟨t,ht,rfl⟩)
 simpa using this
def v2j (l:List Int) (r:AV):Prop := ∃ m,r=QF m∧m.Pairwise ordP ∧ ∀ s,s∈m↔s∈l
open Go.Proofs
theorem PY (l:List Int) (hl:l.length≤1000000000):SpecP Tryz.prog 92 [QF l] (fun r=>v2j l r):=by
 refine SpecP.body FM QQ Tryz.func92 rfl Tryz.call92 (by show 1≤_;decide) ?_
 conv=>whnf
 intro (_:_≤9223372036854775807)
 have hll:(l.map (AV.int .i64)).length=l.length:=List.length_map _
 conv=>whnf
 refine LoopK.inv QQ (fun x:Nat×List Int=>⟨[(0,.p (QF l)),(3,.hd 0 0 x.2.length),(9,.p (.int .i64 (l.map (AV.int .i64)).length)),(10,.p (.int .i64 x.1))],[(0,.own 3 1 (x.2.map (.int .i64)))]⟩) (fun x=>x.1≤l.length∧RiseI ordP l x.2 x.1) (fun x=>l.length-x.1) (0,[])
  (Le.mk [(0,.own 3 1 [])] (by simp [Chunk.new0];rfl) (by simp) (by simp) (.cons (.refl _) (.cons (.nil List.mem_cons_self) (.cons (.refl _) (.cons (.refl _) .nil)))) (.new List.mem_cons_self .nil)) ⟨Nat.zero_le _,RiseI.zero⟩ ?_
 rintro ⟨i,out⟩ ⟨h2,h3⟩
 simp only at h2 h3 ⊢
 have hol:=h3.len ordP.irr
 rcases Nat.lt_or_ge i l.length with hi|hi
 ·conv=>whnf
  repeat' (first|(intro (_:_≤9223372036854775807);conv=>whnf)|(refine Br.dec (fun _=>?_) (fun _=>?_)<;>first|(exfalso;omega)|conv=>whnf))
  refine LoopK.inv QQ (fun x:Nat×Option Int=>⟨[(0,.p (QF l)),(3,.hd 0 0 out.length),(4,.p (.int .i64 (x.2.getD 0))),(5,.p (.bool x.2.isSome)),(9,.p (.int .i64 (l.map (AV.int .i64)).length)),(10,.p (.int .i64 i)),(12,.p (QF l)),(13,.p (.int .i64 (l.map (AV.int .i64)).length)),(14,.p (.int .i64 x.1))],[(0,.own 3 1 (out.map (.int .i64)))]⟩) (fun x=>x.1≤l.length∧LeastI ordP l out x.1 x.2) (fun x=>l.length-x.1) (0,none) (Le.mk [] (by simp) (by simp) (by simp) (.cons (.refl _) (.cons (.refl _) (.cons (.refl _) (.cons (.p (Sub.ff rfl)) (.cons (.refl _) (.cons (.refl _) (.cons (.refl _) (.cons (.refl _) (.cons (.refl _) .nil))))))))) (.cons rfl (.refl _) .nil)) ⟨Nat.zero_le _,LeastI.zero⟩ ?_
  rintro ⟨k,o⟩ ⟨h4,h5⟩
  simp only at h4 h5 ⊢
  rcases Nat.lt_or_ge k l.length with hk|hk
  ·have hin:FC out l[k]=true→l[k]∈out:=WO.1
   have hno:FC out l[k]=false→l[k]∉out:=fun h hm=>by rw [WO.2 hm] at h;cases h
   cases o with
   | none =>
     simp only [Option.getD_none,Option.isSome_none]
     conv=>whnf
     repeat' (first|((first|refine IdxK.map (by omega) (fun _=>rfl) ?_|refine Wr.i64 (by omega) (by omega) ?_|(refine CallK.borrow (QO out (l[k]'hk)) (.cons (.hd rfl (by simp)) (.cons (.p (Sub.refl _)) .nil)) (by rintro _ rfl;rfl) ?_;rintro _ rfl));conv=>whnf)|(refine Br.dec (fun _=>?_) (fun _=>?_)<;>first|(exfalso;omega)|conv=>whnf)|(refine Br.n (fun _=>?_) (fun _=>?_)<;>conv=>whnf))
     all_goals first
      | (exfalso;simp_all;done)
      | exact ⟨(k+1,none),⟨by simp only;omega,h5.old hk (hin (by assumption))⟩,by simp only;omega,Le.of_eq rfl⟩
      | exact ⟨(k+1,some l[k]),⟨by simp only;omega,h5.first hk (hno (by assumption))⟩,by simp only;omega,(Le.mk [] (by simp) (by simp) (by simp) (.cons (.refl _) (.cons (.refl _) (.cons (.refl _) (.cons (.p (Sub.tt rfl)) (.cons (.refl _) (.cons (.refl _) (.cons (.refl _) (.cons (.refl _) (.cons (.refl _) .nil))))))))) (.cons rfl (.refl _) .nil))⟩
   | some m =>
     simp only [Option.getD_some,Option.isSome_some]
     conv=>whnf
     repeat' (first|((first|refine IdxK.map (by omega) (fun _=>rfl) ?_|refine Wr.i64 (by omega) (by omega) ?_|(refine CallK.borrow (QO out (l[k]'hk)) (.cons (.hd rfl (by simp)) (.cons (.p (Sub.refl _)) .nil)) (by rintro _ rfl;rfl) ?_;rintro _ rfl)|(refine CallK.pure (YS (l[k]'hk) m) (.cons (Sub.refl _) (.cons (Sub.refl _) .nil)) ?_;rintro _ rfl));conv=>whnf)|(refine Br.dec (fun _=>?_) (fun _=>?_)<;>first|(exfalso;omega)|conv=>whnf)|(refine Br.n (fun _=>?_) (fun _=>?_)<;>conv=>whnf)|(refine Br.b (fun _=>?_) (fun _=>?_)<;>conv=>whnf))
     all_goals first
      | (exfalso;simp_all;done)
      | exact ⟨(k+1,some m),⟨by simp only;omega,h5.old hk (hin (by assumption))⟩,by simp only;omega,Le.of_eq rfl⟩
      | exact ⟨(k+1,some l[k]),⟨by simp only;omega,h5.less ordP.trans hk (hno (by assumption)) (by assumption)⟩,by simp only;omega,(Le.mk [] (by simp) (by simp) (by simp) (.cons (.refl _) (.cons (.refl _) (.cons (.refl _) (.cons (.p (Sub.tt rfl)) (.cons (.refl _) (.cons (.refl _) (.cons (.refl _) (.cons (.refl _) (.cons (.refl _) .nil))))))))) (.cons rfl (.refl _) .nil))⟩
      | (have hb:w1i l[k] m=false:=by assumption
         exact ⟨(k+1,some m),⟨by simp only;omega,h5.more ordP.total hk (fun h=>by unfold ordP at h;rw [hb] at h;cases h)⟩,by simp only;omega,Le.of_eq rfl⟩)
  ·obtain rfl:k=l.length:=by omega
   cases o with
   | none =>
     simp only [Option.getD_none,Option.isSome_none]
     conv=>whnf
     repeat' (first|((first|refine And.intro rfl ?_|(refine And.intro ⟨by decide,by decide⟩ ?_)|refine BsK.pure (fun x hx=>by rcases List.mem_singleton.1 hx with rfl;rfl) rfl ?_|refine Wr.i64 (by omega) (by omega) ?_);conv=>whnf)|(refine Br.dec (fun _=>?_) (fun _=>?_)<;>first|(exfalso;omega)|conv=>whnf)|(refine Br.b (fun _=>?_) (fun _=>?_)<;>conv=>whnf))
     all_goals first
      | (exfalso;simp_all;done)
      | exact ⟨(i+1,out),⟨by simp only;omega,h3.stay h5⟩,by simp only;omega,Le.of_eq rfl⟩
   | some m =>
     simp only [Option.getD_some,Option.isSome_some]
     conv=>whnf
     repeat' (first|((first|refine And.intro rfl ?_|(refine And.intro ⟨by decide,by decide⟩ ?_)|refine BsK.pure (fun x hx=>by rcases List.mem_singleton.1 hx with rfl;rfl) rfl ?_|refine Wr.i64 (by omega) (by omega) ?_|refine AppK.int1 (by simp) (by simp;omega) ?_);conv=>whnf)|(refine Br.dec (fun _=>?_) (fun _=>?_)<;>first|(exfalso;omega)|conv=>whnf)|(refine Br.b (fun _=>?_) (fun _=>?_)<;>conv=>whnf))
     all_goals first
      | (exfalso;simp_all;done)
      | exact ⟨(i+1,out++[m]),⟨by simp only;omega,h3.snoc h5⟩,by simp only;omega,Le.of_eq (by simp only [List.length_append,List.map_append];rfl)⟩
 ·obtain ⟨h6,h7⟩:=h3.all ordP.irr (by omega)
  conv=>whnf
  repeat' (refine Br.dec (fun _=>?_) (fun _=>?_)<;>first|(exfalso;omega)|conv=>whnf)
  exact ⟨_,.hd rfl (by simp),out,rfl,h6,h7⟩
end Go.Ab
