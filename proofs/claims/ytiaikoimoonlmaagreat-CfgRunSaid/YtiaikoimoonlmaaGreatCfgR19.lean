/- law15: whole. -/
import Derived.Test.YtiaikoimoonlmaaGreatCfgR17
import Derived.Test.YtiaikoimoonlmaaGreatCfgR18
set_option linter.unusedSimpArgs false
set_option linter.unusedVariables false
set_option maxRecDepth 100000
set_option maxHeartbeats 16000000
open List (length_map map_cons mem_cons_of_mem mem_cons_self)
namespace Go.Ab
open Go.Proofs
theorem HM (p:Pg) (hf:Fit p) (hc:chkB p=true) (tape:List Int) (htp:tape.length<=10000000) (fuel:Int) (h0:0<=fuel) (h1:fuel<=1000000) (hl:(allR p).length<=1000):SpecP Tryz.prog 34 [.agg p.cells,XT tape,.int .i64 fuel] (fun r => ∃ n M,NT p tape (q2z p 0) fuel n (KL p) = .fin M∧r=z7w M):=by
 refine sB KJ Tryz.func34 rfl Tryz.call34 ?_;conv=>whnf
 have hI:=MQ p 0 hl;have hR:SpecP Tryz.prog 63 [.agg p.cells,XT tape,.int .i64 fuel,XT (q2z p 0)] (fun r=>w3e p tape (q2z p 0) fuel r):=(w0h p hf tape (q2z p 0) htp fuel).mono fun r hr=>hr.1 ⟨hc,h0,h1⟩;repeat' (first|((first|(refine iM fun _=>?_)|refine dA ?_|refine And.intro rfl ?_|refine aD ?_|refine aR ?_|refine bP ?_|(refine iA fun _=>?_)|refine IdxK.xs (by omega) ?_|refine QM (by omega) ?_|(refine ByteK.at (by omega) ?_)|refine wI ?_|refine cP hI ?_|(refine CallK.pure hR (.cons (Sub.refl _) (.cons (Sub.refl _) (.cons (Sub.refl _) (.cons (Sub.refl _) .nil)))) ?_;rintro _ ⟨n,M,hn,rfl⟩));conv=>whnf)|(apply bD<;>intro _<;>first|omega|conv=>whnf)|(apply bE<;>intro _<;>first|omega|conv=>whnf)|(apply bN<;>intro _<;>conv=>whnf)|(apply bB<;>intro _<;>conv=>whnf)|(refine And.intro ?_ ?_<;>conv=>whnf))
 all_goals first
  | exact ⟨_,.p (Sub.refl _),n,M,hn,rfl⟩
theorem w0j {b:Bool} {s:S} (h:okC s∧s.id ≠ -1):okC (onS b s)∧(onS b s).id ≠ -1:=by
 have hl : ∀ l:List Str,l.length<=1000000->(if b then l else []).length<=1000000:=fun l hl=>by
  split
  ·exact hl
  ·simp
 rw [HK];split
 ·refine ⟨⟨by show wX (.mk 1 7 [] [])<=20000;rw [wX,wXs];omega,hl _ h.1.2.1,by show ([]:List Arg).length<=1000000;simp,fun a ha=>by cases ha⟩,by show (0:Int) ≠ -1;decide⟩
 ·exact ⟨⟨h.1.1,hl _ h.1.2.1,h.1.2.2.1,h.1.2.2.2⟩,h.2⟩
theorem x8u (b:Bool) (s:S):(onS b s).thn=onL b s.thn∧(onS b s).els=onL b s.els:=by
 rw [HK];split<;>exact ⟨rfl,rfl⟩
mutual
theorem w0y {b:Bool} : ∀ (s:S),(∀ t∈flS s,okC t∧t.id ≠ -1) -> ∀ t∈flS (onS b s),okC t∧t.id ≠ -1
 | .mk id kind labels name proc x has args thn els,h,t,ht=>by
   obtain ⟨h1,h2⟩:=x8u b (.mk id kind labels name proc x has args thn els);rw [q3u,h1,h2] at ht;rcases List.mem_cons.1 ht with rfl|ht
   ·exact w0j (h _ (by rw [flS];exact mem_cons_self))
   ·rcases List.mem_append.1 ht with ht|ht
    ·exact x3z thn (fun u hu=>h u (by rw [flS];exact mem_cons_of_mem _ (List.mem_append.2 (.inl hu)))) t ht
    ·exact x3z els (fun u hu=>h u (by rw [flS];exact mem_cons_of_mem _ (List.mem_append.2 (.inr hu)))) t ht
theorem x3z {b:Bool} : ∀ (l:List S),(∀ t∈flL l,okC t∧t.id ≠ -1) -> ∀ t∈flL (onL b l),okC t∧t.id ≠ -1
 | [],h,t,ht=>by rw [onL,flL] at ht;cases ht
 | s::r,h,t,ht=>by
   rw [onL,flL] at ht;rcases List.mem_append.1 ht with ht|ht
   ·exact w0y s (fun u hu=>h u (by rw [flL];exact List.mem_append.2 (.inl hu))) t ht
   ·exact x3z r (fun u hu=>h u (by rw [flL];exact List.mem_append.2 (.inr hu))) t ht
end
theorem w0x {p:Pg} (hf:Fit p) (hc:chkB p=true):CopyF p:=by
 obtain ⟨h1,h2,h3⟩:=z6n hf hc;have hcn:=(VZ hc).2.2;refine ⟨h1,h2,fun f hf' => ?_⟩;obtain ⟨a1,a2,a3,_,a5⟩:=h3 f hf';have a4:=FE _ _ hf';obtain ⟨j,hj,hje⟩:=List.mem_iff_getElem.1 hf';have hj':p.procs[j]? = some f:=by rw [List.getElem?_eq_getElem hj,hje]
 exact ⟨a1,a2,a3,by omega,fun t ht=>⟨a5 t ht,by have:=(JU (QD hc).1 hj' ht).1;omega⟩⟩
theorem x9n {p:Pg} {b:Bool} (hf:Fit p) (hc:chkB p=true) {f:Pr} (hm:p.procs.filter (fun f=>f.name==mainS)=[f]):CopyF (onlyRaw b p)∧cntP (onlyRaw b p).procs<=100000:=by
 have hC:=w0x hf hc;have hmem:f∈p.procs:=(List.mem_filter.1 (by rw [hm];exact mem_cons_self)).1;obtain ⟨a1,a2,a3,a4,a5⟩:=hC.pr f hmem;have e:onlyRaw b p=⟨p.globals,[z8a b f]⟩:=by
  unfold onlyRaw;rw [hm];rfl
 rw [e];refine ⟨⟨by simp,hC.globals,fun g hg => ?_⟩,?_⟩
 ·rcases List.mem_singleton.1 hg with rfl;refine ⟨a1,?_,a3,?_,x3z f.body a5⟩
  ·show (if b then f.fin else []).length<=1000000;split
   ·exact a2
   ·simp
  ·show cntL (onL b f.body)<=100000;rw [JX];exact a4
 ·show cntL (onL b f.body)+0<=100000;rw [JX];omega
structure OnT (s t:S):Prop where
 labels:t.labels=s.labels
 off:s.kind=4->t.kind=3∧t.name=[]∧t.x = .mk 1 7 [] []∧t.args=[]
 on:s.kind≠4->t.kind=s.kind∧t.name=s.name∧t.x=s.x∧t.args=s.args
theorem BP (s:S) (n:Nat):OnT s (nmS n (onS true s)):=by
 by_cases hk:s.kind=4
 ·have e:=(HK true s).trans (if_pos (.inl hk));rw [e,q3i];exact ⟨rfl,fun _=>⟨rfl,rfl,rfl,rfl⟩,fun h=>absurd hk h⟩
 ·have e:=(HK true s).trans (if_neg (fun h=>h.elim hk fun h=>by cases h.2));rw [e,q3i];exact ⟨rfl,fun h=>absurd h hk,fun _=>⟨rfl,rfl,rfl,rfl⟩⟩
theorem OnT.nocall {s t:S} (h:OnT s t):t.kind≠4:=by
 by_cases hk:s.kind=4
 ·have:=(h.off hk).1;omega
 ·have:=(h.on hk).1;omega
theorem OnT.k6 {s t:S} (h:OnT s t):t.kind=6↔s.kind=6:=by
 by_cases hk:s.kind=4
 ·have:=(h.off hk).1;omega
 ·have:=(h.on hk).1;omega
theorem q0f (s:S) (n:Nat):(nmS n (onS true s)).thn=nmL (n+1) (onL true s.thn)∧(nmS n (onS true s)).els=nmL (n+1+cntL s.thn) (onL true s.els)∧(nmS n (onS true s)).id=((n+1:Nat):Int):=by
 obtain ⟨h1,h2⟩:=x8u true s;rw [q3i,h1,h2,JX];exact ⟨rfl,rfl,rfl⟩
mutual
theorem z9i : ∀ (s:S) (k n m:Nat) (pr pr' up up' nx nx' lp lp':Int),(lp'=0↔lp=0) -> ∀ it'∈itS pr' up' nx' lp' m (nmS k (onS true s)),∃ it∈itS pr up nx lp n s,OnT it.s it'.s∧(it'.loop=0↔it.loop=0)
 | .mk id kind labels name proc x has args thn els,k,n,m,pr,pr',up,up',nx,nx',lp,lp',hl,it',h=>by
   obtain ⟨h1,h2,_⟩:=q0f (.mk id kind labels name proc x has args thn els) k;have hO:=BP (.mk id kind labels name proc x has args thn els) k;have h6:=hO.k6;have hlp:(if (nmS k (onS true (.mk id kind labels name proc x has args thn els))).kind=6 then (m:Int)+1 else lp')=0↔(if kind=6 then (n:Int)+1 else lp)=0:=by
    have h6:_↔kind=6:=h6;by_cases hk:kind=6
    ·rw [if_pos hk,if_pos (h6.2 hk)];omega
    ·rw [if_neg hk,if_neg (fun h=>hk (h6.1 h))];exact hl
   rw [w0q,h1,h2] at h;rw [itS];rcases List.mem_cons.1 h with rfl|h
   ·exact ⟨_,mem_cons_self,hO,hl⟩
   ·rcases List.mem_append.1 h with h|h
    ·obtain ⟨it,a,b⟩:=q9t thn _ (n+1) _ pr _ (n+1) _ (if kind=6 then n+1 else nx) _ _ _ hlp it' h;exact ⟨it,mem_cons_of_mem _ (List.mem_append.2 (.inl a)),b⟩
    ·obtain ⟨it,a,b⟩:=q9t els _ (n+1+cntL thn) _ pr _ (n+1) _ (if kind=6 then n+1 else nx) _ _ _ hlp it' h;exact ⟨it,mem_cons_of_mem _ (List.mem_append.2 (.inr a)),b⟩
theorem q9t : ∀ (l:List S) (k n m:Nat) (pr pr' up up' nx nx' lp lp':Int),(lp'=0↔lp=0) -> ∀ it'∈itL pr' up' nx' lp' m (nmL k (onL true l)),∃ it∈itL pr up nx lp n l,OnT it.s it'.s∧(it'.loop=0↔it.loop=0)
 | [],k,n,m,pr,pr',up,up',nx,nx',lp,lp',hl,it',h=>by rw [onL,nmL,itL] at h;cases h
 | s::r,k,n,m,pr,pr',up,up',nx,nx',lp,lp',hl,it',h=>by
   rw [onL,nmL,itL] at h;rw [itL];rcases List.mem_append.1 h with h|h
   ·obtain ⟨it,a,b⟩:=z9i s k n m pr pr' up up' (if r.isEmpty then nx else n+1+XL s) _ lp lp' hl it' h;exact ⟨it,List.mem_append.2 (.inl a),b⟩
   ·obtain ⟨it,a,b⟩:=q9t r _ (n+XL s) _ pr pr' up up' nx nx' lp lp' hl it' h;exact ⟨it,List.mem_append.2 (.inr a),b⟩
end
mutual
theorem z8d : ∀ (s:S) (k:Nat),(flS (nmS k (onS true s))).map S.labels=(flS s).map S.labels
 | .mk id kind labels name proc x has args thn els,k=>by
   obtain ⟨h1,h2,_⟩:=q0f (.mk id kind labels name proc x has args thn els) k;have hO:=(BP (.mk id kind labels name proc x has args thn els) k).labels;have h1:_=nmL (k+1) (onL true thn):=h1;have h2:_=nmL (k+1+cntL thn) (onL true els):=h2;rw [q3u,h1,h2,flS,map_cons,map_cons,List.map_append,List.map_append,q5k thn,q5k els,hO]
theorem q5k : ∀ (l:List S) (k:Nat),(flL (nmL k (onL true l))).map S.labels=(flL l).map S.labels
 | [],k=>by rw [onL,nmL]
 | s::r,k=>by rw [onL,nmL,flL,flL,List.map_append,List.map_append,z8d s,q5k r]
end
theorem z1l {f:Pr} {l:Str}:(atB f l).2=true↔l∈x0b f:=by
 unfold atB x0b;rw [List.mem_append,List.mem_flatMap];cases h:(flL f.body).find? fun t=>t.labels.any fun s=>l==s with
 | some t =>
   refine ⟨fun _ => .inl ⟨t,List.mem_of_find?_eq_some h,?_⟩,fun _=>rfl⟩;exact q4f.1 (List.find?_some (p:=fun t:S=>t.labels.any fun s=>l==s) h)
 | none =>
   have hno : ¬∃ t,t∈flL f.body∧l∈t.labels:=fun ⟨t,h1,h2⟩=>by
    have:=List.find?_eq_none.1 h t h1;exact this (q4f.2 h2)
   simp only [hno,false_or];cases hc:f.fin.any fun s=>l==s with
   | true=>exact ⟨fun _=>q4f.1 hc,fun _=>rfl⟩
   | false =>
     refine ⟨fun h=>(by cases h),fun h => ?_⟩;rw [q4f.2 h] at hc;cases hc
theorem x4e {s:S} (h:oneOk s=true) (n:Nat):XI (nmS n (onS true s))=true:=by
 have hF:=MI h;obtain ⟨h1,h2,_⟩:=q0f s n;by_cases hk:s.kind=4
 ·have ht:s.thn=[]:=List.eq_nil_of_length_eq_zero (by rcases hF.thn with h|h|h<;>omega);have he:s.els=[]:=List.eq_nil_of_length_eq_zero (by rcases hF.els with h|h<;>omega);have e:=(HK true s).trans (if_pos (.inl hk));rw [e,q3i,ht,he];rfl
 ·have hf:XI s=true:=by
   unfold oneOk at h;exact (Bool.and_eq_true_iff.1 h).1
  have e:=(HK true s).trans (if_neg (fun h=>h.elim hk fun h=>by cases h.2));have hl1:(nmS n (onS true s)).thn.length=s.thn.length:=by rw [h1,BD,HH,length_map]
  have hl2:(nmS n (onS true s)).els.length=s.els.length:=by rw [h2,BD,HH,length_map]
  have e2:XI (nmS n (onS true s))=XI s:=by
   unfold XI;rw [hl1,hl2];rw [e,q3i];rfl
  rw [e2,hf]
mutual
theorem z2e : ∀ (s:S) {nest seen m:Int} (n:Nat),q5s nest seen s=some m->n+XL s<=200->q5s nest n (nmS n (onS true s))=some ((n+XL s:Nat):Int)
 | .mk id kind labels name proc x has args thn els,nest,seen,m,n,h,hn=>by
   obtain ⟨h1,_,m1,h3,h4⟩:=GH h;obtain ⟨e1,e2,e3⟩:=q0f (.mk id kind labels name proc x has args thn els) n;have hc:XL (.mk id kind labels name proc x has args thn els)=1+cntL thn+cntL els:=by rw [XL]
   rw [hc] at hn;have q1:=MF thn (n+1) h3 (by omega);have q2:=MF els (n+1+cntL thn) h4 (by omega);have hlb:=(MI h1).labels;rw [x0s,if_neg (by omega),if_neg (by rw [e3];omega),(BP _ n).labels,hlb,x4e h1,e1,e2];show (bif true then bif true then (match WI (nest+1) ((n:Int)+1) (nmL (n+1) (onL true thn)) with|some m=>WI (nest+1) m (nmL (n+1+cntL thn) (onL true els))|none=>none) else none else none)=_;rw [show ((n:Int)+1)=((n+1:Nat):Int) by omega,q1];show WI (nest+1) ((n+1+cntL thn:Nat):Int) _=_;rw [q2,hc];congr 2;omega
theorem MF : ∀ (l:List S) {nest seen m:Int} (n:Nat),WI nest seen l=some m->n+cntL l<=200->WI nest n (nmL n (onL true l))=some ((n+cntL l:Nat):Int)
 | [],nest,seen,m,n,h,hn=>by rw [onL,nmL,WI,cntL];rfl
 | s::r,nest,seen,m,n,h,hn=>by
   obtain ⟨h1,m1,h2,h3⟩:=YP h;have hc:cntL (s::r)=XL s+cntL r:=by rw [cntL]
   rw [hc] at hn;have q1:=z2e s n h2 (by omega);have q2:=MF r (n+XL s) h3 (by omega);rw [onL,nmL,WI,if_neg (by omega),q1,x0u];show WI nest ((n+XL s:Nat):Int) _=_;rw [q2,hc];congr 2;omega
end
section
variable {p:Pg} {k:Nat} {f:Pr}
theorem x8r {t:S} (ht:t∈flL (gOf true f).body) : ∃ s∈flL f.body,OnT s t:=by
 rw [<- GR 0 0 (-1) 0 0 (gOf true f).body] at ht;obtain ⟨it',h1,rfl⟩:=List.mem_map.1 ht;obtain ⟨it,h2,h3,_⟩:=q9t f.body 0 0 0 0 0 0 0 (-1) (-1) 0 0 Iff.rfl it' h1;exact ⟨it.s,by rw [<- GR 0 0 (-1) 0 0 f.body];exact List.mem_map_of_mem h2,h3⟩
theorem w1z:cntL (gOf true f).body=cntL f.body:=by
 show cntL (nmL 0 (onL true f.body))=_;rw [q6c,JX]
theorem z5e:x0b (gOf true f)=x0b f:=by
 unfold x0b;show (flL (nmL 0 (onL true f.body))).flatMap S.labels++f.fin=_;rw [List.flatMap_def,List.flatMap_def,q5k]
theorem z8n {s t:S} (h:OnT s t) {v:Str} (hv:v∈XR t):v∈XR s:=by
 by_cases hk:s.kind=4
 ·obtain ⟨h1,h2,h3,h4⟩:=h.off hk;unfold XR JN at hv;rw [h1,h2,h3,h4] at hv;exact absurd hv (by
   have:VK (.mk 1 7 [] [])=[]:=rfl;rw [this];simp)
 ·obtain ⟨h1,h2,h3,h4⟩:=h.on hk;unfold XR JN at hv ⊢
  rwa [h1,h2,h3,h4] at hv
theorem w3y (h:chkB p=true) (hj:p.procs[k]? = some f):YA ⟨p.globals,[gOf true f]⟩=true:=by
 obtain ⟨hm,_⟩:=QD h;obtain ⟨h1,h2,h3,h4⟩:=GB hm;obtain ⟨_,_,hcn⟩:=VZ h;have hmem:f∈p.procs:=List.mem_of_getElem? hj;obtain ⟨h5,a,b,h6⟩:=h4 f hmem;have hc:=FE _ _ hmem;have q:=MF f.body (nest:=1) 0 h6 (by omega);obtain ⟨g1,g2,g3,g4,g5,g6⟩:=UD.1 h5;have g7:KQ (gOf true f)=true:=UD.2 ⟨g1,g2,g3,g4,g5,g6⟩;have e:XH 0 [gOf true f]=some ((0+cntL f.body:Nat):Int):=by
  rw [XH,g7,cond_true,show (gOf true f).body=nmL 0 (onL true f.body) from rfl];rw [show WI 1 0 (nmL 0 (onL true f.body))=some ((0+cntL f.body:Nat):Int) from q];rfl
 unfold YA;simp only;rw [e,h3];simp [h1]
theorem x2p {t:S} (ht:t∈YX ⟨p.globals,[gOf true f]⟩):t.kind≠4:=by
 unfold YX at ht;simp only [List.flatMap_cons,List.flatMap_nil,List.append_nil] at ht;obtain ⟨s,_,hs⟩:=x8r ht;exact hs.nocall
theorem w2n (h:chkB p=true) (hj:p.procs[k]? = some f) (hn:f.name=mainS) (hp:f.params=[]):chkB ⟨p.globals,[gOf true f]⟩=true:=by
 obtain ⟨hm,hs,ha,hjm,hal⟩:=QD h;have hM:=w3y h hj;obtain ⟨hb,hS⟩:=(q7e hm).1 hs;have hmem:f∈p.procs:=List.mem_of_getElem? hj;have hgl:XA p.globals=false:=by
  unfold XD at hb;rw [Bool.or_eq_false_iff] at hb;exact hb.1
 have hmb:XD ⟨p.globals,[gOf true f]⟩=false:=by
  unfold XD procsN;simp only [map_cons,List.map_nil];rw [hgl,show (gOf true f).name=mainS from hn];rw [show ([gOf true f].find? fun f=>mainS==f.name)=some (gOf true f) by
   rw [List.find?_cons,show (mainS==(gOf true f).name)=true by rw [show (gOf true f).name=mainS from hn];simp]]
  simp only;rw [show (gOf true f).params=[] from hp];rfl
 have hsc:(QT ⟨p.globals,[gOf true f]⟩).1=0:=(q7e hM).2 ⟨hmb,fun g hg=>by
  rcases List.mem_singleton.1 hg with rfl;refine ⟨(hS f hmem).nd,fun t ht => ?_⟩;obtain ⟨s,hs1,hs2⟩:=x8r ht;have h3:=(hS f hmem).kn s hs1;unfold knownB at h3 ⊢;rw [Bool.and_eq_true] at h3 ⊢;refine ⟨?_,by rw [decide_eq_true hs2.nocall];rfl⟩;rw [List.all_eq_true];intro v hv;exact List.all_eq_true.1 h3.1 v (z8n hs2 hv)⟩
 have har:(WY ⟨p.globals,[gOf true f]⟩).1=0:=(q7h hsc).2 fun t ht h4=>absurd h4 (x2p ht);have hju:(GA ⟨p.globals,[gOf true f]⟩).1=0:=(x2b hsc).2 fun j g hg=>by
  obtain ⟨h1,h2⟩:=(x2b hs).1 hjm k f hj
  match j,hg with
  | 0,hg =>
    obtain rfl:gOf true f=g:=by simpa using hg
    refine ⟨fun it' hi => ?_,by rw [z5e];exact h2⟩;obtain ⟨it,h3,h4,h5⟩:=q9t f.body 0 (QN p.procs k) _ (k:Nat) _ 0 0 (-1) (-1) 0 0 Iff.rfl it' hi;have h6:=h1 it h3;unfold WL at h6 ⊢;by_cases h7:it.s.kind=4
    ·have:=(h4.off h7).1;rw [if_neg (by omega),if_neg (by omega)]
    ·obtain ⟨e1,e2,_⟩:=h4.on h7;rw [e1,e2];split
     ·rename_i h8;rw [if_pos h8] at h6;have h9 : ¬it.loop=0:=by simpa using h6
      have : ¬it'.loop=0:=fun h=>h9 (h5.1 h);simpa using this
     ·rename_i h8;rw [if_neg h8] at h6;split
      ·rename_i h9;rw [if_pos h9] at h6;exact z1l.2 (by rw [z5e];exact z1l.1 h6)
      ·rfl
  | j+1,hg=>simp at hg
 have hali:(YH ⟨p.globals,[gOf true f]⟩).1=0:=(x9a har).2 fun t ht h4=>absurd h4 (x2p ht);exact z7y.2 ⟨hM,hsc,har,hju,hali⟩
end
mutual
theorem z9a : ∀ (s:S) (n:Nat),wS (nmS n (onS true s))<=wS s
 | .mk id kind labels name proc x has args thn els,n=>by
   have h1:=x3k thn (n+1);have h2:=x3k els (n+1+cntL thn);have h3:=z6y x;obtain ⟨e1,e2,_⟩:=q0f (.mk id kind labels name proc x has args thn els) n;have e1:_=nmL (n+1) (onL true thn):=e1;have e2:_=nmL (n+1+cntL thn) (onL true els):=e2;rw [x0f,e1,e2,(BP _ n).labels,wS];by_cases hk:kind=4
   ·obtain ⟨_,_,k3,k4⟩:=(BP (.mk id kind labels name proc x has args thn els) n).off hk;rw [k3,k4,wX,wXs,NB];simp only [S.labels];omega
   ·obtain ⟨_,_,k3,k4⟩:=(BP (.mk id kind labels name proc x has args thn els) n).on hk;rw [k3,k4];simp only [S.labels,S.x,S.args];omega
theorem x3k : ∀ (l:List S) (n:Nat),wL (nmL n (onL true l))<=wL l
 | [],n=>by rw [onL,nmL];exact Nat.le_refl _
 | s::r,n=>by
   have h1:=z9a s n;have h2:=x3k r (n+XL s);rw [onL,nmL,wL,wL,x0u];omega
end
theorem w3k {p:Pg} (hf:Fit p) {f:Pr} (hmem:f∈p.procs):Fit ⟨p.globals,[gOf true f]⟩:=by
 have h1:=x1c hmem;have h2:=x3k f.body 0;unfold Fit wPg at *
 simp only [z8x];have e:wPr (gOf true f)=1+x7k f.vars+x7k f.fin+z7h f.params+wL (nmL 0 (onL true f.body)):=rfl;rw [e];unfold wPr at h1;omega
structure OnlyF (p q:Pg) (g:Pr):Prop where
 only:onlyPg true p=q
 chk:chkB q=true
 fit:Fit q
 procs:q.procs=[g]
 way:wayO q mainS=some (newWay q 0 g)
 nocall : ∀ u∈flL g.body,u.kind≠4
 cnt:cntL g.body<=cntP p.procs
 copy:CopyF p
 raw:CopyF (onlyRaw true p)∧cntP (onlyRaw true p).procs<=100000
 pos:0<p.procs.length
theorem x5v {p:Pg} (hf:Fit p) (hc:chkB p=true) : ∃ (q:Pg) (g:Pr),OnlyF p q g:=by
 obtain ⟨k,f,hk,hm,hn,hp⟩:=q6q hc;have hmem:f∈p.procs:=List.mem_of_getElem? hk;have hq:=w2n hc hk hn hp;refine ⟨⟨p.globals,[gOf true f]⟩,gOf true f,z7l hm,hq,w3k hf hmem,rfl,?_,fun u hu => ?_,by rw [w1z];exact FE _ _ hmem,w0x hf hc,x9n hf hc hm,by have:=(List.getElem?_eq_some_iff.1 hk).1;omega⟩
 ·unfold wayO;rw [hq,cond_true];have e:((gOf true f).name==mainS)=true:=by rw [show (gOf true f).name=mainS from hn];simp
  simp only [List.find?_cons,e,List.findIdx_cons,cond_true]
 ·obtain ⟨s,_,hs⟩:=x8r hu;exact hs.nocall
theorem OnlyF.at0 {p q:Pg} {g:Pr} (h:OnlyF p q g):q.procs[0]? = some g:=by rw [h.procs];rfl
def eR (p:Pg) (k:Nat) (g:Pr):Int->Int->Prop:=stR ((newWay p k g).real.filter (FI p (endsR p)))
inductive Pos:List Fm->Int->Nat->Int->Prop
 | top {st:List Fm} {f:Fm} {x:Int}:Pos (st++[f]) x f.proc x
 | low {st:List Fm} {f:Fm} {x:Int} {k:Nat} {y:Int} (h:Pos st f.call k y):Pos (st++[f]) x k y
theorem Pos.inv {st:List Fm} {f:Fm} {x:Int} {k:Nat} {y:Int} (h:Pos (st++[f]) x k y):(k=f.proc∧y=x)∨Pos st f.call k y:=by
 generalize hl:st++[f]=l at h;cases h with
 | top =>
   obtain ⟨_,h2⟩:=List.append_inj' hl rfl;cases h2;exact .inl ⟨rfl,rfl⟩
 | low h =>
   obtain ⟨rfl,h2⟩:=List.append_inj' hl rfl;cases h2;exact .inr h
def EvP (p:Pg) (P:Nat->Int->Prop) (e:Int×List Int):Prop := ∃ k g t,p.procs[k]? = some g∧t∈flL g.body∧t.id=e.1∧Rch (eR p k g) 0 e.1∧(Rch (eR p k g) e.1 (-1) ∨ ∃ y,P k y∧Rch (eR p k g) e.1 y)
structure InvM (p:Pg) (M:Mc) (x:Int):Prop where
 pos : ∀ k y,Pos M.stack x k y -> ∃ g,p.procs[k]? = some g∧Rch (eR p k g) 0 y
 ev : ∀ e∈M.trace,EvP p (Pos M.stack x) e
 fr : ∀ f∈M.stack,(f.call=0∧f.proc=mainN p)∨(f.call≠0 ∧ ∃ g it,p.procs[f.proc]? = some g∧(sheetOf p).l[(f.call-1).toNat]? = some it∧g.name=it.s.proc)
def closedE (p:Pg) (e:Int×List Int):Prop := ∃ k g t,p.procs[k]? = some g∧t∈flL g.body∧t.id=e.1∧Rch (eR p k g) 0 e.1∧Rch (eR p k g) e.1 (-1)
def liveE (p:Pg) (e:Int×List Int):Prop := ∃ k g t,p.procs[k]? = some g∧t∈flL g.body∧t.id=e.1∧Rch (eR p k g) 0 e.1
structure InvF (p:Pg) (M:Mc):Prop where
 live : ∀ e∈M.trace,liveE p e
 done:M.fin=1->mainS∈endsR p ∧ ∀ e∈M.trace,closedE p e
def z8o (p:Pg):Cf->Prop
 | .next a M=>InvM p M a
 | .back _ M=>InvM p M (-1)
 | .fin M=>InvF p M
theorem InvM.fin {p:Pg} {M M':Mc} {x:Int} (h:InvM p M x) (ht:M'.trace=M.trace) (hf:M'.fin≠1):InvF p M' :=
 ⟨fun e he=>by
   obtain ⟨k,g,t,h1,h2,h3,h4,_⟩:=h.ev e (ht▸he);exact ⟨k,g,t,h1,h2,h3,h4⟩,fun h=>absurd h hf⟩
theorem MA {w:List Int} {M:Mc} {id:Int} {v:List Int} {e:Int×List Int} (h:e∈(QY w M id v).trace):e∈M.trace∨e.1=id:=by
 unfold QY at h;cases hw:w.any (fun x=>decide (id=x))<;>rw [hw] at h
 ·exact .inl h
 ·rcases List.mem_append.1 h with h|h
  ·exact .inl h
  ·rw [List.mem_singleton.1 h];exact .inr rfl
section
variable {p:Pg} (hc:chkB p=true)
include hc
theorem z6r {k:Nat} {g:Pr} (hk:p.procs[k]? = some g) {it:Item} (hi:it∈itsOf p k g) {b:Int} (hb:b∈WF (sheetOf p) g it) (hcall:it.s.kind=4->it.s.proc∈endsR p):eR p k g it.s.id b:=by
 refine ⟨⟨it.s.id,b,1⟩,List.mem_filter.2 ⟨((YN hc hk).2 _).2 (z0g hi hb),?_⟩,rfl,rfl⟩;unfold FI;rw [Bool.or_eq_true];refine .inr ?_;show (match z5r p it.s.id with|some s=>_|none=>_)=true;rw [z6b hc hk (DB hi)];show (!(decide (it.s.kind=4) && !((endsR p).any fun x=>it.s.proc==x)))=true;by_cases h4:it.s.kind=4
 ·have h5:((endsR p).any fun x=>it.s.proc==x)=true:=List.any_eq_true.2 ⟨_,hcall h4,by simp⟩;rw [h5];simp
 ·simp [h4]
theorem x4k {k:Nat} {g:Pr} (hk:p.procs[k]? = some g):eR p k g 0 (NM p k g):=by
 refine ⟨⟨0,z8i p k g,1⟩,List.mem_filter.2 ⟨((YN hc hk).2 _).2 (by unfold QJ z8i;exact mem_cons_self),?_⟩,rfl,rfl⟩;unfold FI;simp
theorem z9o {k:Nat} {g:Pr} (hk:p.procs[k]? = some g) (h:Rch (eR p k g) 0 (-1)):g.name∈endsR p:=(z3l hc hk).2 h
omit hc in
theorem InvM.on {M M':Mc} {a b:Int} {st:List Fm} {f:Fm} (h:InvM p M a) (hs:M.stack=st++[f]) (hs':M'.stack=M.stack) {g:Pr} (hk:p.procs[f.proc]? = some g) {it:Item} (hi:it∈itsOf p f.proc g) (hid:it.s.id=a) (hb:eR p f.proc g a b)
  (ht : ∀ e∈M'.trace,e∈M.trace∨e.1=it.s.id):InvM p M' b:=by
 have h0:Rch (eR p f.proc g) 0 a:=by
  obtain ⟨g',h1,h2⟩:=h.pos f.proc a (by rw [hs];exact .top);rw [hk] at h1;cases h1;exact h2
 refine ⟨fun k y hp => ?_,fun e he => ?_,fun f' hf=>h.fr f' (hs'▸hf)⟩
 ·rw [hs',hs] at hp;rcases hp.inv with ⟨rfl,rfl⟩|hp
  ·exact ⟨g,hk,.tail h0 hb⟩
  ·exact h.pos k y (by rw [hs];exact .low hp)
 ·rcases ht e he with he|he
  ·obtain ⟨k,g',t,h1,h2,h3,h4,h5⟩:=h.ev e he;refine ⟨k,g',t,h1,h2,h3,h4,?_⟩;rcases h5 with h5|⟨y,h5,h6⟩
   ·exact .inl h5
   ·rw [hs] at h5;rcases h5.inv with ⟨rfl,rfl⟩|h5
    ·rw [hk] at h1;cases h1;exact .inr ⟨b,by rw [hs',hs];exact .top,.tail h6 hb⟩
    ·exact .inr ⟨y,by rw [hs',hs];exact .low h5,h6⟩
  ·rw [hid] at he;exact ⟨f.proc,g,it.s,hk,DB hi,by rw [he,hid],by rw [he];exact h0,.inr ⟨b,by rw [hs',hs];exact .top,by rw [he];exact .tail .refl hb⟩⟩
theorem InvM.push {M M':Mc} {a:Int} {st:List Fm} {f n:Fm} (h:InvM p M a) (hs:M.stack=st++[f]) (hs':M'.stack=M.stack++[n]) (hn:n.call=a) {g:Pr} (hk:p.procs[f.proc]? = some g) {it:Item} (hi:it∈itsOf p f.proc g) (hid:it.s.id=a) {q:Pr} (hq:p.procs[n.proc]? = some q) (hnm:q.name=it.s.proc)
  (ht : ∀ e∈M'.trace,e∈M.trace∨e.1=it.s.id):InvM p M' (NM p n.proc q):=by
 have h0:Rch (eR p f.proc g) 0 a:=by
  obtain ⟨g',h1,h2⟩:=h.pos f.proc a (by rw [hs];exact .top);rw [hk] at h1;cases h1;exact h2
 have hup : ∀ k y,Pos M.stack a k y->Pos M'.stack (NM p n.proc q) k y:=fun k y hp=>by
  rw [hs'];exact .low (by rw [hn];exact hp)
 refine ⟨fun k y hp => ?_,fun e he => ?_,fun f' hf => ?_⟩
 ·rw [hs'] at hp;rcases hp.inv with ⟨rfl,rfl⟩|hp
  ·exact ⟨q,hq,.tail .refl (x4k hc hq)⟩
  ·rw [hn] at hp;exact h.pos k y hp
 ·rcases ht e he with he|he
  ·obtain ⟨k,g',t,h1,h2,h3,h4,h5⟩:=h.ev e he;exact ⟨k,g',t,h1,h2,h3,h4,h5.imp id fun ⟨y,h6,h7⟩=>⟨y,hup _ _ h6,h7⟩⟩
  ·rw [hid] at he;exact ⟨f.proc,g,it.s,hk,DB hi,by rw [he,hid],by rw [he];exact h0,.inr ⟨a,hup _ _ (by rw [hs];exact .top),by rw [he];exact .refl⟩⟩
 ·rw [hs'] at hf;rcases List.mem_append.1 hf with hf|hf
  ·exact h.fr f' hf
  ·rw [List.mem_singleton.1 hf];have:=JU (QD hc).1 hk (DB hi);refine .inr ⟨by omega,q,it,hq,?_,hnm⟩;rw [hn,<- hid];exact z9s hc hk hi
theorem x9r:z8o p (KL p):=by
 obtain ⟨h1,h2,h3⟩:=q2r hc;have hs:(YJ p (mainN p) (prA p (mainN p)) [] 0 (M00 p)).stack=[]++[⟨mainN p,varsS p (prA p (mainN p)),List.range p.globals.length++[]++List.range' (M00 p).mem.length (prA p (mainN p)).vars.length,0⟩]:=rfl;refine InvM.mk (fun k y hp => ?_) (fun e he=>(by cases he)) (fun f hf => ?_)
 ·rw [hs] at hp;rcases hp.inv with ⟨rfl,rfl⟩|hp
  ·exact ⟨_,h2,.tail .refl (x4k hc h2)⟩
  ·generalize hl:([]:List Fm)=l at hp;cases hp<;>simp at hl
 ·rw [hs] at hf;rw [List.mem_singleton.1 hf];exact .inl ⟨rfl,rfl⟩
theorem z0c:(prA p (mainN p)).name=mainS:=by
 obtain ⟨h1,h2,_⟩:=q2r hc;obtain ⟨k,f,h3,_,h5,_⟩:=q6q hc;obtain ⟨k',hk',h6,_,_,h7⟩:=q0w (p:=p) (n:=mainS) (List.mem_map.2 ⟨f,List.mem_of_getElem? h3,h5⟩);have e:mainN p=k':=by unfold mainN;rw [h6];rfl
 rw [e,q1q (List.getElem?_eq_getElem hk')];exact h7
omit hc in
theorem z9b (tape watch:List Int) {M:Mc} {f:Fm} {g:Pr} {it:Item} {r:Int×Mc} (hr:r=doM p tape watch M f g it) (h0:M.fin=0):(∀ e∈r.2.trace,e∈M.trace∨e.1=it.s.id)∧(r.2.fin≠0->r.2.trace=M.trace∧r.2.fin≠1):=by
 subst hr;have key : ∀ (M1 M2:Mc) (v:List Int),M1.trace=M.trace->M1.fin=0->M2.trace=(QY watch M1 it.s.id v).trace->M2.fin=(QY watch M1 it.s.id v).fin->(∀ e∈M2.trace,e∈M.trace∨e.1=it.s.id)∧(M2.fin≠0->M2.trace=M.trace∧M2.fin≠1):=fun M1 M2 v h1 h2 h3 h4=>by
  refine ⟨fun e he => ?_,fun h => ?_⟩
  ·rw [h3] at he;rcases MA he with h|h
   ·exact .inl (h1▸h)
   ·exact .inr h
  ·rw [h4,(VY watch M1 it.s.id v).2.2.1,h2] at h;exact absurd rfl h
 have bad : ∀ c:Int,c≠1->(∀ e∈(endM M c).trace,e∈M.trace∨e.1=it.s.id)∧((endM M c).fin≠0->(endM M c).trace=M.trace∧(endM M c).fin≠1):=fun c hc=>⟨fun e he => .inl he,fun _=>⟨rfl,hc⟩⟩;unfold doM;split
 ·exact key M _ [] rfl h0 rfl rfl
 split
 ·exact key M _ [] rfl h0 rfl rfl
 split
 ·exact key M _ [] rfl h0 rfl rfl
 split
 ·split
  ·exact bad 3 (by decide)
  ·exact key (setM { M with reads:=M.reads+1 } (varM f it.s.name) (tape.getD M.reads.toNat 0)) _ [tape.getD M.reads.toNat 0] rfl h0 rfl rfl
 cases (QL M f it.s.x).2 with
 | false=>exact bad 4 (by decide)
 | true =>
   rw [cond_true];generalize (QL M f it.s.x).1=n;split
   ·exact key M _ [n] rfl h0 rfl rfl
   split
   ·exact key M _ [n] rfl h0 rfl rfl
   split
   ·exact key M _ [n] rfl h0 rfl rfl
   split
   ·exact key M _ [n] rfl h0 rfl rfl
   ·exact key M _ [n] rfl h0 rfl rfl
theorem z4n {M:Mc} {b:Int} (hG:Good p M b) (h:InvM p M (-1)) (gave:Int):z8o p (JM p gave M):=by
 obtain ⟨st,hs⟩:=hG.top;have hst:M.stack.dropLast=st:=by rw [hs,List.dropLast_concat]
 have hch:=hG.ch;rw [hs] at hch;have hfr:=h.fr (XN M) (by rw [hs];simp);obtain ⟨q',hq',hend⟩:=h.pos _ _ (by rw [hs];exact .top);have hen:=z9o hc hq' hend;generalize hF:XN M=F at *
 unfold JM;rw [hst,hF];generalize hL:st++[F]=L at hch;cases hch with
 | one h0 =>
   rename_i f;obtain ⟨rfl,h2⟩:=List.append_inj' (show st++[F]=[]++[f] from hL) rfl;have h2:F=f:=by simpa using h2
   subst h2;rw [if_pos h0];refine InvF.mk (fun e he => ?_) fun _=>⟨?_,fun e he => ?_⟩
   ·obtain ⟨k,g,t,u1,u2,u3,u4,_⟩:=h.ev e he;exact ⟨k,g,t,u1,u2,u3,u4⟩
   ·rcases hfr with ⟨_,hm⟩|⟨hne,_⟩
    ·rw [hm,(q2r hc).2.1] at hq';cases hq';rw [z0c hc] at hen;exact hen
    ·exact absurd h0 hne
   ·obtain ⟨k,g,t,u1,u2,u3,u4,u5⟩:=h.ev e he;refine ⟨k,g,t,u1,u2,u3,u4,?_⟩;rcases u5 with u5|⟨y,u5,u6⟩
    ·exact u5
    ·rw [hs] at u5;rcases u5.inv with ⟨_,rfl⟩|u5
     ·exact u6
     ·generalize hl:([]:List Fm)=l at u5;cases u5<;>simp at hl
 | push hl h1 hle hit hk hp hi hid =>
   rename_i l g f q it;obtain ⟨rfl,h2⟩:=List.append_inj' hL rfl;have h2:F=f:=by simpa using h2
   subst h2;rw [if_neg (by omega),hit];have hpr:it.s.proc∈endsR p:=by
    rcases hfr with ⟨h0,_⟩|⟨_,g',it',v1,v2,v3⟩
    ·omega
    ·rw [hit] at v2;cases v2;rw [hq'] at v1;cases v1;rw [<- v3];exact hen
   have hstep:eR p g.proc q F.call it.next:=by
    rw [<- hid];refine z6r hc hp hi ?_ fun _=>hpr;unfold WF;rw [if_neg (by omega),if_neg (by omega),if_neg (by omega),if_neg (by omega),if_neg (by omega),if_neg (by omega)];exact mem_cons_self
   have key : ∀ M':Mc,M'.stack=l++[g]->M'.trace=M.trace->InvM p M' it.next:=fun M' e1 e2=>by
    refine ⟨fun k y hP => ?_,fun e he => ?_,fun f' hf=>h.fr f' (by rw [hs];rw [e1] at hf;exact List.mem_append_left _ hf)⟩
    ·rw [e1] at hP;rcases hP.inv with ⟨rfl,rfl⟩|hP
     ·obtain ⟨q2,w1,w2⟩:=h.pos g.proc F.call (by rw [hs];exact .low .top);rw [hp] at w1;cases w1;exact ⟨q,hp,.tail w2 hstep⟩
     ·exact h.pos k y (by rw [hs];exact .low (.low hP))
    ·rw [e2] at he;obtain ⟨k,g',t,u1,u2,u3,u4,u5⟩:=h.ev e he;refine ⟨k,g',t,u1,u2,u3,u4,?_⟩;rcases u5 with u5|⟨y,u5,u6⟩
     ·exact .inl u5
     ·rw [hs] at u5;rcases u5.inv with ⟨_,rfl⟩|u5
      ·exact .inl u6
      ·rcases u5.inv with ⟨rfl,rfl⟩|u5
       ·rw [hp] at u1;cases u1;exact .inr ⟨it.next,by rw [e1];exact .top,.tail u6 hstep⟩
       ·exact .inr ⟨y,by rw [e1];exact .low u5,u6⟩
   show InvM p (if it.s.name=[] then _ else _) it.next;split
   ·exact key _ rfl rfl
   ·exact key _ rfl rfl
omit hc in
theorem z6q (watch:List Int) {M:Mc} {f:Fm} {t:S} {r:Int×Mc} (hr:r=q8b watch M f t) (h0:M.fin=0):(∀ e∈r.2.trace,e∈M.trace∨e.1=t.id)∧(r.2.fin≠0->r.2.trace=M.trace∧r.2.fin≠1):=by
 subst hr;have key : ∀ v,(∀ e∈(QY watch M t.id v).trace,e∈M.trace∨e.1=t.id)∧((QY watch M t.id v).fin≠0->(QY watch M t.id v).trace=M.trace∧(QY watch M t.id v).fin≠1):=fun v=>⟨fun e he=>MA he,fun h=>by
  rw [(VY watch M t.id v).2.2.1,h0] at h;exact absurd rfl h⟩
 unfold q8b;cases t.has with
 | false=>exact key []
 | true =>
   rw [cond_true];cases (QL M f t.x).2 with
   | false=>exact ⟨fun e he => .inl he,fun _=>⟨rfl,by show (4:Int)≠1;decide⟩⟩
   | true=>exact key _
theorem z3e (watch:List Int) {M:Mc} {b:Int} (hG:Good p M b) {g:Pr} (hk:p.procs[(XN M).proc]? = some g) {it:Item} (hi:it∈itsOf p (XN M).proc g) (h4:it.s.kind=4) (h:InvM p M it.s.id):z8o p (x9q (JT p watch M (XN M) it.s (NE p it.s) (prA p (NE p it.s)))):=by
 have ht:=DB hi;obtain ⟨k0,k1,k2⟩:=x7b hc hk ht h4;obtain ⟨st,hst⟩:=hG.top;have hnm:(prA p (NE p it.s)).name=it.s.proc:=by
  obtain ⟨k',_,u2,_,u4,_⟩:=x3w hc (List.mem_flatMap.2 ⟨g,List.mem_of_getElem? hk,ht⟩) h4;have e:NE p it.s=k':=by
   unfold NE;show (caI p it.s).toNat=k';rw [u2];rfl
  rw [e];exact u4
 obtain ⟨a1,a2,a3,a4,a5,a6,a7,a8⟩:=q5j (f:=XN M) it.s.args [] M (fun a ha hr=>(q4m hc hG hk ht (z8u ha hr)).2) (fun v hv=>by cases hv);unfold JT;generalize argsM (XN M) it.s.args [] M=ar at *
 obtain ⟨ps,M1,ok⟩:=ar;simp only at a1 a2 a3 a4 a5 a6 a7 a8 ⊢;unfold x9q;cases ok with
 | false =>
   have h8:M1.fin=4:=a8 rfl;rw [cond_false,if_neg (by show ¬M1.fin=0;omega)];exact h.fin a6 (by show M1.fin≠1;omega)
 | true =>
   obtain ⟨b1,_,_⟩:=a7 rfl;rw [cond_true];split
   ·exact h.fin (M':=endM M1 5) a6 (by show (5:Int)≠1;decide)
   ·have e1:=VY watch M1 it.s.id [];have h0:(YJ p (NE p it.s) (prA p (NE p it.s)) ps it.s.id (QY watch M1 it.s.id [])).fin=0:=by
     show (QY watch M1 it.s.id []).fin=0;rw [e1.2.2.1,b1];exact hG.fin
    rw [if_pos h0];refine InvM.push hc (n:=⟨NE p it.s,varsS p (prA p (NE p it.s)),List.range p.globals.length++ps++List.range' (QY watch M1 it.s.id []).mem.length (prA p (NE p it.s)).vars.length,it.s.id⟩) h hst ?_ rfl hk hi rfl k1 hnm ?_
    ·show (QY watch M1 it.s.id []).stack++_=M.stack++_;rw [e1.1,a1]
    ·intro e he;have he:e∈(QY watch M1 it.s.id []).trace:=he;rcases MA he with h5|h5
     ·exact .inl (a6▸h5)
     ·exact .inr h5
theorem w0l (tape watch:List Int) {fuel:Int} {c:Cf} (hG:BU p fuel c) (h:z8o p c):z8o p (goC p tape watch fuel c):=by
 cases c with
 | fin M=>exact h
 | back g M=>exact z4n hc hG.1 h g
 | next a M =>
   obtain ⟨hGd,h0,h1,hat⟩:=hG;have h:InvM p M a:=h;simp only [goC];by_cases ha:a = -1
   ·rw [if_pos ha];show InvM p M (-1);rw [<- ha];exact h
   rw [if_neg ha];by_cases hf:M.steps=fuel
   ·rw [if_pos hf];exact h.fin (M':=endM M 2) rfl (by show (2:Int)≠1;decide)
   rw [if_neg hf];rcases hat with h2|⟨g,it,hg,_,hit,hi,hid⟩
   ·exact absurd h2 ha
   rw [hit];simp only;have hG1:Good p (ZJ M) M.steps:=hGd.same rfl (Nat.le_refl _) hGd.fin hGd.r0 hGd.rd hGd.tr hGd.ou;have hk1:p.procs[(XN (ZJ M)).proc]? = some g:=hg;have hi1:it∈itsOf p (XN (ZJ M)).proc g:=hi;have hI1:InvM p (ZJ M) it.s.id:=by
    rw [hid];exact ⟨h.pos,h.ev,h.fr⟩
   obtain ⟨st,hst⟩:=hG1.top;unfold stI;by_cases h4:it.s.kind=4
   ·rw [if_pos h4];exact z3e hc watch hG1 hk1 hi1 h4 hI1
   rw [if_neg h4];by_cases h9:it.s.kind=9
   ·rw [if_pos h9];obtain ⟨u1,u2⟩:=z1q watch hG1 it.s rfl;obtain ⟨v1,v2⟩:=z6q watch (M:=ZJ M) (f:=XN (ZJ M)) (t:=it.s) rfl hGd.fin;generalize q8b watch (ZJ M) (XN (ZJ M)) it.s=r at *
    unfold q8x;by_cases hz:r.2.fin=0
    ·rw [if_pos hz];refine hI1.on hst (u2 hz).2 hk1 hi1 rfl (z6r hc hk1 hi1 ?_ fun h=>absurd h h4) v1;unfold WF;rw [if_neg (by omega),if_neg (by omega),if_neg (by omega),if_neg (by omega),if_pos h9];exact mem_cons_self
    ·rw [if_neg hz];exact hI1.fin (v2 hz).1 (v2 hz).2
   rw [if_neg h9,q1q hk1];obtain ⟨u1,u2⟩:=z7c hc tape watch hG1 hk1 hi1 h4 h9 rfl;obtain ⟨v1,v2⟩:=z9b (M:=ZJ M) (f:=XN (ZJ M)) (g:=g) (it:=it) tape watch rfl hGd.fin;have hgo:=x0i (p:=p) tape watch (M:=ZJ M) (f:=XN (ZJ M)) (g:=g) h4 h9 rfl;generalize doM p tape watch (ZJ M) (XN (ZJ M)) g it=r at *
   unfold x9q;by_cases hz:r.2.fin=0
   ·rw [if_pos hz];exact hI1.on hst (u2 hz).2.2 hk1 hi1 rfl (z6r hc hk1 hi1 (hgo hz) fun h=>absurd h h4) v1
   ·rw [if_neg hz];exact hI1.fin (v2 hz).1 (v2 hz).2
theorem z7t (tape watch:List Int) {fuel:Int} (h0:0<=fuel) (n:Nat):BU p fuel (NT p tape watch fuel n (KL p))∧z8o p (NT p tape watch fuel n (KL p)):=by
 induction n with
 | zero=>exact ⟨x3j hc h0,x9r hc⟩
 | succ n ih =>
   rw [KE];refine ⟨?_,w0l hc tape watch ih.1 ih.2⟩;generalize NT p tape watch fuel n (KL p)=c at *
   cases c with
   | fin M=>exact trivial
   | next a M=>exact (q6g hc tape watch ih.1 (fun _ h=>by cases h)).1
   | back g M=>exact (q6g hc tape watch ih.1 (fun _ h=>by cases h)).1
end
def pathL (R:Int->Int->Prop):Int->List Int->Prop
 | _,[]=>True
 | a,b::r=>R a b∧pathL R b r
def lastD (a:Int) (l:List Int):Int:=l.getLast?.getD a
theorem q3q (a b:Int) (l:List Int):lastD a (l++[b])=b:=by
 unfold lastD;rw [List.getLast?_concat];rfl
theorem x5n (a c:Int) (r:List Int):lastD a (c::r)=lastD c r:=by
 unfold lastD;rw [List.getLast?_cons];rfl
theorem PP {R:Int->Int->Prop} {b:Int} : ∀ (l:List Int) (a:Int),pathL R a (l++[b])↔pathL R a l∧R (lastD a l) b
 | [],a=>by
   show (R a b∧True)↔(True∧R a b);exact And.comm
 | c::r,a=>by
   rw [List.cons_append,pathL,pathL,PP r c,x5n,and_assoc]
theorem q8o {R:Int->Int->Prop} {m:List Int} : ∀ (l:List Int) (a:Int),pathL R a (l++m)->pathL R a l
 | [],_,_=>trivial
 | c::r,a,h=>⟨h.1,q8o r c h.2⟩
theorem z4t {R:Int->Int->Prop} {a:Int} {l:List Int} (h:pathL R a l) {j:Nat} (hj:j<l.length):R (lastD a (l.take j)) l[j]:=by
 rw [<- List.take_append_drop (j+1) l] at h;have h:=q8o _ _ h;rw [List.take_succ_eq_append_getElem hj] at h;exact ((PP _ _).1 h).2
structure PathM (R:Int->Int->Prop) (M:Mc) (x:Int):Prop where
 one : ∃ f,M.stack=[f]
 path:pathL R 0 (M.trace.map Prod.fst)
 last:R (lastD 0 (M.trace.map Prod.fst)) x
structure PathF (R:Int->Int->Prop) (M:Mc):Prop where
 path:pathL R 0 (M.trace.map Prod.fst)
 done:M.fin=1->R (lastD 0 (M.trace.map Prod.fst)) (-1)
def z3g (R:Int->Int->Prop):Cf->Prop
 | .next a M=>PathM R M a
 | .back _ M=>PathM R M (-1)
 | .fin M=>PathF R M
theorem PathM.on {R:Int->Int->Prop} {M M':Mc} {a b:Int} (h:PathM R M a) (hs:M'.stack=M.stack) (ht : ∃ v,M'.trace=M.trace++[(a,v)]) (hb:R a b):PathM R M' b:=by
 obtain ⟨v,ht⟩:=ht;have e:M'.trace.map Prod.fst=M.trace.map Prod.fst++[a]:=by rw [ht,List.map_append];rfl
 refine ⟨by rw [hs];exact h.one,?_,?_⟩
 ·rw [e];exact (PP _ _).2 ⟨h.path,h.last⟩
 ·rw [e,q3q];exact hb
theorem PathM.fin {R:Int->Int->Prop} {M M':Mc} {a:Int} (h:PathM R M a) (ht:M'.trace=M.trace) (hf:M'.fin≠1):PathF R M' :=
 ⟨by rw [ht];exact h.path,fun h=>absurd h hf⟩
theorem z8f {w:List Int} {M:Mc} {id:Int} {v:List Int} (hw:(w.any fun x=>decide (id=x))=true):(QY w M id v).trace=M.trace++[(id,v)]:=by
 unfold QY;rw [hw];rfl
theorem w1w {p:Pg} (tape watch:List Int) {M:Mc} {f:Fm} {g:Pr} {it:Item} {r:Int×Mc} (hr:r=doM p tape watch M f g it) (hw:(watch.any fun x=>decide (it.s.id=x))=true):r.2.fin=0 -> ∃ v,r.2.trace=M.trace++[(it.s.id,v)]:=by
 subst hr;have key : ∀ (M1 M2:Mc) (v:List Int),M1.trace=M.trace->M2.trace=(QY watch M1 it.s.id v).trace->M2.fin=0 -> ∃ v,M2.trace=M.trace++[(it.s.id,v)]:=fun M1 M2 v h1 h3 _=>⟨v,by rw [h3,z8f hw,h1]⟩;have bad : ∀ c:Int,c≠0->(endM M c).fin=0 -> ∃ v,(endM M c).trace=M.trace++[(it.s.id,v)]:=fun c hc h=>absurd h hc;unfold doM;split
 ·exact key M _ [] rfl rfl
 split
 ·exact key M _ [] rfl rfl
 split
 ·exact key M _ [] rfl rfl
 split
 ·split
  ·exact bad 3 (by decide)
  ·exact key (setM { M with reads:=M.reads+1 } (varM f it.s.name) (tape.getD M.reads.toNat 0)) _ [tape.getD M.reads.toNat 0] rfl rfl
 cases (QL M f it.s.x).2 with
 | false=>exact bad 4 (by decide)
 | true =>
   rw [cond_true];generalize (QL M f it.s.x).1=n;split
   ·exact key M _ [n] rfl rfl
   split
   ·exact key M _ [n] rfl rfl
   split
   ·exact key M _ [n] rfl rfl
   split
   ·exact key M _ [n] rfl rfl
   ·exact key M _ [n] rfl rfl
theorem z9z (watch:List Int) {M:Mc} {f:Fm} {t:S} {r:Int×Mc} (hr:r=q8b watch M f t) (hw:(watch.any fun x=>decide (t.id=x))=true):r.2.fin=0 -> ∃ v,r.2.trace=M.trace++[(t.id,v)]:=by
 subst hr;unfold q8b;cases t.has with
 | false=>exact fun _=>⟨[],z8f hw⟩
 | true =>
   rw [cond_true];cases (QL M f t.x).2 with
   | false=>exact fun h=>absurd h (by show ¬(4:Int)=0;decide)
   | true=>exact fun _=>⟨_,z8f hw⟩
theorem w4g {p:Pg} (hc:chkB p=true) {k:Nat} {g:Pr} (hk:p.procs[k]? = some g) {it:Item} (hi:it∈itsOf p k g) {b:Int} (hb:b∈WF (sheetOf p) g it):wR p k g it.s.id b :=
 ⟨⟨it.s.id,b,1⟩,((YN hc hk).2 _).2 (z0g hi hb),rfl,rfl⟩
theorem z7n {p:Pg} (hc:chkB p=true) {k:Nat} {g:Pr} (hk:p.procs[k]? = some g):wR p k g 0 (NM p k g) :=
 ⟨⟨0,z8i p k g,1⟩,((YN hc hk).2 _).2 (by unfold QJ z8i;exact mem_cons_self),rfl,rfl⟩
theorem z5l {q:Pg} {g g':Pr} {k:Nat} (hp:q.procs=[g]) (hk:q.procs[k]? = some g'):k=0∧g'=g:=by
 rw [hp] at hk
 match k,hk with
 | 0,hk=>exact ⟨rfl,by simpa using hk.symm⟩
 | k+1,hk=>simp at hk
theorem z8m {q:Pg} (hm:YA q=true) {k:Nat} {g:Pr} (hk:q.procs[k]? = some g) {it:Item} (hi:it∈itsOf q k g):((q2z q 0).any fun x=>decide (it.s.id=x))=true:=by
 rw [List.any_eq_true];refine ⟨it.s.id,?_,by simp⟩;have h1:it.s∈(allR q).map RI.s:=by
  rw [z1s hm];exact List.mem_flatMap.2 ⟨g,List.mem_of_getElem? hk,DB hi⟩
 obtain ⟨x,h2,h3⟩:=List.mem_map.1 h1;unfold q2z;exact List.mem_map.2 ⟨x,List.mem_filter.2 ⟨h2,rfl⟩,by rw [h3]⟩
section
variable {q:Pg} (hc:chkB q=true) {g:Pr} (hp:q.procs=[g]) (hno : ∀ u∈flL g.body,u.kind≠4)
include hc hp hno
theorem z8p (tape:List Int) {fuel:Int} {c:Cf} (hG:BU q fuel c) (h:z3g (wR q 0 g) c):z3g (wR q 0 g) (goC q tape (q2z q 0) fuel c):=by
 cases c with
 | fin M=>exact h
 | back gv M =>
   have h:PathM (wR q 0 g) M (-1):=h;obtain ⟨f,hs⟩:=h.one;have hch:=hG.1.ch;rw [hs] at hch;have h0:f.call=0:=by
    generalize hL:[f]=L at hch;cases hch with
    | one h0 =>
      cases hL;exact h0
    | push =>
      have:=congrArg List.length hL;simp at this
   show z3g _ (JM q gv M);unfold JM;rw [if_pos (by rw [MM (st:=[]) hs];exact h0)];exact ⟨h.path,fun _=>h.last⟩
 | next a M =>
   obtain ⟨hGd,h0,h1,hat⟩:=hG;have h:PathM (wR q 0 g) M a:=h;simp only [goC];by_cases ha:a = -1
   ·rw [if_pos ha];show PathM _ M (-1);rw [<- ha];exact h
   rw [if_neg ha];by_cases hf:M.steps=fuel
   ·rw [if_pos hf];exact h.fin (M':=endM M 2) rfl (by show (2:Int)≠1;decide)
   rw [if_neg hf];rcases hat with h2|⟨g',it,hg,_,hit,hi,hid⟩
   ·exact absurd h2 ha
   rw [hit];simp only;obtain ⟨hk0,rfl⟩:=z5l hp hg;have hG1:Good q (ZJ M) M.steps:=hGd.same rfl (Nat.le_refl _) hGd.fin hGd.r0 hGd.rd hGd.tr hGd.ou;have hk1:q.procs[(XN (ZJ M)).proc]? = some g':=hg;have hi1:it∈itsOf q (XN (ZJ M)).proc g':=hi;have hI1:PathM (wR q 0 g') (ZJ M) it.s.id:=by
    rw [hid];exact ⟨h.one,h.path,h.last⟩
   have h4:=hno it.s (DB hi);have hw:=z8m (QD hc).1 hg hi;have hgo : ∀ b,b∈WF (sheetOf q) g' it->wR q 0 g' it.s.id b:=fun b hb=>by
    have:=w4g hc hg hi hb
    rwa [hk0] at this
   unfold stI;rw [if_neg h4];by_cases h9:it.s.kind=9
   ·rw [if_pos h9];obtain ⟨u1,u2⟩:=z1q (q2z q 0) hG1 it.s rfl;obtain ⟨v1,v2⟩:=z6q (q2z q 0) (M:=ZJ M) (f:=XN (ZJ M)) (t:=it.s) rfl hGd.fin;have v3:=z9z (q2z q 0) (M:=ZJ M) (f:=XN (ZJ M)) (t:=it.s) rfl hw;generalize q8b (q2z q 0) (ZJ M) (XN (ZJ M)) it.s=r at *
    unfold q8x;by_cases hz:r.2.fin=0
    ·rw [if_pos hz];refine PathM.on (M':=r.2) hI1 (u2 hz).2 (v3 hz) (hgo _ ?_);unfold WF;rw [if_neg (by omega),if_neg (by omega),if_neg (by omega),if_neg (by omega),if_pos h9];exact mem_cons_self
    ·rw [if_neg hz];exact hI1.fin (v2 hz).1 (v2 hz).2
   rw [if_neg h9,q1q hk1];obtain ⟨u1,u2⟩:=z7c hc tape (q2z q 0) hG1 hk1 hi1 h4 h9 rfl;obtain ⟨v1,v2⟩:=z9b (p:=q) (M:=ZJ M) (f:=XN (ZJ M)) (g:=g') (it:=it) tape (q2z q 0) rfl hGd.fin;have v3:=w1w (p:=q) tape (q2z q 0) (M:=ZJ M) (f:=XN (ZJ M)) (g:=g') (it:=it) rfl hw;have hdg:=x0i (p:=q) tape (q2z q 0) (M:=ZJ M) (f:=XN (ZJ M)) (g:=g') h4 h9 rfl;generalize doM q tape (q2z q 0) (ZJ M) (XN (ZJ M)) g' it=r at *
   unfold x9q;by_cases hz:r.2.fin=0
   ·rw [if_pos hz];exact PathM.on (M':=r.2) hI1 (u2 hz).2.2 (v3 hz) (hgo _ (hdg hz))
   ·rw [if_neg hz];exact hI1.fin (v2 hz).1 (v2 hz).2
theorem z4f (tape:List Int) {fuel:Int} (h0:0<=fuel) (n:Nat):z3g (wR q 0 g) (NT q tape (q2z q 0) fuel n (KL q)):=by
 induction n with
 | zero =>
   show PathM _ _ _;obtain ⟨h1,h2,h3⟩:=q2r hc;obtain ⟨h4,h5⟩:=z5l hp h2;refine ⟨⟨_,rfl⟩,trivial,?_⟩;show wR q 0 g 0 (NM q (mainN q) (prA q (mainN q)));rw [h5,h4];exact z7n hc (by rw [hp];rfl)
 | succ n ih =>
   rw [KE];exact z8p hc hp hno tape (z7t hc tape (q2z q 0) h0 n).1 ih
theorem x8l (tape:List Int) {fuel:Int} (h0:0<=fuel) {n:Nat} {M:Mc} (h:NT q tape (q2z q 0) fuel n (KL q) = .fin M):PathF (wR q 0 g) M:=by
 have:=z4f hc hp hno tape h0 n;rw [h] at this;exact this
end
theorem w0n {p:Pg} (hc:chkB p=true) {k:Nat} {g:Pr} (hk:p.procs[k]? = some g) {a b:Int} (h:wR p k g a b):x4s (newWay p k g).real a b 1=true:=by
 obtain ⟨s,hs,rfl,rfl⟩:=h;exact z3c hs (.inr (z0a hc hk hs))
theorem GC (p:Pg) (tape:List Int) (fuel:Int):SpecP Tryz.prog 4 [.agg p.cells,XT tape,.int .i64 fuel] (fun r=>r = .tt):=by
 refine sB JS Tryz.func4 rfl Tryz.call4 ?_;conv=>whnf
 cases hfb:z5i p with
 | false =>
   have hno : ¬gPg p<=20000:=by unfold z5i at hfb;simpa using hfb
   repeat' (first|((first|(refine iM fun _=>?_)|refine cP (VQ _) ?_|refine dA ?_|refine And.intro rfl ?_|refine aD ?_|refine aR ?_|refine bP ?_|(refine iA fun _=>?_)|refine IdxK.xs (by omega) ?_|refine QM (by omega) ?_|(refine ByteK.at (by omega) ?_)|refine wI ?_|refine cP ZK ?_);conv=>whnf)|(apply bD<;>intro _<;>first|omega|conv=>whnf)|(apply bE<;>intro _<;>first|omega|conv=>whnf)|(apply bN<;>intro _<;>conv=>whnf)|(apply bB<;>intro _<;>conv=>whnf))
   all_goals first
    | exact ⟨_,.p (Sub.refl _),rfl⟩
    | (exfalso;simp_all;done)
 | true =>
   have hf:Fit p:=z9x hfb;have hfit:gPg p<=20000:=by unfold z5i at hfb;simpa using hfb
   have hC:=ZH p hf;have htm:(tape.map (AV.int .i64)).length=tape.length:=length_map _;by_cases hok:chkB p=true∧0<=fuel∧fuel<=300∧tape.length<=100
   ·obtain ⟨hc,hf0,hf1,htl⟩:=hok;rw [hc] at hC;obtain ⟨q,g,F⟩:=x5v hf hc;have hS:=PD true p F.copy F.pos F.raw.1 F.raw.2;rw [F.only] at hS;have hC2:=ZH q F.fit;rw [F.chk] at hC2;have hal:=(KN (QD F.chk).1).len;have hW:=HM q F.fit F.chk tape (by omega) fuel hf0 (by omega) (by omega);have hO:=z5m q F.fit mainS;have hE:ofR q mainS=(newWay q 0 g).real:=by unfold ofR;rw [F.way]
    rw [hE] at hO;have hgo : ∀ a b,wR q 0 g a b->x4s (newWay q 0 g).real a b 1=true:=fun a b h=>w0n F.chk F.at0 h;have hPD:=fun n M hn=>x8l F.chk F.procs F.nocall tape hf0 (n:=n) (M:=M) hn;generalize (newWay q 0 g).real=L at *
    repeat' (first|((first|(refine iM fun _=>?_)|refine cP (VQ _) ?_|refine dA ?_|refine And.intro rfl ?_|refine aD ?_|refine aR ?_|refine bP ?_|(refine iA fun _=>?_)|refine IdxK.xs (by omega) ?_|refine QM (by omega) ?_|(refine ByteK.at (by omega) ?_)|refine wI ?_|refine cP ZK ?_|refine cP hC ?_|(refine CallK.pure hS (.cons (Sub.refl _) (.cons (by first|exact Sub.refl _|exact Sub.tt rfl) .nil)) ?_;rintro _ rfl)|refine cP hO ?_|(refine CallK.pure hW (.cons (Sub.refl _) (.cons (Sub.refl _) (.cons (Sub.refl _) .nil))) ?_;rintro _ ⟨n,M,hn,rfl⟩));conv=>whnf)|(apply bD<;>intro _<;>first|omega|conv=>whnf)|(apply bE<;>intro _<;>first|omega|conv=>whnf)|(apply bN<;>intro _<;>conv=>whnf)|(apply bB<;>intro _<;>conv=>whnf))
    all_goals try contradiction
    all_goals try (exfalso;omega)
    have hP:=hPD n M hn;have hml:(M.trace.map Prod.fst).length=M.trace.length:=length_map _;have htl2:(M.trace.map evA).length=M.trace.length:=length_map _;refine LoopK.inv QU (fun j:Nat=>⟨[(7,.p (.ip q.cells)),(8,.p (WB L)),(9,.p (.ip [.int .i64 M.fin,.int .i64 M.steps,.int .i64 M.reads,XT M.out,.sl (M.trace.map evA)])),(10,.p (.int .i64 (lastD 0 ((M.trace.map Prod.fst).take j)))),(43,.p (.sl (M.trace.map evA))),(44,.p (.int .i64 (M.trace.map evA).length)),(45,.p (.int .i64 j))],[]⟩) (fun j=>j<=M.trace.length) (fun j=>M.trace.length-j) 0 (Le.of_eq rfl) (Nat.zero_le _) ?_;intro j hj;rcases Nat.lt_or_ge j M.trace.length with hj2|hj2
    ·have h1:=z4t hP.path (j:=j) (by omega);have h2:(M.trace.map Prod.fst)[j]'(by omega)=M.trace[j].1:=List.getElem_map _;rw [h2] at h1;have hGo:=US L (lastD 0 ((M.trace.map Prod.fst).take j)) M.trace[j].1 1;rw [hgo _ _ h1] at hGo;have h3:lastD 0 ((M.trace.map Prod.fst).take (j+1))=M.trace[j].1:=by
      rw [List.take_succ_eq_append_getElem (by omega),q3q,h2]
     generalize lastD 0 ((M.trace.map Prod.fst).take j)=la at *
     conv=>whnf
     repeat' (first|((first|(refine iM fun _=>?_)|refine dA ?_|refine And.intro rfl ?_|refine aD ?_|refine aR ?_|refine bP ?_|(refine iA fun _=>?_)|refine IdxK.xs (by omega) ?_|refine QM (by omega) ?_|(refine ByteK.at (by omega) ?_)|refine wI ?_|refine cP hGo ?_);conv=>whnf)|(apply bD<;>intro _<;>first|omega|conv=>whnf)|(apply bE<;>intro _<;>first|omega|conv=>whnf)|(apply bN<;>intro _<;>conv=>whnf)|(apply bB<;>intro _<;>conv=>whnf))
     all_goals first
      | (exfalso;omega)
      | contradiction
      | exact ⟨j+1,hj2,by omega,Le.of_eq (by rw [h3];rfl)⟩
    ·have h1:(M.trace.map Prod.fst).take j=M.trace.map Prod.fst:=List.take_of_length_le (by omega);rw [h1];have hGo:=US L (lastD 0 (M.trace.map Prod.fst)) (-1) 1;have hla:=fun h=>hgo _ _ (hP.done h);generalize lastD 0 (M.trace.map Prod.fst)=la at *
     by_cases hfn:M.fin=1
     ·rw [hla hfn] at hGo;conv=>whnf
      repeat' (first|((first|(refine iM fun _=>?_)|refine dA ?_|refine And.intro rfl ?_|refine aD ?_|refine aR ?_|refine bP ?_|(refine iA fun _=>?_)|refine IdxK.xs (by omega) ?_|refine QM (by omega) ?_|(refine ByteK.at (by omega) ?_)|refine wI ?_|refine cP hC2 ?_|refine cP hGo ?_);conv=>whnf)|(apply bD<;>intro _<;>first|omega|conv=>whnf)|(apply bE<;>intro _<;>first|omega|conv=>whnf)|(apply bN<;>intro _<;>conv=>whnf)|(apply bB<;>intro _<;>conv=>whnf)|(refine And.intro ?_ ?_<;>conv=>whnf))
      all_goals first
       | (exfalso;omega)
       | contradiction
       | exact ⟨_,.p (Sub.refl _),rfl⟩
       | exact ⟨_,.p (q6a rfl),rfl⟩
     ·conv=>whnf
      repeat' (first|((first|(refine iM fun _=>?_)|refine dA ?_|refine And.intro rfl ?_|refine aD ?_|refine aR ?_|refine bP ?_|(refine iA fun _=>?_)|refine IdxK.xs (by omega) ?_|refine QM (by omega) ?_|(refine ByteK.at (by omega) ?_)|refine wI ?_|refine cP hC2 ?_|refine cP hGo ?_);conv=>whnf)|(apply bD<;>intro _<;>first|omega|conv=>whnf)|(apply bE<;>intro _<;>first|omega|conv=>whnf)|(apply bN<;>intro _<;>conv=>whnf)|(apply bB<;>intro _<;>conv=>whnf)|(refine And.intro ?_ ?_<;>conv=>whnf))
      all_goals first
       | (exfalso;omega)
       | contradiction
       | exact ⟨_,.p (Sub.refl _),rfl⟩
       | exact ⟨_,.p (q6a rfl),rfl⟩
   ·cases hc:chkB p;all_goals
     rw [hc] at hC hok;repeat' (first|((first|(refine iM fun _=>?_)|refine cP (VQ _) ?_|refine dA ?_|refine And.intro rfl ?_|refine aD ?_|refine aR ?_|refine bP ?_|(refine iA fun _=>?_)|refine IdxK.xs (by omega) ?_|refine QM (by omega) ?_|(refine ByteK.at (by omega) ?_)|refine wI ?_|refine cP ZK ?_|refine cP hC ?_);conv=>whnf)|(apply bD<;>intro _<;>first|omega|conv=>whnf)|(apply bE<;>intro _<;>first|omega|conv=>whnf)|(apply bN<;>intro _<;>conv=>whnf)|(apply bB<;>intro _<;>conv=>whnf))
     all_goals first
      | contradiction
      | exact ⟨_,.p (Sub.refl _),rfl⟩
      | exact absurd ⟨rfl,by omega,by omega,by omega⟩ hok
end Go.Ab
