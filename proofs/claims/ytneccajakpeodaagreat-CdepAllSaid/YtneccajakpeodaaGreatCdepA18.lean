/- slices.Reverse of numbers; the reference: one of some, the ids of a kind, whose a statement is, what is there. -/
import Derived.Test.YtneccajakpeodaaGreatCdepA16
import Derived.Test.YtneccajakpeodaaGreatCdepA17
set_option linter.unusedSimpArgs false
set_option linter.unusedVariables false
set_option maxRecDepth 100000
set_option maxHeartbeats 16000000
namespace Go.Ab
open Go.Proofs
def z5b (l:List Int) (i:Nat):List Int:=(List.range l.length).map fun k=>if k<i∨l.length-i≤k then l.getD (l.length-1-k) 0 else l.getD k 0
theorem BE (l:List Int) (i:Nat):(z5b l i).length=l.length:=by unfold z5b;simp
theorem PZ {l:List Int} {i k:Nat} (hk:k<l.length):(z5b l i)[k]? = some (if k<i∨l.length-i≤k then l.getD (l.length-1-k) 0 else l.getD k 0):=by
 unfold z5b
 rw [List.getElem?_map,List.getElem?_range hk]
 rfl
theorem z8o (l:List Int):z5b l 0=l:=by
 refine List.ext_getElem? fun k => ?_
 rcases Nat.lt_or_ge k l.length with hk|hk
 ·rw [PZ hk,if_neg (by omega),List.getD_eq_getElem?_getD,List.getElem?_eq_getElem hk]
  rfl
 ·rw [List.getElem?_eq_none (by rw [BE];exact hk),List.getElem?_eq_none hk]
theorem w3x {l:List Int} {i:Nat} (h:l.length≤2*i+1):z5b l i=l.reverse:=by
 refine List.ext_getElem? fun k => ?_
 rcases Nat.lt_or_ge k l.length with hk|hk
 ·rw [PZ hk,List.getElem?_reverse hk,List.getElem?_eq_getElem (by omega)]
  split
  ·rw [List.getD_eq_getElem?_getD,List.getElem?_eq_getElem (by omega)]
   rfl
  ·rw [List.getD_eq_getElem?_getD,List.getElem?_eq_getElem (by omega)]
   simp only [Option.getD_some]
   congr 2
   omega
 ·rw [List.getElem?_eq_none (by rw [BE];exact hk),List.getElem?_eq_none (by rw [List.length_reverse];exact hk)]
theorem z8r {l:List Int} {i:Nat} (h:2*i+1<l.length):((z5b l i).set i (l.getD (l.length-1-i) 0)).set (l.length-1-i) (l.getD i 0)=z5b l (i+1):=by
 refine List.ext_getElem? fun k => ?_
 rcases Nat.lt_or_ge k l.length with hk|hk
 ·rw [PZ hk,List.getElem?_set,List.getElem?_set]
  simp only [List.length_set,BE]
  by_cases h1:l.length-1-i=k
  ·rw [if_pos h1,if_pos (by omega),if_pos (by omega)]
   congr 2
   omega
  ·rw [if_neg h1]
   by_cases h2:i=k
   ·rw [if_pos h2,if_pos (by omega),if_pos (by omega)]
    congr 2
    omega
   ·rw [if_neg h2,PZ hk]
    by_cases h3:k<i∨l.length-i≤k
    ·rw [if_pos h3,if_pos (by omega)]
    ·rw [if_neg h3,if_neg (by omega)]
 ·rw [List.getElem?_eq_none (by simp [BE];exact hk),List.getElem?_eq_none (by rw [BE];exact hk)]
theorem HN (l:List Int) (hl:l.length≤1000000):SpecH Tryz.prog 110 [.hd 1000 0 l.length] [(1000,.own 3 1 (l.map (.int .i64)))] (fun r H=>r = .p (.tup [])∧H=[(1000,.own 3 1 (l.reverse.map (.int .i64)))]):=by
 refine SpecH.body KN QQ Tryz.func110 rfl Tryz.call110 (by show 1≤_;decide) ?_
 conv=>whnf
 repeat' ((first|intro (_:_≤9223372036854775807)|refine Wr.i64 (by omega) (by omega) ?_);conv=>whnf)
 refine LoopK.inv QQ (fun i:Nat=>⟨[(0,.hd 1000 0 l.length),(2,.p (.int .i64 i)),(3,.p (.int .i64 ((l.length:Int)-1-i)))],[(1000,.own 3 1 ((z5b l i).map (.int .i64)))]⟩) (fun i=>i≤l.length) (fun i=>l.length-i) 0 (Le.of_eq (by rw [z8o,show (l.length:Int)-1-((0:Nat):Int)=(l.length:Int)-1 by omega];rfl)) (Nat.zero_le _) ?_
 intro i h2
 have hlr:=BE l i
 by_cases h3:2*i+1<l.length
 ·have e1:((z5b l i).map (AV.int .i64))[i]? = some (.int .i64 (l.getD i 0)):=by rw [List.getElem?_map,PZ (by omega),if_neg (by omega)];rfl
  have e2:((z5b l i).map (AV.int .i64))[l.length-1-i]? = some (.int .i64 (l.getD (l.length-1-i) 0)):=by rw [List.getElem?_map,PZ (by omega),if_neg (by omega)];rfl
  have hst:=z8r h3
  generalize z5b l i=row at hlr e1 e2 hst ⊢
  generalize l.getD i 0=x at e1 hst
  generalize l.getD (l.length-1-i) 0=y at e2 hst
  have e3:((row.map (AV.int .i64)).set i (.int .i64 y))[l.length-1-i]? = some (.int .i64 y):=by rw [List.getElem?_set_ne (by omega)];exact e2
  conv=>whnf
  repeat' (first|((first|refine DrawK.auto QQ mixed (by kernel_rfl) ?_|refine And.intro rfl ?_|refine Wr.i64 (by omega) (by omega) ?_|refine IdxL.mk (l.length-1-i) (by omega) (by omega) ?_|refine IdxL.mk i rfl (by omega) ?_|refine LdOwn.mk (l.length-1-i) 0 _ (by show (0+(l.length-1-i))*1=(l.length-1-i)*1+0;omega) e2 ?_|refine LdOwn.mk i 0 _ (by show (0+i)*1=i*1+0;omega) e1 ?_|refine StOwn.mk i 0 _ (.int .i64 y) (by show (0+i)*1=i*1+0;omega) e1 (Nat.le_refl _) rfl ?_|refine StOwn.mk (l.length-1-i) 0 _ (.int .i64 x) (by show (0+(l.length-1-i))*1=(l.length-1-i)*1+0;omega) e3 (Nat.le_refl _) rfl ?_);conv=>whnf)|(refine Br.dec (fun _=>?_) (fun _=>?_)<;>first|(exfalso;omega)|conv=>whnf))
  exact ⟨i+1,by omega,by omega,Le.of_eq (by rw [← hst,List.map_set,List.map_set,show (l.length:Int)-1-((i+1:Nat):Int)=(l.length:Int)-1-i-1 by omega];rfl)⟩
 ·have hre:=w3x (l:=l) (i:=i) (by omega)
  rw [hre] at hlr ⊢
  conv=>whnf
  repeat' (refine Br.dec (fun _=>?_) (fun _=>?_)<;>first|(exfalso;omega)|conv=>whnf)
  exact ⟨_,LSub.refl _,rfl,rfl⟩
open Go.Proofs
open Go.Proofs
theorem w3p {p:Pg} (h:XK p=true) {j:Nat} {f:Pr} (hj:p.procs[j]? = some f) : ∀ s∈FH (QX p j f) f,okSt s:=fun s hs=>by
 unfold FH at hs
 rcases List.mem_append.1 hs with hs|hs
 ·rcases List.mem_append.1 hs with hs|hs
  ·exact w5t h hj s hs
  ·rw [List.mem_singleton.1 hs]
   exact ⟨by decide,by decide⟩
 ·obtain ⟨it,hi,hs⟩:=List.mem_flatMap.1 hs
  exact z1e h hj it hi s hs
theorem w9e {p:Pg} (h:XK p=true) {j:Nat} {f:Pr} (hj:p.procs[j]? = some f) {it:Item} (hi:it∈itsOf p j f):(sheetOf p).l[(it.s.id-1).toNat]? = some it:=by
 have hb:=VX (QK h).1 hj (PK hi)
 obtain ⟨it',h1,h2⟩:=GN hj (k:=(it.s.id-1).toNat) (by omega) (by omega)
 have h3:=x1f h hj (by omega) (by omega) h1
 rw [h1,z8g (QK h).1 hj h2 hi (by omega)]
open Go.Proofs
theorem FollowP.no {n:Nat} {nx:List (List Int)} {fm:List (List Bool)} (h:FollowP n nx fm) {a b:Nat} (hb:b<n) (ha:Avd nx n b a):bitF fm a b=false:=by
 have big : ∀ c,n≤c→bitF fm c b=false:=fun c hc=>by
  unfold bitF
  rw [List.getD_eq_getElem?_getD (l:=fm),List.getElem?_eq_none (by rw [h.inv.len];exact hc)]
  rfl
 have last:n-1≠b→bitF fm (n-1) b=false:=fun hne=>by
  unfold bitF
  rw [h.inv.last,q9f hb,decide_eq_false hne,decide_eq_false (by omega)]
  rfl
 induction ha with
 | exit he=>exact last (Ne.symm he)
 | @step a t hab ht _ ih =>
   rcases Nat.lt_trichotomy a (n-1) with hlt|heq|hgt
   ·have hbit:bitF fm a b=(rowF n nx fm a).getD b false:=by
     unfold bitF
     rw [h.fix a hlt]
    rw [hbit,q5v hb,decide_eq_false hab]
    cases hs:KT fm (nx.getD a []) b with
    | false=>rfl
    | true =>
      have:=GJ.1 hs _ ht
      rw [Int.toNat_natCast,ih] at this
      cases this
   ·subst heq
    exact last hab
   ·exact big a (by omega)
theorem FollowP.iff {n:Nat} {nx:List (List Int)} {fm:List (List Bool)} (h:FollowP n nx fm) {a b:Nat} (ha:a<n) (hb:b<n):bitF fm a b=true ↔ ¬Avd nx n b a:=by
 constructor
 ·intro h1 h2
  rw [h.no hb h2] at h1
  cases h1
 ·intro h1
  cases hq:bitF fm a b with
  | true=>rfl
  | false=>exact absurd (h.inv.min a b ha hb hq) h1
theorem w1h {n:Nat} {f g:List (List Bool)} (h1:f.length=n) (h2:g.length=n) (h3 : ∀ r∈f,r.length=n) (h4 : ∀ r∈g,r.length=n) (h : ∀ a b,a<n→b<n→bitF f a b=bitF g a b):f=g:=by
 refine List.ext_getElem (by omega) fun a ha hb => ?_
 have e1:=h3 _ (List.getElem_mem ha)
 have e2:=h4 _ (List.getElem_mem hb)
 refine List.ext_getElem (by omega) fun b hc hd => ?_
 have:=h a b (by omega) (by omega)
 unfold bitF at this
 rw [List.getD_eq_getElem?_getD (l:=f),List.getD_eq_getElem?_getD (l:=g),List.getElem?_eq_getElem ha,List.getElem?_eq_getElem hb] at this
 simp only [Option.getD_some] at this
 rw [List.getD_eq_getElem?_getD,List.getD_eq_getElem?_getD,List.getElem?_eq_getElem hc,List.getElem?_eq_getElem hd] at this
 exact this
theorem FollowP.uniq {n:Nat} {nx:List (List Int)} {f g:List (List Bool)} (hf:FollowP n nx f) (hg:FollowP n nx g):f=g:=by
 refine w1h hf.inv.len hg.inv.len hf.inv.rows hg.inv.rows fun a b ha hb => ?_
 rw [Bool.eq_iff_iff,hf.iff ha hb,hg.iff ha hb]
noncomputable def w5p (n:Nat) (nx:List (List Int)):List (List Bool) := @Classical.epsilon _ ⟨[]⟩ (FollowP n nx)
theorem FollowP.eq {n:Nat} {nx:List (List Int)} {fm:List (List Bool)} (h:FollowP n nx fm):fm=w5p n nx:=h.uniq (Classical.epsilon_spec ⟨fm,h⟩)
theorem x7x : ∀ (l:List (Int×Int)) (rows:List (List Int)),(∀ t∈l,0≤t.1∧t.1<rows.length) → ∀ (a:Nat) (x:Int),x∈(l.foldl nxE rows).getD a []↔x∈rows.getD a [] ∨ ∃ t∈l,t.1=a∧t.2=x
 | [],rows,_,a,x=>by simp
 | t::r,rows,h,a,x=>by
   obtain ⟨h1,h2⟩:=h t List.mem_cons_self
   rw [List.foldl_cons,x7x r (nxE rows t) (fun u hu=>by rw [z5e];exact h u (List.mem_cons_of_mem _ hu))]
   have e:x∈(nxE rows t).getD a []↔x∈rows.getD a []∨(t.1=a∧t.2=x):=by
    unfold nxE
    simp only [List.getD_eq_getElem?_getD,List.getElem?_set]
    by_cases he:t.1.toNat=a
    ·subst he
     have e0:t.1=(t.1.toNat:Int):=by omega
     rw [if_pos rfl,if_pos (by omega)]
     simp only [Option.getD_some,List.mem_append,List.mem_singleton]
     constructor
     ·rintro (h3|h3)
      ·exact .inl h3
      ·exact .inr ⟨e0,h3.symm⟩
     ·rintro (h3|⟨_,h3⟩)
      ·exact .inl h3
      ·exact .inr h3.symm
    ·rw [if_neg he]
     constructor
     ·exact .inl
     ·rintro (h3|⟨h3,_⟩)
      ·exact h3
      ·omega
   rw [e]
   simp only [List.mem_cons,exists_eq_or_imp,or_assoc]
theorem q5m {n:Nat} {l:List (Int×Int)} (h : ∀ t∈l,0≤t.1∧t.1<n) {a:Nat} {x:Int}:x∈(UW n l).getD a [] ↔ ∃ t∈l,t.1=a∧t.2=x:=by
 unfold UW
 rw [x7x l _ (by simpa using h)]
 have:(List.replicate n ([]:List Int)).getD a []=[]:=by
  rw [List.getD_eq_getElem?_getD,List.getElem?_replicate]
  split<;>rfl
 rw [this]
 simp
inductive AvdP (R:Int→Int→Prop) (b:Int):Int→Prop
 | exit (h:b ≠ -1):AvdP R b (-1)
 | step {a t:Int} (hab:a≠b) (hs:R a t) (h:AvdP R b t):AvdP R b a
mutual
theorem w0b : ∀ (t:S) {nest seen m:Int},q4i nest seen t=some m → ∀ u∈flS t,oneOk u=true
 | .mk id kind labels name pr x has args thn els,nest,seen,m,h,u,hu=>by
   obtain ⟨h1,_,m1,h3,h4⟩:=ZK h
   rw [flS] at hu
   rcases List.mem_cons.1 hu with rfl|hu
   ·exact h1
   ·rcases List.mem_append.1 hu with hu|hu
    ·exact q5h thn h3 u hu
    ·exact q5h els h4 u hu
theorem q5h : ∀ (l:List S) {nest seen m:Int},ZG nest seen l=some m → ∀ u∈flL l,oneOk u=true
 | [],_,_,_,_,u,hu=>by rw [flL] at hu;cases hu
 | t::r,nest,seen,m,h,u,hu=>by
   obtain ⟨_,m1,h1,h2⟩:=XN h
   rw [flL] at hu
   rcases List.mem_append.1 hu with hu|hu
   ·exact w0b t h1 u hu
   ·exact q5h r h2 u hu
end
theorem z2g {p:Pg} {j:Nat} {f:Pr} (h:XK p=true) (hj:p.procs[j]? = some f) {t:S} (ht:t∈flL f.body):OneF t:=by
 obtain ⟨m,hr⟩:=DX (QK h).1 hj
 exact UG (q5h _ hr t ht)
section
variable {p:Pg} {j:Nat} {f:Pr}
def aR (p:Pg) (j:Nat) (f:Pr):Int→Int→Prop:=stR (PH (QX p j f) f)
theorem z7y (h:XK p=true) (hj:p.procs[j]? = some f):(PH (QX p j f) f).length≤200000:=by
 obtain ⟨_,_,hcn⟩:=UY h
 obtain ⟨_,_,_,hlen,hsp⟩:=QJ p
 obtain ⟨_,_,hle,_⟩:=hsp j f hj
 obtain ⟨h1,h2,_⟩:=LK (w3p h hj)
 have h3:=WS (l:=PH (QX p j f) f) (m:=((QX p j f).real++(YF (QN p.procs j) (QY f.body)).map fun id=>⟨id,-1,3⟩)++[⟨0,-1,2⟩]++(itsOf p j f).flatMap fOf) (z0o h1) fun s hs=>by
  rcases List.mem_append.1 (h2 s hs) with h4|h4
  ·refine List.mem_append.2 (.inl ?_)
   rcases List.mem_append.1 h4 with h4|h4
   ·refine List.mem_append.2 (.inl ?_)
    rcases List.mem_append.1 h4 with h4|h4
    ·obtain ⟨l,hl,t,ht,hid,hk,rfl⟩:=(x2p h hj).1 h4
     have hb:=VX (QK h).1 hj ht
     exact List.mem_append.2 (.inr (List.mem_map.2 ⟨t.id,z1g hb.1 hb.2,rfl⟩))
    ·exact List.mem_append.2 (.inl h4)
   ·exact List.mem_append.2 (.inr h4)
  ·exact List.mem_append.2 (.inr h4)
 have h4:=z1l hj hcn
 have h5:(YF (QN p.procs j) (QY f.body)).length=QY f.body:=by unfold YF;simp
 have h6:=XI (g:=fOf) (c:=1) (itsOf p j f) fun it _=>z8k it
 have h7:(itsOf p j f).length=QY f.body:=XR _ _ _ _ _ _
 simp only [List.length_append,List.length_map,List.length_singleton] at h3
 omega
theorem w7u (h:XK p=true) (hj:p.procs[j]? = some f) {a b:Int}:aR p j f a b↔wR p j f a b∨(a=0∧b = -1)∨(∃ l∈trapsW (QX p j f) f,∃ t∈flL f.body,t.id∈l∧t.kind=10∧a=t.id∧b = -1) ∨ ∃ it∈itsOf p j f,7≤it.s.kind∧a=it.s.id∧b=it.next:=by
 have hA:=LK (w3p h hj)
 have hraw : ∀ s,s∈FH (QX p j f) f↔s∈VW (QX p j f) f∨s∈(QX p j f).real∨s=⟨0,-1,2⟩∨s∈(itsOf p j f).flatMap fOf:=fun s=>by
  have e:FH (QX p j f) f=VW (QX p j f) f++(QX p j f).real++[⟨0,-1,2⟩]++(itsOf p j f).flatMap fOf:=rfl
  rw [e]
  simp only [List.mem_append,List.mem_singleton,or_assoc]
 have hof : ∀ s∈FH (QX p j f) f,aR p j f s.src s.dst:=fun s hs=>by
  obtain ⟨s',h1,h2,h3,_⟩:=hA.2.2 s hs
  exact ⟨s',h1,h2,h3⟩
 constructor
 ·rintro ⟨s,hs,rfl,rfl⟩
  rcases (hraw s).1 (hA.2.1 s hs) with h1|h1|h1|h1
  ·obtain ⟨l,hl,t,ht,hid,hk,rfl⟩:=(x2p h hj).1 h1
   exact .inr (.inr (.inl ⟨l,hl,t,ht,hid,hk,rfl,rfl⟩))
  ·exact .inl ⟨s,h1,rfl,rfl⟩
  ·rw [h1];exact .inr (.inl ⟨rfl,rfl⟩)
  ·obtain ⟨it,hi,hs⟩:=List.mem_flatMap.1 h1
   unfold fOf at hs
   split at hs
   ·rw [List.mem_singleton.1 hs]
    exact .inr (.inr (.inr ⟨it,hi,by omega,rfl,rfl⟩))
   ·cases hs
 ·rintro (⟨s,hs,rfl,rfl⟩|⟨rfl,rfl⟩|⟨l,hl,t,ht,hid,hk,rfl,rfl⟩|⟨it,hi,hk,rfl,rfl⟩)
  ·exact hof s ((hraw s).2 (.inr (.inl hs)))
  ·exact hof ⟨0,-1,2⟩ ((hraw _).2 (.inr (.inr (.inl rfl))))
  ·exact hof ⟨t.id,-1,3⟩ ((hraw _).2 (.inl ((x2p h hj).2 ⟨l,hl,t,ht,hid,hk,rfl⟩)))
  ·refine hof ⟨it.s.id,it.next,2⟩ ((hraw _).2 (.inr (.inr (.inr (List.mem_flatMap.2 ⟨it,hi,?_⟩)))))
   have hF:=(z2g h hj (PK hi)).hi
   unfold fOf
   rw [if_pos (by omega)]
   exact List.mem_singleton.2 rfl
theorem x8k (h:XK p=true) (hj:p.procs[j]? = some f) {a b:Int} (hr:aR p j f a b):plP p j f a∧plP p j f b∧a ≠ -1∧b≠0:=by
 have hst : ∀ t∈flL f.body,plP p j f t.id∧t.id ≠ -1:=fun t ht=>by
  have hb:=VX (QK h).1 hj ht
  exact ⟨.inr (.inr hb),by omega⟩
 rcases (w7u h hj).1 hr with h1|⟨rfl,rfl⟩|⟨l,hl,t,ht,hid,hk,rfl,rfl⟩|⟨it,hi,hk,rfl,rfl⟩
 ·obtain ⟨h2,h3⟩:=w7w h hj h1
  refine ⟨h2,h3,?_,fun e=>w3u h hj (e▸h1)⟩
  obtain ⟨s,hs,rfl,rfl⟩:=h1
  rcases w1x h hj (((JY h hj).2 s).1 hs) with h4|h4
  ·rw [h4];show (0:Int) ≠ -1;decide
  ·omega
 ·exact ⟨.inl rfl,.inr (.inl rfl),by decide,by decide⟩
 ·exact ⟨(hst t ht).1,.inr (.inl rfl),(hst t ht).2,by decide⟩
 ·have h1:=(MO hi).1
  unfold okI at h1
  refine ⟨(hst _ (PK hi)).1,?_,(hst _ (PK hi)).2,by omega⟩
  rcases h1 with h1|h1
  ·exact .inr (.inl h1)
  ·exact .inr (.inr h1)
theorem z0b:ZF (QX p j f) f=(PH (QX p j f) f).map (ixP p j f (QY f.body+2:Nat)):=rfl
theorem x1c (h:XK p=true) (hj:p.procs[j]? = some f) : ∀ t∈ZF (QX p j f) f,(0≤t.1∧t.1<(QY f.body+2:Nat))∧0≤t.2∧t.2<(QY f.body+2:Nat):=fun t ht=>by
 rw [z0b] at ht
 obtain ⟨s,hs,rfl⟩:=List.mem_map.1 ht
 obtain ⟨h1,h2,_⟩:=x8k h hj ⟨s,hs,rfl,rfl⟩
 exact ⟨WH h1,WH h2⟩
theorem z2h (h:XK p=true) (hj:p.procs[j]? = some f) {a b:Int} (ha:plP p j f a) (hb:plP p j f b):(ixI p j f a,ixI p j f b)∈ZF (QX p j f) f↔aR p j f a b:=by
 rw [z0b]
 constructor
 ·intro h1
  obtain ⟨s,hs,he⟩:=List.mem_map.1 h1
  obtain ⟨h2,h3,_⟩:=x8k h hj ⟨s,hs,rfl,rfl⟩
  have e1:ixI p j f s.src=ixI p j f a:=congrArg Prod.fst he
  have e2:ixI p j f s.dst=ixI p j f b:=congrArg Prod.snd he
  exact ⟨s,hs,BJ h2 ha e1,BJ h3 hb e2⟩
 ·rintro ⟨s,hs,rfl,rfl⟩
  exact List.mem_map.2 ⟨s,hs,rfl⟩
theorem x3g:ixI p j f (-1)=(QY f.body+2:Nat)-1:=by
 unfold ixI KX
 rw [if_neg (by decide),if_pos rfl]
theorem w6f (h:XK p=true) (hj:p.procs[j]? = some f) {a b:Int} (ha:plP p j f a) (hb:plP p j f b):Avd (UW (QY f.body+2) (ZF (QX p j f) f)) (QY f.body+2) (ixI p j f b).toNat (ixI p j f a).toNat↔AvdP (aR p j f) b a:=by
 have hin:=x1c h hj
 have hrb:=WH hb
 constructor
 ·intro h1
  generalize hx:(ixI p j f a).toNat=x at h1
  induction h1 generalizing a with
  | exit hne =>
    have hra:=WH ha
    have:a = -1:=BJ ha (.inr (.inl rfl)) (by rw [x3g];omega)
    subst this
    refine .exit fun e => ?_
    subst e
    rw [x3g] at hne
    omega
  | @step x t hne ht _ ih =>
    obtain ⟨u,hu,h2,h3⟩:=(q5m (fun t ht=>(hin t ht).1)).1 ht
    obtain ⟨s,hs,he⟩:=List.mem_map.1 hu
    obtain ⟨q2,q3,_⟩:=x8k h hj ⟨s,hs,rfl,rfl⟩
    have e1:ixI p j f s.src=u.1:=congrArg Prod.fst he
    have e2:ixI p j f s.dst=u.2:=congrArg Prod.snd he
    have hra:=WH ha
    have e3:s.src=a:=BJ q2 ha (by omega)
    refine .step (fun e => ?_) ⟨s,hs,e3,rfl⟩ (ih q3 (by omega))
    subst e
    exact hne hx.symm
 ·intro h1
  induction h1 with
  | exit hne =>
    rw [x3g,show (((QY f.body+2:Nat):Int)-1).toNat=QY f.body+2-1 by omega]
    refine .exit fun e=>hne (BJ hb (.inr (.inl rfl)) (by rw [x3g];omega))
  | @step a t hne hs _ ih =>
    obtain ⟨q2,q3,_⟩:=x8k h hj hs
    have hra:=WH q2
    have hrt:=WH q3
    refine .step (t:=(ixI p j f t).toNat) (fun e=>hne (BJ q2 hb (by omega))) ?_ (ih q3)
    refine (q5m (fun t ht=>(hin t ht).1)).2 ⟨_,(z2h h hj q2 q3).2 hs,?_,?_⟩
    ·show ixI p j f a=_
     omega
    ·show ixI p j f t=_
     omega
def w5w (p:Pg) (j:Nat) (f:Pr) (a b:Int):Prop := ¬AvdP (aR p j f) b a
def w7q (p:Pg) (j:Nat) (f:Pr) (a b:Int):Prop := ∃ t,aR p j f a t∧w5w p j f t b∧(a=b ∨ ¬w5w p j f a b)
noncomputable def x7a (w:Way) (f:Pr) (n:Nat):List (Int×Int):=(List.range n).flatMap fun (x:Nat)=>((List.range n).filter fun y=>mkM n (w5p n (UW n (ZF w f))) (ZF w f) x y).map fun (y:Nat)=>(QM w.p w.j w.n x,QM w.p w.j w.n y)
theorem w5x {w:Way} {n:Nat} {fm M:List (List Bool)} (h1:FollowP n (UW n (ZF w f)) fm) (h2 : ∀ a b,a<n→b<n→bitF M a b=mkM n fm (ZF w f) a b):z8m (QM w.p w.j w.n) M n n=x7a w f n:=by
 rw [h1.eq] at h2
 unfold z8m x7a
 have hf : ∀ x∈List.range n,((List.range n).filter fun y=>bitF M x y).map (fun (y:Nat)=>(QM w.p w.j w.n x,QM w.p w.j w.n y))=((List.range n).filter fun y=>mkM n (w5p n (UW n (ZF w f))) (ZF w f) x y).map fun (y:Nat)=>(QM w.p w.j w.n x,QM w.p w.j w.n y):=fun x hx=>by
  rw [List.filter_congr fun y hy=>h2 x y (List.mem_range.1 hx) (List.mem_range.1 hy)]
 rw [List.flatMap_def,List.flatMap_def,List.map_congr_left hf]
theorem w1n (w:Way) (n:Nat):(x7a w f n).length≤n*n:=by
 unfold x7a
 have h1:=XI (g:=fun (x:Nat)=>((List.range n).filter fun y=>mkM n (w5p n (UW n (ZF w f))) (ZF w f) x y).map fun (y:Nat)=>(QM w.p w.j w.n x,QM w.p w.j w.n y)) (c:=n) (List.range n) fun x _=>by
  rw [List.length_map]
  exact Nat.le_trans (List.length_filter_le _ _) (by simp)
 rw [List.length_range] at h1
 exact h1
end
theorem x2c {p:Pg} {j:Nat} {f:Pr} (h:XK p=true) (hj:p.procs[j]? = some f) {fm:List (List Bool)} (hF:FollowP (QY f.body+2) (UW (QY f.body+2) (ZF (QX p j f) f)) fm) {a b:Int} (ha:plP p j f a) (hb:plP p j f b):bitF fm (ixI p j f a).toNat (ixI p j f b).toNat=true↔w5w p j f a b:=by
 have hra:=WH ha
 have hrb:=WH hb
 unfold w5w
 rw [hF.iff (by omega) (by omega),w6f h hj ha hb]
theorem w1f {p:Pg} {j:Nat} {f:Pr} (h:XK p=true) (hj:p.procs[j]? = some f) {fm:List (List Bool)} (hF:FollowP (QY f.body+2) (UW (QY f.body+2) (ZF (QX p j f) f)) fm) {a b:Int}:(a,b)∈x7a (QX p j f) f (QY f.body+2)↔plP p j f a∧plP p j f b∧0<b∧w7q p j f a b:=by
 have hin:=x1c h hj
 have e:w5p (QY f.body+2) (UW (QY f.body+2) (ZF (QX p j f) f))=fm:=hF.eq.symm
 have key : ∀ a b:Int,plP p j f a→plP p j f b→(mkM (QY f.body+2) fm (ZF (QX p j f) f) (ixI p j f a).toNat (ixI p j f b).toNat=true↔0<b∧w7q p j f a b):=fun a b ha hb=>by
  have hra:=WH ha
  have hrb:=WH hb
  have hb0:(decide (1≤(ixI p j f b).toNat)&&decide ((ixI p j f b).toNat<QY f.body+2-1))=true↔0<b:=by
   rw [Bool.and_eq_true,decide_eq_true_eq,decide_eq_true_eq]
   have hbb:=hb
   unfold plP at hbb
   unfold ixI KX loI hiI at hrb ⊢
   (repeat' split)<;>omega
  unfold mkM
  rw [Bool.and_eq_true,hb0,List.any_eq_true]
  refine and_congr_right fun _=>?_
  unfold w7q
  constructor
  ·rintro ⟨t,ht,h1⟩
   rw [Bool.and_eq_true,decide_eq_true_eq] at h1
   obtain ⟨s,hs,he⟩:=List.mem_map.1 ht
   obtain ⟨q2,q3,_⟩:=x8k h hj ⟨s,hs,rfl,rfl⟩
   have e1:ixI p j f s.src=t.1:=congrArg Prod.fst he
   have e2:ixI p j f s.dst=t.2:=congrArg Prod.snd he
   have e3:s.src=a:=BJ q2 ha (by omega)
   have h2:=h1.2
   unfold w0w at h2
   rw [Bool.and_eq_true,Bool.or_eq_true,decide_eq_true_eq,← e2,← e1,e3,x2c h hj hF q3 hb] at h2
   refine ⟨s.dst,⟨s,hs,e3,rfl⟩,h2.1,?_⟩
   rcases h2.2 with h4|h4
   ·exact .inl (BJ ha hb (by omega))
   ·refine .inr fun h5 => ?_
    rw [(x2c h hj hF ha hb).2 h5] at h4
    cases h4
  ·rintro ⟨t,ht,h1,h2⟩
   obtain ⟨q2,q3,_⟩:=x8k h hj ht
   refine ⟨_,(z2h h hj q2 q3).2 ht,?_⟩
   rw [Bool.and_eq_true,decide_eq_true_eq]
   refine ⟨by show ixI p j f a=_;omega,?_⟩
   unfold w0w
   rw [Bool.and_eq_true,Bool.or_eq_true,decide_eq_true_eq]
   refine ⟨(x2c h hj hF q3 hb).2 h1,?_⟩
   rcases h2 with rfl|h2
   ·exact .inl (by show ixI p j f a=_;omega)
   ·refine .inr ?_
    cases hq:bitF fm (ixI p j f a).toNat (ixI p j f b).toNat with
    | false=>rfl
    | true=>exact absurd ((x2c h hj hF ha hb).1 hq) h2
 unfold x7a
 rw [e,List.mem_flatMap]
 constructor
 ·rintro ⟨x,hx,h1⟩
  obtain ⟨y,hy,he⟩:=List.mem_map.1 h1
  obtain ⟨hy1,hy2⟩:=List.mem_filter.1 hy
  rw [List.mem_range] at hx hy1
  obtain ⟨q1,q2⟩:=HO (p:=p) (j:=j) (f:=f) (i:=(x:Int)) (by omega)
  obtain ⟨q3,q4⟩:=HO (p:=p) (j:=j) (f:=f) (i:=(y:Int)) (by omega)
  have e1:QM p j (QY f.body+2:Nat) x=a:=congrArg Prod.fst he
  have e2:QM p j (QY f.body+2:Nat) y=b:=congrArg Prod.snd he
  rw [e1] at q1 q2
  rw [e2] at q3 q4
  have:=key a b q1 q3
  rw [q2,q4,Int.toNat_natCast,Int.toNat_natCast] at this
  exact ⟨q1,q3,this.1 hy2⟩
 ·rintro ⟨q1,q3,h1⟩
  have hra:=WH q1
  have hrb:=WH q3
  refine ⟨(ixI p j f a).toNat,List.mem_range.2 (by omega),List.mem_map.2 ⟨(ixI p j f b).toNat,List.mem_filter.2 ⟨List.mem_range.2 (by omega),(key a b q1 q3).2 h1⟩,?_⟩⟩
  show (QM p j (QY f.body+2:Nat) _,QM p j (QY f.body+2:Nat) _)=_
  rw [Int.toNat_of_nonneg hra.1,Int.toNat_of_nonneg hrb.1,x1u q1,x1u q3]
open Go.Proofs
def w9g (k:Int) (x:RI):Bool:=decide (k=0)||decide (x.s.kind=k)
def w8t (p:Pg) (k:Int):List Int:=((allR p).filter (w9g k)).map fun x=>x.s.id
noncomputable def x4j (p:Pg) (n:Str):List (Int×Int):=match HP p n with
 | some w=>(match w.p.procs[w.j]? with
   | some f=>x7a w f (QY f.body+2)
   | none=>[])
 | none=>[]
theorem DB {p:Pg} {n:Str} {k:Nat} {f:Pr} (hw:HP p n=some (QX p k f)) (hk:p.procs[k]? = some f):x4j p n=x7a (QX p k f) f (QY f.body+2):=by
 have h:(QX p k f).p.procs[(QX p k f).j]? = some f:=hk
 unfold x4j
 rw [hw]
 simp only
 rw [h]
theorem q8d {p:Pg} {n:Str} (hw:HP p n=none):x4j p n=[]:=by
 unfold x4j
 rw [hw]
theorem x2u (p:Pg) (n:Str):(x4j p n).length≤1000000:=by
 cases hw:HP p n with
 | none=>rw [q8d hw];simp
 | some w =>
   obtain ⟨k,f,hkj,rfl,hc,_⟩:=KI hw
   obtain ⟨_,_,hcn⟩:=UY hc
   obtain ⟨_,_,_,hlen,hsp⟩:=QJ p
   obtain ⟨_,_,hle,_⟩:=hsp k f hkj
   rw [DB hw hkj]
   have h1:=w1n (f:=f) (QX p k f) (QY f.body+2)
   have h2:(QY f.body+2)*(QY f.body+2)≤202*202:=Nat.mul_le_mul (by omega) (by omega)
   omega
theorem x1a (p:Pg) (hf:Fit p) (n:Str):SpecP Tryz.prog 42 [.agg p.cells,.str n] (fun r=>r = .sl (avP (x4j p n))):=by
 refine SpecP.body z7j QQ Tryz.func42 rfl Tryz.call42 (by show 2≤_;decide) ?_
 conv=>whnf
 have hW:=w8g p hf n
 cases hw:HP p n with
 | none =>
   rw [q8d hw]
   rw [hw] at hW
   repeat' (refine CallK.pure hW (.cons (Sub.refl _) (.cons (Sub.refl _) .nil)) ?_;rintro _ rfl;conv=>whnf)
   exact ⟨_,.p Sub.nils,rfl⟩
 | some w =>
   obtain ⟨k,f,hkj,rfl,hc,_⟩:=KI hw
   have hw0:=hw
   rw [hw] at hW
   repeat' ((first|(refine CallK.pure hW (.cons (Sub.refl _) (.cons (Sub.refl _) .nil)) ?_;rintro _ rfl)|(refine CallK.pure (q6v (QX p k f) f (QY f.body+2) (w9v hc hkj) (x1c hc hkj) (Nat.le_trans (z7y hc hkj) (by decide))) (.cons (Sub.refl _) .nil) ?_;rintro _ ⟨fm,M,h1,h2,h3,rfl⟩));conv=>whnf)
   exact RetK.p (by rw [DB hw0 hkj,← w5x h1 h3])
noncomputable def byR (p:Pg) (n:Str) (id:Int):List Int:=((x4j p n).filter fun d=>decide (d.2=id)).map Prod.fst
theorem z0u (p:Pg) (hf:Fit p) (n:Str) (id:Int):SpecP Tryz.prog 43 [.agg p.cells,.str n,.int .i64 id] (fun r=>r=QF (byR p n id)):=by
 refine SpecP.body x7v QQ Tryz.func43 rfl Tryz.call43 (by show 3≤_;decide) ?_
 conv=>whnf
 have hO:=x1a p hf n
 have hlen:=x2u p n
 have hB:byR p n id=((x4j p n).filter fun d=>decide (d.2=id)).map Prod.fst:=rfl
 generalize x4j p n=L at hO hlen hB
 generalize byR p n id=B at hB
 have hal:(avP L).length=L.length:=by unfold avP;rw [List.length_map]
 repeat' ((first|intro (_:_≤9223372036854775807)|(refine CallK.pure hO (.cons (Sub.refl _) (.cons (Sub.refl _) .nil)) ?_;rintro _ rfl));conv=>whnf)
 refine LoopK.inv QQ (fun x:Nat×List Int=>⟨[(2,.p (.int .i64 id)),(7,.hd 0 0 x.2.length),(12,.p (.sl (avP L))),(13,.p (.int .i64 (avP L).length)),(14,.p (.int .i64 x.1))],[(0,.own 3 1 (x.2.map (.int .i64)))]⟩) (fun x=>x.1≤L.length∧x.2.length≤x.1∧x.2++((L.drop x.1).filter fun d=>decide (d.2=id)).map Prod.fst=B) (fun x=>L.length-x.1) (0,[])
  (Le.mk [(0,.own 3 1 [])] (by simp [Chunk.new0];rfl) (by simp) (by simp) (.cons (.refl _) (.cons (.nil List.mem_cons_self) (.cons (.refl _) (.cons (.refl _) (.cons (.refl _) .nil))))) (.new List.mem_cons_self .nil)) ⟨Nat.zero_le _,Nat.le_refl _,hB.symm⟩ ?_
 rintro ⟨j,o⟩ ⟨h2,h4,h3⟩
 simp only at h2 h3 h4 ⊢
 rcases Nat.lt_or_ge j L.length with hj|hj
 ·rw [List.drop_eq_getElem_cons hj] at h3
  have hme:(avP L)[j]? = some (.agg [.int .i64 L[j].1,.int .i64 L[j].2]):=by simp [avP,hj]
  generalize L[j]=t at hme h3
  conv=>whnf
  repeat' (first|((first|refine And.intro rfl ?_|(refine And.intro ⟨by decide,by decide⟩ ?_)|refine BsK.pure (fun x hx=>by rcases List.mem_singleton.1 hx with rfl;rfl) rfl ?_|refine Wr.i64 (by omega) (by omega) ?_|(refine IdxK.at (k:=j) rfl hme rfl ?_)|refine IdxL.mk 1 rfl (by decide) ?_|refine IdxL.mk 0 rfl (by decide) ?_|refine AppK.int1 (by simp) (by simp;omega) ?_);conv=>whnf)|(refine Br.dec (fun _=>?_) (fun _=>?_)<;>first|(exfalso;omega)|conv=>whnf))
  all_goals first
   | (have e:decide (t.2=id)=true:=decide_eq_true (by assumption)
      rw [List.filter_cons_of_pos (by exact e),List.map_cons] at h3
      exact ⟨(j+1,o++[t.1]),⟨hj,by simp;omega,by rw [List.append_assoc];exact h3⟩,by simp only;omega,Le.of_eq (by simp only [List.length_append,List.map_append,List.length_map];rfl)⟩)
   | (have e:decide (t.2=id)=false:=decide_eq_false (by assumption)
      rw [List.filter_cons_of_neg (fun hh=>by rw [e] at hh;cases hh)] at h3
      exact ⟨(j+1,o),⟨hj,by simp only;omega,h3⟩,by simp only;omega,Le.of_eq rfl⟩)
   | trace_state
 ·rw [List.drop_eq_nil_of_le hj] at h3
  simp only [List.filter_nil,List.map_nil,List.append_nil] at h3
  conv=>whnf
  repeat' (refine Br.dec (fun _=>?_) (fun _=>?_)<;>first|(exfalso;omega)|conv=>whnf)
  all_goals first
   | exact ⟨_,.hd rfl (by simp),by rw [← h3];rfl⟩
   | trace_state
def x1m (sh:Sheet) (id:Int):Int:=((sh.l[(id-1).toNat]?).map Item.up).getD 0
def upF (sh:Sheet):Nat→Int→List Int
 | 0,_=>[]
 | k+1,id=>if id=0 then [] else id::upF sh k (x1m sh id)
mutual
theorem w8w (proc nx lp:Int) : ∀ (t:S) (up:Int) (n i:Nat) (it:Item),(itS proc up nx lp n t)[i]? = some it→it.up=up∨((n:Int)+1≤it.up∧it.up≤n+i)
 | .mk id kind labels name pr x has args thn els,up,n,i,it,h=>by
   rw [itS] at h
   cases i with
   | zero=>cases h;exact .inl rfl
   | succ i =>
     rw [List.getElem?_cons_succ] at h
     rcases Nat.lt_or_ge i (QY thn) with hi|hi
     ·rw [List.getElem?_append_left (by rw [XR];exact hi)] at h
      have:=z2w proc _ _ thn _ _ i it h
      omega
     ·rw [List.getElem?_append_right (by rw [XR];exact hi),XR] at h
      have:=z2w proc _ _ els _ _ _ it h
      omega
theorem z2w (proc nx lp:Int) : ∀ (l:List S) (up:Int) (n i:Nat) (it:Item),(itL proc up nx lp n l)[i]? = some it→it.up=up∨((n:Int)+1≤it.up∧it.up≤n+i)
 | [],up,n,i,it,h=>by rw [itL] at h;simp at h
 | t::r,up,n,i,it,h=>by
   rw [itL] at h
   rcases Nat.lt_or_ge i (ZJ t) with hi|hi
   ·rw [List.getElem?_append_left (by rw [q8u];exact hi)] at h
    exact w8w proc _ _ t up n i it h
   ·rw [List.getElem?_append_right (by rw [q8u];exact hi),q8u] at h
    have:=z2w proc _ _ r up _ _ it h
    omega
end
theorem x3y : ∀ (l:List Pr) (k:Nat),k<cntP l → ∃ j f,l[j]? = some f∧QN l j≤k∧k<QN l j+QY f.body
 | [],k,h=>by rw [cntP] at h;omega
 | g::r,k,h=>by
   rw [cntP] at h
   rcases Nat.lt_or_ge k (QY g.body) with hk|hk
   ·exact ⟨0,g,rfl,by rw [QN];omega,by rw [QN];omega⟩
   ·obtain ⟨j,f,h1,h2,h3⟩:=x3y r (k-QY g.body) (by omega)
    exact ⟨j+1,f,by simpa using h1,by rw [QN];omega,by rw [QN];omega⟩
theorem x6z (p:Pg) {id:Int} (h1:1≤id):0≤x1m (sheetOf p) id∧x1m (sheetOf p) id<id:=by
 unfold x1m
 obtain ⟨_,_,_,hlen,hsp⟩:=QJ p
 cases hq:(sheetOf p).l[(id-1).toNat]? with
 | none=>exact ⟨Int.le_refl _,by show (0:Int)<id;omega⟩
 | some it =>
   show 0≤it.up∧it.up<id
   have hlt:=(List.getElem?_eq_some_iff.1 hq).1
   obtain ⟨j,f,hj,h2,h3⟩:=x3y p.procs (id-1).toNat (by omega)
   obtain ⟨_,_,hle,hdr⟩:=hsp j f hj
   have h4:(itL j 0 (-1) 0 (QN p.procs j) f.body)[(id-1).toNat-QN p.procs j]? = some it:=by
    rw [← hdr,List.getElem?_drop,List.getElem?_take_of_lt (by omega),show QN p.procs j+((id-1).toNat-QN p.procs j)=(id-1).toNat by omega]
    exact hq
   have:=z2w j (-1) 0 f.body 0 (QN p.procs j) _ it h4
   omega
theorem z7c (p:Pg) : ∀ (k:Nat) (u:Int),0≤u→((upF (sheetOf p) k u).length:Int)≤u
 | 0,u,h=>by rw [upF];simpa using h
 | k+1,u,h=>by
   rw [upF]
   split
   ·simpa using h
   ·have h1:=x6z p (id:=u) (by omega)
    have:=z7c p k _ h1.1
    rw [List.length_cons]
    omega
def inR (p:Pg) (id:Int):List Int:=bif XK p&&(decide (1≤id)&&decide (id≤(sheetOf p).l.length)) then (upF (sheetOf p) 300 (x1m (sheetOf p) id)).reverse else []
theorem z7s (p:Pg) (hf:Fit p) (id:Int):SpecP Tryz.prog 44 [.agg p.cells,.int .i64 id] (fun r=>r=QF (inR p id)):=by
 refine SpecP.body z8q QQ Tryz.func44 rfl Tryz.call44 (by show 2≤_;decide) ?_
 conv=>whnf
 cases hc:XK p with
 | false =>
   have e:inR p id=[]:=by unfold inR;rw [hc];rfl
   have hA : ¬(z5n p).1=0:=by unfold XK at hc;simpa using hc
   rw [e]
   repeat' (first|(refine CallK.pure (JB p hf) (by repeat' (first|exact ArgP.nil|refine ArgP.cons ?_ ?_|exact Sub.refl _|exact Sub.tt rfl|exact Sub.ff rfl|exact Sub.int (by omega))) ?_;rintro _ rfl;conv=>whnf)|(refine Br.dec2 (fun _=>?_) (fun _=>?_)<;>first|(exfalso;omega)|conv=>whnf))
   all_goals first
    | exact ⟨_,.p Sub.nils,rfl⟩
    | (exfalso;exact hA (by assumption))
 | true =>
   obtain ⟨hg,hpl,hcn⟩:=UY hc
   have hA:(z5n p).1=0:=by unfold XK at hc;simpa using hc
   cases hin:(decide (1≤id)&&decide (id≤(sheetOf p).l.length)) with
   | false =>
     have e:inR p id=[]:=by unfold inR;rw [hc,hin];rfl
     rw [e]
     repeat' (first|((first|(refine CallK.pure (JB p hf) (by repeat' (first|exact ArgP.nil|refine ArgP.cons ?_ ?_|exact Sub.refl _|exact Sub.tt rfl|exact Sub.ff rfl|exact Sub.int (by omega))) ?_;rintro _ rfl)|(refine CallK.pure (NG _ _) (by repeat' (first|exact ArgP.nil|refine ArgP.cons ?_ ?_|exact Sub.refl _|exact Sub.tt rfl|exact Sub.ff rfl)) ?_;rintro _ rfl)|(refine CallK.pure (YK p (by omega) (by omega)) (.cons (Sub.refl _) .nil) ?_;rintro _ rfl));conv=>whnf)|(refine Br.dec2 (fun _=>?_) (fun _=>?_)<;>first|(exfalso;omega)|conv=>whnf)|(refine Br.n (fun _=>?_) (fun _=>?_)<;>conv=>whnf))
     all_goals first
      | exact ⟨_,.p Sub.nils,rfl⟩
      | (exfalso;omega)
      | (exfalso;simp_all)
   | true =>
     have hid:1≤id∧id≤(sheetOf p).l.length:=by simpa using hin
     have hlt:(id-1).toNat<(sheetOf p).l.length:=by omega
     have hlen:=(QJ p).2.2.2.1
     have e:inR p id=(upF (sheetOf p) 300 (x1m (sheetOf p) id)).reverse:=by unfold inR;rw [hc,hin];rfl
     have hx:((sheetOf p).l.map fun i=>AV.agg i.cells)[(id-1).toNat]? = some (.agg (sheetOf p).l[(id-1).toNat].cells):=by rw [List.getElem?_map,List.getElem?_eq_getElem hlt];rfl
     have hu:(sheetOf p).l[(id-1).toNat].up=x1m (sheetOf p) id:=by unfold x1m;rw [List.getElem?_eq_getElem hlt];rfl
     have hur:=x6z p hid.1
     rw [e]
     repeat' (first|((first|(refine CallK.pure (JB p hf) (by repeat' (first|exact ArgP.nil|refine ArgP.cons ?_ ?_|exact Sub.refl _|exact Sub.tt rfl|exact Sub.ff rfl|exact Sub.int (by omega))) ?_;rintro _ rfl)|(refine CallK.pure (NG _ _) (by repeat' (first|exact ArgP.nil|refine ArgP.cons ?_ ?_|exact Sub.refl _|exact Sub.tt rfl|exact Sub.ff rfl)) ?_;rintro _ rfl)|refine Wr.i64 (by omega) (by omega) ?_|(refine CallK.pure (YK p (by omega) (by omega)) (.cons (Sub.refl _) .nil) ?_;rintro _ rfl)|(refine IdxK.at (by omega) hx rfl ?_));conv=>whnf)|(refine Br.dec2 (fun _=>?_) (fun _=>?_)<;>first|(exfalso;omega)|conv=>whnf)|(refine Br.n (fun _=>?_) (fun _=>?_)<;>conv=>whnf))
     rotate_left 1
     ·exfalso
      rename_i h9
      rw [hin] at h9
      cases h9
     refine LoopK.inv QQ (fun x:Int×List Int×Nat=>⟨[(5,.p (.ip (sheetOf p).cells)),(6,.hd 0 0 x.2.1.length),(7,.p (.int .i64 x.1))],[(0,.own 3 1 (x.2.1.map (.int .i64)))]⟩)
      (fun x=>(0≤x.1∧x.1≤(sheetOf p).l.length)∧x.1<x.2.2∧x.2.1.length+x.2.2≤300∧x.2.1++upF (sheetOf p) x.2.2 x.1=upF (sheetOf p) 300 (x1m (sheetOf p) id)) (fun x=>x.2.2) (x1m (sheetOf p) id,[],300)
      (Le.mk [(0,.own 3 1 [])] (by simp [Chunk.new0];rfl) (by simp) (by simp) (.cons (.refl _) (.cons (.nil List.mem_cons_self) (.cons (.of_eq (by rw [hu];rfl)) .nil))) (.new List.mem_cons_self .nil))
      ⟨⟨by simp only;omega,by simp only;omega⟩,by simp only;omega,by simp,rfl⟩ ?_
     rintro ⟨u,o,k⟩ ⟨⟨h2,h3⟩,h4,h5,h6⟩
     simp only at h2 h3 h4 h5 h6 ⊢
     by_cases h0:u=0
     ·subst h0
      have hR:=HN o (by omega)
      have h7:o=upF (sheetOf p) 300 (x1m (sheetOf p) id):=by
       rw [← h6]
       cases k with
       | zero=>rw [upF,List.append_nil]
       | succ k=>rw [upF,if_pos rfl,List.append_nil]
      rw [← h7]
      conv=>whnf
      repeat' (first|(refine CallK.heap [(1000,0)] 5 (ArgsH.cons (LSub.refl _) ArgsH.nil) (by refine BlksH.cons (j:=0) rfl rfl ?_ ?_;exact CSub.refl _;exact BlksH.nil) hR rfl rfl ?_;rintro l' H' ⟨rfl,rfl⟩;conv=>whnf)|(refine Br.dec2 (fun _=>?_) (fun _=>?_)<;>first|(exfalso;omega)|conv=>whnf))
      exact ⟨_,.hd rfl (by simp),rfl⟩
     ·have hlt2:(u-1).toNat<(sheetOf p).l.length:=by omega
      have hx2:((sheetOf p).l.map fun i=>AV.agg i.cells)[(u-1).toNat]? = some (.agg (sheetOf p).l[(u-1).toNat].cells):=by rw [List.getElem?_map,List.getElem?_eq_getElem hlt2];rfl
      have hu2:(sheetOf p).l[(u-1).toNat].up=x1m (sheetOf p) u:=by unfold x1m;rw [List.getElem?_eq_getElem hlt2];rfl
      have hur2:=x6z p (id:=u) (by omega)
      have h7:upF (sheetOf p) k u=u::upF (sheetOf p) (k-1) (x1m (sheetOf p) u):=by
       cases k with
       | zero=>exact absurd h4 (by omega)
       | succ k=>rw [upF,if_neg h0];rfl
      rw [h7] at h6
      conv=>whnf
      repeat' (first|((first|refine And.intro rfl ?_|(refine And.intro ⟨by decide,by decide⟩ ?_)|refine BsK.pure (fun x hx=>by rcases List.mem_singleton.1 hx with rfl;rfl) rfl ?_|refine Wr.i64 (by omega) (by omega) ?_|refine AppK.int1 (by simp) (by simp;omega) ?_|(refine IdxK.at (by omega) hx2 rfl ?_));conv=>whnf)|(refine Br.dec2 (fun _=>?_) (fun _=>?_)<;>first|(exfalso;omega)|conv=>whnf))
      all_goals first
       | (exfalso;omega)
       | exact ⟨(x1m (sheetOf p) u,o++[u],k-1),⟨⟨by simp only;omega,by simp only;omega⟩,by simp only;omega,by simp;omega,by rw [List.append_assoc];exact h6⟩,by simp only;omega,Le.of_eq (by rw [← hu2];simp only [List.length_append,List.map_append,List.length_map];rfl)⟩
       | trace_state
open Go.Proofs
theorem z7o {n:Nat} {nx:List (List Int)} (hnx : ∀ a,∀ x∈nx.getD a [],0≤x∧x<(n:Int)) : ∃ fm,FollowP n nx fm:=by
 let F:Nat→Nat→Bool:=fun a b => @decide (¬Avd nx n b a) (Classical.propDecidable _)
 have hF : ∀ a b,F a b=true ↔ ¬Avd nx n b a:=fun a b=>by simp only [F];exact @decide_eq_true_iff _ (Classical.propDecidable _)
 have hrow : ∀ a,a<n→((List.range n).map fun a=>(List.range n).map fun b=>F a b).getD a []=(List.range n).map fun b=>F a b:=fun a ha=>by
  rw [List.getD_eq_getElem?_getD,List.getElem?_map,List.getElem?_range ha]
  rfl
 have hbit : ∀ a b,a<n→b<n→bitF ((List.range n).map fun a=>(List.range n).map fun b=>F a b) a b=F a b:=fun a b ha hb=>by
  unfold bitF
  rw [hrow a ha,List.getD_eq_getElem?_getD,List.getElem?_map,List.getElem?_range hb]
  rfl
 have hfix : ∀ a b,a<n-1→b<n→F a b=(rowF n nx ((List.range n).map fun a=>(List.range n).map fun b=>F a b) a).getD b false:=fun a b ha hb=>by
  rw [q5v hb,Bool.eq_iff_iff,hF,Bool.or_eq_true,decide_eq_true_eq,GJ]
  constructor
  ·intro h
   by_cases hab:a=b
   ·exact .inl hab
   ·refine .inr fun t ht => ?_
    have hr:=hnx a t ht
    rw [hbit _ _ (by omega) hb,hF]
    exact fun h2=>h (.step hab (by rw [Int.toNat_of_nonneg hr.1];exact ht) h2)
  ·rintro h h2
   cases h2 with
   | exit hne=>omega
   | @step _ t hab ht h3 =>
     have hr:=hnx a _ ht
     rcases h with h|h
     ·exact hab h
     ·have h4:=h _ ht
      rw [Int.toNat_natCast,hbit _ _ (by omega) hb,hF] at h4
      exact h4 h3
 refine ⟨(List.range n).map fun a=>(List.range n).map fun b=>F a b,⟨by simp,fun r hr => ?_,?_,fun a b ha hb h => ?_,fun a b ha hb h => ?_⟩,fun a ha => ?_⟩
 ·obtain ⟨a,_,rfl⟩:=List.mem_map.1 hr
  simp
 ·cases n with
  | zero=>rfl
  | succ n =>
    rw [hrow _ (by omega)]
    unfold filRow
    refine List.map_congr_left fun b hb => ?_
    rw [List.mem_range] at hb
    rw [Bool.eq_iff_iff,hF,Bool.or_eq_true,decide_eq_true_eq,decide_eq_true_eq]
    constructor
    ·intro h
     refine .inr (Classical.byContradiction fun he=>h ?_)
     exact .exit fun e=>he e.symm
    ·rintro (h|h) h2
     ·omega
     ·cases h2 with
      | exit hne=>exact hne h.symm
      | step hab _ _=>exact hab h
 ·rw [hbit a b (by omega) hb,hfix a b ha hb]
  exact h
 ·rw [hbit a b ha hb] at h
  refine Classical.byContradiction fun h2 => ?_
  rw [(hF a b).2 h2] at h
  cases h
 ·rw [hrow a (by omega)]
  refine List.ext_getElem (by rw [q0t];simp) fun b h1 h2 => ?_
  have hb:b<n:=by simpa using h1
  have h3:=hfix a b ha hb
  rw [List.getD_eq_getElem?_getD,List.getElem?_eq_getElem h2] at h3
  simp only [List.getElem_map,List.getElem_range]
  exact h3
theorem z9o {n:Nat} {l:List (Int×Int)} (h : ∀ t∈l,(0≤t.1∧t.1<n)∧0≤t.2∧t.2<n) : ∀ a,∀ x∈(UW n l).getD a [],0≤x∧x<(n:Int):=fun a x hx=>by
 obtain ⟨t,ht,_,rfl⟩:=(q5m fun t ht=>(h t ht).1).1 hx
 exact (h t ht).2
theorem w6g {p:Pg} {j:Nat} {f:Pr} (h:XK p=true) (hj:p.procs[j]? = some f) {a b:Int}:(a,b)∈x7a (QX p j f) f (QY f.body+2)↔plP p j f a∧plP p j f b∧0<b∧w7q p j f a b:=by
 obtain ⟨fm,hF⟩:=z7o (n:=QY f.body+2) (z9o (x1c h hj))
 exact w1f h hj hF
namespace Own
theorem z0u (p:Pg) (hf:Fit p) (n:Str) (id:Int):SpecH Tryz.prog 43 [.p (.agg p.cells),.p (.str n),.p (.int .i64 id)] [] (fun r H=>r = .hd 0 0 (byR p n id).length∧H=[(0,.own 3 1 ((byR p n id).map (.int .i64)))]):=by
 refine SpecH.body x7v QQ Tryz.func43 rfl Tryz.call43 (by show 3≤_;decide) ?_
 conv=>whnf
 have hO:=x1a p hf n
 have hlen:=x2u p n
 have hB:byR p n id=((x4j p n).filter fun d=>decide (d.2=id)).map Prod.fst:=rfl
 generalize x4j p n=L at hO hlen hB
 generalize byR p n id=B at hB
 have hal:(avP L).length=L.length:=by unfold avP;rw [List.length_map]
 repeat' ((first|intro (_:_≤9223372036854775807)|(refine CallK.pure hO (.cons (Sub.refl _) (.cons (Sub.refl _) .nil)) ?_;rintro _ rfl));conv=>whnf)
 refine LoopK.inv QQ (fun x:Nat×List Int=>⟨[(2,.p (.int .i64 id)),(7,.hd 0 0 x.2.length),(12,.p (.sl (avP L))),(13,.p (.int .i64 (avP L).length)),(14,.p (.int .i64 x.1))],[(0,.own 3 1 (x.2.map (.int .i64)))]⟩) (fun x=>x.1≤L.length∧x.2.length≤x.1∧x.2++((L.drop x.1).filter fun d=>decide (d.2=id)).map Prod.fst=B) (fun x=>L.length-x.1) (0,[])
  (Le.mk [(0,.own 3 1 [])] (by simp [Chunk.new0];rfl) (by simp) (by simp) (.cons (.refl _) (.cons (.nil List.mem_cons_self) (.cons (.refl _) (.cons (.refl _) (.cons (.refl _) .nil))))) (.new List.mem_cons_self .nil)) ⟨Nat.zero_le _,Nat.le_refl _,hB.symm⟩ ?_
 rintro ⟨j,o⟩ ⟨h2,h4,h3⟩
 simp only at h2 h3 h4 ⊢
 rcases Nat.lt_or_ge j L.length with hj|hj
 ·rw [List.drop_eq_getElem_cons hj] at h3
  have hme:(avP L)[j]? = some (.agg [.int .i64 L[j].1,.int .i64 L[j].2]):=by simp [avP,hj]
  generalize L[j]=t at hme h3
  conv=>whnf
  repeat' (first|((first|refine And.intro rfl ?_|(refine And.intro ⟨by decide,by decide⟩ ?_)|refine BsK.pure (fun x hx=>by rcases List.mem_singleton.1 hx with rfl;rfl) rfl ?_|refine Wr.i64 (by omega) (by omega) ?_|(refine IdxK.at (k:=j) rfl hme rfl ?_)|refine IdxL.mk 1 rfl (by decide) ?_|refine IdxL.mk 0 rfl (by decide) ?_|refine AppK.int1 (by simp) (by simp;omega) ?_);conv=>whnf)|(refine Br.dec (fun _=>?_) (fun _=>?_)<;>first|(exfalso;omega)|conv=>whnf))
  all_goals first
   | (have e:decide (t.2=id)=true:=decide_eq_true (by assumption)
      rw [List.filter_cons_of_pos (by exact e),List.map_cons] at h3
      exact ⟨(j+1,o++[t.1]),⟨hj,by simp;omega,by rw [List.append_assoc];exact h3⟩,by simp only;omega,Le.of_eq (by simp only [List.length_append,List.map_append,List.length_map];rfl)⟩)
   | (have e:decide (t.2=id)=false:=decide_eq_false (by assumption)
      rw [List.filter_cons_of_neg (fun hh=>by rw [e] at hh;cases hh)] at h3
      exact ⟨(j+1,o),⟨hj,by simp only;omega,h3⟩,by simp only;omega,Le.of_eq rfl⟩)
   | trace_state
 ·rw [List.drop_eq_nil_of_le hj] at h3
  simp only [List.filter_nil,List.map_nil,List.append_nil] at h3
  conv=>whnf
  repeat' (refine Br.dec (fun _=>?_) (fun _=>?_)<;>first|(exfalso;omega)|conv=>whnf)
  all_goals first
   | exact ⟨_,LSub.refl _,by rw [← h3],by rw [← h3]⟩
   | trace_state
end Own
open Go.Proofs
def rng (a b:Int) (v:Int):Prop:=a≤v∧v≤b
theorem z6u {proc up nx lp:Int} {n:Nat} {nest m:Int} {l:List S} (h:ZG nest n l=some m) {it:Item} (hi:it∈itL proc up nx lp n l):(n:Int)+1≤it.s.id∧it.s.id≤(n:Int)+QY l:=by
 have h1:it.s∈flL l:=by
  rw [← MK proc up nx lp n l]
  exact List.mem_map.2 ⟨it,hi,rfl⟩
 have h2:it.s.id∈YF n (QY l):=by
  rw [← YD nest l h]
  exact List.mem_map.2 ⟨it.s,h1,rfl⟩
 have:=LD h2
 omega
open Go.Proofs
def itemR (l:List RI) (id:Int):RI:=(l.find? fun x=>decide (x.s.id=id)).getD RI0
def inI (i:Int) (e:Bool) (y:RI):Bool:=decide (y.inn=i)&&(y.els==e)
def stdR (l:List RI) (x:RI):List Int:=(l.filter (inI x.inn x.els)).map fun y=>y.s.id
def nextIn:List Int→Int→Option Int
 | a::b::r,x=>if a=x then some b else nextIn (b::r) x
 | _,_=>none
inductive BehP (l:List RI):Int→Int→Prop
 | next {id v:Int} (h:nextIn (stdR l (itemR l id)) id=some v):BehP l id v
 | exit {id:Int} (h:nextIn (stdR l (itemR l id)) id=none) (h0:(itemR l id).inn=0):BehP l id (-1)
 | loop {id:Int} (h:nextIn (stdR l (itemR l id)) id=none) (h0:(itemR l id).inn≠0) (hk:(itemR l (itemR l id).inn).s.kind=6):BehP l id (itemR l id).inn
 | up {id v:Int} (h:nextIn (stdR l (itemR l id)) id=none) (h0:(itemR l id).inn≠0) (hk:(itemR l (itemR l id).inn).s.kind≠6) (hb:BehP l (itemR l id).inn v):BehP l id v
def w6t (l:List RI) (id:Int) (e:Bool) (o:Int):Int:=((l.find? (inI id e)).map fun y=>y.s.id).getD o
theorem z9d {l:List RI} (hn:(l.map fun x=>x.s.id).Nodup) {x:RI} (hx:x∈l):itemR l x.s.id=x:=by
 unfold itemR
 cases hf:l.find? fun y=>decide (y.s.id=x.s.id) with
 | none =>
   have:=List.find?_eq_none.1 hf x hx
   simp at this
 | some y =>
   have h1:=List.mem_of_find?_eq_some hf
   have h2:=List.find?_some hf
   simp only [decide_eq_true_eq] at h2
   exact BR hn y h1 x hx h2
mutual
theorem z6a (d i:Int) (e:Bool) : ∀ (t:S) {nest m:Int} {n:Nat},q4i nest n t=some m → ∀ x∈fuS d i e t,(x.s=t∧x.inn=i∧x.els=e)∨((n:Int)+1≤x.inn∧x.inn≤(n:Int)+ZJ t)
 | .mk id kind labels name pr x has args thn els,nest,m,n,h,y,hy=>by
   obtain ⟨_,hid,m1,h3,h4⟩:=ZK h
   have hid:id=(n:Int)+1:=hid
   have hc:ZJ (.mk id kind labels name pr x has args thn els)=1+QY thn+QY els:=ZO _
   have hm1:=ZP _ _ thn h3
   have h3':ZG (nest+1) ((n+1:Nat):Int) thn=some m1:=by rw [← h3];rfl
   have h4':ZG (nest+1) ((n+1+QY thn:Nat):Int) els=some m:=by
    rw [← h4,hm1]
    congr 1
   rw [fuS] at hy
   rcases List.mem_cons.1 hy with rfl|hy
   ·exact .inl ⟨rfl,rfl,rfl⟩
   rcases List.mem_append.1 hy with hy|hy
   ·have:=KP (d+1) id false thn h3' y hy
    refine .inr ?_
    rcases this with h5|h5<;>omega
   ·have:=KP (d+1) id true els h4' y hy
    refine .inr ?_
    rcases this with h5|h5<;>omega
theorem KP (d i:Int) (e:Bool) : ∀ (l:List S) {nest m:Int} {n:Nat},ZG nest n l=some m → ∀ x∈fuL d i e l,(x.inn=i)∨((n:Int)+1≤x.inn∧x.inn≤(n:Int)+QY l)
 | [],_,_,_,_,y,hy=>by rw [fuL] at hy;cases hy
 | t::r,nest,m,n,h,y,hy=>by
   obtain ⟨_,m1,h1,h2⟩:=XN h
   have hm1:=YJ _ _ t h1
   have h2':ZG nest ((n+ZJ t:Nat):Int) r=some m:=by rw [← h2,hm1];rfl
   have hc:QY (t::r)=ZJ t+QY r:=by rw [QY]
   rw [fuL] at hy
   rcases List.mem_append.1 hy with hy|hy
   ·rcases z6a d i e t h1 y hy with h5|h5
    ·exact .inl h5.2.1
    ·refine .inr ?_
     omega
   ·rcases KP d i e r h2' y hy with h5|h5
    ·exact .inl h5
    ·refine .inr ?_
     omega
end
theorem WU {α:Type} {l:List α} {q:α→Bool} (h : ∀ x∈l,q x=false):l.filter q=[]:=by
 rw [List.filter_eq_nil_iff]
 intro x hx
 rw [h x hx]
 decide
theorem LY {i:Int} {e:Bool} {y:RI} (h:y.inn≠i):inI i e y=false:=by
 unfold inI
 rw [decide_eq_false h]
 rfl
theorem w6h {i:Int} {e:Bool} {y:RI} (h:y.els≠e):inI i e y=false:=by
 unfold inI
 rw [beq_eq_false_iff_ne.2 h]
 exact Bool.and_false _
theorem w6a {i:Int} {e:Bool} {y:RI} (h:y.inn=i) (h':y.els=e):inI i e y=true:=by
 unfold inI
 rw [decide_eq_true h,h']
 simp
theorem w3v (d i:Int) (e:Bool) : ∀ (l:List S) {nest m:Int} {n:Nat},ZG nest n l=some m→i≤n→((fuL d i e l).filter (inI i e)).map (fun y=>y.s.id)=l.map S.id
 | [],_,_,_,_,_=>by rw [fuL];rfl
 | t::r,nest,m,n,h,hi=>by
   obtain ⟨_,m1,h1,h2⟩:=XN h
   obtain ⟨_,hid,m2,h3,h4⟩:=ZK h1
   have hm1:=YJ _ _ t h1
   have h2':ZG nest ((n+ZJ t:Nat):Int) r=some m:=by rw [← h2,hm1];rfl
   have hm2:=ZP _ _ t.thn h3
   have h3':ZG (nest+1) ((n+1:Nat):Int) t.thn=some m2:=by rw [← h3];rfl
   have h4':ZG (nest+1) ((n+1+QY t.thn:Nat):Int) t.els=some m1:=by rw [← h4,hm2];congr 1
   have hn1:=WU (l:=fuL (d+1) t.id false t.thn) (q:=inI i e) fun x hx=>LY (by rcases KP _ _ _ _ h3' x hx with h5|h5<;>omega)
   have hn2:=WU (l:=fuL (d+1) t.id true t.els) (q:=inI i e) fun x hx=>LY (by rcases KP _ _ _ _ h4' x hx with h5|h5<;>omega)
   rw [fuL,x1v,List.cons_append,List.filter_cons_of_pos (show inI i e (⟨t,d,i,e⟩:RI)=true from w6a rfl rfl),List.filter_append,List.filter_append,hn1,hn2,List.append_nil,List.nil_append,List.map_cons,w3v d i e r h2' (by omega),List.map_cons]
theorem q5t (d i:Int) (e e':Bool) (he:e≠e') : ∀ (l:List S) {nest m:Int} {n:Nat},ZG nest n l=some m→i≤n→(fuL d i e l).filter (inI i e')=[]
 | [],_,_,_,_,_=>by rw [fuL];rfl
 | t::r,nest,m,n,h,hi=>by
   obtain ⟨_,m1,h1,h2⟩:=XN h
   obtain ⟨_,hid,m2,h3,h4⟩:=ZK h1
   have hm1:=YJ _ _ t h1
   have h2':ZG nest ((n+ZJ t:Nat):Int) r=some m:=by rw [← h2,hm1];rfl
   have hm2:=ZP _ _ t.thn h3
   have h3':ZG (nest+1) ((n+1:Nat):Int) t.thn=some m2:=by rw [← h3];rfl
   have h4':ZG (nest+1) ((n+1+QY t.thn:Nat):Int) t.els=some m1:=by rw [← h4,hm2];congr 1
   have hn1:=WU (l:=fuL (d+1) t.id false t.thn) (q:=inI i e') fun x hx=>LY (by rcases KP _ _ _ _ h3' x hx with h5|h5<;>omega)
   have hn2:=WU (l:=fuL (d+1) t.id true t.els) (q:=inI i e') fun x hx=>LY (by rcases KP _ _ _ _ h4' x hx with h5|h5<;>omega)
   rw [fuL,x1v,List.cons_append,List.filter_cons_of_neg (by rw [w6h he];decide),List.filter_append,List.filter_append,hn1,hn2,List.append_nil,List.nil_append,q5t d i e e' he r h2' (by omega)]
mutual
theorem v1g (d i:Int) (e:Bool) : ∀ (t:S) {nest m:Int} {n:Nat},q4i nest n t=some m→i≤n → ∀ u∈flS t,∀ b,((fuS d i e t).filter (inI u.id b)).map (fun y=>y.s.id)=(bif b then u.els else u.thn).map S.id
 | .mk id kind labels name pr x has args thn els,nest,m,n,h,hi,u,hu,b=>by
   obtain ⟨_,hid,m1,h3,h4⟩:=ZK h
   have hid:id=(n:Int)+1:=hid
   have hm1:=ZP _ _ thn h3
   have h3':ZG (nest+1) ((n+1:Nat):Int) thn=some m1:=by rw [← h3];rfl
   have h4':ZG (nest+1) ((n+1+QY thn:Nat):Int) els=some m:=by
    rw [← h4,hm1]
    congr 1
   have rg : ∀ {l:List S} {q:Nat} {nest m:Int},ZG nest q l=some m → ∀ u∈flL l,(q:Int)+1≤u.id∧u.id≤(q:Int)+QY l:=fun {l q nest m} hr u hu=>by
    have h2:u.id∈YF q (QY l):=by
     rw [← YD nest l hr]
     exact List.mem_map.2 ⟨u,hu,rfl⟩
    have:=LD h2
    omega
   have hne:u.id≠i:=by
    rw [flS] at hu
    rcases List.mem_cons.1 hu with rfl|hu
    ·show id≠i
     omega
    rcases List.mem_append.1 hu with hu|hu
    ·have:=rg h3' u hu
     omega
    ·have:=rg h4' u hu
     omega
   rw [fuS,List.filter_cons_of_neg (by rw [LY (Ne.symm hne)];decide),List.filter_append,List.map_append]
   rw [flS] at hu
   rcases List.mem_cons.1 hu with rfl|hu
   ·show List.map _ (List.filter (inI id b) _)++List.map _ (List.filter (inI id b) _)=_
    cases b with
    | true=>rw [q5t (d+1) id false true (by decide) thn h3' (by omega),w3v (d+1) id true els h4' (by omega)];rfl
    | false=>rw [q5t (d+1) id true false (by decide) els h4' (by omega),w3v (d+1) id false thn h3' (by omega),List.map_nil,List.append_nil];rfl
   rcases List.mem_append.1 hu with hu|hu
   ·have hr:=rg h3' u hu
    have hn2:=WU (l:=fuL (d+1) id true els) (q:=inI u.id b) fun x hx=>LY (by rcases KP _ _ _ _ h4' x hx with h5|h5<;>omega)
    rw [hn2,w1e (d+1) id false thn h3' (by omega) u hu b,List.map_nil,List.append_nil]
   ·have hr:=rg h4' u hu
    have hn2:=WU (l:=fuL (d+1) id false thn) (q:=inI u.id b) fun x hx=>LY (by rcases KP _ _ _ _ h3' x hx with h5|h5<;>omega)
    rw [hn2,w1e (d+1) id true els h4' (by omega) u hu b,List.map_nil,List.nil_append]
theorem w1e (d i:Int) (e:Bool) : ∀ (l:List S) {nest m:Int} {n:Nat},ZG nest n l=some m→i≤n → ∀ u∈flL l,∀ b,((fuL d i e l).filter (inI u.id b)).map (fun y=>y.s.id)=(bif b then u.els else u.thn).map S.id
 | [],_,_,_,_,_,u,hu,_=>by rw [flL] at hu;cases hu
 | t::r,nest,m,n,h,hi,u,hu,b=>by
   obtain ⟨_,m1,h1,h2⟩:=XN h
   have hm1:=YJ _ _ t h1
   have h2':ZG nest ((n+ZJ t:Nat):Int) r=some m:=by rw [← h2,hm1];rfl
   have rg : ∀ {l:List S} {q:Nat} {nest m:Int},ZG nest q l=some m → ∀ u∈flL l,(q:Int)+1≤u.id∧u.id≤(q:Int)+QY l:=fun {l q nest m} hr u hu=>by
    have h2:u.id∈YF q (QY l):=by
     rw [← YD nest l hr]
     exact List.mem_map.2 ⟨u,hu,rfl⟩
    have:=LD h2
    omega
   rw [fuL,List.filter_append,List.map_append]
   rw [flL] at hu
   rcases List.mem_append.1 hu with hu|hu
   ·have hr:(n:Int)+1≤u.id∧u.id≤(n:Int)+ZJ t:=by
     have h5:ZG nest n [t]=some m1:=by
      rw [ZG,if_neg (by have:=(XN h).1;omega),h1]
      simp only
      rw [ZG]
     have:=rg h5 u (by rw [flL,flL,List.append_nil];exact hu)
     rw [QY,QY] at this
     omega
    have hn2:=WU (l:=fuL d i e r) (q:=inI u.id b) fun x hx=>LY (by rcases KP _ _ _ _ h2' x hx with h5|h5<;>omega)
    rw [hn2,v1g d i e t h1 hi u hu b,List.map_nil,List.append_nil]
   ·have hr:=rg h2' u hu
    have hn2:=WU (l:=fuS d i e t) (q:=inI u.id b) fun x hx=>LY (by rcases z6a _ _ _ _ h1 x hx with h5|h5<;>omega)
    rw [hn2,w1e d i e r h2' (by omega) u hu b,List.map_nil,List.nil_append]
end
theorem x4c : ∀ (pre:List Int) {a:Int} {r:List Int},(pre++a::r).Nodup→nextIn (pre++a::r) a=r.head?
 | [],a,[],_=>rfl
 | [],a,b::r,_=>by show (if a=a then some b else _)=_;rw [if_pos rfl];rfl
 | x::pre,a,r,hn=>by
   have hn':(x::(pre++a::r)).Nodup:=hn
   rw [List.nodup_cons] at hn'
   have hne:x≠a:=fun e=>hn'.1 (e▸List.mem_append.2 (.inr List.mem_cons_self))
   have ih:=x4c pre hn'.2
   show nextIn (x::(pre++a::r)) a=_
   cases hq:pre++a::r with
   | nil=>simp at hq
   | cons y q =>
     rw [hq] at ih
     show (if x=a then some y else nextIn (y::q) a)=_
     rw [if_neg hne,ih]
def v1d (L:List RI) (i nx:Int):Prop:=(i=0∧nx = -1)∨(i≠0∧(itemR L i).s.kind=6∧nx=i)∨(i≠0∧(itemR L i).s.kind≠6∧BehP L i nx)
mutual
theorem v1e {L:List RI} (hN:(L.map fun x=>x.s.id).Nodup) (hK : ∀ x∈L,∀ b,(L.filter (inI x.s.id b)).map (fun y=>y.s.id)=(bif b then x.s.els else x.s.thn).map S.id) (proc d i:Int) (e:Bool) : ∀ (t:S) {nest m:Int} (nx lp:Int) (n:Nat),q4i nest n t=some m→(∀ x∈fuS d i e t,x∈L)→BehP L t.id nx → ∀ it∈itS proc i nx lp n t,BehP L it.s.id it.next
 | .mk id kind labels name pr x has args thn els,nest,m,nx,lp,n,h,hL,hb,it,hi=>by
   obtain ⟨_,hid,m1,h3,h4⟩:=ZK h
   have hid:id=(n:Int)+1:=hid
   have hm1:=ZP _ _ thn h3
   have h3':ZG (nest+1) ((n+1:Nat):Int) thn=some m1:=by rw [← h3];rfl
   have h4':ZG (nest+1) ((n+1+QY thn:Nat):Int) els=some m:=by
    rw [← h4,hm1]
    congr 1
   rw [fuS] at hL
   have hx:=hL _ List.mem_cons_self
   have hit:=z9d hN hx
   have k1:=hK _ hx false
   have k2:=hK _ hx true
   have haft:v1d L id (if kind=6 then (n:Int)+1 else nx):=by
    have hit':itemR L id=⟨.mk id kind labels name pr x has args thn els,d,i,e⟩:=hit
    by_cases hk:kind=6
    ·rw [if_pos hk]
     exact .inr (.inl ⟨by omega,by rw [hit'];exact hk,hid.symm⟩)
    ·rw [if_neg hk]
     exact .inr (.inr ⟨by omega,by rw [hit'];exact hk,hb⟩)
   rw [itS] at hi
   rcases List.mem_cons.1 hi with rfl|hi
   ·exact hb
   rw [← hid] at hi
   rcases List.mem_append.1 hi with hi|hi
   ·exact w8a hN hK proc (d+1) id false thn _ _ (n+1) [] h3' (fun y hy=>hL y (List.mem_cons_of_mem _ (List.mem_append.2 (.inl hy)))) k1 (by rw [hid] at haft ⊢;exact haft) it hi
   ·exact w8a hN hK proc (d+1) id true els _ _ (n+1+QY thn) [] h4' (fun y hy=>hL y (List.mem_cons_of_mem _ (List.mem_append.2 (.inr hy)))) k2 (by rw [hid] at haft ⊢;exact haft) it hi
theorem w8a {L:List RI} (hN:(L.map fun x=>x.s.id).Nodup) (hK : ∀ x∈L,∀ b,(L.filter (inI x.s.id b)).map (fun y=>y.s.id)=(bif b then x.s.els else x.s.thn).map S.id) (proc d i:Int) (e:Bool) : ∀ (l:List S) {nest m:Int} (nx lp:Int) (n:Nat) (pre:List S),ZG nest n l=some m→(∀ x∈fuL d i e l,x∈L)→(L.filter (inI i e)).map (fun y=>y.s.id)=(pre++l).map S.id→v1d L i nx → ∀ it∈itL proc i nx lp n l,BehP L it.s.id it.next
 | [],_,_,_,_,_,_,_,_,_,_,it,hi=>by rw [itL] at hi;cases hi
 | t::r,nest,m,nx,lp,n,pre,h,hL,hR,ha,it,hi=>by
   obtain ⟨_,m1,h1,h2⟩:=XN h
   have hm1:=YJ _ _ t h1
   have h2':ZG nest ((n+ZJ t:Nat):Int) r=some m:=by rw [← h2,hm1];rfl
   rw [fuL] at hL
   have hx:(⟨t,d,i,e⟩:RI)∈L:=hL _ (List.mem_append.2 (.inl (by rw [x1v];exact List.mem_cons_self)))
   have hit:itemR L t.id=⟨t,d,i,e⟩:=z9d hN hx
   have hnd:((pre++t::r).map S.id).Nodup:=by
    rw [← hR]
    exact (List.filter_sublist.map _).nodup hN
   have hnx:nextIn (stdR L (itemR L t.id)) t.id=r.head?.map S.id:=by
    unfold stdR
    rw [hit,hR]
    rw [List.map_append,List.map_cons] at hnd ⊢
    rw [x4c _ hnd,List.head?_map]
   have hb:BehP L t.id (if r.isEmpty then nx else n+1+ZJ t):=by
    cases r with
    | nil =>
      show BehP L t.id nx
      rw [List.head?_nil,Option.map_none] at hnx
      have hin:(itemR L t.id).inn=i:=by rw [hit]
      rcases ha with ⟨h5,h6⟩|⟨h5,h6,h7⟩|⟨h5,h6,h7⟩
      ·rw [h6]
       exact .exit hnx (by rw [hin];exact h5)
      ·rw [h7]
       have:=BehP.loop hnx (by rw [hin];exact h5) (by rw [hin];exact h6)
       rwa [hin] at this
      ·exact .up hnx (by rw [hin];exact h5) (by rw [hin];exact h6) (by rw [hin];exact h7)
    | cons u r =>
      rw [if_neg (by simp)]
      refine .next ?_
      rw [hnx]
      obtain ⟨_,m3,h8,_⟩:=XN h2'
      have hu:=(ZK h8).2.1
      show some u.id=_
      rw [hu]
      congr 1
      omega
   rw [itL] at hi
   rcases List.mem_append.1 hi with hi|hi
   ·exact v1e hN hK proc d i e t _ lp n h1 (fun y hy=>hL y (List.mem_append.2 (.inl hy))) hb it hi
   ·exact w8a hN hK proc d i e r nx lp (n+ZJ t) (pre++[t]) h2' (fun y hy=>hL y (List.mem_append.2 (.inr hy))) (by rw [hR,List.append_assoc];rfl) ha it hi
end

def KM:List RI→Int→Int×Bool
 | [],_=>(0,false)
 | x::r,i=>if i=0 then (0,false) else if x.s.id=i then (if x.s.kind=6 then (i,true) else KM r x.inn) else KM r i
def x7s:List RI→Int→Int×Bool
 | [],_=>(0,false)
 | x::r,id=>if x.s.id=id then (if (KM r x.inn).2 then KM r x.inn else x7s r id) else x7s r id
theorem z4c {l:List RI} {n:Nat} (hn:n<l.length) (i:Int):KM (l.take (n+1)).reverse i=if i=0 then (0,false) else if l[n].s.id=i then (if l[n].s.kind=6 then (i,true) else KM (l.take n).reverse l[n].inn) else KM (l.take n).reverse i:=by
 rw [List.take_succ_eq_append_getElem hn,List.reverse_append]
 show KM (l[n]::(l.take n).reverse) i=_
 rw [KM]
theorem x5b {l:List RI} {n:Nat} (hn:n<l.length) (i:Int):x7s (l.take (n+1)).reverse i=if l[n].s.id=i then (if (KM (l.take n).reverse l[n].inn).2 then KM (l.take n).reverse l[n].inn else x7s (l.take n).reverse i) else x7s (l.take n).reverse i:=by
 rw [List.take_succ_eq_append_getElem hn,List.reverse_append]
 show x7s (l[n]::(l.take n).reverse) i=_
 rw [x7s]
theorem z4y : ∀ (l:List RI),KM l 0=(0,false)
 | []=>rfl
 | x::r=>by rw [KM,if_pos rfl]
theorem x0m : ∀ (l r:List RI) {i:Int},i≠0→(∀ x∈l,x.s.id≠i)→KM (l++r) i=KM r i
 | [],_,_,_,_=>rfl
 | x::l,r,i,h0,h=>by rw [List.cons_append,KM,if_neg h0,if_neg (h x List.mem_cons_self),x0m l r h0 fun y hy=>h y (List.mem_cons_of_mem _ hy)]
mutual
theorem v2i (proc d i:Int) (e:Bool) : ∀ (t:S) {nest m:Int} (nx lp:Int) (n:Nat),q4i nest n t=some m→(itS proc i nx lp n t).map (fun it=>(it.s,it.up))=(fuS d i e t).map fun x=>(x.s,x.inn)
 | .mk id kind labels name pr x has args thn els,nest,m,nx,lp,n,h=>by
   obtain ⟨_,hid,m1,h3,h4⟩:=ZK h
   have hid:id=(n:Int)+1:=hid
   have hm1:=ZP _ _ thn h3
   have h3':ZG (nest+1) ((n+1:Nat):Int) thn=some m1:=by rw [← h3];rfl
   have h4':ZG (nest+1) ((n+1+QY thn:Nat):Int) els=some m:=by
    rw [← h4,hm1]
    congr 1
   rw [itS,fuS,List.map_cons,List.map_cons,List.map_append,List.map_append,← hid,w7z proc (d+1) id false thn _ _ _ h3',w7z proc (d+1) id true els _ _ _ h4']
theorem w7z (proc d i:Int) (e:Bool) : ∀ (l:List S) {nest m:Int} (nx lp:Int) (n:Nat),ZG nest n l=some m→(itL proc i nx lp n l).map (fun it=>(it.s,it.up))=(fuL d i e l).map fun x=>(x.s,x.inn)
 | [],_,_,_,_,_,_=>by rw [itL,fuL];rfl
 | t::r,nest,m,nx,lp,n,h=>by
   obtain ⟨_,m1,h1,h2⟩:=XN h
   have hm1:=YJ _ _ t h1
   have h2':ZG nest ((n+ZJ t:Nat):Int) r=some m:=by rw [← h2,hm1];rfl
   rw [itL,fuL,List.map_append,List.map_append,v2i proc d i e t _ _ _ h1,w7z proc d i e r _ _ _ h2']
end

mutual
theorem lpS (proc:Int) : ∀ (t:S) {nest m:Int} (up nx lp:Int) (n:Nat),q4i nest n t=some m → ∀ it∈itS proc up nx lp n t,(it.up=up∧it.loop=lp) ∨ ∃ iu∈itS proc up nx lp n t,iu.s.id=it.up∧iu.s.id<it.s.id∧it.loop=if iu.s.kind=6 then iu.s.id else iu.loop
 | .mk id kind labels name pr x has args thn els,nest,m,up,nx,lp,n,h,it,hi=>by
   obtain ⟨_,hid,m1,h3,h4⟩:=ZK h
   have hid:id=(n:Int)+1:=hid
   have hm1:=ZP _ _ thn h3
   have h3':ZG (nest+1) ((n+1:Nat):Int) thn=some m1:=by rw [← h3];rfl
   have h4':ZG (nest+1) ((n+1+QY thn:Nat):Int) els=some m:=by
    rw [← h4,hm1]
    congr 1
   rw [itS] at hi ⊢
   rcases List.mem_cons.1 hi with rfl|hi
   ·exact .inl ⟨rfl,rfl⟩
   rcases List.mem_append.1 hi with hi|hi
   ·have hr:=z6u h3' hi
    rcases lpL proc thn _ _ _ (n+1) h3' it hi with ⟨h5,h6⟩|⟨iu,h5,h6⟩
    ·refine .inr ⟨_,List.mem_cons_self,?_,?_,?_⟩
     ·rw [h5];exact hid
     ·show id<_
      omega
     ·rw [h6]
      show (if kind=6 then (n:Int)+1 else lp)=if kind=6 then id else lp
      rw [hid]
    ·exact .inr ⟨iu,List.mem_cons_of_mem _ (List.mem_append.2 (.inl h5)),h6⟩
   ·have hr:=z6u h4' hi
    rcases lpL proc els _ _ _ (n+1+QY thn) h4' it hi with ⟨h5,h6⟩|⟨iu,h5,h6⟩
    ·refine .inr ⟨_,List.mem_cons_self,?_,?_,?_⟩
     ·rw [h5];exact hid
     ·show id<_
      omega
     ·rw [h6]
      show (if kind=6 then (n:Int)+1 else lp)=if kind=6 then id else lp
      rw [hid]
    ·exact .inr ⟨iu,List.mem_cons_of_mem _ (List.mem_append.2 (.inr h5)),h6⟩
theorem lpL (proc:Int) : ∀ (l:List S) {nest m:Int} (up nx lp:Int) (n:Nat),ZG nest n l=some m → ∀ it∈itL proc up nx lp n l,(it.up=up∧it.loop=lp) ∨ ∃ iu∈itL proc up nx lp n l,iu.s.id=it.up∧iu.s.id<it.s.id∧it.loop=if iu.s.kind=6 then iu.s.id else iu.loop
 | [],nest,m,up,nx,lp,n,h,it,hi=>by rw [itL] at hi;cases hi
 | t::r,nest,m,up,nx,lp,n,h,it,hi=>by
   obtain ⟨_,m1,h1,h2⟩:=XN h
   have hm1:=YJ _ _ t h1
   have h2':ZG nest ((n+ZJ t:Nat):Int) r=some m:=by rw [← h2,hm1];rfl
   rw [itL] at hi ⊢
   rcases List.mem_append.1 hi with hi|hi
   ·rcases lpS proc t up _ lp n h1 it hi with h5|⟨iu,h5,h6⟩
    ·exact .inl h5
    ·exact .inr ⟨iu,List.mem_append.2 (.inl h5),h6⟩
   ·rcases lpL proc r up nx lp (n+ZJ t) h2' it hi with h5|⟨iu,h5,h6⟩
    ·exact .inl h5
    ·exact .inr ⟨iu,List.mem_append.2 (.inr h5),h6⟩
end
section
variable {p:Pg} {j:Nat} {f:Pr}
theorem q1m (h:WI p=true) (hj:p.procs[j]? = some f):(flatU f).map (fun x=>x.s.id)=YF (QN p.procs j) (QY f.body):=by
 obtain ⟨m,hr⟩:=DX h hj
 rw [← YD 1 f.body hr]
 have:=DW 1 0 false f.body
 rw [← this,List.map_map]
 rfl
theorem z3m (h:WI p=true) (hj:p.procs[j]? = some f):((flatU f).map fun x=>x.s.id).Nodup:=by
 rw [q1m h hj]
 exact q3u _ _
theorem q5y {t:S} (ht:t∈flL f.body) : ∃ x∈flatU f,x.s=t:=by
 rw [← show (flatU f).map RI.s=flL f.body from DW 1 0 false f.body] at ht
 exact List.mem_map.1 ht
theorem x5r (h:WI p=true) (hj:p.procs[j]? = some f) : ∀ x∈flatU f,∀ b,((flatU f).filter (inI x.s.id b)).map (fun y=>y.s.id)=(bif b then x.s.els else x.s.thn).map S.id:=fun x hx b=>by
 obtain ⟨m,hr⟩:=DX h hj
 refine w1e 1 0 false f.body hr (by omega) x.s ?_ b
 rw [← DW 1 0 false f.body]
 exact List.mem_map.2 ⟨x,hx,rfl⟩
theorem x0j (h:WI p=true) (hj:p.procs[j]? = some f):((flatU f).filter (inI 0 false)).map (fun y=>y.s.id)=f.body.map S.id:=by
 obtain ⟨m,hr⟩:=DX h hj
 exact w3v 1 0 false f.body hr (by omega)
theorem x3i (h:WI p=true) (hj:p.procs[j]? = some f) {it:Item} (hi:it∈itsOf p j f):BehP (flatU f) it.s.id it.next:=by
 obtain ⟨m,hr⟩:=DX h hj
 exact w8a (z3m h hj) (x5r h hj) (j:Nat) 1 0 false f.body (-1) 0 (QN p.procs j) [] hr (fun x hx=>hx) (by rw [x0j h hj];rfl) (.inl ⟨rfl,rfl⟩) it hi
theorem x5t {l:List RI} {q:RI→Bool}:((l.find? q).map fun y=>y.s.id)=((l.filter q).map fun y=>y.s.id).head? := by
 rw [List.head?_map,List.head?_filter]
theorem q9e (l:List S) (o:Int):((l.map S.id).head?).getD o=q8o l o:=by
 cases l<;>rfl
theorem q2a (h:WI p=true) (hj:p.procs[j]? = some f) {t:S} (ht:t∈flL f.body) (b:Bool) (o:Int):w6t (flatU f) t.id b o=q8o (bif b then t.els else t.thn) o:=by
 obtain ⟨x,hx,rfl⟩:=q5y ht
 unfold w6t
 rw [x5t,x5r h hj x hx b,q9e]
theorem z0q (h:WI p=true) (hj:p.procs[j]? = some f) (o:Int):w6t (flatU f) 0 false o=q8o f.body o:=by
 unfold w6t
 rw [x5t,x0j h hj,q9e]
theorem q6l (h:WI p=true) (hj:p.procs[j]? = some f) {it:Item} (hi:it∈itsOf p j f):x7s (flatU f).reverse it.s.id=(it.loop,decide (it.loop≠0)):=by
 obtain ⟨m,hr⟩:=DX h hj
 have hpar:=w7z (j:Nat) 1 0 false f.body (-1) 0 (QN p.procs j) hr
 have hids:=q1m h hj
 have hlp:=fun it hi=>lpL (j:Nat) f.body 0 (-1) 0 (QN p.procs j) hr it hi
 have hib:=fun it (hi:it∈itsOf p j f)=>VX h hj (PK hi)
 have hinj:=fun a (ha:a∈itsOf p j f) b (hb:b∈itsOf p j f) he=>z8g h hj ha hb he
 have e1:itL (j:Nat) 0 (-1) 0 (QN p.procs j) f.body=itsOf p j f:=rfl
 have e2:fuL 1 0 false f.body=flatU f:=rfl
 rw [e1] at hpar hlp
 rw [e2] at hpar
 have hlen:(itsOf p j f).length=(flatU f).length:=by simpa using congrArg List.length hpar
 have at_ : ∀ (k:Nat) (hk:k<(flatU f).length),((itsOf p j f)[k]'(by omega)).s=(flatU f)[k].s∧((itsOf p j f)[k]'(by omega)).up=(flatU f)[k].inn:=fun k hk=>by
  have h1:=congrArg (fun l=>l[k]?) hpar
  simp only [List.getElem?_map,List.getElem?_eq_getElem hk,List.getElem?_eq_getElem (show k<(itsOf p j f).length by omega),Option.map_some] at h1
  have h2:=Option.some.inj h1
  exact ⟨congrArg Prod.fst h2,congrArg Prod.snd h2⟩
 have idk : ∀ (k:Nat) (hk:k<(flatU f).length),(flatU f)[k].s.id=(QN p.procs j:Int)+1+k:=fun k hk=>by
  have h1:=congrArg (fun l=>l[k]?) hids
  have hk2:k<QY f.body:=by have:=WQ 1 0 false f.body;rw [e2] at this;omega
  unfold YF at h1
  simp only [List.getElem?_map,List.getElem?_eq_getElem hk,Option.map_some,List.getElem?_range' hk2] at h1
  have:=Option.some.inj h1
  omega
 have key : ∀ (k:Nat) (hk:k<(flatU f).length),KM ((flatU f).take k).reverse (flatU f)[k].inn=(((itsOf p j f)[k]'(by omega)).loop,decide (((itsOf p j f)[k]'(by omega)).loop≠0)):=fun k=>by
  induction k using Nat.strongRecOn with
  | _ k ih =>
    intro hk
    obtain ⟨a1,a2⟩:=at_ k hk
    have hki:=idk k hk
    rcases hlp _ (List.getElem_mem (show k<(itsOf p j f).length by omega)) with ⟨h5,h6⟩|⟨iu,h5,h6,h7,h8⟩
    ·rw [← a2,h5,h6,z4y]
     rfl
    ·obtain ⟨q,hq,rfl⟩:=List.mem_iff_getElem.1 h5
     obtain ⟨b1,b2⟩:=at_ q (by omega)
     have hqi:=idk q (by omega)
     rw [a1] at h7
     rw [b1] at h6 h7
     have hqk:q<k:=by omega
     have htk:(flatU f).take k=(flatU f).take q++(flatU f)[q]::((flatU f).take k).drop (q+1):=by
      have h9:((flatU f).take k).take q++((flatU f).take k).drop q=(flatU f).take k:=List.take_append_drop q _
      rw [List.take_take,Nat.min_eq_left (by omega),List.drop_eq_getElem_cons (by rw [List.length_take];omega),List.getElem_take] at h9
      exact h9.symm
     have hi0:(flatU f)[k].inn≠0:=by rw [← a2,← h6];omega
     have hrev:((flatU f).take k).reverse=(((flatU f).take k).drop (q+1)).reverse++(flatU f)[q]::((flatU f).take q).reverse:=by
      rw [htk]
      have:((flatU f).take q++(flatU f)[q]::((flatU f).take k).drop (q+1)).drop (q+1)=((flatU f).take k).drop (q+1):=by rw [← htk]
      rw [this,List.reverse_append,List.reverse_cons,List.append_assoc]
      rfl
     rw [hrev,x0m _ _ hi0 (fun x hx=>by
      obtain ⟨z,hz,rfl⟩:=List.mem_iff_getElem.1 (List.mem_reverse.1 hx)
      rw [List.length_drop,List.length_take] at hz
      rw [List.getElem_drop,List.getElem_take,idk _ (by omega),← a2,← h6]
      omega)]
     rw [KM,if_neg hi0,if_pos (by rw [← a2,← h6])]
     rw [h8,b1]
     split
     ·rename_i hk6
      rw [← a2,← h6,decide_eq_true (by omega)]
     ·exact ih q hqk (by omega)
 obtain ⟨k,hk,rfl⟩:=List.mem_iff_getElem.1 hi
 have hkU:k<(flatU f).length:=by omega
 obtain ⟨a1,a2⟩:=at_ k hkU
 have scan : ∀ (n:Nat),n≤(flatU f).length→x7s ((flatU f).take n).reverse (flatU f)[k].s.id=if k<n then (((itsOf p j f)[k]'(by omega)).loop,decide (((itsOf p j f)[k]'(by omega)).loop≠0)) else (0,false):=fun n=>by
  induction n with
  | zero=>intro _;rfl
  | succ n ih =>
    intro hn
    rw [x5b (show n<(flatU f).length by omega),ih (by omega)]
    have hki:=idk k hkU
    have hni:=idk n (by omega)
    by_cases he:n=k
    ·subst he
     rw [if_pos rfl,key n hkU,if_neg (Nat.lt_irrefl n),if_pos (Nat.lt_succ_self n)]
     by_cases h0:((itsOf p j f)[n]'(by omega)).loop=0
     ·rw [h0]
      rfl
     ·rw [decide_eq_true h0,if_pos rfl]
    ·rw [if_neg (show ¬(flatU f)[n].s.id=(flatU f)[k].s.id by omega)]
     by_cases hlt:k<n
     ·rw [if_pos hlt,if_pos (show k<n+1 by omega)]
     ·rw [if_neg hlt,if_neg (show ¬k<n+1 by omega)]
 have:=scan (flatU f).length (Nat.le_refl _)
 rw [List.take_length,if_pos hkU] at this
 rw [a1]
 exact this
end
open Go.Proofs
theorem q1w {α:Type} {R:α→α→Prop} (irr : ∀ a,¬R a a) (tr : ∀ a b c,R a b→R b c→R a c) : ∀ {l m:List α},l.Pairwise R→m.Pairwise R→(∀ s,s∈l↔s∈m)→l=m
 | [],[],_,_,_=>rfl
 | [],b::m,_,_,h=>by have:=(h b).2 List.mem_cons_self;cases this
 | a::l,[],_,_,h=>by have:=(h a).1 List.mem_cons_self;cases this
 | a::l,b::m,hl,hm,h=>by
   rw [List.pairwise_cons] at hl hm
   have hab:a=b:=by
    rcases List.mem_cons.1 ((h a).1 List.mem_cons_self) with h1|h1
    ·exact h1
    rcases List.mem_cons.1 ((h b).2 List.mem_cons_self) with h2|h2
    ·exact h2.symm
    exact absurd (tr _ _ _ (hl.1 b h2) (hm.1 a h1)) (irr a)
   subst hab
   rw [q1w irr tr hl.2 hm.2 fun s => ?_]
   constructor
   ·intro hs
    rcases List.mem_cons.1 ((h s).1 (List.mem_cons_of_mem _ hs)) with rfl|h1
    ·exact absurd (hl.1 s hs) (irr s)
    ·exact h1
   ·intro hs
    rcases List.mem_cons.1 ((h s).2 (List.mem_cons_of_mem _ hs)) with rfl|h1
    ·exact absurd (hm.1 s hs) (irr s)
    ·exact h1
theorem z1c : ∀ (x y:List UInt8),Op.bytesLess x y=decide (x<y)
 | [],[]=>by simp [Op.bytesLess]
 | _::_,[]=>by simp [Op.bytesLess]
 | [],_::_=>by simp [Op.bytesLess]
 | a::x,b::y=>by
   rw [Op.bytesLess,z1c x y]
   simp only [List.cons_lt_cons_iff]
   by_cases h1:a<b<;>by_cases h2:a=b<;>by_cases h3:x<y<;>simp [h1,h2,h3]
def ltT (a b:Str):Prop:=Op.bytesLess a b=true
theorem FE {a b:Str}:ltT a b↔a<b:=by
 unfold ltT
 rw [z1c,decide_eq_true_eq]
theorem ltT.irr (a:Str) : ¬ltT a a:=fun h=>List.lt_irrefl a (FE.1 h)
theorem ltT.trans (a b c:Str) (h1:ltT a b) (h2:ltT b c):ltT a c:=FE.2 (List.lt_trans (FE.1 h1) (FE.1 h2))
theorem ltT.total {a b:Str} (h:a≠b):ltT a b∨ltT b a:=by
 by_cases h1:a<b
 ·exact .inl (FE.2 h1)
 ·rcases List.le_iff_lt_or_eq.1 (List.not_lt.1 h1) with h2|h2
  ·exact .inr (FE.2 h2)
  ·exact absurd h2.symm h
theorem z2e (l:List Str):(UC l).Pairwise fun a b=>a≤b:=by
 have:=List.pairwise_mergeSort (le:=fun x y:Str=>decide (x≤y)) (fun a b c h1 h2=>by
  rw [decide_eq_true_eq] at h1 h2 ⊢
  exact List.le_trans h1 h2) (fun a b=>by
  rcases List.le_total a b with h|h
  ·rw [decide_eq_true h];rfl
  ·rw [decide_eq_true h];exact Bool.or_true _) l
 exact this.imp fun h=>by simpa using h
theorem x7m {l:List Str} (h:l.Pairwise fun a b=>a≤b):(Go.Lib.compact l).Pairwise ltT:=by
 unfold Go.Lib.compact Go.Lib.compactUpTo
 rw [List.pairwise_map]
 refine (List.Pairwise.filter _ (List.pairwise_lt_range (n:=l.length))).imp_of_mem fun {i k} hi hk hlt => ?_
 obtain ⟨hi1,_⟩:=List.mem_filter.1 hi
 obtain ⟨hk1,hk2⟩:=List.mem_filter.1 hk
 rw [List.mem_range] at hi1 hk1
 have le : ∀ (a b:Nat) (_:a≤b) (hb:b<l.length),l[a]'(by omega)≤l[b]:=fun a b hab hb=>by
  rcases Nat.lt_or_ge a b with h1|h1
  ·exact List.pairwise_iff_getElem.1 h a b (by omega) hb h1
  ·obtain rfl:a=b:=by omega
   exact List.le_refl _
 have g : ∀ (a:Nat) (ha:a<l.length),l.toArray[a]! = l[a]:=fun a ha=>by simp [ha]
 rw [g i hi1,g k hk1]
 unfold Go.Lib.keeps at hk2
 rw [decide_eq_true_eq,g k hk1,g (k-1) (by omega)] at hk2
 have hne:l[k]≠l[k-1]'(by omega):=by
  rcases hk2 with h0|h0
  ·omega
  ·exact h0
 have h1:=le i (k-1) (by omega) (by omega)
 have h2:=le (k-1) k (by omega) hk1
 rcases List.le_iff_lt_or_eq.1 h2 with h3|h3
 ·exact FE.2 (List.lt_of_le_of_lt h1 h3)
 ·exact absurd h3.symm hne
def q6c (l:List Str):List Str:=Go.Lib.compact (UC l)
theorem z9w {l:List Str} {s:Str}:s∈q6c l↔s∈l:=by unfold q6c;rw [q5i,LG]
theorem z5h (l:List Str):(q6c l).Pairwise ltT:=x7m (z2e l)
theorem z2c {l m:List Str} (h:m.Pairwise ltT) (hm : ∀ s,s∈m↔s∈l):m=q6c l:=q1w ltT.irr ltT.trans h (z5h l) fun s=>by rw [hm,z9w]
theorem x8e {l:List Str} (h:l.Nodup):UC l=q6c l:=by
 refine z2c ?_ fun s=>LG
 have hn:(UC l).Nodup:=by
  unfold UC
  exact (List.mergeSort_perm l _).nodup_iff.2 h
 refine (List.pairwise_and_iff.2 ⟨z2e l,hn⟩).imp fun ⟨h1,h2⟩ => ?_
 rcases List.le_iff_lt_or_eq.1 h1 with h3|h3
 ·exact FE.2 h3
 ·exact absurd h3 h2
open Go.Proofs
structure RiseI {α:Type} (R:α→α→Prop) (l out:List α) (i:Nat):Prop where
 rise:out.Pairwise R
 sub : ∀ s∈out,s∈l
 seg : ∀ s∈l,s∉out → ∀ o∈out,R o s
 cnt:(∀ s∈l,s∈out)∨out.length=i
def LeastI {α:Type} (R:α→α→Prop) (l out:List α) (k:Nat):Option α→Prop
 | none => ∀ s∈l.take k,s∈out
 | some m=>m∈l∧m∉out ∧ ∀ s∈l.take k,s∉out→s=m∨R m s
section
variable {α:Type} {R:α→α→Prop} {l out:List α} {i k:Nat}
theorem RiseI.zero:RiseI R l [] 0:=⟨.nil,fun _ h=>(by cases h),fun _ _ _ _ h=>(by cases h),.inr rfl⟩
theorem LeastI.zero:LeastI R l out 0 none:=fun s h=>by rw [List.take_zero] at h;cases h
theorem QA {s:α} (hk:k<l.length):s∈l.take (k+1)↔s∈l.take k∨s=l[k]:=by
 rw [List.take_succ_eq_append_getElem hk,List.mem_append,List.mem_singleton]
theorem LeastI.old (hk:k<l.length) {o:Option α} (h:LeastI R l out k o) (hx:l[k]∈out):LeastI R l out (k+1) o:=by
 cases o with
 | none =>
   intro s hs
   rcases (QA hk).1 hs with h1|rfl
   ·exact h s h1
   ·exact hx
 | some m =>
   refine ⟨h.1,h.2.1,fun s hs hn => ?_⟩
   rcases (QA hk).1 hs with h1|rfl
   ·exact h.2.2 s h1 hn
   ·exact absurd hx hn
theorem LeastI.first (hk:k<l.length) (h:LeastI R l out k none) (hx:l[k]∉out):LeastI R l out (k+1) (some l[k]):=by
 refine ⟨List.getElem_mem hk,hx,fun s hs hn => ?_⟩
 rcases (QA hk).1 hs with h1|rfl
 ·exact absurd (h s h1) hn
 ·exact .inl rfl
theorem LeastI.less (tr : ∀ a b c,R a b→R b c→R a c) (hk:k<l.length) {m:α} (h:LeastI R l out k (some m)) (hx:l[k]∉out) (hR:R l[k] m):LeastI R l out (k+1) (some l[k]):=by
 refine ⟨List.getElem_mem hk,hx,fun s hs hn => ?_⟩
 rcases (QA hk).1 hs with h1|rfl
 ·rcases h.2.2 s h1 hn with rfl|h2
  ·exact .inr hR
  ·exact .inr (tr _ _ _ hR h2)
 ·exact .inl rfl
theorem LeastI.more (tot : ∀ a b,a≠b→R a b∨R b a) (hk:k<l.length) {m:α} (h:LeastI R l out k (some m)) (hR : ¬R l[k] m):LeastI R l out (k+1) (some m):=by
 refine ⟨h.1,h.2.1,fun s hs hn => ?_⟩
 rcases (QA hk).1 hs with h1|rfl
 ·exact h.2.2 s h1 hn
 ·by_cases he:l[k]=m
  ·exact .inl he
  ·exact .inr ((tot _ _ he).resolve_left hR)
theorem RiseI.stay (h:RiseI R l out i) (hl:LeastI R l out l.length none):RiseI R l out (i+1):=by
 rw [LeastI,List.take_length] at hl
 exact ⟨h.rise,h.sub,h.seg,.inl hl⟩
theorem RiseI.snoc (h:RiseI R l out i) {m:α} (hl:LeastI R l out l.length (some m)):RiseI R l (out++[m]) (i+1):=by
 obtain ⟨h1,h2,h3⟩:=hl
 rw [List.take_length] at h3
 refine ⟨?_,fun s hs => ?_,fun s hs hn o ho => ?_,?_⟩
 ·rw [List.pairwise_append]
  exact ⟨h.rise,List.pairwise_singleton _ _,fun a ha b hb=>by rw [List.mem_singleton.1 hb];exact h.seg m h1 h2 a ha⟩
 ·rcases List.mem_append.1 hs with h4|h4
  ·exact h.sub s h4
  ·rw [List.mem_singleton.1 h4];exact h1
 ·rw [List.mem_append,not_or,List.mem_singleton] at hn
  rcases List.mem_append.1 ho with h4|h4
  ·exact h.seg s hs hn.1 o h4
  ·rw [List.mem_singleton.1 h4]
   exact (h3 s hs hn.1).resolve_left hn.2
 ·rcases h.cnt with h4|h4
  ·exact absurd (h4 m h1) h2
  ·exact .inr (by rw [List.length_append,h4];rfl)
theorem RiseI.nodup (irr : ∀ a,¬R a a) (h:RiseI R l out i):out.Nodup:=by
 unfold List.Nodup
 refine h.rise.imp fun {a b} hR e => ?_
 subst e
 exact irr _ hR
theorem RiseI.all [DecidableEq α] (irr : ∀ a,¬R a a) (h:RiseI R l out i) (hi:i=l.length):out.Pairwise R ∧ ∀ s,s∈out↔s∈l:=by
 refine ⟨h.rise,fun s=>⟨h.sub s,fun hs => ?_⟩⟩
 rcases h.cnt with h4|h4
 ·exact h4 s hs
 ·refine Classical.byContradiction fun hn => ?_
  have hnd:(s::out).Nodup:=List.nodup_cons.2 ⟨hn,h.nodup irr⟩
  have:=WS hnd (m:=l) fun x hx=>by
   rcases List.mem_cons.1 hx with rfl|hx
   ·exact hs
   ·exact h.sub x hx
  rw [List.length_cons] at this
  omega
theorem RiseI.len [DecidableEq α] (irr : ∀ a,¬R a a) (h:RiseI R l out i):out.length≤l.length:=WS (h.nodup irr) h.sub
end
def ordP (a b:Int):Prop:=w1i a b=true
theorem HH {a b:Int}:ordP a b↔(b = -1∧a ≠ -1)∨(a ≠ -1∧b ≠ -1∧a<b):=by
 unfold ordP w1i
 by_cases ha:a = -1<;>by_cases hb:b = -1<;>simp [ha,hb]
theorem ordP.irr (a:Int) : ¬ordP a a:=fun h=>by rw [HH] at h;omega
theorem ordP.trans (a b c:Int) (h1:ordP a b) (h2:ordP b c):ordP a c:=by rw [HH] at *;omega
theorem ordP.total (a b:Int) (h:a≠b):ordP a b∨ordP b a:=by rw [HH,HH];omega
theorem z8z {l m:List Int} (h1:l.Pairwise ordP) (h2:m.Pairwise ordP) (h : ∀ s,s∈l↔s∈m):l=m:=q1w ordP.irr ordP.trans h1 h2 h
end Go.Ab
