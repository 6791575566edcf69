/- aug: what a procedure's traps are. -/
import Derived.Test.YtiaikoimoonlmaaGreatDomR16
import Derived.Test.YtiaikoimoonlmaaGreatDomR18
set_option linter.unusedSimpArgs false
set_option linter.unusedVariables false
set_option maxRecDepth 100000
set_option maxHeartbeats 16000000
open List (getD_eq_getElem?_getD getElem?_drop length_append length_drop length_map length_take map_cons mem_cons mem_cons_of_mem mem_cons_self)
open Nat (zero_le)
namespace Go.Ab
open Go.Proofs
theorem q9a {p:Pg} (h:chkB p=true) {j:Nat} {f:Pr} (hj:p.procs[j]? = some f) {k:Nat} {it:Item} (h1:QD p.procs j<=k) (h2:k<QD p.procs j+cntL f.body) (hk:(sheetOf p).l[k]? = some it):it.s.id=(k:Int)+1:=by
 obtain ⟨t,_,h4,h5⟩:=q2k h hj (a:=(k:Int)+1) (by omega) (by omega);unfold w3o at h4;rw [show ((k:Int)+1-1).toNat=k by omega,hk] at h4;cases h4;exact h5
theorem z0h {p:Pg} {j:Nat} {f:Pr} {it:Item} (hi:it∈itsOf p j f) {y:Int} (hy:y∈goesI (sheetOf p) f it):(⟨it.s.id,y,1⟩:Step)∈QJ p j f:=by
 unfold QJ;exact mem_cons_of_mem _ (List.mem_flatMap.2 ⟨it,hi,List.mem_map.2 ⟨y,hy,rfl⟩⟩)
theorem w0v {p:Pg} (h:chkB p=true) {j:Nat} {f:Pr} (hj:p.procs[j]? = some f) {T:Int->Prop} (hcl : ∀ a b,T a->stR (newWay p j f).real a b->T b) (hgo : ∀ t∈flL f.body,T t.id->t.kind≠10) {t:S} (ht:t∈flL f.body) (hT:T t.id):T (-1):=by
 obtain ⟨hm,hs,_,hjm,_⟩:=QH h;have hld:=DP hs hjm hj;obtain ⟨_,_,_,hlen,hsp⟩:=QU p;obtain ⟨_,_,hle,hd⟩:=hsp j f hj;have hits : ∀ (k:Nat) (it:Item),QD p.procs j<=k->k<QD p.procs j+cntL f.body->(sheetOf p).l[k]? = some it->it∈itsOf p j f:=fun k it h1 h2 hk=>by
  obtain ⟨it',h3,h4⟩:=HY hj h1 h2;rw [hk] at h3;cases h3;exact h4
 have hn:NoGo (sheetOf p) f (QD p.procs j) (QD p.procs j+cntL f.body) T:=by
  refine ⟨fun k it h1 h2 hk hT => ?_,fun k it h1 h2 hk=>q9a h hj h1 h2 hk,fun k it h1 h2 hk hkd => ?_,fun k it h1 h2 hk => ?_⟩
  ·have hi:=hits k it h1 h2 hk;exact ⟨hgo _ (YI hi) hT,fun y hy=>hcl _ _ hT ⟨⟨it.s.id,y,1⟩,((WG h hj).2 _).2 (z0h hi hy),rfl,rfl⟩⟩
  ·have hl:=hld it (hits k it h1 h2 hk);unfold WR at hl;rw [if_pos hkd] at hl;intro h0;rw [h0] at hl;cases hl
  ·rcases (BW (hits k it h1 h2 hk)).2 with h0|⟨h3,h4⟩
   ·exact .inl h0
   ·have:(it.loop-1).toNat<(sheetOf p).l.length:=by omega
    exact .inr ⟨_,List.getElem?_eq_getElem this⟩
 obtain ⟨it,hit,hits2⟩:=w9j (p:=p) (j:=j) ht;have hat:atP (sheetOf p) (QD p.procs j) (itL j 0 (-1) 0 (QD p.procs j) f.body):=fun i it hi=>by
  rw [<- hd,getElem?_drop,List.getElem?_take] at hi;split at hi
  ·exact hi
  ·cases hi
 have:=v2j hn j f.body 0 (-1) 0 (QD p.procs j) hat (Nat.le_refl _) (Nat.le_refl _) ⟨it,hit,by rw [hits2];exact hT⟩;rcases this with h1|h1|⟨h1,_⟩
 ·exact h1
 ·exact h1
 ·exact absurd rfl h1
theorem x2j {n:Nat} {part:List Int} (hp : ∀ k,k<n->0<=part.getD k 0∧part.getD k 0<n) {i:Nat} (hi:i<n) : ∀ (l:List (Int×Int)) {o:List Bool},o.length=n->(∀ t∈l,0<=t.1∧t.1<n) ->
  ((l.foldl (LO part) o).getD i false=true↔o.getD i false=true ∨ ∃ t∈l,part.getD t.1.toNat 0≠part.getD t.2.toNat 0∧part.getD t.1.toNat 0=i)
 | [],o,_,_=>by simp
 | t::r,o,ho,hr=>by
   rw [List.foldl_cons,x2j hp hi r (by rw [x4p];exact ho) fun u hu=>hr u (mem_cons_of_mem _ hu)];have h1:=hr t mem_cons_self;have h2:=hp t.1.toNat (by omega);have key:(LO part o t).getD i false=true↔o.getD i false=true∨(part.getD t.1.toNat 0≠part.getD t.2.toNat 0∧part.getD t.1.toNat 0=i):=by
    unfold LO;split
    ·rename_i he;constructor
     ·exact .inl
     ·rintro (h3|⟨h3,_⟩)
      ·exact h3
      ·exact absurd he h3
    ·rename_i he;rw [ZN (by omega)];split
     ·rename_i h3;constructor
      ·intro _;exact .inr ⟨he,by omega⟩
      ·intro _;rfl
     ·rename_i h3;constructor
      ·exact .inl
      ·rintro (h4|⟨_,h4⟩)
       ·exact h4
       ·exact absurd (by omega) h3
   rw [key,or_assoc];constructor
   ·rintro (h3|⟨h3,h4⟩|⟨u,hu,h3⟩)
    ·exact .inl h3
    ·exact .inr ⟨t,mem_cons_self,h3,h4⟩
    ·exact .inr ⟨u,mem_cons_of_mem _ hu,h3⟩
   ·rintro (h3|⟨u,hu,h3⟩)
    ·exact .inl h3
    ·rcases List.mem_cons.1 hu with rfl|hu
     ·exact .inr (.inl h3)
     ·exact .inr (.inr ⟨u,hu,h3⟩)
theorem w4u {n:Nat} {part:List Int} (hn:0<n) (hp : ∀ k,k<n->0<=part.getD k 0∧part.getD k 0<n) {i:Nat} (hi:i<n) {l:List (Int×Int)} (hr : ∀ t∈l,0<=t.1∧t.1<n) :
  (q6b n part l).getD i false=true↔part.getD 0 0=i∨part.getD (n-1) 0=i ∨ ∃ t∈l,part.getD t.1.toNat 0≠part.getD t.2.toNat 0∧part.getD t.1.toNat 0=i:=by
 have h0:=hp 0 hn;have h1:=hp (n-1) (by omega);unfold q6b;rw [x2j hp hi l (by simp [q6f]) hr];have key:(q6f n part).getD i false=true↔part.getD 0 0=i∨part.getD (n-1) 0=i:=by
  unfold q6f;rw [ZN (by rw [List.length_set,List.length_replicate];omega),ZN (by rw [List.length_replicate];omega)];split
  ·exact ⟨fun _ => .inr (by omega),fun _=>rfl⟩
  ·split
   ·exact ⟨fun _ => .inl (by omega),fun _=>rfl⟩
   ·have:(List.replicate n false).getD i false=false:=by
     rw [getD_eq_getElem?_getD,List.getElem?_replicate];split<;>rfl
    rw [this];constructor
    ·intro h;cases h
    ·rintro (h|h)<;>omega
 rw [key,or_assoc]
section
variable {p:Pg} {j:Nat} {f:Pr}
theorem YS {i:Int} (h:0<=i∧i<(cntL f.body+2:Nat)):plP p j f (QM p j (cntL f.body+2:Nat) i)∧ixI p j f (QM p j (cntL f.body+2:Nat) i)=i:=by
 unfold QM ixI VA plP loI hiI;constructor
 ·(repeat' split)<;>omega
 ·(repeat' split)<;>omega
theorem z1n {x:Int} (h:plP p j f x):QM p j (cntL f.body+2:Nat) (ixI p j f x)=x:=by
 have h1:=YS (p:=p) (j:=j) (f:=f) (ZF h);exact GT h1.1 h h1.2
theorem x1w:prsW (newWay p j f) f=(newWay p j f).real.map (ixP p j f (cntL f.body+2:Nat)):=rfl
theorem w5c (h:chkB p=true) (hj:p.procs[j]? = some f) : ∀ t∈prsW (newWay p j f) f,(0<=t.1∧t.1<(cntL f.body+2:Nat))∧0<=t.2∧t.2<(cntL f.body+2:Nat):=fun t ht=>by
 rw [x1w] at ht;obtain ⟨s,hs,rfl⟩:=List.mem_map.1 ht;obtain ⟨h1,h2⟩:=WP h hj s hs;exact ⟨ZF h1,ZF h2⟩
def wE (p:Pg) (j:Nat) (f:Pr):Int->Int->Prop:=rowE (XQ (cntL f.body+2) (prsW (newWay p j f) f)).1
def wR (p:Pg) (j:Nat) (f:Pr):Int->Int->Prop:=stR (newWay p j f).real
theorem v0s (h:chkB p=true) (hj:p.procs[j]? = some f) {i k:Int}:wE p j f i k ↔ ∃ a b,wR p j f a b∧ixI p j f a=i∧ixI p j f b=k:=by
 unfold wE wR;rw [z2i];constructor
 ·rintro ⟨h1,_,_⟩;rw [x1w] at h1;obtain ⟨s,hs,he⟩:=List.mem_map.1 h1;exact ⟨s.src,s.dst,⟨s,hs,rfl,rfl⟩,congrArg Prod.fst he,congrArg Prod.snd he⟩
 ·rintro ⟨a,b,⟨s,hs,rfl,rfl⟩,rfl,rfl⟩;obtain ⟨h1,h2⟩:=WP h hj s hs;exact ⟨List.mem_map.2 ⟨s,hs,rfl⟩,q9h (ZF h1),q9h (ZF h2)⟩
theorem w7d (h:chkB p=true) (hj:p.procs[j]? = some f) {a b:Int} (hr:wR p j f a b):plP p j f a∧plP p j f b:=by
 obtain ⟨s,hs,rfl,rfl⟩:=hr;exact WP h hj s hs
theorem w6q (h:chkB p=true) (hj:p.procs[j]? = some f) {a b:Int} (ha:plP p j f a) (hr:Rch (wR p j f) a b):plP p j f b :=
 hr.closed (S:=plP p j f) (fun _ _ _ h1=>(w7d h hj h1).2) ha
theorem w5g (h:chkB p=true) (hj:p.procs[j]? = some f) {a b:Int} (ha:plP p j f a) (hb:plP p j f b):Rch (wE p j f) (ixI p j f a) (ixI p j f b)↔Rch (wR p j f) a b:=by
 constructor
 ·intro hr;obtain ⟨c,h1,h2,h3⟩:=hr.closed (S:=fun k => ∃ c,plP p j f c∧ixI p j f c=k∧Rch (wR p j f) a c) (by
   rintro i k ⟨c,h1,h2,h3⟩ h4;obtain ⟨x,y,h5,h6,h7⟩:=(v0s h hj).1 h4;have h8:=w7d h hj h5;have:x=c:=GT h8.1 h1 (by rw [h6,h2]);subst this;exact ⟨y,h8.2,h7,.tail h3 h5⟩) ⟨a,ha,rfl,.refl⟩
  rw [<- GT h1 hb h2];exact h3
 ·intro hr;exact (hr.closed (S:=fun c=>plP p j f c∧Rch (wE p j f) (ixI p j f a) (ixI p j f c)) (fun x y ⟨h1,h2⟩ h3=>⟨(w7d h hj h3).2,.tail h2 ((v0s h hj).2 ⟨x,y,h3,rfl,rfl⟩)⟩) ⟨ha,.refl⟩).2
theorem w5e (h:chkB p=true) (hj:p.procs[j]? = some f) {a b:Int} (ha:plP p j f a) (hb:plP p j f b):sccP (wE p j f) (ixI p j f a) (ixI p j f b)↔sccP (wR p j f) a b:=by
 unfold sccP;rw [w5g h hj ha hb,w5g h hj hb ha]
def JJ (p:Pg) (j:Nat) (f:Pr) (i:Int):Int:=(WA (newWay p j f) f).getD i.toNat 0
theorem q4l:WA (newWay p j f) f=LS (cntL f.body+2) (XQ (cntL f.body+2) (prsW (newWay p j f) f)).1:=rfl
theorem q2v {i:Int} (hi:0<=i∧i<(cntL f.body+2:Nat)):MinP (wE p j f) i (JJ p j f i):=by
 unfold JJ;rw [q4l];exact MA (JS _ _).1 hi
theorem z1f {k:Nat} (hk:k<cntL f.body+2):0<=(WA (newWay p j f) f).getD k 0∧(WA (newWay p j f) f).getD k 0<(cntL f.body+2:Nat):=by
 rw [q4l];exact z2z (JS _ _).1 hk
theorem x9n:(WA (newWay p j f) f).length=cntL f.body+2:=by rw [q4l,HT]
theorem MinP.same {E:Int->Int->Prop} {x y v:Int} (h:MinP E x v) (hs:sccP E x y):MinP E y v:=⟨hs.symm.trans h.scc,fun z hz=>h.le z (hs.trans hz)⟩
theorem w4f {i k:Int} (hi:0<=i∧i<(cntL f.body+2:Nat)) (hk:0<=k∧k<(cntL f.body+2:Nat)):JJ p j f i=JJ p j f k↔sccP (wE p j f) i k:=by
 have h1:=q2v (p:=p) (j:=j) hi;have h2:=q2v (p:=p) (j:=j) hk;constructor
 ·intro he;rw [<- he] at h2;exact h1.scc.trans h2.scc.symm
 ·intro hs;exact (h1.same hs).uniq h2
theorem JX (h:chkB p=true) (hj:p.procs[j]? = some f) {a b:Int} (ha:plP p j f a) (hb:plP p j f b):JJ p j f (ixI p j f a)=JJ p j f (ixI p j f b)↔sccP (wR p j f) a b:=by
 rw [w4f (ZF ha) (ZF hb),w5e h hj ha hb]
structure TrapP (p:Pg) (j:Nat) (f:Pr) (l:List Int) (r:Int):Prop where
 pl:plP p j f r
 mem : ∀ b,b∈l↔plP p j f b∧sccP (wR p j f) r b
 cl : ∀ b c,sccP (wR p j f) r b->wR p j f b c->sccP (wR p j f) r c
 n0 : ¬sccP (wR p j f) r 0
 nx : ¬sccP (wR p j f) r (-1)
theorem z9l {plc:Int->Int} {part:List Int} {i q:Nat} {b:Int}:b∈HG plc part i q ↔ ∃ k:Nat,k<q∧part.getD k 0=i∧plc k=b:=by
 unfold HG;constructor
 ·intro h;obtain ⟨k,hk,rfl⟩:=List.mem_map.1 h;obtain ⟨h1,h2⟩:=List.mem_filter.1 hk;exact ⟨k,List.mem_range.1 h1,beq_iff_eq.1 h2,rfl⟩
 ·rintro ⟨k,h1,h2,rfl⟩;exact List.mem_map.2 ⟨k,List.mem_filter.2 ⟨List.mem_range.2 h1,beq_iff_eq.2 h2⟩,rfl⟩
theorem ix0:ixI p j f 0=0:=by unfold ixI VA;rw [if_pos rfl]
theorem ix1:ixI p j f (-1)=((cntL f.body+2:Nat):Int)-1:=by unfold ixI VA;rw [if_neg (by omega),if_pos rfl]
theorem pl0:plP p j f 0 := .inl rfl
theorem pl1:plP p j f (-1) := .inr (.inl rfl)
theorem q2w (k:Nat):(WA (newWay p j f) f).getD k 0=JJ p j f k:=by
 unfold JJ;rw [Int.toNat_natCast]
theorem z7e (h:chkB p=true) (hj:p.procs[j]? = some f) {i:Nat} (hi:i<cntL f.body+2):(q6b (cntL f.body+2) (WA (newWay p j f) f) (prsW (newWay p j f) f)).getD i false=true ↔
  JJ p j f (ixI p j f 0)=i∨JJ p j f (ixI p j f (-1))=i ∨ ∃ a b,wR p j f a b ∧ ¬sccP (wR p j f) a b∧JJ p j f (ixI p j f a)=i:=by
 rw [w4u (by omega) (fun k hk=>z1f hk) hi fun t ht=>(w5c h hj t ht).1,ix0,ix1];have e1:(WA (newWay p j f) f).getD (cntL f.body+2-1) 0=JJ p j f (((cntL f.body+2:Nat):Int)-1):=by
  unfold JJ;congr 1;omega
 have e0:(WA (newWay p j f) f).getD 0 0=JJ p j f 0:=rfl;rw [e0,e1];refine or_congr Iff.rfl (or_congr Iff.rfl ?_);constructor
 ·rintro ⟨t,ht,h1,h2⟩;rw [x1w] at ht;obtain ⟨s,hs,rfl⟩:=List.mem_map.1 ht;obtain ⟨h3,h4⟩:=WP h hj s hs;exact ⟨s.src,s.dst,⟨s,hs,rfl,rfl⟩,fun hsc=>h1 ((JX h hj h3 h4).2 hsc),h2⟩
 ·rintro ⟨a,b,⟨s,hs,rfl,rfl⟩,h1,h2⟩;obtain ⟨h3,h4⟩:=WP h hj s hs;exact ⟨ixP p j f (cntL f.body+2:Nat) s,by rw [x1w];exact List.mem_map.2 ⟨s,hs,rfl⟩,fun he=>h1 ((JX h hj h3 h4).1 he),h2⟩
theorem q3d {l:List Int}:l∈trapsW (newWay p j f) f ↔ ∃ i:Nat,i<cntL f.body+2∧JJ p j f i=i∧(q6b (cntL f.body+2) (WA (newWay p j f) f) (prsW (newWay p j f) f)).getD i false=false∧l=HG (QM p j (cntL f.body+2:Nat)) (WA (newWay p j f) f) i (cntL f.body+2):=by
 unfold trapsW LP;rw [x9n];constructor
 ·intro hl;obtain ⟨i,hi,rfl⟩:=List.mem_map.1 hl;obtain ⟨h1,h2⟩:=List.mem_filter.1 hi;unfold q5s at h2;rw [Bool.and_eq_true,beq_iff_eq,Bool.not_eq_true',q2w] at h2;exact ⟨i,List.mem_range.1 h1,h2.1,h2.2,rfl⟩
 ·rintro ⟨i,h1,h2,h3,rfl⟩;refine List.mem_map.2 ⟨i,List.mem_filter.2 ⟨List.mem_range.2 h1,?_⟩,rfl⟩;unfold q5s;rw [Bool.and_eq_true,beq_iff_eq,Bool.not_eq_true',q2w];exact ⟨h2,h3⟩
theorem z1l (h:chkB p=true) (hj:p.procs[j]? = some f) {i:Nat} (hi:i<cntL f.body+2) (hp:JJ p j f i=i) (b:Int) :
  b∈HG (QM p j (cntL f.body+2:Nat)) (WA (newWay p j f) f) i (cntL f.body+2)↔plP p j f b∧sccP (wR p j f) (QM p j (cntL f.body+2:Nat) i) b:=by
 obtain ⟨h1,h2⟩:=YS (p:=p) (j:=j) (f:=f) (i:=i) (by omega);rw [z9l];constructor
 ·rintro ⟨k,h3,h4,rfl⟩;obtain ⟨h5,h6⟩:=YS (p:=p) (j:=j) (f:=f) (i:=k) (by omega);refine ⟨h5,(JX h hj h1 h5).1 ?_⟩;rw [h2,h6,hp,<- q2w,h4]
 ·rintro ⟨h3,h4⟩;have h5:=ZF h3;refine ⟨(ixI p j f b).toNat,by omega,?_,?_⟩
  ·rw [q2w,show (((ixI p j f b).toNat:Nat):Int)=ixI p j f b by omega,<- (JX h hj h1 h3).2 h4,h2,hp]
  ·rw [show (((ixI p j f b).toNat:Nat):Int)=ixI p j f b by omega,z1n h3]
theorem w0m (h:chkB p=true) (hj:p.procs[j]? = some f) {l:List Int} (hl:l∈trapsW (newWay p j f) f) : ∃ r,TrapP p j f l r:=by
 obtain ⟨i,hi,hp,ho,rfl⟩:=q3d.1 hl;obtain ⟨h1,h2⟩:=YS (p:=p) (j:=j) (f:=f) (i:=i) (by omega);have ho2 : ¬_:=fun hx=>by
  have:=(z7e h hj hi).2 hx;rw [ho] at this;cases this
 have hpr:JJ p j f (ixI p j f (QM p j (cntL f.body+2:Nat) i))=i:=by rw [h2,hp]
 refine ⟨_,h1,z1l h hj hi hp,fun b c hb hbc => ?_,fun hs=>ho2 (.inl ?_),fun hs=>ho2 (.inr (.inl ?_))⟩
 ·have h3:=w7d h hj hbc;by_cases hsc:sccP (wR p j f) b c
  ·exact hb.trans hsc
  ·refine absurd (.inr (.inr ⟨b,c,hbc,hsc,?_⟩)) ho2;rw [<- (JX h hj h1 h3.1).2 hb,hpr]
 ·rw [<- (JX h hj h1 pl0).2 hs,hpr]
 ·rw [<- (JX h hj h1 pl1).2 hs,hpr]
theorem w8j (h:chkB p=true) (hj:p.procs[j]? = some f) {r:Int} (hr:plP p j f r) (hcl : ∀ b c,sccP (wR p j f) r b->wR p j f b c->sccP (wR p j f) r c) (h0 : ¬sccP (wR p j f) r 0) (hx : ¬sccP (wR p j f) r (-1)) :
  ∃ l∈trapsW (newWay p j f) f,∀ b,b∈l↔plP p j f b∧sccP (wR p j f) r b:=by
 have h1:=ZF hr;have h2:=q2v (p:=p) (j:=j) (f:=f) h1;have h3:=z1f (p:=p) (j:=j) (f:=f) (k:=(ixI p j f r).toNat) (by omega);have h4:0<=JJ p j f (ixI p j f r)∧JJ p j f (ixI p j f r)<(cntL f.body+2:Nat):=h3;generalize hi:JJ p j f (ixI p j f r)=v at h2 h4;obtain ⟨h5,h6⟩:=YS (p:=p) (j:=j) (f:=f) (i:=v) h4;have hs:sccP (wR p j f) r (QM p j (cntL f.body+2:Nat) v):=(w5e h hj hr h5).1 (by rw [h6];exact h2.scc);have hpv:JJ p j f v=v:=(q2v (p:=p) (j:=j) (f:=f) h4).uniq (h2.same h2.scc);have ev:((v.toNat:Nat):Int)=v:=by omega
 refine ⟨_,q3d.2 ⟨v.toNat,by omega,by rw [ev];exact hpv,?_,rfl⟩,fun b => ?_⟩
 ·cases ho:(q6b (cntL f.body+2) (WA (newWay p j f) f) (prsW (newWay p j f) f)).getD v.toNat false with
  | false=>rfl
  | true =>
    have:=(z7e h hj (by omega)).1 ho;rw [ev,<- hi] at this;rcases this with h7|h7|⟨a,b,h7,h8,h9⟩
    ·exact absurd ((JX h hj hr pl0).1 h7.symm) h0
    ·exact absurd ((JX h hj hr pl1).1 h7.symm) hx
    ·have h10:=w7d h hj h7;have h11:=(JX h hj hr h10.1).1 h9.symm;exact absurd (h11.symm.trans (hcl a b h11 h7)) h8
 ·rw [z1l h hj (by omega) (by rw [ev];exact hpv),ev];exact and_congr Iff.rfl ⟨fun h7=>hs.trans h7,fun h7=>hs.symm.trans h7⟩
end
theorem z1i {p:Pg} {j:Nat} {f:Pr} (hj:p.procs[j]? = some f) (hcn:cntP p.procs<=200):(newWay p j f).real.length<=100000:=by
 obtain ⟨_,_,_,hlen,hsp⟩:=QU p;obtain ⟨_,_,hle,_⟩:=hsp j f hj;have h9:=x2p (QJ p j f);have h10:=q0h p j f;show (WU (QJ p j f)).length<=100000;omega
theorem z1g {p:Pg} (h:chkB p=true) {j:Nat} {f:Pr} (hj:p.procs[j]? = some f) : ∀ it∈itsOf p j f,∀ s∈fOf it,okSt s:=fun it hi s hs=>by
 obtain ⟨hm,_⟩:=QH h;obtain ⟨_,_,hcn⟩:=WN h;obtain ⟨_,_,_,hlen,hsp⟩:=QU p;obtain ⟨_,_,hle,_⟩:=hsp j f hj;have h1:=VD hm hj (YI hi);have h2:=(BW hi).1;unfold fOf at hs;split at hs
 ·rw [List.mem_singleton.1 hs];unfold okI at h2;unfold okSt;constructor
  ·show it.s.id≠_;omega
  ·show it.next≠_;omega
 ·cases hs
theorem x9z {p:Pg} (h:chkB p=true) {j:Nat} {f:Pr} (hj:p.procs[j]? = some f) {l:List Int} (hl:l∈trapsW (newWay p j f) f):l.length<=cntL f.body+2 ∧ ∀ id∈l,(QD p.procs j:Int)+1<=id∧id<=(QD p.procs j+cntL f.body:Nat):=by
 constructor
 ·obtain ⟨i,_,_,_,rfl⟩:=q3d.1 hl;exact x2l _ _ _ _
 ·intro id hid;obtain ⟨r,ht⟩:=w0m h hj hl;obtain ⟨h1,h2⟩:=(ht.mem id).1 hid;rcases h1 with rfl|rfl|h1
  ·exact absurd h2 ht.n0
  ·exact absurd h2 ht.nx
  ·exact h1
theorem v1d {p:Pg} (h:chkB p=true) {j:Nat} {f:Pr} (hj:p.procs[j]? = some f):WayT (newWay p j f) f (cntL f.body+2):=by
 obtain ⟨_,_,hcn⟩:=WN h;obtain ⟨_,_,_,hlen,hsp⟩:=QU p;obtain ⟨_,_,hle,_⟩:=hsp j f hj;refine ⟨rfl,hj,by show cntP p.procs<=1000;omega,by omega,by omega,Nat.le_trans (z1i hj hcn) (by decide),w5c h hj,?_,fun l hl => ?_,fun s hs=>(DA h hj).2.2 s (((WG h hj).2 s).1 hs),z1g h hj⟩
 ·have:=x2d (QM p j (cntL f.body+2:Nat)) (WA (newWay p j f) f) (q6b (cntL f.body+2) (WA (newWay p j f) f) (prsW (newWay p j f) f)) (cntL f.body+2);have e:trapsW (newWay p j f) f=LP (QM p j (cntL f.body+2:Nat)) (WA (newWay p j f) f) (q6b (cntL f.body+2) (WA (newWay p j f) f) (prsW (newWay p j f) f)) (cntL f.body+2):=by
   unfold trapsW;rw [x9n];rfl
  rw [e];omega
 ·obtain ⟨h1,h2⟩:=x9z h hj hl;refine ⟨by omega,fun id hid => ?_⟩;have:=h2 id hid;show 1<=id∧id<=(sheetOf p).l.length;omega
instance (a b:Step):Decidable (LK a b):=inferInstanceAs (Decidable (_∨_))
instance:DecidableEq Step:=fun a b=>decidable_of_iff (a.src=b.src∧a.dst=b.dst∧a.kind=b.kind) ⟨fun h=>KY h.1 h.2.1 h.2.2,fun h=>by rw [h];exact ⟨rfl,rfl,rfl⟩⟩
theorem w6a {a b:Step} (ha:okSt a) (hb:okSt b) (h:GK b a=false):(a.src=b.src∧a.dst=b.dst∧a.kind<=b.kind)∨LK a b:=by
 rw [Bool.eq_false_iff,ne_eq,KX] at h;unfold LK;by_cases h1:XI a.src=XI b.src
 ·by_cases h2:XI a.dst=XI b.dst
  ·exact .inl ⟨KU ha.1 hb.1 h1,KU ha.2 hb.2 h2,by omega⟩
  ·exact .inr (by omega)
 ·exact .inr (by omega)
theorem q0r : ∀ (l:List Step) (a:Step),okSt a->(∀ s∈l,okSt s)->(a::l).Pairwise (fun a b=>GK b a=false) ->
  (∀ s∈XW a l,LK a s)∧(XW a l).Pairwise LK∧(∀ s∈XW a l,s∈l) ∧ ∀ s∈l,(s.src=a.src∧s.dst=a.dst∧a.kind<=s.kind) ∨ ∃ s'∈XW a l,s'.src=s.src∧s'.dst=s.dst∧s'.kind<=s.kind
 | [],a,_,_,_=>by simp [XW]
 | b::r,a,ha,hl,h=>by
   have hb:=hl b mem_cons_self;have hr : ∀ s∈r,okSt s:=fun s hs=>hl s (mem_cons_of_mem _ hs);rw [List.pairwise_cons] at h;obtain ⟨h1,h2⟩:=h;obtain ⟨i1,i2,i3,i4⟩:=q0r r b hb hr h2;have hab:=w6a ha hb (h1 b mem_cons_self);rw [XW];cases hs:ZZ b a with
   | true =>
     unfold ZZ at hs;simp only [Bool.and_eq_true,decide_eq_true_eq] at hs;have hk:a.kind<=b.kind:=by
      rcases hab with h3|h3
      ·exact h3.2.2
      ·unfold LK at h3;rw [hs.1,hs.2] at h3;omega
     rw [cond_true];refine ⟨fun s hs' => ?_,i2,fun s hs'=>mem_cons_of_mem _ (i3 s hs'),fun s hs' => ?_⟩
     ·have:=i1 s hs';unfold LK at this ⊢
      rwa [<- hs.1,<- hs.2]
     ·rcases List.mem_cons.1 hs' with rfl|hs'
      ·exact .inl ⟨hs.1,hs.2,hk⟩
      ·rcases i4 s hs' with ⟨h3,h4,h5⟩|h3
       ·exact .inl ⟨by rw [h3,hs.1],by rw [h4,hs.2],by omega⟩
       ·exact .inr h3
   | false =>
     have hlt:LK a b:=by
      rcases hab with h3|h3
      ·unfold ZZ at hs;simp [h3.1,h3.2.1] at hs
      ·exact h3
     rw [cond_false];refine ⟨fun s hs' => ?_,List.pairwise_cons.2 ⟨i1,i2⟩,fun s hs' => ?_,fun s hs' => ?_⟩
     ·rcases List.mem_cons.1 hs' with rfl|hs'
      ·exact hlt
      ·exact LQ hlt (i1 s hs')
     ·rcases List.mem_cons.1 hs' with rfl|hs'
      ·exact mem_cons_self
      ·exact mem_cons_of_mem _ (i3 s hs')
     ·rcases List.mem_cons.1 hs' with rfl|hs'
      ·exact .inr ⟨s,mem_cons_self,rfl,rfl,Int.le_refl _⟩
      ·rcases i4 s hs' with ⟨h3,h4,h5⟩|⟨s',h3,h4⟩
       ·exact .inr ⟨b,mem_cons_self,h3.symm,h4.symm,h5⟩
       ·exact .inr ⟨s',mem_cons_of_mem _ h3,h4⟩
theorem GA {l:List Step} (hok : ∀ s∈l,okSt s):(WU l).Pairwise LK∧(∀ s∈WU l,s∈l) ∧ ∀ s∈l,∃ s'∈WU l,s'.src=s.src∧s'.dst=s.dst∧s'.kind<=s.kind:=by
 have hp : ∀ s,s∈UG l↔s∈l:=fun s=>(q3z l).mem_iff;have hs:=PK l;unfold WU;cases hq:UG l with
 | nil =>
   rw [hq] at hp;refine ⟨by simp [DC],by simp [DC],fun s hs => ?_⟩;have:=(hp s).2 hs;cases this
 | cons a r =>
   rw [hq] at hp hs;have hok' : ∀ s∈a::r,okSt s:=fun s h=>hok s ((hp s).1 h);obtain ⟨h1,h2,h3,h4⟩:=q0r r a (hok' a mem_cons_self) (fun s h=>hok' s (mem_cons_of_mem _ h)) hs;rw [DC];refine ⟨List.pairwise_cons.2 ⟨h1,h2⟩,fun s hs' => ?_,fun s hs' => ?_⟩
   ·rcases List.mem_cons.1 hs' with rfl|hs'
    ·exact (hp s).1 mem_cons_self
    ·exact (hp s).1 (mem_cons_of_mem _ (h3 s hs'))
   ·rcases List.mem_cons.1 ((hp s).2 hs') with rfl|hs'
    ·exact ⟨s,mem_cons_self,rfl,rfl,Int.le_refl _⟩
    ·rcases h4 s hs' with ⟨h5,h6,h7⟩|⟨s',h5,h6⟩
     ·exact ⟨a,mem_cons_self,h5.symm,h6.symm,h7⟩
     ·exact ⟨s',mem_cons_of_mem _ h5,h6⟩
theorem w0s {l:List Step} (h:l.Pairwise LK) {a b:Step} (ha:a∈l) (hb:b∈l) (h1:a.src=b.src) (h2:a.dst=b.dst):a=b:=by
 have hn : ∀ {x y:Step},x.src=y.src->x.dst=y.dst -> ¬LK x y:=fun {x y} e1 e2 hlt=>by
  unfold LK at hlt;rw [e1,e2] at hlt;omega
 induction h with
 | nil=>cases ha
 | @cons c r hc hr ih =>
   rcases List.mem_cons.1 ha with e1|ha'
   ·rcases List.mem_cons.1 hb with e2|hb'
    ·rw [e1,e2]
    ·exact absurd (hc b hb') (by rw [<- e1];exact hn h1 h2)
   ·rcases List.mem_cons.1 hb with e2|hb'
    ·exact absurd (hc a ha') (by rw [<- e2];exact hn h1.symm h2.symm)
    ·exact ih ha' hb'
theorem z0s {l m:List Step} (hok : ∀ s∈l,okSt s) (h1:m.Pairwise LK) (h2 : ∀ s∈m,s∈l) (h3 : ∀ s∈l,∃ s'∈m,s'.src=s.src∧s'.dst=s.dst∧s'.kind<=s.kind):WU l=m:=by
 obtain ⟨g1,g2,g3⟩:=GA hok;refine q8m g1 h1 fun s=>⟨fun hs => ?_,fun hs => ?_⟩
 ·obtain ⟨a,ha,h4,h5,h6⟩:=h3 s (g2 s hs);obtain ⟨b,hb,h7,h8,h9⟩:=g3 a (h2 a ha);have:=w0s g1 hb hs (h7.trans h4) (h8.trans h5);subst this;have:a=b:=KY h4 h5 (by omega);rw [<- this];exact ha
 ·obtain ⟨a,ha,h4,h5,h6⟩:=g3 s (h2 s hs);obtain ⟨b,hb,h7,h8,h9⟩:=h3 a (g2 a ha);have:=w0s h1 hb hs (h7.trans h4) (h8.trans h5);subst this;have:a=b:=KY h4 h5 (by omega);rw [<- this];exact ha
theorem v2x:(newWay someP 1 f1).real=[⟨0,5,1⟩,⟨5,6,1⟩,⟨6,7,1⟩,⟨6,8,1⟩,⟨7,-1,1⟩,⟨8,-1,1⟩]:=v2e
theorem v0c:(newWay someP 0 f0).real=[⟨0,1,1⟩,⟨1,2,1⟩,⟨2,3,1⟩,⟨3,4,1⟩,⟨4,-1,1⟩]:=v3l
theorem v6f:prsW (newWay someP 1 f1) f1=[(0,1),(1,2),(2,3),(2,4),(3,5),(4,5)]:=by
 unfold prsW;rw [v2x]
 kernel_rfl
theorem v6x:prsW (newWay someP 0 f0) f0=[(0,1),(1,2),(2,3),(3,4),(4,5)]:=by
 unfold prsW;rw [v0c]
 kernel_rfl
theorem v0y:trapsW (newWay someP 1 f1) f1=[]:=by
 unfold trapsW WA;rw [v6f]
 kernel_rfl
theorem v0f:trapsW (newWay someP 0 f0) f0=[]:=by
 unfold trapsW WA;rw [v6x]
 kernel_rfl
theorem v5t:z0b (newWay someP 1 f1) f1=[⟨0,5,1⟩,⟨0,-1,2⟩,⟨5,6,1⟩,⟨6,7,1⟩,⟨6,8,1⟩,⟨7,8,2⟩,⟨7,-1,1⟩,⟨8,-1,1⟩]:=by
 have h1:HK (newWay someP 1 f1) f1=[⟨0,5,1⟩,⟨5,6,1⟩,⟨6,7,1⟩,⟨6,8,1⟩,⟨7,-1,1⟩,⟨8,-1,1⟩,⟨0,-1,2⟩,⟨7,8,2⟩,⟨8,-1,2⟩]:=by
  unfold HK WI;rw [v0y,v2x]
  kernel_rfl
 unfold z0b;rw [h1];exact z0s (by unfold okSt;decide) (by decide) (by decide) (by decide)
theorem v6d:z0b (newWay someP 0 f0) f0=[⟨0,1,1⟩,⟨0,-1,2⟩,⟨1,2,1⟩,⟨2,3,1⟩,⟨3,4,1⟩,⟨4,-1,1⟩]:=by
 have h1:HK (newWay someP 0 f0) f0=[⟨0,1,1⟩,⟨1,2,1⟩,⟨2,3,1⟩,⟨3,4,1⟩,⟨4,-1,1⟩,⟨0,-1,2⟩]:=by
  unfold HK WI;rw [v0f,v0c]
  kernel_rfl
 unfold z0b;rw [h1];exact z0s (by unfold okSt;decide) (by decide) (by decide) (by decide)
theorem z5k:wayO someP [109,97,105,110]=some (newWay someP 0 f0):=by
 unfold wayO;rw [q2m];rfl
theorem v5k {R:Int->Int->Prop} {PL:List Int} (hPL : ∀ x y,x∈PL->R x y->y∈PL) : ∀ (k:Nat) {x:Int},x∈PL->(∀ c:Int->Nat,(∀ y,c y=0∨c y=1)->(∀ y,c y=1->Rch R x y)->(PL.map c).sum<k) -> ∃ y,Rch R x y ∧ ∀ z,Rch R y z->Rch R z y
 | 0,x,_,hk=>absurd (hk (fun _=>0) (fun _ => .inl rfl) (fun _ h=>by cases h)) (Nat.not_lt_zero _)
 | k+1,x,hx,hk=>by
   by_cases h : ∀ z,Rch R x z->Rch R z x
   ·exact ⟨x,.refl,h⟩
   ·obtain ⟨z,hz⟩:=Classical.not_forall.1 h;obtain ⟨h1,h2⟩:=Classical.not_imp.1 hz;have hzp:z∈PL:=h1.closed (S:=fun y=>y∈PL) hPL hx;obtain ⟨y,h3,h4⟩:=v5k hPL k hzp fun c hc hr=>by
     have hcx:c x=0:=by
      rcases hc x with h5|h5
      ·exact h5
      ·exact absurd (hr x h5) h2
     have h6:(PL.map c).sum<(PL.map fun y=>if y=x then 1 else c y).sum:=z6l (fun y _=>by
      split
      ·rename_i e;rw [e,hcx];exact zero_le _
      ·exact Nat.le_refl _) ⟨x,hx,by simp [hcx]⟩
     have h7:=hk (fun y=>if y=x then 1 else c y) (fun y=>by
      split
      ·exact .inr rfl
      ·exact hc y) (fun y hy=>by
      split at hy
      ·rename_i e;rw [e];exact .refl
      ·exact h1.trans (hr y hy))
     omega
    exact ⟨y,h1.trans h3,h4⟩
theorem z6v {c:Int->Nat} (h : ∀ y,c y=0∨c y=1) : ∀ l:List Int,(l.map c).sum<=l.length
 | []=>by simp
 | a::r=>by
   have h1:=z6v h r;have h2:=h a;simp only [map_cons,List.sum_cons,List.length_cons];omega
def plL (p:Pg) (j:Nat) (f:Pr):List Int:=0::(-1)::q0m (QD p.procs j) (cntL f.body)
theorem UO {p:Pg} {j:Nat} {f:Pr} {x:Int}:x∈plL p j f↔plP p j f x:=by
 unfold plL plP;simp only [mem_cons];refine or_congr Iff.rfl (or_congr Iff.rfl ⟨fun h => ?_,fun h=>z1u h.1 h.2⟩);have:=FE h;omega
theorem w7z {p:Pg} (h:chkB p=true) {j:Nat} {f:Pr} (hj:p.procs[j]? = some f) {x:Int} (hx:plP p j f x) : ∃ y,Rch (wR p j f) x y ∧ ∀ z,Rch (wR p j f) y z->Rch (wR p j f) z y :=
 v5k (PL:=plL p j f) (fun a b _ hab=>UO.2 (w7d h hj hab).2) ((plL p j f).length+1) (UO.2 hx) fun _ hc _=>Nat.lt_succ_of_le (z6v hc _)
theorem x0q {p:Pg} (h:chkB p=true) {j:Nat} {f:Pr} (hj:p.procs[j]? = some f) {a:Int} : ¬wR p j f a 0:=fun ⟨s,hs,_,hd⟩=>by
 have h1:=((DA h hj).2.1 s (((WG h hj).2 s).1 hs)).2;unfold okI at h1;omega
theorem x2a {p:Pg} (h:chkB p=true) {j:Nat} {f:Pr} (hj:p.procs[j]? = some f) {a:Int} (hr:Rch (wR p j f) a 0):a=0:=by
 cases hr with
 | refl=>rfl
 | tail _ h2=>exact absurd h2 (x0q h hj)
theorem x9h {p:Pg} (h:chkB p=true) {j:Nat} {f:Pr} (hj:p.procs[j]? = some f):wR p j f 0 (w6w p j f):=⟨⟨0,w6w p j f,1⟩,((WG h hj).2 _).2 (by unfold QJ w6w;exact mem_cons_self),rfl,rfl⟩
theorem z8a {p:Pg} (h:chkB p=true) {j:Nat} {f:Pr} (hj:p.procs[j]? = some f) {r:Int} (hr:plP p j f r) (hcl : ∀ b c,sccP (wR p j f) r b->wR p j f b c->sccP (wR p j f) r c) (h0 : ¬sccP (wR p j f) r 0) (hx : ¬sccP (wR p j f) r (-1)) : ∃ t∈flL f.body,sccP (wR p j f) r t.id∧t.kind=10:=by
 refine Classical.byContradiction fun hno=>hx ?_;have hrr:(QD p.procs j:Int)+1<=r∧r<=(QD p.procs j+cntL f.body:Nat):=by
  rcases hr with rfl|rfl|h1
  ·exact absurd (sccP.refl 0) h0
  ·exact absurd (sccP.refl (-1)) hx
  ·exact h1
 obtain ⟨t,ht,_,hti⟩:=q2k h hj hrr.1 hrr.2;exact w0v h hj (T:=fun y=>sccP (wR p j f) r y) (fun a b ha hab=>hcl a b ha hab) (fun u hu hs hk=>hno ⟨u,hu,hs,hk⟩) ht (by rw [hti];exact sccP.refl r)
theorem z9b {p:Pg} (h:chkB p=true) {j:Nat} {f:Pr} (hj:p.procs[j]? = some f) {t:S} (ht:t∈flL f.body):w3o p t.id=some t:=by
 have hb:=VD (QH h).1 hj ht;obtain ⟨u,hu,h1,h2⟩:=q2k h hj hb.1 hb.2;obtain ⟨it,hi,rfl⟩:=w9j (p:=p) (j:=j) ht;obtain ⟨iu,hiu,rfl⟩:=w9j (p:=p) (j:=j) hu;rw [w5b (QH h).1 hj hiu hi h2] at h1;exact h1
theorem NV {p:Pg} (h:chkB p=true) {j:Nat} {f:Pr} (hj:p.procs[j]? = some f) {s:Step}:s∈WI (newWay p j f) f ↔ ∃ l∈trapsW (newWay p j f) f,∃ t∈flL f.body,t.id∈l∧t.kind=10∧s=⟨t.id,-1,3⟩:=by
 unfold WI;constructor
 ·intro hs;obtain ⟨l,hl,hs⟩:=List.mem_flatMap.1 hs;obtain ⟨id,hid,hs⟩:=List.mem_flatMap.1 hs;have hb:=(x9z h hj hl).2 id hid;obtain ⟨t,ht,h1,h2⟩:=q2k h hj hb.1 hb.2;have e:(newWay p j f).p=p:=rfl;unfold vOf at hs;rw [e,h1] at hs;simp only at hs;split at hs
  ·rename_i hk;exact ⟨l,hl,t,ht,by rw [h2];exact hid,hk,by rw [h2];simpa using hs⟩
  ·cases hs
 ·rintro ⟨l,hl,t,ht,hid,hk,rfl⟩;refine List.mem_flatMap.2 ⟨l,hl,List.mem_flatMap.2 ⟨t.id,hid,?_⟩⟩;have e:(newWay p j f).p=p:=rfl;unfold vOf;rw [e,z9b h hj ht];simp [hk]
theorem x8h {p:Pg} (h:chkB p=true) {j:Nat} {f:Pr} (hj:p.procs[j]? = some f) : ∀ s∈WI (newWay p j f) f++(newWay p j f).real,okSt s:=fun s hs =>
 (List.mem_append.1 hs).elim ((v1d h hj).virt_ok s) ((v1d h hj).hok s)
theorem z8n {p:Pg} (h:chkB p=true) {j:Nat} {f:Pr} (hj:p.procs[j]? = some f) {s:Step} (hs:s∈WI (newWay p j f) f++(newWay p j f).real):stR (w6c (newWay p j f) f) s.src s.dst:=by
 obtain ⟨s',h1,h2,h3,_⟩:=(GA (x8h h hj)).2.2 s hs;exact ⟨s',h1,h2,h3⟩
theorem w0b {p:Pg} (h:chkB p=true) {j:Nat} {f:Pr} (hj:p.procs[j]? = some f) {x:Int} (hx:plP p j f x):Rch (stR (w6c (newWay p j f) f)) x (-1):=by
 have hm : ∀ a b,wR p j f a b->stR (w6c (newWay p j f) f) a b:=fun a b ⟨s,hs,h1,h2⟩=>by
  rw [<- h1,<- h2];exact z8n h hj (List.mem_append.2 (.inr hs))
 obtain ⟨y,h1,h2⟩:=w7z h hj hx;have hy:=w6q h hj hx h1;have hcl : ∀ b c,sccP (wR p j f) y b->wR p j f b c->sccP (wR p j f) y c:=fun b c hb hbc=>by
  have h3:Rch (wR p j f) y c := .tail hb.1 hbc;exact ⟨h3,h2 c h3⟩
 by_cases hxe:sccP (wR p j f) y (-1)
 ·exact (h1.trans hxe.1).mono hm
 have h0 : ¬sccP (wR p j f) y 0:=fun hs=>by
  have hy0:=x2a h hj hs.1;subst hy0;have h3:=h2 _ (.tail .refl (x9h h hj));have h4:=x2a h hj h3;have h5:=x9h h hj;rw [h4] at h5;exact x0q h hj h5
 obtain ⟨l,hl,hlm⟩:=w8j h hj hy hcl h0 hxe;obtain ⟨t,ht,h3,h4⟩:=z8a h hj hy hcl h0 hxe;have hv:(⟨t.id,-1,3⟩:Step)∈WI (newWay p j f) f:=(NV h hj).2 ⟨l,hl,t,ht,(hlm _).2 ⟨w6q h hj hy h3.1,h3⟩,h4,rfl⟩;exact .tail ((h1.trans h3.1).mono hm) (z8n h hj (List.mem_append.2 (.inl hv)))
theorem MI (l:List Int) (x:Int):SpecP Tryz.prog 61 [QA l,.int .i64 x] (fun r=>r = .bool (w7t l x)):=by
 refine sB BJ Tryz.func61 rfl Tryz.call61 ?_;conv=>whnf
 repeat' (refine cP (ML _ _) ?_;conv=>whnf)
 exact RetK.bool rfl
theorem Wr.u64 {n:Int} {K:Int->Prop} (h1:0<=n) (h2:n<=18446744073709551615) (hk:K n):Wr .u64 n K :=
 .fit ⟨by simp [IntKind.min,IntKind.signed];omega,by simp [IntKind.max,IntKind.signed,IntKind.bits];omega⟩ hk
theorem MV {P:Program} {hr:Bool} {s:St} {o:Oper} {K:LV->Prop} {t u:TypeId} {x y:Operand} (hop:o.op = .binOp .shr t x y u) {a:Int} (ha:0<=a) (hx:QT s.sl x = .p (.int .u64 a)) (hy:QT s.sl y = .p (.int .u64 1)) {m:Int} (hm:m=a / 2) (hK:K (.p (.int .u64 m))):ValO P hr s o K:=by
 subst hm;refine ⟨fun σ β ac w hs _=>⟨_,.int .u64 (a / 2),hK,.p (.int _ _),fun w' _ _ => ?_⟩⟩;have h1:=QQ hs x;have h2:=QQ hs y;rw [hx] at h1;rw [hy] at h2;cases h1 with
 | p h1 =>
   cases h2 with
   | p h2 =>
     have key : ∀ (n:Int) (v:Value),Rep σ (.int .u64 n) v->v = .int .u64 n:=fun n v hv=>by
      cases hv;rfl
     have e1:=key _ _ h1;have e2:=key _ _ h2;have e3:a.fdiv (2 ^ 1)=a / 2:=Int.fdiv_eq_ediv_of_nonneg _ (by decide);have hg:(eqGuard .shr t x y (.int .u64 a) (.int .u64 1)).run P w' = .ok () w':=by unfold eqGuard;rfl
     simp only [execOp,hop,e1,e2,Sem.run_bind,hg,Result.andThen_ok,binOp,Op.shift];rw [if_neg (by decide)];simp only [show min (1:Int).toNat IntKind.u64.bits=1 by decide,e3];rfl
def JH (l:List Int):Heap:=[(1000,.own 3 1 (l.map (.int .i64)))]
theorem x1e {l:List Int} {k:Nat} {x:Int} (h:l[k]? = some x):(l.map (AV.int .i64))[k]? = some (.int .i64 x):=by rw [List.getElem?_map,h];rfl
def HI (P X Q Y S:List Int) (i:Nat):List Int:=P++(Y.take i++X.drop i)++Q++(X.take i++Y.drop i)++S
theorem z8k {P X Q Y S:List Int} (h:X.length=Y.length) (i:Nat) (hi:i<=X.length):(HI P X Q Y S i).length=P.length+X.length+Q.length+X.length+S.length:=by
 unfold HI;simp only [length_append,length_take,length_drop];omega
theorem w9h {P X Q Y S:List Int} (h:X.length=Y.length) {i:Nat} (hi:i<X.length):(HI P X Q Y S i)[P.length+i]? = some X[i]:=by
 unfold HI;have e1:(Y.take i).length=i:=by rw [length_take];omega
 rw [List.append_assoc,List.append_assoc,List.append_assoc,List.getElem?_append_right (by omega),show P.length+i-P.length=i by omega,List.append_assoc,List.getElem?_append_right (by omega),e1,Nat.sub_self,List.getElem?_append_left (by rw [length_drop];omega),getElem?_drop,Nat.add_zero,List.getElem?_eq_getElem hi]
theorem w7m {P X Q Y S:List Int} (h:X.length=Y.length) {i:Nat} (hi:i<X.length):(HI P X Q Y S i)[P.length+X.length+Q.length+i]? = some (Y[i]'(by omega)):=by
 unfold HI;have e1:(Y.take i).length=i:=by rw [length_take];omega
 have e2:(X.take i).length=i:=by rw [length_take];omega
 have e3:(P++(Y.take i++X.drop i)++Q).length=P.length+X.length+Q.length:=by
  simp only [length_append,length_drop,e1];omega
 rw [List.append_assoc,List.getElem?_append_right (by omega),e3,show P.length+X.length+Q.length+i-(P.length+X.length+Q.length)=i by omega,List.append_assoc,List.getElem?_append_right (by omega),e2,Nat.sub_self,List.getElem?_append_left (by rw [length_drop];omega),getElem?_drop,Nat.add_zero,List.getElem?_eq_getElem (by omega)]
theorem q3p (A B:List Int) (x y:Int) {k:Nat} (hk:k=A.length):(A++x::B).set k y=A++y::B:=by
 subst hk;rw [List.set_append_right _ _ (Nat.le_refl _),Nat.sub_self,List.set_cons_zero]
theorem z8l {P X Q Y S:List Int} (h:X.length=Y.length) {i:Nat} (hi:i<X.length):((HI P X Q Y S i).set (P.length+i) (Y[i]'(by omega))).set (P.length+X.length+Q.length+i) X[i]=HI P X Q Y S (i+1):=by
 have e1:(Y.take i).length=i:=by rw [length_take];omega
 have e2:(X.take i).length=i:=by rw [length_take];omega
 have d1:X.drop i=X[i]::X.drop (i+1):=List.drop_eq_getElem_cons hi;have d2:Y.drop i=(Y[i]'(by omega))::Y.drop (i+1):=List.drop_eq_getElem_cons (by omega);have t1:X.take (i+1)=X.take i++[X[i]]:=List.take_succ_eq_append_getElem hi;have t2:Y.take (i+1)=Y.take i++[Y[i]'(by omega)]:=List.take_succ_eq_append_getElem (by omega);have dl:(X.drop (i+1)).length=X.length-(i+1):=length_drop;unfold HI;rw [d1,d2,t1,t2];clear d1 d2 t1 t2;generalize X[i]=x;generalize Y[i]'(by omega)=y;generalize Y.take i=a at e1;generalize X.take i=b at e2;generalize X.drop (i+1)=c at dl;generalize Y.drop (i+1)=d;have s1:P++(a++x::c)++Q++(b++y::d)++S=(P++a)++x::(c++Q++(b++y::d)++S):=by simp
 rw [s1,q3p _ _ _ _ (by rw [length_append];omega)];have s2:(P++a)++y::(c++Q++(b++y::d)++S)=(P++a++y::c++Q++b)++y::(d++S):=by simp
 rw [s2,q3p _ _ _ _ (by simp only [length_append,List.length_cons];omega)];simp
theorem UP (P X Q Y S:List Int) (h:X.length=Y.length) (c:AV) (hl:P.length+X.length+Q.length+Y.length+S.length<=1000000):SpecH Tryz.prog 366 [.hd 1000 0 (P.length+X.length+Q.length+X.length+S.length),.p (.int .i64 P.length),.p (.int .i64 (P.length+X.length+Q.length:Nat)),.p (.int .i64 X.length),.p c] (JH (HI P X Q Y S 0)) (fun r H=>r = .p (.tup [])∧H=JH (HI P X Q Y S X.length)):=by
 refine sH UQ Tryz.func366 rfl Tryz.call366 ?_;conv=>whnf
 skip
 refine LoopK.inv QV (fun i:Nat=>⟨[(0,.hd 1000 0 (P.length+X.length+Q.length+X.length+S.length)),(1,.p (.int .i64 P.length)),(2,.p (.int .i64 (P.length+X.length+Q.length:Nat))),(3,.p (.int .i64 X.length)),(10,.p (.int .i64 i))],JH (HI P X Q Y S i)⟩) (fun i=>i<=X.length) (fun i=>X.length-i) 0 (Le.of_eq rfl) (zero_le _) ?_;intro i h2;rcases Nat.lt_or_ge i X.length with hi|hi
 ·have hlen:=z8k (P:=P) (Q:=Q) (S:=S) h i h2;have g1:=x1e (w9h (P:=P) (Q:=Q) (S:=S) h hi);have g2:=x1e (w7m (P:=P) (Q:=Q) (S:=S) h hi);have hst:=z8l (P:=P) (Q:=Q) (S:=S) h hi;generalize HI P X Q Y S i=row at hlen g1 g2 hst ⊢;generalize X[i]=x at g1 hst;generalize Y[i]'(by omega)=y at g2 hst;have g3:((row.map (AV.int .i64)).set (P.length+i) (.int .i64 y))[P.length+X.length+Q.length+i]? = some (.int .i64 y):=by rw [List.getElem?_set_ne (by omega)];exact g2
  unfold JH;conv=>whnf
  repeat' (first|((first|refine dA ?_|refine And.intro rfl ?_|refine wI ?_|refine IdxL.mk (P.length+i) (by omega) (by omega) ?_|refine IdxL.mk (P.length+X.length+Q.length+i) (by omega) (by omega) ?_|refine LdOwn.mk (P.length+X.length+Q.length+i) 0 _ (by omega) g2 ?_|refine LdOwn.mk (P.length+i) 0 _ (by omega) g1 ?_|refine StOwn.mk (P.length+i) 0 _ (.int .i64 y) (by omega) g1 (Nat.le_refl _) rfl ?_|refine StOwn.mk (P.length+X.length+Q.length+i) 0 _ (.int .i64 x) (by omega) g3 (Nat.le_refl _) rfl ?_);conv=>whnf)|(apply bD<;>intro _<;>first|omega|conv=>whnf))
  exact ⟨i+1,by omega,by omega,Le.of_eq (by rw [<- hst,List.map_set,List.map_set];rfl)⟩
 ·have he:i=X.length:=by omega
  subst he;unfold JH;conv=>whnf
  repeat' (apply bD<;>intro _<;>first|omega|conv=>whnf)
  exact ⟨_,LSub.refl _,rfl,rfl⟩
instance:DecidableEq Param:=fun a b=>decidable_of_iff (a.name=b.name∧a.ref=b.ref) (by cases a;cases b;simp)
theorem w6z {p:Pg} (h:chkB p=true) {j:Nat} {f:Pr} (hj:p.procs[j]? = some f) : ∀ s∈HK (newWay p j f) f,okSt s:=fun s hs=>by
 unfold HK at hs;rcases List.mem_append.1 hs with hs|hs
 ·rcases List.mem_append.1 hs with hs|hs
  ·exact x8h h hj s hs
  ·rw [List.mem_singleton.1 hs];exact ⟨by decide,by decide⟩
 ·obtain ⟨it,hi,hs⟩:=List.mem_flatMap.1 hs;exact z1g h hj it hi s hs
theorem v0v {p:Pg} (h:chkB p=true) {j:Nat} {f:Pr} (hj:p.procs[j]? = some f) {it:Item} (hi:it∈itsOf p j f):(sheetOf p).l[(it.s.id-1).toNat]? = some it:=by
 have hb:=VD (QH h).1 hj (YI hi);obtain ⟨it',h1,h2⟩:=HY hj (k:=(it.s.id-1).toNat) (by omega) (by omega);have h3:=q9a h hj (by omega) (by omega) h1;rw [h1,w5b (QH h).1 hj h2 hi (by omega)]
mutual
def onS (b:Bool):S->S
 | .mk id kind labels name proc x has args thn els=>if kind=4∨(7<=kind∧b=false) then .mk 0 3 (if b then labels else []) [] [] (.mk 1 7 [] []) false [] (onL b thn) (onL b els) else .mk id kind (if b then labels else []) name proc x has args (onL b thn) (onL b els)
def onL (b:Bool):List S->List S
 | []=>[]
 | t::r=>onS b t::onL b r
end
theorem DN (b:Bool) (t:S):onS b t=if t.kind=4∨(7<=t.kind∧b=false) then .mk 0 3 (if b then t.labels else []) [] [] (.mk 1 7 [] []) false [] (onL b t.thn) (onL b t.els) else .mk t.id t.kind (if b then t.labels else []) t.name t.proc t.x t.has t.args (onL b t.thn) (onL b t.els):=by
 cases t;rw [onS];rfl
theorem BB (b:Bool) : ∀ l:List S,onL b l=l.map (onS b)
 | []=>by rw [onL];rfl
 | t::r=>by rw [onL,BB b r];rfl
theorem MP (b:Bool) : ∀ (k:Nat) (l:List S) (_:cntL l<k) (_:cntL l<=1000000) (_ : ∀ t∈flL l,okC t),SpecP Tryz.prog 91 [eSs l,.bool b] (fun r=>r=eSs (onL b l)):=by
 intro k;induction k with
 | zero=>intro l h;omega
 | succ k ih =>
   intro l hk hn hok;have hsl:(S.avs l).length=l.length:=by rw [S.avs_eq,length_map]
   have hcl:=q2n l;refine sB PV Tryz.func91 rfl Tryz.call91 ?_;conv=>whnf
   repeat' (refine iM fun _=>?_;conv=>whnf)
   refine LoopK.inv QV (fun j:Nat=>⟨[(1,.p (.bool b)),(5,.hd 0 0 j),(9,.p (eSs l)),(10,.p (.int .i64 (S.avs l).length)),(11,.p (.int .i64 j))],[(0,.own 40 13 (S.avs ((onL b l).take j)))]⟩) (fun j=>j<=l.length) (fun j=>l.length-j) 0
    (Le.mk [(0,.own 40 13 [])] (by simp [Chunk.new0];rfl) (by simp) (by simp) (.cons (.refl _) (.cons (.nil mem_cons_self) (.cons (.refl _) (.cons (.refl _) (.cons (.refl _) .nil))))) (.new mem_cons_self .nil)) (zero_le _) ?_
   intro j h2;rcases Nat.lt_or_ge j l.length with hj|hj
   ·have htm:=q1i (List.getElem_mem hj);have hcs:=ZS l[j];have hself:=hok _ (FI l _ (List.getElem_mem hj));have hsub : ∀ t,t∈flL l[j].thn∨t∈flL l[j].els->okC t:=fun t ht=>hok t (by
     have:t∈flS l[j]:=by
      rw [q7p];exact mem_cons_of_mem _ (List.mem_append.2 ht)
     have key : ∀ (m:List S) (i:Nat) (h:i<m.length),t∈flS m[i]->t∈flL m:=fun m=>by
      induction m with
      | nil=>intro i h;simp at h
      | cons a r ih =>
        intro i h ht;rw [flL];cases i with
        | zero=>exact List.mem_append.2 (.inl ht)
        | succ i=>exact List.mem_append.2 (.inr (ih i (by simpa using h) ht))
     exact key l j hj this)
    have h5:=WW l[j] hself.1 hself.2.1 hself.2.2.1 hself.2.2.2;have h6:=ih l[j].thn (by omega) (by omega) fun t ht=>hsub t (.inl ht);have h7:=ih l[j].els (by omega) (by omega) fun t ht=>hsub t (.inr ht);have hacl:j=(S.avs ((onL b l).take j)).length:=by rw [S.avs_eq,length_map,length_take,BB,length_map];omega
    have hav:S.avs ((onL b l).take (j+1))=S.avs ((onL b l).take j)++[.agg (onS b l[j]).cells]:=by
     rw [S.avs_eq,S.avs_eq,BB,List.take_add_one,List.getElem?_map,List.getElem?_eq_getElem hj,List.map_append];rfl
    generalize S.avs ((onL b l).take j)=acc at hacl hav ⊢;cases b with
    | true =>
      conv=>whnf
      repeat' (first|((first|refine dA ?_|refine And.intro rfl ?_|refine aD ?_|refine bP ?_|refine QB (by omega) ?_|refine wI ?_|refine cP (XZ l[j].labels hself.2.1) ?_|refine cP (UU 7) ?_|refine cP h5 ?_|(refine CallK.pure h6 (.cons (Sub.refl _) (.cons (by first|exact Sub.refl _|exact Sub.tt rfl|exact Sub.ff rfl) .nil)) ?_;rintro _ rfl)|(refine CallK.pure h7 (.cons (Sub.refl _) (.cons (by first|exact Sub.refl _|exact Sub.tt rfl|exact Sub.ff rfl) .nil)) ?_;rintro _ rfl)|refine AppK.mk hacl rfl (by show (j+1)*208<=140737488355328;omega) (by show j+1<=9223372036854775807;omega) (fun x hx=>by rcases List.mem_singleton.1 hx with rfl;exact ⟨rfl,rfl⟩) ?_);conv=>whnf)|(apply bD<;>intro _<;>first|omega|conv=>whnf)|(apply bN<;>intro _<;>conv=>whnf))
      all_goals try contradiction
      all_goals first
       | (have e:=(DN true l[j]).trans (if_pos (by first|exact .inl (by assumption)|exact .inr ⟨by omega,rfl⟩))
          exact ⟨j+1,hj,by omega,(Le.els (.els (DZ (ElS.refl acc) (x' := .agg (onS true l[j]).cells) (by rw [e];rfl) (fun i c' hc=>by
          rw [e] at hc
          match i,hc with
          | 0,hc=>cases hc;exact ⟨_,rfl,by first|exact Sub.refl _|exact Sub.nils|exact Sub.ff rfl⟩
          | 1,hc=>cases hc;exact ⟨_,rfl,by first|exact Sub.refl _|exact Sub.nils|exact Sub.ff rfl⟩
          | 2,hc=>cases hc;exact ⟨_,rfl,by first|exact Sub.refl _|exact Sub.nils|exact Sub.ff rfl⟩
          | 3,hc=>cases hc;exact ⟨_,rfl,by first|exact Sub.refl _|exact Sub.nils|exact Sub.ff rfl⟩
          | 4,hc=>cases hc;exact ⟨_,rfl,by first|exact Sub.refl _|exact Sub.nils|exact Sub.ff rfl⟩
          | 5,hc=>cases hc;exact ⟨_,rfl,by first|exact Sub.refl _|exact Sub.nils|exact Sub.ff rfl⟩
          | 6,hc=>cases hc;exact ⟨_,rfl,by first|exact Sub.refl _|exact Sub.nils|exact Sub.ff rfl⟩
          | 7,hc=>cases hc;exact ⟨_,rfl,by first|exact Sub.refl _|exact Sub.nils|exact Sub.ff rfl⟩
          | 8,hc=>cases hc;exact ⟨_,rfl,by first|exact Sub.refl _|exact Sub.nils|exact Sub.ff rfl⟩
          | 9,hc=>cases hc;exact ⟨_,rfl,by first|exact Sub.refl _|exact Sub.nils|exact Sub.ff rfl⟩
          | 10,hc=>cases hc;exact ⟨_,rfl,by first|exact Sub.refl _|exact Sub.nils|exact Sub.ff rfl⟩
          | 11,hc=>cases hc;exact ⟨_,rfl,by first|exact Sub.refl _|exact Sub.nils|exact Sub.ff rfl⟩
          | 12,hc=>cases hc;exact ⟨_,rfl,by first|exact Sub.refl _|exact Sub.nils|exact Sub.ff rfl⟩
          | i+13,hc=>simp [AV.cells,S.cells] at hc)) .nil)).trans (Le.of_eq (by rw [hav];rfl))⟩)
       | (have e:=(DN true l[j]).trans (if_neg (by rintro (h|⟨h,h'⟩)<;>first|contradiction|omega))
          exact ⟨j+1,hj,by omega,(Le.els (.els (DZ (ElS.refl acc) (x' := .agg (onS true l[j]).cells) (by rw [e];rfl) (fun i c' hc=>by
          rw [e] at hc
          match i,hc with
          | 0,hc=>cases hc;exact ⟨_,rfl,by first|exact Sub.refl _|exact Sub.nils|exact Sub.ff rfl⟩
          | 1,hc=>cases hc;exact ⟨_,rfl,by first|exact Sub.refl _|exact Sub.nils|exact Sub.ff rfl⟩
          | 2,hc=>cases hc;exact ⟨_,rfl,by first|exact Sub.refl _|exact Sub.nils|exact Sub.ff rfl⟩
          | 3,hc=>cases hc;exact ⟨_,rfl,by first|exact Sub.refl _|exact Sub.nils|exact Sub.ff rfl⟩
          | 4,hc=>cases hc;exact ⟨_,rfl,by first|exact Sub.refl _|exact Sub.nils|exact Sub.ff rfl⟩
          | 5,hc=>cases hc;exact ⟨_,rfl,by first|exact Sub.refl _|exact Sub.nils|exact Sub.ff rfl⟩
          | 6,hc=>cases hc;exact ⟨_,rfl,by first|exact Sub.refl _|exact Sub.nils|exact Sub.ff rfl⟩
          | 7,hc=>cases hc;exact ⟨_,rfl,by first|exact Sub.refl _|exact Sub.nils|exact Sub.ff rfl⟩
          | 8,hc=>cases hc;exact ⟨_,rfl,by first|exact Sub.refl _|exact Sub.nils|exact Sub.ff rfl⟩
          | 9,hc=>cases hc;exact ⟨_,rfl,by first|exact Sub.refl _|exact Sub.nils|exact Sub.ff rfl⟩
          | 10,hc=>cases hc;exact ⟨_,rfl,by first|exact Sub.refl _|exact Sub.nils|exact Sub.ff rfl⟩
          | 11,hc=>cases hc;exact ⟨_,rfl,by first|exact Sub.refl _|exact Sub.nils|exact Sub.ff rfl⟩
          | 12,hc=>cases hc;exact ⟨_,rfl,by first|exact Sub.refl _|exact Sub.nils|exact Sub.ff rfl⟩
          | i+13,hc=>simp [AV.cells,S.cells] at hc)) .nil)).trans (Le.of_eq (by rw [hav];rfl))⟩)
    | false =>
      conv=>whnf
      repeat' (first|((first|refine dA ?_|refine And.intro rfl ?_|refine aD ?_|refine bP ?_|refine QB (by omega) ?_|refine wI ?_|refine cP (XZ l[j].labels hself.2.1) ?_|refine cP (UU 7) ?_|refine cP h5 ?_|(refine CallK.pure h6 (.cons (Sub.refl _) (.cons (by first|exact Sub.refl _|exact Sub.tt rfl|exact Sub.ff rfl) .nil)) ?_;rintro _ rfl)|(refine CallK.pure h7 (.cons (Sub.refl _) (.cons (by first|exact Sub.refl _|exact Sub.tt rfl|exact Sub.ff rfl) .nil)) ?_;rintro _ rfl)|refine AppK.mk hacl rfl (by show (j+1)*208<=140737488355328;omega) (by show j+1<=9223372036854775807;omega) (fun x hx=>by rcases List.mem_singleton.1 hx with rfl;exact ⟨rfl,rfl⟩) ?_);conv=>whnf)|(apply bD<;>intro _<;>first|omega|conv=>whnf)|(apply bN<;>intro _<;>conv=>whnf))
      all_goals try contradiction
      all_goals first
       | (have e:=(DN false l[j]).trans (if_pos (by first|exact .inl (by assumption)|exact .inr ⟨by omega,rfl⟩))
          exact ⟨j+1,hj,by omega,(Le.els (.els (DZ (ElS.refl acc) (x' := .agg (onS false l[j]).cells) (by rw [e];rfl) (fun i c' hc=>by
          rw [e] at hc
          match i,hc with
          | 0,hc=>cases hc;exact ⟨_,rfl,by first|exact Sub.refl _|exact Sub.nils|exact Sub.ff rfl⟩
          | 1,hc=>cases hc;exact ⟨_,rfl,by first|exact Sub.refl _|exact Sub.nils|exact Sub.ff rfl⟩
          | 2,hc=>cases hc;exact ⟨_,rfl,by first|exact Sub.refl _|exact Sub.nils|exact Sub.ff rfl⟩
          | 3,hc=>cases hc;exact ⟨_,rfl,by first|exact Sub.refl _|exact Sub.nils|exact Sub.ff rfl⟩
          | 4,hc=>cases hc;exact ⟨_,rfl,by first|exact Sub.refl _|exact Sub.nils|exact Sub.ff rfl⟩
          | 5,hc=>cases hc;exact ⟨_,rfl,by first|exact Sub.refl _|exact Sub.nils|exact Sub.ff rfl⟩
          | 6,hc=>cases hc;exact ⟨_,rfl,by first|exact Sub.refl _|exact Sub.nils|exact Sub.ff rfl⟩
          | 7,hc=>cases hc;exact ⟨_,rfl,by first|exact Sub.refl _|exact Sub.nils|exact Sub.ff rfl⟩
          | 8,hc=>cases hc;exact ⟨_,rfl,by first|exact Sub.refl _|exact Sub.nils|exact Sub.ff rfl⟩
          | 9,hc=>cases hc;exact ⟨_,rfl,by first|exact Sub.refl _|exact Sub.nils|exact Sub.ff rfl⟩
          | 10,hc=>cases hc;exact ⟨_,rfl,by first|exact Sub.refl _|exact Sub.nils|exact Sub.ff rfl⟩
          | 11,hc=>cases hc;exact ⟨_,rfl,by first|exact Sub.refl _|exact Sub.nils|exact Sub.ff rfl⟩
          | 12,hc=>cases hc;exact ⟨_,rfl,by first|exact Sub.refl _|exact Sub.nils|exact Sub.ff rfl⟩
          | i+13,hc=>simp [AV.cells,S.cells] at hc)) .nil)).trans (Le.of_eq (by rw [hav];rfl))⟩)
       | (have e:=(DN false l[j]).trans (if_neg (by rintro (h|⟨h,h'⟩)<;>first|contradiction|omega))
          exact ⟨j+1,hj,by omega,(Le.els (.els (DZ (ElS.refl acc) (x' := .agg (onS false l[j]).cells) (by rw [e];rfl) (fun i c' hc=>by
          rw [e] at hc
          match i,hc with
          | 0,hc=>cases hc;exact ⟨_,rfl,by first|exact Sub.refl _|exact Sub.nils|exact Sub.ff rfl⟩
          | 1,hc=>cases hc;exact ⟨_,rfl,by first|exact Sub.refl _|exact Sub.nils|exact Sub.ff rfl⟩
          | 2,hc=>cases hc;exact ⟨_,rfl,by first|exact Sub.refl _|exact Sub.nils|exact Sub.ff rfl⟩
          | 3,hc=>cases hc;exact ⟨_,rfl,by first|exact Sub.refl _|exact Sub.nils|exact Sub.ff rfl⟩
          | 4,hc=>cases hc;exact ⟨_,rfl,by first|exact Sub.refl _|exact Sub.nils|exact Sub.ff rfl⟩
          | 5,hc=>cases hc;exact ⟨_,rfl,by first|exact Sub.refl _|exact Sub.nils|exact Sub.ff rfl⟩
          | 6,hc=>cases hc;exact ⟨_,rfl,by first|exact Sub.refl _|exact Sub.nils|exact Sub.ff rfl⟩
          | 7,hc=>cases hc;exact ⟨_,rfl,by first|exact Sub.refl _|exact Sub.nils|exact Sub.ff rfl⟩
          | 8,hc=>cases hc;exact ⟨_,rfl,by first|exact Sub.refl _|exact Sub.nils|exact Sub.ff rfl⟩
          | 9,hc=>cases hc;exact ⟨_,rfl,by first|exact Sub.refl _|exact Sub.nils|exact Sub.ff rfl⟩
          | 10,hc=>cases hc;exact ⟨_,rfl,by first|exact Sub.refl _|exact Sub.nils|exact Sub.ff rfl⟩
          | 11,hc=>cases hc;exact ⟨_,rfl,by first|exact Sub.refl _|exact Sub.nils|exact Sub.ff rfl⟩
          | 12,hc=>cases hc;exact ⟨_,rfl,by first|exact Sub.refl _|exact Sub.nils|exact Sub.ff rfl⟩
          | i+13,hc=>simp [AV.cells,S.cells] at hc)) .nil)).trans (Le.of_eq (by rw [hav];rfl))⟩)
   ·have hall:(onL b l).take j=onL b l:=List.take_of_length_le (by rw [BB,length_map];exact hj);have hjl:j=(S.avs (onL b l)).length:=by rw [S.avs_eq,length_map,BB,length_map];omega
    rw [hall];conv=>whnf
    repeat' (apply bD<;>intro _<;>first|omega|conv=>whnf)
    exact ⟨_,.hd rfl hjl,rfl⟩
def w9r (b:Bool) (f:Pr):Pr:=⟨f.name,f.params,f.vars,onL b f.body,if b then f.fin else []⟩
def q9u (n:Nat):List Pr->List Pr
 | []=>[]
 | f::r=>⟨f.name,f.params,f.vars,nmL n f.body,f.fin⟩::q9u (n+cntL f.body) r
def w8i (p:Pg):Pg:=⟨p.globals,q9u 0 p.procs⟩
def onlyRaw (b:Bool) (p:Pg):Pg:=⟨p.globals,(p.procs.filter fun f=>f.name==mainS).map (w9r b)⟩
def onlyPg (b:Bool) (p:Pg):Pg:=w8i (onlyRaw b p)
def gOf (b:Bool) (f:Pr):Pr:=⟨f.name,f.params,f.vars,nmL 0 (onL b f.body),if b then f.fin else []⟩
theorem x1o {p:Pg} (h:chkB p=true) : ∃ (k:Nat) (f:Pr),p.procs[k]? = some f∧p.procs.filter (fun f=>f.name==mainS)=[f]∧f.name=mainS∧f.params=[]:=by
 obtain ⟨hm,hs,_⟩:=QH h;obtain ⟨_,hb,_⟩:=YP hs;unfold XR at hb;simp only [Bool.or_eq_false_iff,Bool.not_eq_false'] at hb;obtain ⟨_,h2,h3,h4⟩:=hb;have hnd:=q9c h2;obtain ⟨k,hk,h5,h6⟩:=z1h h3;have h7:=List.find?_some h6;have hn:p.procs[k].name=mainS:=by
  have:mainS=p.procs[k].name:=by simpa using h7
  exact this.symm
 rw [h6] at h4;have hp:p.procs[k].params=[]:=List.eq_nil_of_length_eq_zero (by simpa using h4);refine ⟨k,p.procs[k],List.getElem?_eq_getElem hk,?_,hn,hp⟩;have key : ∀ (l:List Pr),(l.map Pr.name).Nodup -> ∀ f∈l,f.name=mainS->l.filter (fun f=>f.name==mainS)=[f]:=fun l=>by
  induction l with
  | nil=>intro _ f hf;cases hf
  | cons g r ih =>
    intro hnd f hf hfn;rw [map_cons,List.nodup_cons] at hnd;rcases List.mem_cons.1 hf with rfl|hf
    ·rw [List.filter_cons_of_pos (by simp [hfn])];congr 1;rw [List.filter_eq_nil_iff];intro g hg he;exact hnd.1 (by rw [hfn,<- show g.name=mainS by simpa using he];exact List.mem_map_of_mem hg)
    ·rw [List.filter_cons_of_neg (by
      intro he;exact hnd.1 (by rw [show g.name=mainS by simpa using he,<- hfn];exact List.mem_map_of_mem hf))]
     exact ih hnd.2 f hf hfn
 exact key p.procs hnd _ (List.getElem_mem hk) hn
theorem w7a {p:Pg} {b:Bool} {f:Pr} (h:p.procs.filter (fun f=>f.name==mainS)=[f]):onlyPg b p=⟨p.globals,[gOf b f]⟩:=by
 unfold onlyPg w8i onlyRaw;simp only;rw [h];rfl
mutual
theorem x6t (b:Bool) : ∀ t:S,XB (onS b t)=XB t
 | .mk id kind labels name proc x has args thn els=>by
   rw [onS];split
   ·rw [XB,XB,GU b thn,GU b els]
   ·rw [XB,XB,GU b thn,GU b els]
theorem GU (b:Bool) : ∀ l:List S,cntL (onL b l)=cntL l
 | []=>by rw [onL]
 | t::r=>by rw [onL,cntL,cntL,x6t b t,GU b r]
end
mutual
theorem w8y : ∀ (t:S) (n:Nat),XB (nmS n t)=XB t
 | .mk id kind labels name proc x has args thn els,n=>by rw [nmS,XB,XB,x0t thn,x0t els]
theorem x0t : ∀ (l:List S) (n:Nat),cntL (nmL n l)=cntL l
 | [],n=>by rw [nmL]
 | t::r,n=>by rw [nmL,cntL,cntL,w8y t,x0t r]
end
section
variable {p:Pg} {k:Nat} {f:Pr}
end
theorem q7v : ∀ (l:List Pr) {n:Nat} {m:Int},XP n l=some m -> ∀ (j:Nat) (f:Pr),l[j]? = some f -> ∃ m',VH 1 ((n+QD l j:Nat):Int) f.body=some m'
 | [],_,_,_,j,f,hj=>by simp at hj
 | g::r,n,m,h,j,f,hj=>by
   rw [XP] at h;cases hm:HA g<;>rw [hm] at h
   ·cases h
   simp only [cond_true] at h;split at h
   ·rename_i m1 h1;cases j with
    | zero =>
      cases hj;exact ⟨m1,h1⟩
    | succ j =>
      have h2:=YM _ _ g.body h1;have h':XP ((n+cntL g.body:Nat):Int) r=some m:=by rw [<- h,h2];rfl
      obtain ⟨m',h3⟩:=q7v r h' j f (by simpa using hj);exact ⟨m',by rw [<- h3,QD];congr 1;omega⟩
   ·cases h
theorem w7u {p:Pg} (h:KG p=true) {j:Nat} {f:Pr} (hj:p.procs[j]? = some f) : ∃ m,VH 1 ((QD p.procs j:Nat):Int) f.body=some m:=by
 unfold KG at h;simp only [Bool.and_eq_true] at h;obtain ⟨m,hm⟩:=Option.isSome_iff_exists.1 h.2;obtain ⟨m',h'⟩:=q7v p.procs (n:=0) hm j f hj;exact ⟨m',by rw [<- h'];congr 1;omega⟩
section
variable {p:Pg} {k:Nat} {f:Pr}
end
theorem FollowP.no {n:Nat} {nx:List (List Int)} {fm:List (List Bool)} (h:FollowP n nx fm) {a b:Nat} (hb:b<n) (ha:Avd nx n b a):bitF fm a b=false:=by
 have big : ∀ c,n<=c->bitF fm c b=false:=fun c hc=>by
  unfold bitF;rw [getD_eq_getElem?_getD (l:=fm),List.getElem?_eq_none (by rw [h.inv.len];exact hc)];rfl
 have last:n-1≠b->bitF fm (n-1) b=false:=fun hne=>by
  unfold bitF;rw [h.inv.last,q6l hb,decide_eq_false hne,decide_eq_false (by omega)];rfl
 induction ha with
 | exit he=>exact last (Ne.symm he)
 | @step a t hab ht _ ih =>
   rcases Nat.lt_trichotomy a (n-1) with hlt|heq|hgt
   ·have hbit:bitF fm a b=(rowF n nx fm a).getD b false:=by
     unfold bitF;rw [h.fix a hlt]
    rw [hbit,q2f hb,decide_eq_false hab];cases hs:JZ fm (nx.getD a []) b with
    | false=>rfl
    | true =>
      have:=JC.1 hs _ ht;rw [Int.toNat_natCast,ih] at this;cases this
   ·subst heq;exact last hab
   ·exact big a (by omega)
theorem FollowP.iff {n:Nat} {nx:List (List Int)} {fm:List (List Bool)} (h:FollowP n nx fm) {a b:Nat} (ha:a<n) (hb:b<n):bitF fm a b=true ↔ ¬Avd nx n b a:=by
 constructor
 ·intro h1 h2;rw [h.no hb h2] at h1;cases h1
 ·intro h1;cases hq:bitF fm a b with
  | true=>rfl
  | false=>exact absurd (h.inv.min a b ha hb hq) h1
theorem x3v : ∀ (l:List (Int×Int)) (rows:List (List Int)),(∀ t∈l,0<=t.1∧t.1<rows.length) -> ∀ (a:Nat) (x:Int),x∈(l.foldl nxE rows).getD a []↔x∈rows.getD a [] ∨ ∃ t∈l,t.1=a∧t.2=x
 | [],rows,_,a,x=>by simp
 | t::r,rows,h,a,x=>by
   obtain ⟨h1,h2⟩:=h t mem_cons_self;rw [List.foldl_cons,x3v r (nxE rows t) (fun u hu=>by rw [z6h];exact h u (mem_cons_of_mem _ hu))];have e:x∈(nxE rows t).getD a []↔x∈rows.getD a []∨(t.1=a∧t.2=x):=by
    unfold nxE;simp only [getD_eq_getElem?_getD,List.getElem?_set];by_cases he:t.1.toNat=a
    ·subst he;have e0:t.1=(t.1.toNat:Int):=by omega
     rw [if_pos rfl,if_pos (by omega)];simp only [Option.getD_some,List.mem_append,List.mem_singleton];constructor
     ·rintro (h3|h3)
      ·exact .inl h3
      ·exact .inr ⟨e0,h3.symm⟩
     ·rintro (h3|⟨_,h3⟩)
      ·exact .inl h3
      ·exact .inr h3.symm
    ·rw [if_neg he];constructor
     ·exact .inl
     ·rintro (h3|⟨h3,_⟩)
      ·exact h3
      ·omega
   rw [e];simp only [mem_cons,exists_eq_or_imp,or_assoc]
theorem q3c {n:Nat} {l:List (Int×Int)} (h : ∀ t∈l,0<=t.1∧t.1<n) {a:Nat} {x:Int}:x∈(YU n l).getD a [] ↔ ∃ t∈l,t.1=a∧t.2=x:=by
 unfold YU;rw [x3v l _ (by simpa using h)];have:(List.replicate n ([]:List Int)).getD a []=[]:=by
  rw [getD_eq_getElem?_getD,List.getElem?_replicate];split<;>rfl
 rw [this];simp
inductive AvdP (R:Int->Int->Prop) (b:Int):Int->Prop
 | exit (h:b ≠ -1):AvdP R b (-1)
 | step {a t:Int} (hab:a≠b) (hs:R a t) (h:AvdP R b t):AvdP R b a
mutual
theorem w4b : ∀ (t:S) {nest seen m:Int},x0m nest seen t=some m -> ∀ u∈flS t,oneOk u=true
 | .mk id kind labels name pr x has args thn els,nest,seen,m,h,u,hu=>by
   obtain ⟨h1,_,m1,h3,h4⟩:=FJ h;rw [flS] at hu;rcases List.mem_cons.1 hu with rfl|hu
   ·exact h1
   ·rcases List.mem_append.1 hu with hu|hu
    ·exact q2d thn h3 u hu
    ·exact q2d els h4 u hu
theorem q2d : ∀ (l:List S) {nest seen m:Int},VH nest seen l=some m -> ∀ u∈flL l,oneOk u=true
 | [],_,_,_,_,u,hu=>by rw [flL] at hu;cases hu
 | t::r,nest,seen,m,h,u,hu=>by
   obtain ⟨_,m1,h1,h2⟩:=JT h;rw [flL] at hu;rcases List.mem_append.1 hu with hu|hu
   ·exact w4b t h1 u hu
   ·exact q2d r h2 u hu
end
theorem z1q {p:Pg} {j:Nat} {f:Pr} (h:chkB p=true) (hj:p.procs[j]? = some f) {t:S} (ht:t∈flL f.body):OneF t:=by
 obtain ⟨m,hr⟩:=w7u (QH h).1 hj;exact q4w (q2d _ hr t ht)
section
variable {p:Pg} {j:Nat} {f:Pr}
def w2s (p:Pg) (j:Nat) (f:Pr):Int->Int->Prop:=stR (z0b (newWay p j f) f)
theorem z6z (h:chkB p=true) (hj:p.procs[j]? = some f):(z0b (newWay p j f) f).length<=200000:=by
 obtain ⟨_,_,hcn⟩:=WN h;obtain ⟨_,_,_,hlen,hsp⟩:=QU p;obtain ⟨_,_,hle,_⟩:=hsp j f hj;obtain ⟨h1,h2,_⟩:=GA (w6z h hj);have h3:=NC (l:=z0b (newWay p j f) f) (m:=((newWay p j f).real++(q0m (QD p.procs j) (cntL f.body)).map fun id=>⟨id,-1,3⟩)++[⟨0,-1,2⟩]++(itsOf p j f).flatMap fOf) (w2q h1) fun s hs=>by
  rcases List.mem_append.1 (h2 s hs) with h4|h4
  ·refine List.mem_append.2 (.inl ?_);rcases List.mem_append.1 h4 with h4|h4
   ·refine List.mem_append.2 (.inl ?_);rcases List.mem_append.1 h4 with h4|h4
    ·obtain ⟨l,hl,t,ht,hid,hk,rfl⟩:=(NV h hj).1 h4;have hb:=VD (QH h).1 hj ht;exact List.mem_append.2 (.inr (List.mem_map.2 ⟨t.id,z1u hb.1 hb.2,rfl⟩))
    ·exact List.mem_append.2 (.inl h4)
   ·exact List.mem_append.2 (.inr h4)
  ·exact List.mem_append.2 (.inr h4)
 have h4:=z1i hj hcn;have h5:(q0m (QD p.procs j) (cntL f.body)).length=cntL f.body:=by unfold q0m;simp
 have h6:=WF (g:=fOf) (c:=1) (itsOf p j f) fun it _=>w6e it;have h7:(itsOf p j f).length=cntL f.body:=XO _ _ _ _ _ _;simp only [length_append,length_map,List.length_singleton] at h3;omega
theorem x9k (h:chkB p=true) (hj:p.procs[j]? = some f) {a b:Int}:w2s p j f a b↔wR p j f a b∨(a=0∧b = -1)∨(∃ l∈trapsW (newWay p j f) f,∃ t∈flL f.body,t.id∈l∧t.kind=10∧a=t.id∧b = -1) ∨ ∃ it∈itsOf p j f,7<=it.s.kind∧a=it.s.id∧b=it.next:=by
 have hA:=GA (w6z h hj);have hraw : ∀ s,s∈HK (newWay p j f) f↔s∈WI (newWay p j f) f∨s∈(newWay p j f).real∨s=⟨0,-1,2⟩∨s∈(itsOf p j f).flatMap fOf:=fun s=>by
  have e:HK (newWay p j f) f=WI (newWay p j f) f++(newWay p j f).real++[⟨0,-1,2⟩]++(itsOf p j f).flatMap fOf:=rfl;rw [e];simp only [List.mem_append,List.mem_singleton,or_assoc]
 have hof : ∀ s∈HK (newWay p j f) f,w2s p j f s.src s.dst:=fun s hs=>by
  obtain ⟨s',h1,h2,h3,_⟩:=hA.2.2 s hs;exact ⟨s',h1,h2,h3⟩
 constructor
 ·rintro ⟨s,hs,rfl,rfl⟩;rcases (hraw s).1 (hA.2.1 s hs) with h1|h1|h1|h1
  ·obtain ⟨l,hl,t,ht,hid,hk,rfl⟩:=(NV h hj).1 h1;exact .inr (.inr (.inl ⟨l,hl,t,ht,hid,hk,rfl,rfl⟩))
  ·exact .inl ⟨s,h1,rfl,rfl⟩
  ·rw [h1];exact .inr (.inl ⟨rfl,rfl⟩)
  ·obtain ⟨it,hi,hs⟩:=List.mem_flatMap.1 h1;unfold fOf at hs;split at hs
   ·rw [List.mem_singleton.1 hs];exact .inr (.inr (.inr ⟨it,hi,by omega,rfl,rfl⟩))
   ·cases hs
 ·rintro (⟨s,hs,rfl,rfl⟩|⟨rfl,rfl⟩|⟨l,hl,t,ht,hid,hk,rfl,rfl⟩|⟨it,hi,hk,rfl,rfl⟩)
  ·exact hof s ((hraw s).2 (.inr (.inl hs)))
  ·exact hof ⟨0,-1,2⟩ ((hraw _).2 (.inr (.inr (.inl rfl))))
  ·exact hof ⟨t.id,-1,3⟩ ((hraw _).2 (.inl ((NV h hj).2 ⟨l,hl,t,ht,hid,hk,rfl⟩)))
  ·refine hof ⟨it.s.id,it.next,2⟩ ((hraw _).2 (.inr (.inr (.inr (List.mem_flatMap.2 ⟨it,hi,?_⟩)))));have hF:=(z1q h hj (YI hi)).hi;unfold fOf;rw [if_pos (by omega)];exact List.mem_singleton.2 rfl
theorem w3a (h:chkB p=true) (hj:p.procs[j]? = some f) {a b:Int} (hr:w2s p j f a b):plP p j f a∧plP p j f b∧a ≠ -1∧b≠0:=by
 have hst : ∀ t∈flL f.body,plP p j f t.id∧t.id ≠ -1:=fun t ht=>by
  have hb:=VD (QH h).1 hj ht;exact ⟨.inr (.inr hb),by omega⟩
 rcases (x9k h hj).1 hr with h1|⟨rfl,rfl⟩|⟨l,hl,t,ht,hid,hk,rfl,rfl⟩|⟨it,hi,hk,rfl,rfl⟩
 ·obtain ⟨h2,h3⟩:=w7d h hj h1;refine ⟨h2,h3,?_,fun e=>x0q h hj (e▸h1)⟩;obtain ⟨s,hs,rfl,rfl⟩:=h1;rcases w3e h hj (((WG h hj).2 s).1 hs) with h4|h4
  ·rw [h4];show (0:Int) ≠ -1;decide
  ·omega
 ·exact ⟨.inl rfl,.inr (.inl rfl),by decide,by decide⟩
 ·exact ⟨(hst t ht).1,.inr (.inl rfl),(hst t ht).2,by decide⟩
 ·have h1:=(BW hi).1;unfold okI at h1;refine ⟨(hst _ (YI hi)).1,?_,(hst _ (YI hi)).2,by omega⟩;rcases h1 with h1|h1
  ·exact .inr (.inl h1)
  ·exact .inr (.inr h1)
theorem z1t:YB (newWay p j f) f=(z0b (newWay p j f) f).map (ixP p j f (cntL f.body+2:Nat)):=rfl
theorem x0w (h:chkB p=true) (hj:p.procs[j]? = some f) : ∀ t∈YB (newWay p j f) f,(0<=t.1∧t.1<(cntL f.body+2:Nat))∧0<=t.2∧t.2<(cntL f.body+2:Nat):=fun t ht=>by
 rw [z1t] at ht;obtain ⟨s,hs,rfl⟩:=List.mem_map.1 ht;obtain ⟨h1,h2,_⟩:=w3a h hj ⟨s,hs,rfl,rfl⟩;exact ⟨ZF h1,ZF h2⟩
theorem w2i (h:chkB p=true) (hj:p.procs[j]? = some f) {a b:Int} (ha:plP p j f a) (hb:plP p j f b):(ixI p j f a,ixI p j f b)∈YB (newWay p j f) f↔w2s p j f a b:=by
 rw [z1t];constructor
 ·intro h1;obtain ⟨s,hs,he⟩:=List.mem_map.1 h1;obtain ⟨h2,h3,_⟩:=w3a h hj ⟨s,hs,rfl,rfl⟩;have e1:ixI p j f s.src=ixI p j f a:=congrArg Prod.fst he;have e2:ixI p j f s.dst=ixI p j f b:=congrArg Prod.snd he;exact ⟨s,hs,GT h2 ha e1,GT h3 hb e2⟩
 ·rintro ⟨s,hs,rfl,rfl⟩;exact List.mem_map.2 ⟨s,hs,rfl⟩
theorem q3f:ixI p j f (-1)=(cntL f.body+2:Nat)-1:=by
 unfold ixI VA;rw [if_neg (by decide),if_pos rfl]
theorem w8c (h:chkB p=true) (hj:p.procs[j]? = some f) {a b:Int} (ha:plP p j f a) (hb:plP p j f b):Avd (YU (cntL f.body+2) (YB (newWay p j f) f)) (cntL f.body+2) (ixI p j f b).toNat (ixI p j f a).toNat↔AvdP (w2s p j f) b a:=by
 have hin:=x0w h hj;have hrb:=ZF hb;constructor
 ·intro h1;generalize hx:(ixI p j f a).toNat=x at h1;induction h1 generalizing a with
  | exit hne =>
    have hra:=ZF ha;have:a = -1:=GT ha (.inr (.inl rfl)) (by rw [q3f];omega);subst this;refine .exit fun e => ?_;subst e;rw [q3f] at hne;omega
  | @step x t hne ht _ ih =>
    obtain ⟨u,hu,h2,h3⟩:=(q3c (fun t ht=>(hin t ht).1)).1 ht;obtain ⟨s,hs,he⟩:=List.mem_map.1 hu;obtain ⟨q2,q3,_⟩:=w3a h hj ⟨s,hs,rfl,rfl⟩;have e1:ixI p j f s.src=u.1:=congrArg Prod.fst he;have e2:ixI p j f s.dst=u.2:=congrArg Prod.snd he;have hra:=ZF ha;have e3:s.src=a:=GT q2 ha (by omega);refine .step (fun e => ?_) ⟨s,hs,e3,rfl⟩ (ih q3 (by omega));subst e;exact hne hx.symm
 ·intro h1;induction h1 with
  | exit hne =>
    rw [q3f,show (((cntL f.body+2:Nat):Int)-1).toNat=cntL f.body+2-1 by omega];refine .exit fun e=>hne (GT hb (.inr (.inl rfl)) (by rw [q3f];omega))
  | @step a t hne hs _ ih =>
    obtain ⟨q2,q3,_⟩:=w3a h hj hs;have hra:=ZF q2;have hrt:=ZF q3;refine .step (t:=(ixI p j f t).toNat) (fun e=>hne (GT q2 hb (by omega))) ?_ (ih q3);refine (q3c (fun t ht=>(hin t ht).1)).2 ⟨_,(w2i h hj q2 q3).2 hs,?_,?_⟩
    ·show ixI p j f a=_;omega
    ·show ixI p j f t=_;omega
def folP (p:Pg) (j:Nat) (f:Pr) (a b:Int):Prop := ¬AvdP (w2s p j f) b a
end
theorem KS {p:Pg} {j:Nat} {f:Pr} (h:chkB p=true) (hj:p.procs[j]? = some f) {fm:List (List Bool)} (hF:FollowP (cntL f.body+2) (YU (cntL f.body+2) (YB (newWay p j f) f)) fm) {a b:Int} (ha:plP p j f a) (hb:plP p j f b):bitF fm (ixI p j f a).toNat (ixI p j f b).toNat=true↔folP p j f a b:=by
 have hra:=ZF ha;have hrb:=ZF hb;unfold folP;rw [hF.iff (by omega) (by omega),w8c h hj ha hb]
def z4j (k:Int) (x:RI):Bool:=decide (k=0)||decide (x.s.kind=k)
def MU (p:Pg) (k:Int):List Int:=((allR p).filter (z4j k)).map fun x=>x.s.id
theorem q1s (p:Pg) (k:Int) (hl:(allR p).length<=1000):SpecP Tryz.prog 60 [.agg p.cells,.int .i64 k] (fun r=>r=QA (MU p k)):=by
 refine sB NT Tryz.func60 rfl Tryz.call60 ?_;conv=>whnf
 have hrl:=x4s (allR p);repeat' ((first|(refine iM fun _=>?_)|refine cP (q1w _) ?_);conv=>whnf)
 refine LoopK.inv QV (fun x:Nat×List Int=>⟨[(1,.p (.int .i64 k)),(5,.hd 0 0 x.2.length),(9,.p (v2h (allR p))),(10,.p (.int .i64 ((allR p).map fun i=>AV.agg i.cells).length)),(11,.p (.int .i64 x.1))],[(0,.own 3 1 (x.2.map (.int .i64)))]⟩) (fun x=>x.1<=(allR p).length∧x.2.length<=x.1∧x.2++(((allR p).drop x.1).filter (z4j k)).map (fun y=>y.s.id)=MU p k) (fun x=>(allR p).length-x.1) (0,[])
  (Le.mk [(0,.own 3 1 [])] (by simp [Chunk.new0];rfl) (by simp) (by simp) (.cons (.refl _) (.cons (.nil mem_cons_self) (.cons (.refl _) (.cons (.refl _) (.cons (.refl _) .nil))))) (.new mem_cons_self .nil)) ⟨zero_le _,Nat.le_refl _,rfl⟩ ?_
 rintro ⟨j,o⟩ ⟨h2,h4,h3⟩;simp only at h2 h3 h4 ⊢;generalize hL:allR p=L at h2 h3 hrl hl ⊢;rcases Nat.lt_or_ge j L.length with hj|hj
 ·rw [List.drop_eq_getElem_cons hj] at h3;conv=>whnf
  repeat' (first|((first|refine And.intro rfl ?_|refine aD ?_|refine bP ?_|(refine iA fun _=>?_)|refine wI ?_|refine ZU (by simp) (by simp;omega) ?_);conv=>whnf)|(apply bD<;>intro _<;>first|omega|conv=>whnf))
  all_goals first
   | (have e:z4j k L[j]=true:=by unfold z4j;simp [*];done
      rw [List.filter_cons_of_pos e,map_cons] at h3;exact ⟨(j+1,o++[L[j].s.id]),⟨hj,by simp;omega,by rw [List.append_assoc];exact h3⟩,by simp only;omega,Le.of_eq (by simp only [length_append,List.map_append,length_map];rfl)⟩)
   | (have e:z4j k L[j]=false:=by unfold z4j;simp [*];done
      rw [List.filter_cons_of_neg (fun hh=>by rw [e] at hh;cases hh)] at h3;exact ⟨(j+1,o),⟨hj,by simp only;omega,h3⟩,by simp only;omega,Le.of_eq rfl⟩)
 ·rw [List.drop_eq_nil_of_le hj] at h3;simp only [List.filter_nil,List.map_nil,List.append_nil] at h3;conv=>whnf
  repeat' (apply bD<;>intro _<;>first|omega|conv=>whnf)
  all_goals first
   | exact ⟨_,.hd rfl (by simp),by rw [<- h3];rfl⟩
theorem z9j {n:Nat} {nx:List (List Int)} (hnx : ∀ a,∀ x∈nx.getD a [],0<=x∧x<(n:Int)) : ∃ fm,FollowP n nx fm:=by
 let F:Nat->Nat->Bool:=fun a b => @decide (¬Avd nx n b a) (Classical.propDecidable _);have hF : ∀ a b,F a b=true ↔ ¬Avd nx n b a:=fun a b=>by simp only [F];exact @decide_eq_true_iff _ (Classical.propDecidable _)
 have hrow : ∀ a,a<n->((List.range n).map fun a=>(List.range n).map fun b=>F a b).getD a []=(List.range n).map fun b=>F a b:=fun a ha=>by
  rw [getD_eq_getElem?_getD,List.getElem?_map,List.getElem?_range ha];rfl
 have hbit : ∀ a b,a<n->b<n->bitF ((List.range n).map fun a=>(List.range n).map fun b=>F a b) a b=F a b:=fun a b ha hb=>by
  unfold bitF;rw [hrow a ha,getD_eq_getElem?_getD,List.getElem?_map,List.getElem?_range hb];rfl
 have hfix : ∀ a b,a<n-1->b<n->F a b=(rowF n nx ((List.range n).map fun a=>(List.range n).map fun b=>F a b) a).getD b false:=fun a b ha hb=>by
  rw [q2f hb,Bool.eq_iff_iff,hF,Bool.or_eq_true,decide_eq_true_eq,JC];constructor
  ·intro h;by_cases hab:a=b
   ·exact .inl hab
   ·refine .inr fun t ht => ?_;have hr:=hnx a t ht;rw [hbit _ _ (by omega) hb,hF];exact fun h2=>h (.step hab (by rw [Int.toNat_of_nonneg hr.1];exact ht) h2)
  ·rintro h h2;cases h2 with
   | exit hne=>omega
   | @step _ t hab ht h3 =>
     have hr:=hnx a _ ht;rcases h with h|h
     ·exact hab h
     ·have h4:=h _ ht;rw [Int.toNat_natCast,hbit _ _ (by omega) hb,hF] at h4;exact h4 h3
 refine ⟨(List.range n).map fun a=>(List.range n).map fun b=>F a b,⟨by simp,fun r hr => ?_,?_,fun a b ha hb h => ?_,fun a b ha hb h => ?_⟩,fun a ha => ?_⟩
 ·obtain ⟨a,_,rfl⟩:=List.mem_map.1 hr;simp
 ·cases n with
  | zero=>rfl
  | succ n =>
    rw [hrow _ (by omega)];unfold filRow;refine List.map_congr_left fun b hb => ?_;rw [List.mem_range] at hb;rw [Bool.eq_iff_iff,hF,Bool.or_eq_true,decide_eq_true_eq,decide_eq_true_eq];constructor
    ·intro h;refine .inr (Classical.byContradiction fun he=>h ?_);exact .exit fun e=>he e.symm
    ·rintro (h|h) h2
     ·omega
     ·cases h2 with
      | exit hne=>exact hne h.symm
      | step hab _ _=>exact hab h
 ·rw [hbit a b (by omega) hb,hfix a b ha hb];exact h
 ·rw [hbit a b ha hb] at h;refine Classical.byContradiction fun h2 => ?_;rw [(hF a b).2 h2] at h;cases h
 ·rw [hrow a (by omega)];refine List.ext_getElem (by rw [PB];simp) fun b h1 h2 => ?_;have hb:b<n:=by simpa using h1
  have h3:=hfix a b ha hb;rw [getD_eq_getElem?_getD,List.getElem?_eq_getElem h2] at h3;simp only [List.getElem_map,List.getElem_range];exact h3
theorem z6d {n:Nat} {l:List (Int×Int)} (h : ∀ t∈l,(0<=t.1∧t.1<n)∧0<=t.2∧t.2<n) : ∀ a,∀ x∈(YU n l).getD a [],0<=x∧x<(n:Int):=fun a x hx=>by
 obtain ⟨t,ht,_,rfl⟩:=(q3c fun t ht=>(h t ht).1).1 hx;exact (h t ht).2
namespace Own
end Own
open Go.Proofs
theorem x8g {R:Int->Int->Prop} {b:Int} : ¬AvdP R b b:=fun h=>by
 cases h with
 | exit h=>exact h rfl
 | step h _ _=>exact h rfl
def rng (a b:Int) (v:Int):Prop:=a<=v∧v<=b
def Swapd (row row':List Int) (a b n:Nat):Prop := ∃ P X Q Y S,X.length=Y.length∧X.length=n∧a=P.length∧b=P.length+X.length+Q.length∧row=P++X++Q++Y++S∧row'=P++Y++Q++X++S
theorem Swapd.len {row row':List Int} {a b n:Nat} (h:Swapd row row' a b n):row'.length=row.length:=by
 obtain ⟨P,X,Q,Y,S,h1,h2,h3,h4,rfl,rfl⟩:=h;simp only [length_append];omega
theorem JW (row row':List Int) (a b n N:Nat) (h:Swapd row row' a b n) (hN:N=row.length) (c:AV) (hl:row.length<=1000000) :
  SpecH Tryz.prog 366 [.hd 1000 0 N,.p (.int .i64 a),.p (.int .i64 b),.p (.int .i64 n),.p c] (JH row) (fun r H=>r = .p (.tup [])∧H=JH row'):=by
 obtain ⟨P,X,Q,Y,S,h1,h2,h3,h4,h5,h6⟩:=h;subst h2;have hr:row=HI P X Q Y S 0:=by rw [h5];unfold HI;simp
 have hr':row'=HI P X Q Y S X.length:=by
  rw [h6];unfold HI;rw [List.take_of_length_le (by omega:Y.length<=X.length),List.drop_of_length_le (Nat.le_refl _),List.take_of_length_le (Nat.le_refl _),List.drop_of_length_le (by omega:Y.length<=X.length)];simp
 have hlen:N=P.length+X.length+Q.length+X.length+S.length:=by rw [hN,h5];simp only [length_append];omega
 have hll:P.length+X.length+Q.length+Y.length+S.length<=1000000:=by rw [h5] at hl;simp only [length_append] at hl;omega
 have:=UP P X Q Y S h1 c hll;rw [hr,hr',hlen,h3,h4];exact this
structure RotI (W row:List Int) (m i j:Nat):Prop where
 i0:0<i
 j0:0<j
 ex : ∃ P X Y S,X.length=i∧Y.length=j∧P.length+i=m∧row=P++X++Y++S∧W=P++Y++X++S
theorem RotI.len {W row:List Int} {m i j:Nat} (h:RotI W row m i j):i<=m∧m+j<=row.length∧row.length=W.length:=by
 obtain ⟨P,X,Y,S,h1,h2,h3,rfl,rfl⟩:=h.ex;simp only [length_append];omega
theorem RotI.gt {W row:List Int} {m i j:Nat} (h:RotI W row m i j) (hg:j<i) : ∃ row',Swapd row row' (m-i) m j∧RotI W row' m (i-j) j:=by
 obtain ⟨P,X,Y,S,h1,h2,h3,h4,h5⟩:=h.ex;have e:X=X.take j++X.drop j:=(List.take_append_drop j X).symm;have l1:(X.take j).length=j:=by rw [length_take];omega
 have l2:(X.drop j).length=i-j:=by rw [length_drop];omega
 refine ⟨P++Y++X.drop j++X.take j++S,⟨P,X.take j,X.drop j,Y,S,by omega,l1,by omega,by omega,?_,rfl⟩,⟨by omega,h.j0,P++Y,X.drop j,X.take j,S,l2,l1,by rw [length_append];omega,rfl,?_⟩⟩
 ·rw [h4];conv=>lhs;rw [e]
  simp
 ·rw [h5];conv=>lhs;rw [e]
  simp
theorem RotI.lt {W row:List Int} {m i j:Nat} (h:RotI W row m i j) (hg:i<j) : ∃ row',Swapd row row' (m-i) (m+j-i) i∧RotI W row' m i (j-i):=by
 obtain ⟨P,X,Y,S,h1,h2,h3,h4,h5⟩:=h.ex;have e:Y=Y.take (j-i)++Y.drop (j-i):=(List.take_append_drop (j-i) Y).symm;have l1:(Y.take (j-i)).length=j-i:=by rw [length_take];omega
 have l2:(Y.drop (j-i)).length=i:=by rw [length_drop];omega
 refine ⟨P++Y.drop (j-i)++Y.take (j-i)++X++S,⟨P,X,Y.take (j-i),Y.drop (j-i),S,by omega,h1,by omega,by omega,?_,rfl⟩,⟨h.i0,by omega,P,Y.drop (j-i),Y.take (j-i),X++S,l2,l1,by omega,by simp,?_⟩⟩
 ·rw [h4];conv=>lhs;rw [e]
  simp
 ·rw [h5];conv=>lhs;rw [e]
  simp
theorem RotI.eq {W row:List Int} {m i:Nat} (h:RotI W row m i i):Swapd row W (m-i) m i:=by
 obtain ⟨P,X,Y,S,h1,h2,h3,h4,h5⟩:=h.ex;exact ⟨P,X,[],Y,S,by omega,h1,by omega,by simp;omega,by rw [h4];simp,by rw [h5];simp⟩
theorem YE (W row:List Int) (a m b N:Nat) (h:RotI W row m (m-a) (b-m)) (ha:a<=m) (hb:m<=b) (hN:N=row.length) (c:AV) (hl:row.length<=1000000):SpecH Tryz.prog 343 [.hd 1000 0 N,.p (.int .i64 a),.p (.int .i64 m),.p (.int .i64 b),.p c] (JH row) (fun r H=>r = .p (.tup [])∧H=JH W):=by
 refine sH UE Tryz.func343 rfl Tryz.call343 ?_;conv=>whnf
 have hl0:=h.len;repeat' (refine wI ?_;conv=>whnf)
 refine LoopK.inv QV (fun x:List Int×Nat×Nat=>⟨[(0,.hd 1000 0 N),(2,.p (.int .i64 m)),(4,.p c),(10,.p (.int .i64 x.2.1)),(11,.p (.int .i64 x.2.2))],JH x.1⟩) (fun x=>RotI W x.1 m x.2.1 x.2.2∧x.1.length=N) (fun x=>x.2.1+x.2.2) (row,m-a,b-m)
  (Le.of_eq (by simp only;rw [show ((m-a:Nat):Int)=(m:Int)-a by omega,show ((b-m:Nat):Int)=(b:Int)-m by omega];rfl)) ⟨h,hN.symm⟩ ?_
 rintro ⟨rw',i,j⟩ ⟨h1,h2⟩;simp only at h1 h2 ⊢;have hln:=h1.len;rcases Nat.lt_trichotomy i j with hij|hij|hij
 ·obtain ⟨rw2,h3,h4⟩:=h1.lt hij;have hS:=JW rw' rw2 _ _ _ N h3 h2.symm c (by omega);have hl3:=h3.len;conv=>whnf
  repeat' (first|((first|refine wI ?_|(refine CallK.heap [(1000,1000)] 5 (ArgsH.cons (LSub.refl _) (ArgsH.cons (LSub.p (Sub.int (by omega))) (ArgsH.cons (LSub.p (Sub.int (by omega))) (ArgsH.cons (LSub.p (Sub.int (by omega))) (ArgsH.cons (LSub.refl _) ArgsH.nil))))) (by refine BlksH.cons (j:=1000) rfl rfl ?_ ?_;exact CSub.refl _;exact BlksH.nil) hS rfl rfl ?_;rintro l' H' ⟨rfl,rfl⟩));conv=>whnf)|(apply bD<;>intro _<;>first|omega|conv=>whnf)|(apply bE<;>intro _<;>first|omega|conv=>whnf))
  all_goals first
   | (exfalso;omega)
   | exact ⟨(rw2,i,j-i),⟨h4,by simp only;omega⟩,by simp only;have:=h1.i0;omega,Le.of_eq (by simp only;rw [show ((j-i:Nat):Int)=(j:Int)-i by omega];rfl)⟩
   | skip
 ·subst hij;have h3:=h1.eq;have hS:=JW rw' W _ _ _ N h3 h2.symm c (by omega);conv=>whnf
  repeat' (first|((first|refine wI ?_|(refine CallK.heap [(1000,1000)] 5 (ArgsH.cons (LSub.refl _) (ArgsH.cons (LSub.p (Sub.int (by omega))) (ArgsH.cons (LSub.p (Sub.int (by omega))) (ArgsH.cons (LSub.p (Sub.int (by omega))) (ArgsH.cons (LSub.refl _) ArgsH.nil))))) (by refine BlksH.cons (j:=1000) rfl rfl ?_ ?_;exact CSub.refl _;exact BlksH.nil) hS rfl rfl ?_;rintro l' H' ⟨rfl,rfl⟩));conv=>whnf)|(apply bE<;>intro _<;>first|omega|conv=>whnf))
  all_goals first
   | (exfalso;omega)
   | exact ⟨_,LSub.refl _,rfl,rfl⟩
   | skip
 ·obtain ⟨rw2,h3,h4⟩:=h1.gt hij;have hS:=JW rw' rw2 _ _ _ N h3 h2.symm c (by omega);have hl3:=h3.len;conv=>whnf
  repeat' (first|((first|refine wI ?_|(refine CallK.heap [(1000,1000)] 5 (ArgsH.cons (LSub.refl _) (ArgsH.cons (LSub.p (Sub.int (by omega))) (ArgsH.cons (LSub.p (Sub.int (by omega))) (ArgsH.cons (LSub.p (Sub.int (by omega))) (ArgsH.cons (LSub.refl _) ArgsH.nil))))) (by refine BlksH.cons (j:=1000) rfl rfl ?_ ?_;exact CSub.refl _;exact BlksH.nil) hS rfl rfl ?_;rintro l' H' ⟨rfl,rfl⟩));conv=>whnf)|(apply bD<;>intro _<;>first|omega|conv=>whnf)|(apply bE<;>intro _<;>first|omega|conv=>whnf))
  all_goals first
   | (exfalso;omega)
   | exact ⟨(rw2,i-j,j),⟨h4,by simp only;omega⟩,by simp only;have:=h1.j0;omega,Le.of_eq (by simp only;rw [show ((i-j:Nat):Int)=(i:Int)-j by omega];rfl)⟩
   | skip
end Go.Ab
