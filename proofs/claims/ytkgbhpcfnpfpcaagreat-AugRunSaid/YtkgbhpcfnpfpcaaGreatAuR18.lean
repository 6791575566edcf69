/- aug: what a procedure's traps are, by its places. -/
import Derived.Test.YtkgbhpcfnpfpcaaGreatAuR5
import Derived.Test.YtkgbhpcfnpfpcaaGreatAuR9
import Derived.Test.YtkgbhpcfnpfpcaaGreatAuR10
import Derived.Test.YtkgbhpcfnpfpcaaGreatAuR13
import Derived.Test.YtkgbhpcfnpfpcaaGreatAuR16
import Derived.Test.YtkgbhpcfnpfpcaaGreatAuR17
set_option linter.unusedSimpArgs false
set_option linter.unusedVariables false
set_option maxRecDepth 100000
set_option maxHeartbeats 16000000
open List (length_append length_cons length_map length_nil map_cons mem_cons_of_mem mem_cons_self)
open Nat (zero_le)
namespace Go.Ab
open Go.Proofs
section
variable {p:Pg} {j:Nat} {f:Pr}
theorem DU {i:Int} (h:0<=i∧i<(QY f.body+2:Nat)):plP p j f (XH p j (QY f.body+2:Nat) i)∧ixI p j f (XH p j (QY f.body+2:Nat) i)=i:=by
 unfold XH ixI UO plP loI hiI;constructor
 ·(repeat' split)<;>omega
 ·(repeat' split)<;>omega
theorem z4y {x:Int} (h:plP p j f x):XH p j (QY f.body+2:Nat) (ixI p j f x)=x:=by
 have h1:=DU (p:=p) (j:=j) (f:=f) (HQ h);exact x0h h1.1 h h1.2
theorem q6c:prsW (QZ p j f) f=(QZ p j f).real.map (ixP p j f (QY f.body+2:Nat)):=rfl
theorem z6b (h:ZB p=true) (hj:p.procs[j]? = some f) : ∀ t∈prsW (QZ p j f) f,(0<=t.1∧t.1<(QY f.body+2:Nat))∧0<=t.2∧t.2<(QY f.body+2:Nat):=fun t ht=>by
 rw [q6c] at ht;obtain ⟨s,hs,rfl⟩:=List.mem_map.1 ht;obtain ⟨h1,h2⟩:=WE h hj s hs;exact ⟨HQ h1,HQ h2⟩
def wE (p:Pg) (j:Nat) (f:Pr):Int->Int->Prop:=rowE (QI (QY f.body+2) (prsW (QZ p j f) f)).1
def wR (p:Pg) (j:Nat) (f:Pr):Int->Int->Prop:=stR (QZ p j f).real
theorem w0q (h:ZB p=true) (hj:p.procs[j]? = some f) {i k:Int}:wE p j f i k ↔ ∃ a b,wR p j f a b∧ixI p j f a=i∧ixI p j f b=k:=by
 unfold wE wR;rw [x6g];constructor
 ·rintro ⟨h1,_,_⟩;rw [q6c] at h1;obtain ⟨s,hs,he⟩:=List.mem_map.1 h1;exact ⟨s.src,s.dst,⟨s,hs,rfl,rfl⟩,congrArg Prod.fst he,congrArg Prod.snd he⟩
 ·rintro ⟨a,b,⟨s,hs,rfl,rfl⟩,rfl,rfl⟩;obtain ⟨h1,h2⟩:=WE h hj s hs;exact ⟨List.mem_map.2 ⟨s,hs,rfl⟩,q6s (HQ h1),q6s (HQ h2)⟩
theorem w1h (h:ZB p=true) (hj:p.procs[j]? = some f) {a b:Int} (hr:wR p j f a b):plP p j f a∧plP p j f b:=by
 obtain ⟨s,hs,rfl,rfl⟩:=hr;exact WE h hj s hs
theorem z6j (h:ZB p=true) (hj:p.procs[j]? = some f) {a b:Int} (ha:plP p j f a) (hb:plP p j f b):Rch (wE p j f) (ixI p j f a) (ixI p j f b)↔Rch (wR p j f) a b:=by
 constructor
 ·intro hr;obtain ⟨c,h1,h2,h3⟩:=hr.closed (S:=fun k => ∃ c,plP p j f c∧ixI p j f c=k∧Rch (wR p j f) a c) (by
   rintro i k ⟨c,h1,h2,h3⟩ h4;obtain ⟨x,y,h5,h6,h7⟩:=(w0q h hj).1 h4;have h8:=w1h h hj h5;have:x=c:=x0h h8.1 h1 (by rw [h6,h2]);subst this;exact ⟨y,h8.2,h7,.tail h3 h5⟩) ⟨a,ha,rfl,.refl⟩
  rw [<- x0h h1 hb h2];exact h3
 ·intro hr;exact (hr.closed (S:=fun c=>plP p j f c∧Rch (wE p j f) (ixI p j f a) (ixI p j f c)) (fun x y ⟨h1,h2⟩ h3=>⟨(w1h h hj h3).2,.tail h2 ((w0q h hj).2 ⟨x,y,h3,rfl,rfl⟩)⟩) ⟨ha,.refl⟩).2
theorem z6k (h:ZB p=true) (hj:p.procs[j]? = some f) {a b:Int} (ha:plP p j f a) (hb:plP p j f b):sccP (wE p j f) (ixI p j f a) (ixI p j f b)↔sccP (wR p j f) a b:=by
 unfold sccP;rw [z6j h hj ha hb,z6j h hj hb ha]
def YK (p:Pg) (j:Nat) (f:Pr) (i:Int):Int:=(ZG (QZ p j f) f).getD i.toNat 0
theorem LK:ZG (QZ p j f) f=BI (QY f.body+2) (QI (QY f.body+2) (prsW (QZ p j f) f)).1:=rfl
theorem DR {i:Int} (hi:0<=i∧i<(QY f.body+2:Nat)):MinP (wE p j f) i (YK p j f i):=by
 unfold YK;rw [LK];exact BN (YO _ _).1 hi
theorem x3l {k:Nat} (hk:k<QY f.body+2):0<=(ZG (QZ p j f) f).getD k 0∧(ZG (QZ p j f) f).getD k 0<(QY f.body+2:Nat):=by
 rw [LK];exact x4q (YO _ _).1 hk
theorem q5b:(ZG (QZ p j f) f).length=QY f.body+2:=by rw [LK,KA]
theorem MinP.same {E:Int->Int->Prop} {x y v:Int} (h:MinP E x v) (hs:sccP E x y):MinP E y v:=⟨hs.symm.trans h.scc,fun z hz=>h.le z (hs.trans hz)⟩
theorem z5u {i k:Int} (hi:0<=i∧i<(QY f.body+2:Nat)) (hk:0<=k∧k<(QY f.body+2:Nat)):YK p j f i=YK p j f k↔sccP (wE p j f) i k:=by
 have h1:=DR (p:=p) (j:=j) hi;have h2:=DR (p:=p) (j:=j) hk;constructor
 ·intro he;rw [<- he] at h2;exact h1.scc.trans h2.scc.symm
 ·intro hs;exact (h1.same hs).uniq h2
theorem YV (h:ZB p=true) (hj:p.procs[j]? = some f) {a b:Int} (ha:plP p j f a) (hb:plP p j f b):YK p j f (ixI p j f a)=YK p j f (ixI p j f b)↔sccP (wR p j f) a b:=by
 rw [z5u (HQ ha) (HQ hb),z6k h hj ha hb]
structure TrapP (p:Pg) (j:Nat) (f:Pr) (l:List Int) (r:Int):Prop where
 pl:plP p j f r
 mem : ∀ b,b∈l↔plP p j f b∧sccP (wR p j f) r b
 cl : ∀ b c,sccP (wR p j f) r b->wR p j f b c->sccP (wR p j f) r c
 n0 : ¬sccP (wR p j f) r 0
 nx : ¬sccP (wR p j f) r (-1)
theorem q1g {plc:Int->Int} {part:List Int} {i q:Nat} {b:Int}:b∈YA plc part i q ↔ ∃ k:Nat,k<q∧part.getD k 0=i∧plc k=b:=by
 unfold YA;constructor
 ·intro h;obtain ⟨k,hk,rfl⟩:=List.mem_map.1 h;obtain ⟨h1,h2⟩:=List.mem_filter.1 hk;exact ⟨k,List.mem_range.1 h1,beq_iff_eq.1 h2,rfl⟩
 ·rintro ⟨k,h1,h2,rfl⟩;exact List.mem_map.2 ⟨k,List.mem_filter.2 ⟨List.mem_range.2 h1,beq_iff_eq.2 h2⟩,rfl⟩
theorem ix0:ixI p j f 0=0:=by unfold ixI UO;rw [if_pos rfl]
theorem ix1:ixI p j f (-1)=((QY f.body+2:Nat):Int)-1:=by unfold ixI UO;rw [if_neg (by omega),if_pos rfl]
theorem pl0:plP p j f 0 := .inl rfl
theorem pl1:plP p j f (-1) := .inr (.inl rfl)
theorem FL (k:Nat):(ZG (QZ p j f) f).getD k 0=YK p j f k:=by
 unfold YK;rw [Int.toNat_natCast]
theorem x9d (h:ZB p=true) (hj:p.procs[j]? = some f) {i:Nat} (hi:i<QY f.body+2):(MF (QY f.body+2) (ZG (QZ p j f) f) (prsW (QZ p j f) f)).getD i false=true ↔
  YK p j f (ixI p j f 0)=i∨YK p j f (ixI p j f (-1))=i ∨ ∃ a b,wR p j f a b ∧ ¬sccP (wR p j f) a b∧YK p j f (ixI p j f a)=i:=by
 rw [z5j (by omega) (fun k hk=>x3l hk) hi fun t ht=>(z6b h hj t ht).1,ix0,ix1];have e1:(ZG (QZ p j f) f).getD (QY f.body+2-1) 0=YK p j f (((QY f.body+2:Nat):Int)-1):=by
  unfold YK;congr 1;omega
 have e0:(ZG (QZ p j f) f).getD 0 0=YK p j f 0:=rfl;rw [e0,e1];refine or_congr Iff.rfl (or_congr Iff.rfl ?_);constructor
 ·rintro ⟨t,ht,h1,h2⟩;rw [q6c] at ht;obtain ⟨s,hs,rfl⟩:=List.mem_map.1 ht;obtain ⟨h3,h4⟩:=WE h hj s hs;exact ⟨s.src,s.dst,⟨s,hs,rfl,rfl⟩,fun hsc=>h1 ((YV h hj h3 h4).2 hsc),h2⟩
 ·rintro ⟨a,b,⟨s,hs,rfl,rfl⟩,h1,h2⟩;obtain ⟨h3,h4⟩:=WE h hj s hs;exact ⟨ixP p j f (QY f.body+2:Nat) s,by rw [q6c];exact List.mem_map.2 ⟨s,hs,rfl⟩,fun he=>h1 ((YV h hj h3 h4).1 he),h2⟩
theorem DG {l:List Int}:l∈trapsW (QZ p j f) f ↔ ∃ i:Nat,i<QY f.body+2∧YK p j f i=i∧(MF (QY f.body+2) (ZG (QZ p j f) f) (prsW (QZ p j f) f)).getD i false=false∧l=YA (XH p j (QY f.body+2:Nat)) (ZG (QZ p j f) f) i (QY f.body+2):=by
 unfold trapsW DE;rw [q5b];constructor
 ·intro hl;obtain ⟨i,hi,rfl⟩:=List.mem_map.1 hl;obtain ⟨h1,h2⟩:=List.mem_filter.1 hi;unfold FM at h2;rw [Bool.and_eq_true,beq_iff_eq,Bool.not_eq_true',FL] at h2;exact ⟨i,List.mem_range.1 h1,h2.1,h2.2,rfl⟩
 ·rintro ⟨i,h1,h2,h3,rfl⟩;refine List.mem_map.2 ⟨i,List.mem_filter.2 ⟨List.mem_range.2 h1,?_⟩,rfl⟩;unfold FM;rw [Bool.and_eq_true,beq_iff_eq,Bool.not_eq_true',FL];exact ⟨h2,h3⟩
theorem x3g (h:ZB p=true) (hj:p.procs[j]? = some f) {i:Nat} (hi:i<QY f.body+2) (hp:YK p j f i=i) (b:Int) :
  b∈YA (XH p j (QY f.body+2:Nat)) (ZG (QZ p j f) f) i (QY f.body+2)↔plP p j f b∧sccP (wR p j f) (XH p j (QY f.body+2:Nat) i) b:=by
 obtain ⟨h1,h2⟩:=DU (p:=p) (j:=j) (f:=f) (i:=i) (by omega);rw [q1g];constructor
 ·rintro ⟨k,h3,h4,rfl⟩;obtain ⟨h5,h6⟩:=DU (p:=p) (j:=j) (f:=f) (i:=k) (by omega);refine ⟨h5,(YV h hj h1 h5).1 ?_⟩;rw [h2,h6,hp,<- FL,h4]
 ·rintro ⟨h3,h4⟩;have h5:=HQ h3;refine ⟨(ixI p j f b).toNat,by omega,?_,?_⟩
  ·rw [FL,show (((ixI p j f b).toNat:Nat):Int)=ixI p j f b by omega,<- (YV h hj h1 h3).2 h4,h2,hp]
  ·rw [show (((ixI p j f b).toNat:Nat):Int)=ixI p j f b by omega,z4y h3]
theorem q7e (h:ZB p=true) (hj:p.procs[j]? = some f) {l:List Int} (hl:l∈trapsW (QZ p j f) f) : ∃ r,TrapP p j f l r:=by
 obtain ⟨i,hi,hp,ho,rfl⟩:=DG.1 hl;obtain ⟨h1,h2⟩:=DU (p:=p) (j:=j) (f:=f) (i:=i) (by omega);have ho2 : ¬_:=fun hx=>by
  have:=(x9d h hj hi).2 hx;rw [ho] at this;cases this
 have hpr:YK p j f (ixI p j f (XH p j (QY f.body+2:Nat) i))=i:=by rw [h2,hp]
 refine ⟨_,h1,x3g h hj hi hp,fun b c hb hbc => ?_,fun hs=>ho2 (.inl ?_),fun hs=>ho2 (.inr (.inl ?_))⟩
 ·have h3:=w1h h hj hbc;by_cases hsc:sccP (wR p j f) b c
  ·exact hb.trans hsc
  ·refine absurd (.inr (.inr ⟨b,c,hbc,hsc,?_⟩)) ho2;rw [<- (YV h hj h1 h3.1).2 hb,hpr]
 ·rw [<- (YV h hj h1 pl0).2 hs,hpr]
 ·rw [<- (YV h hj h1 pl1).2 hs,hpr]
theorem z9q (h:ZB p=true) (hj:p.procs[j]? = some f) {r:Int} (hr:plP p j f r) (hcl : ∀ b c,sccP (wR p j f) r b->wR p j f b c->sccP (wR p j f) r c) (h0 : ¬sccP (wR p j f) r 0) (hx : ¬sccP (wR p j f) r (-1)) :
  ∃ l∈trapsW (QZ p j f) f,∀ b,b∈l↔plP p j f b∧sccP (wR p j f) r b:=by
 have h1:=HQ hr;have h2:=DR (p:=p) (j:=j) (f:=f) h1;have h3:=x3l (p:=p) (j:=j) (f:=f) (k:=(ixI p j f r).toNat) (by omega);have h4:0<=YK p j f (ixI p j f r)∧YK p j f (ixI p j f r)<(QY f.body+2:Nat):=h3;generalize hi:YK p j f (ixI p j f r)=v at h2 h4;obtain ⟨h5,h6⟩:=DU (p:=p) (j:=j) (f:=f) (i:=v) h4;have hs:sccP (wR p j f) r (XH p j (QY f.body+2:Nat) v):=(z6k h hj hr h5).1 (by rw [h6];exact h2.scc);have hpv:YK p j f v=v:=(DR (p:=p) (j:=j) (f:=f) h4).uniq (h2.same h2.scc);have ev:((v.toNat:Nat):Int)=v:=by omega
 refine ⟨_,DG.2 ⟨v.toNat,by omega,by rw [ev];exact hpv,?_,rfl⟩,fun b => ?_⟩
 ·cases ho:(MF (QY f.body+2) (ZG (QZ p j f) f) (prsW (QZ p j f) f)).getD v.toNat false with
  | false=>rfl
  | true =>
    have:=(x9d h hj (by omega)).1 ho;rw [ev,<- hi] at this;rcases this with h7|h7|⟨a,b,h7,h8,h9⟩
    ·exact absurd ((YV h hj hr pl0).1 h7.symm) h0
    ·exact absurd ((YV h hj hr pl1).1 h7.symm) hx
    ·have h10:=w1h h hj h7;have h11:=(YV h hj hr h10.1).1 h9.symm;exact absurd (h11.symm.trans (hcl a b h11 h7)) h8
 ·rw [x3g h hj (by omega) (by rw [ev];exact hpv),ev];exact and_congr Iff.rfl ⟨fun h7=>hs.trans h7,fun h7=>hs.symm.trans h7⟩
end
theorem z5y {p:Pg} {j:Nat} {f:Pr} (hj:p.procs[j]? = some f) (hcn:cntP p.procs<=200):(QZ p j f).real.length<=100000:=by
 obtain ⟨_,_,_,hlen,hsp⟩:=QJ p;obtain ⟨_,_,hle,_⟩:=hsp j f hj;have h9:=q9w (QF p j f);have h10:=NW p j f;show (WQ (QF p j f)).length<=100000;omega
theorem z3g {p:Pg} (h:ZB p=true) {j:Nat} {f:Pr} (hj:p.procs[j]? = some f) : ∀ it∈itsOf p j f,∀ s∈fOf it,okSt s:=fun it hi s hs=>by
 obtain ⟨hm,_⟩:=QM h;obtain ⟨_,_,hcn⟩:=YY h;obtain ⟨_,_,_,hlen,hsp⟩:=QJ p;obtain ⟨_,_,hle,_⟩:=hsp j f hj;have h1:=YG hm hj (BC hi);have h2:=(q0t hi).1;unfold fOf at hs;split at hs
 ·rw [List.mem_singleton.1 hs];unfold okI at h2;unfold okSt;constructor
  ·show it.s.id≠_;omega
  ·show it.next≠_;omega
 ·cases hs
theorem z5q {p:Pg} (h:ZB p=true) {j:Nat} {f:Pr} (hj:p.procs[j]? = some f) {l:List Int} (hl:l∈trapsW (QZ p j f) f):l.length<=QY f.body+2 ∧ ∀ id∈l,(QE p.procs j:Int)+1<=id∧id<=(QE p.procs j+QY f.body:Nat):=by
 constructor
 ·obtain ⟨i,_,_,_,rfl⟩:=DG.1 hl;exact q9v _ _ _ _
 ·intro id hid;obtain ⟨r,ht⟩:=q7e h hj hl;obtain ⟨h1,h2⟩:=(ht.mem id).1 hid;rcases h1 with rfl|rfl|h1
  ·exact absurd h2 ht.n0
  ·exact absurd h2 ht.nx
  ·exact h1
theorem w3j {p:Pg} (h:ZB p=true) {j:Nat} {f:Pr} (hj:p.procs[j]? = some f):WayT (QZ p j f) f (QY f.body+2):=by
 obtain ⟨_,_,hcn⟩:=YY h;obtain ⟨_,_,_,hlen,hsp⟩:=QJ p;obtain ⟨_,_,hle,_⟩:=hsp j f hj;refine ⟨rfl,hj,by show cntP p.procs<=1000;omega,by omega,by omega,Nat.le_trans (z5y hj hcn) (by decide),z6b h hj,?_,fun l hl => ?_,fun s hs=>(PB h hj).2.2 s (((FC h hj).2 s).1 hs),z3g h hj⟩
 ·have:=q8e (XH p j (QY f.body+2:Nat)) (ZG (QZ p j f) f) (MF (QY f.body+2) (ZG (QZ p j f) f) (prsW (QZ p j f) f)) (QY f.body+2);have e:trapsW (QZ p j f) f=DE (XH p j (QY f.body+2:Nat)) (ZG (QZ p j f) f) (MF (QY f.body+2) (ZG (QZ p j f) f) (prsW (QZ p j f) f)) (QY f.body+2):=by
   unfold trapsW;rw [q5b];rfl
  rw [e];omega
 ·obtain ⟨h1,h2⟩:=z5q h hj hl;refine ⟨by omega,fun id hid => ?_⟩;have:=h2 id hid;show 1<=id∧id<=(sheetOf p).l.length;omega
def w0z (p:Pg) (n:Str):List Step:=match BK p n with
 | some w=>(match w.p.procs[w.j]? with
   | some f=>z6c w f
   | none=>[])
 | none=>[]
def z1h (p:Pg) (n:Str):List Step:=match BK p n with
 | some w=>(match w.p.procs[w.j]? with
   | some f=>z2x w f
   | none=>[])
 | none=>[]
def q8p (p:Pg) (n:Str):List (List Int):=match BK p n with
 | some w=>(match w.p.procs[w.j]? with
   | some f=>trapsW w f
   | none=>[])
 | none=>[]
theorem LM {p:Pg} {n:Str} {k:Nat} {f:Pr} (hw:BK p n=some (QZ p k f)) (hk:p.procs[k]? = some f):w0z p n=z6c (QZ p k f) f:=by
 have h:(QZ p k f).p.procs[(QZ p k f).j]? = some f:=hk;unfold w0z;rw [hw];simp only;rw [h]
theorem x8p {p:Pg} {n:Str} (hw:BK p n=none):w0z p n=[]:=by
 unfold w0z;rw [hw]
theorem q3p {p:Pg} {n:Str} {k:Nat} {f:Pr} (hw:BK p n=some (QZ p k f)) (hk:p.procs[k]? = some f):z1h p n=z2x (QZ p k f) f:=by
 have h:(QZ p k f).p.procs[(QZ p k f).j]? = some f:=hk;unfold z1h;rw [hw];simp only;rw [h]
theorem x6h {p:Pg} {n:Str} (hw:BK p n=none):z1h p n=[]:=by
 unfold z1h;rw [hw]
theorem LD {p:Pg} {n:Str} {k:Nat} {f:Pr} (hw:BK p n=some (QZ p k f)) (hk:p.procs[k]? = some f):q8p p n=trapsW (QZ p k f) f:=by
 have h:(QZ p k f).p.procs[(QZ p k f).j]? = some f:=hk;unfold q8p;rw [hw];simp only;rw [h]
theorem x2l {p:Pg} {n:Str} (hw:BK p n=none):q8p p n=[]:=by
 unfold q8p;rw [hw]
theorem z6w (p:Pg) (hf:Fit p) (n:Str):SpecP Tryz.prog 111 [.agg p.cells,.str n] (fun r=>r=UZ (w0z p n)):=by
 refine sB z3r Tryz.func111 rfl Tryz.call111 ?_;conv=>whnf
 have hW:=x8y p hf n;cases hw:BK p n with
 | none =>
   rw [x8p hw];rw [hw] at hW;repeat' (refine cP hW ?_;conv=>whnf)
   exact ⟨_,.p Sub.nils,rfl⟩
 | some w =>
   obtain ⟨k,f,hkj,rfl,hc,_⟩:=DF hw;have hw0:=hw;rw [hw] at hW;repeat' ((first|refine cP hW ?_|refine cP (x2y (QZ p k f) f (QY f.body+2) (w3j hc hkj)) ?_);conv=>whnf)
   exact RetK.p (by rw [LM hw0 hkj])
theorem z4d (p:Pg) (hf:Fit p) (n:Str):SpecP Tryz.prog 112 [.agg p.cells,.str n] (fun r=>r=UZ (z1h p n)):=by
 refine sB x6o Tryz.func112 rfl Tryz.call112 ?_;conv=>whnf
 have hW:=x8y p hf n;cases hw:BK p n with
 | none =>
   rw [x6h hw];rw [hw] at hW;repeat' (refine cP hW ?_;conv=>whnf)
   exact ⟨_,.p Sub.nils,rfl⟩
 | some w =>
   obtain ⟨k,f,hkj,rfl,hc,_⟩:=DF hw;have hw0:=hw;rw [hw] at hW;repeat' ((first|refine cP hW ?_|refine cP (q9k (QZ p k f) f (QY f.body+2) (w3j hc hkj)) ?_);conv=>whnf)
   exact RetK.p (by rw [q3p hw0 hkj])
theorem z0z (p:Pg) (hf:Fit p) (n:Str):SpecP Tryz.prog 52 [.agg p.cells,.str n] (fun r=>r=x2u (q8p p n)):=by
 refine sB x1g Tryz.func52 rfl Tryz.call52 ?_;conv=>whnf
 have hW:=x8y p hf n;cases hw:BK p n with
 | none =>
   rw [x2l hw];rw [hw] at hW;repeat' (refine cP hW ?_;conv=>whnf)
   exact ⟨_,.p Sub.nils,rfl⟩
 | some w =>
   obtain ⟨k,f,hkj,rfl,hc,_⟩:=DF hw;have hw0:=hw;have hT:=w3j hc hkj;rw [hw] at hW;repeat' ((first|refine cP hW ?_|refine cP (DL (QZ p k f) f (QY f.body+2) hT.hw hT.hj hT.hc hT.hn hT.hn2 hT.hlen hT.hr) ?_);conv=>whnf)
   exact RetK.p (by rw [LD hw0 hkj])
theorem FJ (p:Pg) (hf:Fit p) (most:Int):SpecP Tryz.prog 50 [.agg p.cells,.int .i64 most] (fun r=>r = .bool (q8z p most)):=by
 refine sB JO Tryz.func50 rfl Tryz.call50 ?_;conv=>whnf
 have hC:=KM p hf;unfold q8z;cases hc:ZB p with
 | false =>
   rw [hc] at hC;repeat' (first|(refine cP hC ?_;conv=>whnf)|(apply bB<;>intro _<;>conv=>whnf))
   all_goals first
    | contradiction
    | exact RetK.ff rfl
 | true =>
   rw [hc] at hC;have hcn:=(YY hc).2.2;repeat' (first|((first|refine cP hC ?_|(refine CallK.pure (x7k p (by omega)) (.cons (Sub.refl _) .nil) ?_;rintro _ rfl));conv=>whnf)|(apply bB<;>intro _<;>conv=>whnf))
   all_goals first
    | contradiction
    | exact RetK.bool (by simp)
instance (a b:Step):Decidable (NL a b):=inferInstanceAs (Decidable (_∨_))
instance:DecidableEq Step:=fun a b=>decidable_of_iff (a.src=b.src∧a.dst=b.dst∧a.kind=b.kind) ⟨fun h=>JV h.1 h.2.1 h.2.2,fun h=>by rw [h];exact ⟨rfl,rfl,rfl⟩⟩
theorem z9v {a b:Step} (ha:okSt a) (hb:okSt b) (h:JT b a=false):(a.src=b.src∧a.dst=b.dst∧a.kind<=b.kind)∨NL a b:=by
 rw [Bool.eq_false_iff,ne_eq,YC] at h;unfold NL;by_cases h1:XE a.src=XE b.src
 ·by_cases h2:XE a.dst=XE b.dst
  ·exact .inl ⟨YD ha.1 hb.1 h1,YD ha.2 hb.2 h2,by omega⟩
  ·exact .inr (by omega)
 ·exact .inr (by omega)
theorem ND : ∀ (l:List Step) (a:Step),okSt a->(∀ s∈l,okSt s)->(a::l).Pairwise (fun a b=>JT b a=false) ->
  (∀ s∈XZ a l,NL a s)∧(XZ a l).Pairwise NL∧(∀ s∈XZ a l,s∈l) ∧ ∀ s∈l,(s.src=a.src∧s.dst=a.dst∧a.kind<=s.kind) ∨ ∃ s'∈XZ a l,s'.src=s.src∧s'.dst=s.dst∧s'.kind<=s.kind
 | [],a,_,_,_=>by simp [XZ]
 | b::r,a,ha,hl,h=>by
   have hb:=hl b mem_cons_self;have hr : ∀ s∈r,okSt s:=fun s hs=>hl s (mem_cons_of_mem _ hs);rw [List.pairwise_cons] at h;obtain ⟨h1,h2⟩:=h;obtain ⟨i1,i2,i3,i4⟩:=ND r b hb hr h2;have hab:=z9v ha hb (h1 b mem_cons_self);rw [XZ];cases hs:XI b a with
   | true =>
     unfold XI at hs;simp only [Bool.and_eq_true,decide_eq_true_eq] at hs;have hk:a.kind<=b.kind:=by
      rcases hab with h3|h3
      ·exact h3.2.2
      ·unfold NL at h3;rw [hs.1,hs.2] at h3;omega
     rw [cond_true];refine ⟨fun s hs' => ?_,i2,fun s hs'=>mem_cons_of_mem _ (i3 s hs'),fun s hs' => ?_⟩
     ·have:=i1 s hs';unfold NL at this ⊢
      rwa [<- hs.1,<- hs.2]
     ·rcases List.mem_cons.1 hs' with rfl|hs'
      ·exact .inl ⟨hs.1,hs.2,hk⟩
      ·rcases i4 s hs' with ⟨h3,h4,h5⟩|h3
       ·exact .inl ⟨by rw [h3,hs.1],by rw [h4,hs.2],by omega⟩
       ·exact .inr h3
   | false =>
     have hlt:NL a b:=by
      rcases hab with h3|h3
      ·unfold XI at hs;simp [h3.1,h3.2.1] at hs
      ·exact h3
     rw [cond_false];refine ⟨fun s hs' => ?_,List.pairwise_cons.2 ⟨i1,i2⟩,fun s hs' => ?_,fun s hs' => ?_⟩
     ·rcases List.mem_cons.1 hs' with rfl|hs'
      ·exact hlt
      ·exact PX hlt (i1 s hs')
     ·rcases List.mem_cons.1 hs' with rfl|hs'
      ·exact mem_cons_self
      ·exact mem_cons_of_mem _ (i3 s hs')
     ·rcases List.mem_cons.1 hs' with rfl|hs'
      ·exact .inr ⟨s,mem_cons_self,rfl,rfl,Int.le_refl _⟩
      ·rcases i4 s hs' with ⟨h3,h4,h5⟩|⟨s',h3,h4⟩
       ·exact .inr ⟨b,mem_cons_self,h3.symm,h4.symm,h5⟩
       ·exact .inr ⟨s',mem_cons_of_mem _ h3,h4⟩
theorem z0t {l:List Step} (hok : ∀ s∈l,okSt s):(WQ l).Pairwise NL∧(∀ s∈WQ l,s∈l) ∧ ∀ s∈l,∃ s'∈WQ l,s'.src=s.src∧s'.dst=s.dst∧s'.kind<=s.kind:=by
 have hp : ∀ s,s∈VS l↔s∈l:=fun s=>(q0y l).mem_iff;have hs:=DY l;unfold WQ;cases hq:VS l with
 | nil =>
   rw [hq] at hp;refine ⟨by simp [HP],by simp [HP],fun s hs => ?_⟩;have:=(hp s).2 hs;cases this
 | cons a r =>
   rw [hq] at hp hs;have hok' : ∀ s∈a::r,okSt s:=fun s h=>hok s ((hp s).1 h);obtain ⟨h1,h2,h3,h4⟩:=ND r a (hok' a mem_cons_self) (fun s h=>hok' s (mem_cons_of_mem _ h)) hs;rw [HP];refine ⟨List.pairwise_cons.2 ⟨h1,h2⟩,fun s hs' => ?_,fun s hs' => ?_⟩
   ·rcases List.mem_cons.1 hs' with rfl|hs'
    ·exact (hp s).1 mem_cons_self
    ·exact (hp s).1 (mem_cons_of_mem _ (h3 s hs'))
   ·rcases List.mem_cons.1 ((hp s).2 hs') with rfl|hs'
    ·exact ⟨s,mem_cons_self,rfl,rfl,Int.le_refl _⟩
    ·rcases h4 s hs' with ⟨h5,h6,h7⟩|⟨s',h5,h6⟩
     ·exact ⟨a,mem_cons_self,h5.symm,h6.symm,h7⟩
     ·exact ⟨s',mem_cons_of_mem _ h5,h6⟩
theorem z0j {l:List Step} (h:l.Pairwise NL) {a b:Step} (ha:a∈l) (hb:b∈l) (h1:a.src=b.src) (h2:a.dst=b.dst):a=b:=by
 have hn : ∀ {x y:Step},x.src=y.src->x.dst=y.dst -> ¬NL x y:=fun {x y} e1 e2 hlt=>by
  unfold NL at hlt;rw [e1,e2] at hlt;omega
 induction h with
 | nil=>cases ha
 | @cons c r hc hr ih =>
   rcases List.mem_cons.1 ha with e1|ha'
   ·rcases List.mem_cons.1 hb with e2|hb'
    ·rw [e1,e2]
    ·exact absurd (hc b hb') (by rw [<- e1];exact hn h1 h2)
   ·rcases List.mem_cons.1 hb with e2|hb'
    ·exact absurd (hc a ha') (by rw [<- e2];exact hn h1.symm h2.symm)
    ·exact ih ha' hb'
theorem q5n {l m:List Step} (hok : ∀ s∈l,okSt s) (h1:m.Pairwise NL) (h2 : ∀ s∈m,s∈l) (h3 : ∀ s∈l,∃ s'∈m,s'.src=s.src∧s'.dst=s.dst∧s'.kind<=s.kind):WQ l=m:=by
 obtain ⟨g1,g2,g3⟩:=z0t hok;refine q4g g1 h1 fun s=>⟨fun hs => ?_,fun hs => ?_⟩
 ·obtain ⟨a,ha,h4,h5,h6⟩:=h3 s (g2 s hs);obtain ⟨b,hb,h7,h8,h9⟩:=g3 a (h2 a ha);have:=z0j g1 hb hs (h7.trans h4) (h8.trans h5);subst this;have:a=b:=JV h4 h5 (by omega);rw [<- this];exact ha
 ·obtain ⟨a,ha,h4,h5,h6⟩:=g3 s (h2 s hs);obtain ⟨b,hb,h7,h8,h9⟩:=h3 a (g2 a ha);have:=z0j h1 hb hs (h7.trans h4) (h8.trans h5);subst this;have:a=b:=JV h4 h5 (by omega);rw [<- this];exact ha
theorem z7b:(QZ someP 1 f1).real=[⟨0,5,1⟩,⟨5,6,1⟩,⟨6,7,1⟩,⟨6,8,1⟩,⟨7,-1,1⟩,⟨8,-1,1⟩]:=w3s
theorem z9a:(QZ someP 0 f0).real=[⟨0,1,1⟩,⟨1,2,1⟩,⟨2,3,1⟩,⟨3,4,1⟩,⟨4,-1,1⟩]:=w3a
theorem w4t:prsW (QZ someP 1 f1) f1=[(0,1),(1,2),(2,3),(2,4),(3,5),(4,5)]:=by
 unfold prsW;rw [z7b]
 kernel_rfl
theorem w4b:prsW (QZ someP 0 f0) f0=[(0,1),(1,2),(2,3),(3,4),(4,5)]:=by
 unfold prsW;rw [z9a]
 kernel_rfl
theorem z5i:trapsW (QZ someP 1 f1) f1=[]:=by
 unfold trapsW ZG;rw [w4t]
 kernel_rfl
theorem w0l:trapsW (QZ someP 0 f0) f0=[]:=by
 unfold trapsW ZG;rw [w4b]
 kernel_rfl
theorem w4a:z6c (QZ someP 1 f1) f1=[⟨0,5,1⟩,⟨0,-1,2⟩,⟨5,6,1⟩,⟨6,7,1⟩,⟨6,8,1⟩,⟨7,8,2⟩,⟨7,-1,1⟩,⟨8,-1,1⟩]:=by
 have h1:q3j (QZ someP 1 f1) f1=[⟨0,5,1⟩,⟨5,6,1⟩,⟨6,7,1⟩,⟨6,8,1⟩,⟨7,-1,1⟩,⟨8,-1,1⟩,⟨0,-1,2⟩,⟨7,8,2⟩,⟨8,-1,2⟩]:=by
  unfold q3j ZS;rw [z5i,z7b]
  kernel_rfl
 unfold z6c;rw [h1];exact q5n (by unfold okSt;decide) (by decide) (by decide) (by decide)
theorem w5b:z6c (QZ someP 0 f0) f0=[⟨0,1,1⟩,⟨0,-1,2⟩,⟨1,2,1⟩,⟨2,3,1⟩,⟨3,4,1⟩,⟨4,-1,1⟩]:=by
 have h1:q3j (QZ someP 0 f0) f0=[⟨0,1,1⟩,⟨1,2,1⟩,⟨2,3,1⟩,⟨3,4,1⟩,⟨4,-1,1⟩,⟨0,-1,2⟩]:=by
  unfold q3j ZS;rw [w0l,z9a]
  kernel_rfl
 unfold z6c;rw [h1];exact q5n (by unfold okSt;decide) (by decide) (by decide) (by decide)
theorem w3k:z2x (QZ someP 1 f1) f1=[⟨0,5,1⟩,⟨5,6,1⟩,⟨6,7,1⟩,⟨6,8,1⟩,⟨7,-1,1⟩,⟨8,-1,1⟩]:=by
 unfold z2x ZS;rw [z5i,z7b];exact q5n (by unfold okSt;decide) (by decide) (by decide) (by decide)
theorem z0f:BK someP [109,97,105,110]=some (QZ someP 0 f0):=by
 unfold BK;rw [x3m];rfl
theorem WM:SpecP Tryz.prog 49 [] (fun r=>r = .tt):=by
 have hA:=z6w someP q4s [112];rw [LM (f:=f1) x4w rfl,w4a] at hA;have hM:=z6w someP q4s [109,97,105,110];rw [LM (f:=f0) z0f rfl,w5b] at hM;have hD:=z4d someP q4s [112];rw [q3p (f:=f1) x4w rfl,w3k] at hD;refine sB GR Tryz.func49 rfl Tryz.call49 ?_;conv=>whnf
 repeat' (first|((first|(refine iM fun _=>?_)|refine And.intro rfl ?_|refine cP PR ?_|refine cP hA ?_|refine cP hM ?_|refine cP hD ?_);conv=>whnf)|(apply bD<;>intro _<;>first|omega|conv=>whnf))
 ·refine IdxK.at (k:=1) (e := .agg (Step.mk 0 (-1) 2).cells) rfl rfl rfl ?_;conv=>whnf
  skip
  all_goals first
   | exact RetK.tt rfl
   | exact ⟨_,.p (z2d rfl),rfl⟩
   | (rename_i h;exact absurd rfl h)
 all_goals
  rename_i h;exact absurd rfl h
theorem z8j {p:Pg} (h:ZB p=true) {j:Nat} {f:Pr} (hj:p.procs[j]? = some f) {t:S} (ht:t∈flL f.body):z4l p t.id=some t:=by
 have hb:=YG (QM h).1 hj ht;obtain ⟨u,hu,h1,h2⟩:=x5z h hj hb.1 hb.2;obtain ⟨it,hi,rfl⟩:=z8e (p:=p) (j:=j) ht;obtain ⟨iu,hiu,rfl⟩:=z8e (p:=p) (j:=j) hu;rw [z6e (QM h).1 hj hiu hi h2] at h1;exact h1
theorem x6t {p:Pg} (h:ZB p=true) (n:Int) : ∃ (k:Nat) (f:Pr),p.procs[k]? = some f∧BK p (UP p n)=some (QZ p k f)∧w0d p (UP p n)=(f,true):=by
 have hne:0<p.procs.length:=by
  obtain ⟨_,hb,_⟩:=VC (QM h).2.1;cases hp:p.procs with
  | nil =>
    unfold ZD QD at hb;rw [hp] at hb;simp at hb
  | cons a r=>simp
 have hr:=q4m (n:=n) (k:=p.procs.length) (by omega);have hlt:(x1z n p.procs.length).toNat<p.procs.length:=by omega
 have e:UP p n=(p.procs[(x1z n p.procs.length).toNat]).name:=by unfold UP;rw [List.getElem?_eq_getElem hlt]
 cases hw:BK p (UP p n) with
 | none =>
   exfalso;unfold BK at hw;rw [h,cond_true] at hw;cases hf:p.procs.find? (fun f=>f.name==UP p n) with
   | none =>
     have:=List.find?_eq_none.1 hf _ (List.getElem_mem hlt);simp [e] at this
   | some g=>rw [hf] at hw;cases hw
 | some w =>
   obtain ⟨k,f,hkj,rfl,_,hfn,hfind⟩:=DF hw;exact ⟨k,f,hkj,rfl,by unfold w0d;rw [hfind]⟩
theorem BA (l:List Int) (x:Int):SpecP Tryz.prog 53 [QO l,.int .i64 x] (fun r=>r = .bool (z9u l x)):=by
 refine sB HT Tryz.func53 rfl Tryz.call53 ?_;conv=>whnf
 repeat' (refine iM fun _=>?_;conv=>whnf)
 have hl:(l.map (AV.int .i64)).length=l.length:=length_map _;refine LoopK.inv QU (fun j:Nat=>⟨[(1,.p (.int .i64 x)),(7,.p (QO l)),(8,.p (.int .i64 (l.map (AV.int .i64)).length)),(9,.p (.int .i64 j))],[]⟩) (fun j=>j<=l.length∧(l.drop j).any (fun y=>decide (x=y))=z9u l x) (fun j=>l.length-j) 0 (Le.of_eq rfl) ⟨zero_le _,rfl⟩ ?_;rintro j ⟨h2,h3⟩;rcases Nat.lt_or_ge j l.length with hj|hj
 ·conv=>whnf
  repeat' (first|((first|(refine iA fun _=>?_)|refine wI ?_);conv=>whnf)|(apply bD<;>intro _<;>first|omega|conv=>whnf))
  ·exact RetK.tt (by rw [<- h3,x3w hj (by simpa using by assumption)])
  ·exact ⟨j+1,⟨hj,by rw [q2e hj (by simpa using by assumption)];exact h3⟩,by omega,Le.of_eq rfl⟩
 ·conv=>whnf
  repeat' (apply bD<;>intro _<;>first|omega|conv=>whnf)
  exact RetK.ff (by rw [<- h3,PH hj])
instance:DecidableEq Param:=fun a b=>decidable_of_iff (a.name=b.name∧a.ref=b.ref) (by cases a;cases b;simp)
theorem z7j {p:Pg} (h:ZB p=true) {j:Nat} {f:Pr} (hj:p.procs[j]? = some f) {it:Item} (hi:it∈itsOf p j f):(sheetOf p).l[(it.s.id-1).toNat]? = some it:=by
 have hb:=YG (QM h).1 hj (BC hi);obtain ⟨it',h1,h2⟩:=KP hj (k:=(it.s.id-1).toNat) (by omega) (by omega);have h3:=x4o h hj (by omega) (by omega) h1;rw [h1,z6e (QM h).1 hj h2 hi (by omega)]
theorem x4v {p:Pg} (h:ZB p=true) : ∃ (k:Nat) (f:Pr),p.procs[k]? = some f∧p.procs.filter (fun f=>f.name==mainS)=[f]∧f.name=mainS∧f.params=[]:=by
 obtain ⟨hm,hs,_⟩:=QM h;obtain ⟨_,hb,_⟩:=VC hs;unfold ZD at hb;simp only [Bool.or_eq_false_iff,Bool.not_eq_false'] at hb;obtain ⟨_,h2,h3,h4⟩:=hb;have hnd:=x5x h2;obtain ⟨k,hk,h5,h6⟩:=x3r h3;have h7:=List.find?_some h6;have hn:p.procs[k].name=mainS:=by
  have:mainS=p.procs[k].name:=by simpa using h7
  exact this.symm
 rw [h6] at h4;have hp:p.procs[k].params=[]:=List.eq_nil_of_length_eq_zero (by simpa using h4);refine ⟨k,p.procs[k],List.getElem?_eq_getElem hk,?_,hn,hp⟩;have key : ∀ (l:List Pr),(l.map Pr.name).Nodup -> ∀ f∈l,f.name=mainS->l.filter (fun f=>f.name==mainS)=[f]:=fun l=>by
  induction l with
  | nil=>intro _ f hf;cases hf
  | cons g r ih =>
    intro hnd f hf hfn;rw [map_cons,List.nodup_cons] at hnd;rcases List.mem_cons.1 hf with rfl|hf
    ·rw [List.filter_cons_of_pos (by simp [hfn])];congr 1;rw [List.filter_eq_nil_iff];intro g hg he;exact hnd.1 (by rw [hfn,<- show g.name=mainS by simpa using he];exact List.mem_map_of_mem hg)
    ·rw [List.filter_cons_of_neg (by
      intro he;exact hnd.1 (by rw [show g.name=mainS by simpa using he,<- hfn];exact List.mem_map_of_mem hf))]
     exact ih hnd.2 f hf hfn
 exact key p.procs hnd _ (List.getElem_mem hk) hn
section
variable {p:Pg} {k:Nat} {f:Pr}
end
theorem q3b : ∀ (l:List Pr) {n:Nat} {m:Int},XM n l=some m -> ∀ (j:Nat) (f:Pr),l[j]? = some f -> ∃ m',UN 1 ((n+QE l j:Nat):Int) f.body=some m'
 | [],_,_,_,j,f,hj=>by simp at hj
 | g::r,n,m,h,j,f,hj=>by
   rw [XM] at h;cases hm:GN g<;>rw [hm] at h
   ·cases h
   simp only [cond_true] at h;split at h
   ·rename_i m1 h1;cases j with
    | zero =>
      cases hj;exact ⟨m1,h1⟩
    | succ j =>
      have h2:=YX _ _ g.body h1;have h':XM ((n+QY g.body:Nat):Int) r=some m:=by rw [<- h,h2];rfl
      obtain ⟨m',h3⟩:=q3b r h' j f (by simpa using hj);exact ⟨m',by rw [<- h3,QE];congr 1;omega⟩
   ·cases h
theorem z8i {p:Pg} (h:GD p=true) {j:Nat} {f:Pr} (hj:p.procs[j]? = some f) : ∃ m,UN 1 ((QE p.procs j:Nat):Int) f.body=some m:=by
 unfold GD at h;simp only [Bool.and_eq_true] at h;obtain ⟨m,hm⟩:=Option.isSome_iff_exists.1 h.2;obtain ⟨m',h'⟩:=q3b p.procs (n:=0) hm j f hj;exact ⟨m',by rw [<- h'];congr 1;omega⟩
section
variable {p:Pg} {k:Nat} {f:Pr}
end
mutual
theorem z4g : ∀ (t:S) {nest seen m:Int},x0w nest seen t=some m -> ∀ u∈flS t,oneOk u=true
 | .mk id kind labels name pr x has args thn els,nest,seen,m,h,u,hu=>by
   obtain ⟨h1,_,m1,h3,h4⟩:=PD h;rw [flS] at hu;rcases List.mem_cons.1 hu with rfl|hu
   ·exact h1
   ·rcases List.mem_append.1 hu with hu|hu
    ·exact MP thn h3 u hu
    ·exact MP els h4 u hu
theorem MP : ∀ (l:List S) {nest seen m:Int},UN nest seen l=some m -> ∀ u∈flL l,oneOk u=true
 | [],_,_,_,_,u,hu=>by rw [flL] at hu;cases hu
 | t::r,nest,seen,m,h,u,hu=>by
   obtain ⟨_,m1,h1,h2⟩:=GY h;rw [flL] at hu;rcases List.mem_append.1 hu with hu|hu
   ·exact z4g t h1 u hu
   ·exact MP r h2 u hu
end
theorem z4h {p:Pg} {j:Nat} {f:Pr} (h:ZB p=true) (hj:p.procs[j]? = some f) {t:S} (ht:t∈flL f.body):OneF t:=by
 obtain ⟨m,hr⟩:=z8i (QM h).1 hj;exact z1g (MP _ hr t ht)
section
variable {p:Pg} {j:Nat} {f:Pr}
end
def x7h (k:Int) (x:RI):Bool:=decide (k=0)||decide (x.s.kind=k)
def z7o (p:Pg) (k:Int):List Int:=((allR p).filter (x7h k)).map fun x=>x.s.id
theorem MK (p:Pg) (k:Int) (hl:(allR p).length<=1000):SpecP Tryz.prog 70 [.agg p.cells,.int .i64 k] (fun r=>r=QO (z7o p k)):=by
 refine sB DT Tryz.func70 rfl Tryz.call70 ?_;conv=>whnf
 have hrl:=q8m (allR p);repeat' ((first|(refine iM fun _=>?_)|refine cP (MU _) ?_);conv=>whnf)
 refine LoopK.inv QU (fun x:Nat×List Int=>⟨[(1,.p (.int .i64 k)),(5,.hd 0 0 x.2.length),(9,.p (w1y (allR p))),(10,.p (.int .i64 ((allR p).map fun i=>AV.agg i.cells).length)),(11,.p (.int .i64 x.1))],[(0,.own 3 1 (x.2.map (.int .i64)))]⟩) (fun x=>x.1<=(allR p).length∧x.2.length<=x.1∧x.2++(((allR p).drop x.1).filter (x7h k)).map (fun y=>y.s.id)=z7o p k) (fun x=>(allR p).length-x.1) (0,[])
  (Le.mk [(0,.own 3 1 [])] (by simp [Chunk.new0];rfl) (by simp) (by simp) (.cons (.refl _) (.cons (.nil mem_cons_self) (.cons (.refl _) (.cons (.refl _) (.cons (.refl _) .nil))))) (.new mem_cons_self .nil)) ⟨zero_le _,Nat.le_refl _,rfl⟩ ?_
 rintro ⟨j,o⟩ ⟨h2,h4,h3⟩;simp only at h2 h3 h4 ⊢;generalize hL:allR p=L at h2 h3 hrl hl ⊢;rcases Nat.lt_or_ge j L.length with hj|hj
 ·rw [List.drop_eq_getElem_cons hj] at h3;conv=>whnf
  repeat' (first|((first|refine And.intro rfl ?_|refine aD ?_|refine bP ?_|(refine iA fun _=>?_)|refine wI ?_|refine WX (by simp) (by simp;omega) ?_);conv=>whnf)|(apply bD<;>intro _<;>first|omega|conv=>whnf))
  all_goals first
   | (have e:x7h k L[j]=true:=by unfold x7h;simp [*];done
      rw [List.filter_cons_of_pos e,map_cons] at h3;exact ⟨(j+1,o++[L[j].s.id]),⟨hj,by simp;omega,by rw [List.append_assoc];exact h3⟩,by simp only;omega,Le.of_eq (by simp only [length_append,List.map_append,length_map];rfl)⟩)
   | (have e:x7h k L[j]=false:=by unfold x7h;simp [*];done
      rw [List.filter_cons_of_neg (fun hh=>by rw [e] at hh;cases hh)] at h3;exact ⟨(j+1,o),⟨hj,by simp only;omega,h3⟩,by simp only;omega,Le.of_eq rfl⟩)
 ·rw [List.drop_eq_nil_of_le hj] at h3;simp only [List.filter_nil,List.map_nil,List.append_nil] at h3;conv=>whnf
  repeat' (apply bD<;>intro _<;>first|omega|conv=>whnf)
  all_goals first
   | exact ⟨_,.hd rfl (by simp),by rw [<- h3];rfl⟩
namespace Own
end Own
open Go.Proofs
def rng (a b:Int) (v:Int):Prop:=a<=v∧v<=b
def w4j (l:List Int) (i:Nat):Int:=l.getD i 0
def srt (K:Int->Int) (l:List Int) (a b:Nat):Prop := ∀ i k,a<=i->i<k->k<b->K (w4j l k)<=K (w4j l i)
def blk (K:Int->Int) (l:List Int) (bs n:Nat):Prop := ∀ q,srt K l (q*bs) (min (q*bs+bs) n)
section
variable {p:Pg} {j:Nat} {f:Pr}
end
section
variable {p:Pg} {j:Nat} {f:Pr}
end
def caI (p:Pg) (t:S):Int:=idxF (fun f=>f.name==t.proc) p.procs
def caP (p:Pg) (t:S):Pr:=p.procs.getD (caI p t).toNat Pr0
section
variable {p:Pg} {j:Nat} {f:Pr}
end


section
variable {p:Pg} {j:Nat} {f:Pr}
end
theorem z2y {p:Pg} (hs:(XQ p).1=0):(VV p).1=0 ↔ ∀ t∈GL p,t.kind=4->KY p t=true:=by
 unfold VV;rw [if_neg (by omega)];cases hf:(GL p).find? fun t=>decide (t.kind=4) && !KY p t with
 | some t =>
   have h1:=List.mem_of_find?_eq_some hf;have h2:=List.find?_some hf;simp only [Bool.and_eq_true,decide_eq_true_eq,Bool.not_eq_true'] at h2;refine ⟨fun h=>by simp at h,fun h => ?_⟩;have:=h t h1 h2.1;rw [h2.2] at this;cases this
 | none =>
   refine ⟨fun _ t ht hk => ?_,fun _=>rfl⟩;have:=List.find?_eq_none.1 hf t ht;simp only [Bool.and_eq_true,decide_eq_true_eq,Bool.not_eq_true',not_and] at this;simpa using this hk
section
variable {p:Pg} {j:Nat} {f:Pr} {n:Str}
end
def w4m (a b:List Int):Prop := ∃ x∈a,∀ y∈b,ordP x y
def w5f (p:Pg) (j:Nat) (f:Pr) (l:List Int):Prop:=l.Pairwise ordP ∧ ∃ r,TrapP p j f l r
section
variable {p:Pg} {j:Nat} {f:Pr}
theorem q8l {i k:Int} (hi:0<=i∧i<k) (hk:k<(QY f.body+2:Nat)):ordP (XH p j (QY f.body+2:Nat) i) (XH p j (QY f.body+2:Nat) k):=by
 rw [q6z];unfold XH loI
 (repeat' split)<;>omega
theorem z2j {part:List Int} {i:Nat}:(YA (XH p j (QY f.body+2:Nat)) part i (QY f.body+2)).Pairwise ordP:=by
 unfold YA;rw [List.pairwise_map];have h1:((List.range (QY f.body+2)).filter fun j=>part.getD j 0==(i:Int)).Pairwise fun a b=>a<b:=List.Pairwise.sublist List.filter_sublist List.pairwise_lt_range;refine h1.imp_of_mem fun {a b} ha hb hab => ?_;have h2:=List.mem_range.1 (List.mem_filter.1 hb).1;exact q8l (by omega) (by omega)
theorem q9e (h:ZB p=true) (hj:p.procs[j]? = some f) {l:List Int} (hl:l∈trapsW (QZ p j f) f):l.Pairwise ordP:=by
 obtain ⟨i,_,_,_,rfl⟩:=DG.1 hl;exact z2j
theorem x0p (h:ZB p=true) (hj:p.procs[j]? = some f):(trapsW (QZ p j f) f).Pairwise w4m ∧ ∀ l,l∈trapsW (QZ p j f) f↔w5f p j f l:=by
 constructor
 ·have e:trapsW (QZ p j f) f=((List.range (QY f.body+2)).filter (FM (ZG (QZ p j f) f) (MF (QY f.body+2) (ZG (QZ p j f) f) (prsW (QZ p j f) f)))).map fun i=>YA (XH p j (QY f.body+2:Nat)) (ZG (QZ p j f) f) i (QY f.body+2):=by
   unfold trapsW DE;rw [q5b];rfl
  rw [e,List.pairwise_map];have h1:((List.range (QY f.body+2)).filter (FM (ZG (QZ p j f) f) (MF (QY f.body+2) (ZG (QZ p j f) f) (prsW (QZ p j f) f)))).Pairwise fun a b=>a<b:=List.Pairwise.sublist List.filter_sublist List.pairwise_lt_range;refine h1.imp_of_mem fun {a b} ha hb hab => ?_;obtain ⟨h2,h3⟩:=List.mem_filter.1 ha;have h2:=List.mem_range.1 h2;unfold FM at h3;rw [Bool.and_eq_true,beq_iff_eq] at h3;refine ⟨XH p j (QY f.body+2:Nat) a,q1g.2 ⟨a,h2,h3.1,rfl⟩,fun y hy => ?_⟩;obtain ⟨k,hk,hpk,rfl⟩:=q1g.1 hy;have h4:=(DR (p:=p) (j:=j) (f:=f) (i:=(k:Int)) (by omega)).le _ (.refl _);rw [<- FL,hpk] at h4;exact q8l (by omega) (by omega)
 ·intro l;constructor
  ·intro hl;exact ⟨q9e h hj hl,q7e h hj hl⟩
  ·rintro ⟨h1,r,h2⟩;obtain ⟨l',h3,h4⟩:=z9q h hj h2.pl h2.cl h2.n0 h2.nx;have:l=l':=z8k h1 (q9e h hj h3) fun b=>by rw [h2.mem,h4]
   rw [this];exact h3
end
section
variable {p:Pg} {j:Nat} {f:Pr}
end
theorem x4r : ∀ l:List Pr,l.length<=z6y l
 | []=>zero_le _
 | f::r=>by have:=x4r r;simp only [length_cons,z6y,wPr];omega
theorem x7l {p:Pg} (h:Fit p):p.procs.length<=20000:=by
 have:=x4r p.procs;unfold Fit wPg at h;omega
theorem z7c (m:List (List Int)):x2u m = .sl (m.map QO):=by
 unfold x2u avI;rw [List.map_map];rfl
def prA (p:Pg) (i:Nat):Pr:=p.procs.getD i Pr0
theorem z7q {p:Pg} {i:Nat} (h:i<p.procs.length):p.procs[i]? = some (prA p i):=by
 unfold prA;rw [List.getD_eq_getElem?_getD,List.getElem?_eq_getElem h];rfl
theorem q3c {p:Pg} {i:Nat} {f:Pr} (h:p.procs[i]? = some f):prA p i=f:=by
 unfold prA;rw [List.getD_eq_getElem?_getD,h];rfl
theorem x5p {p:Pg} (h:ZB p=true) (i:Nat):(prA p i).params.length<=8:=by
 rcases Nat.lt_or_ge i p.procs.length with h1|h1
 ·exact (KR.1 (z1n (QM h).1 (List.mem_of_getElem? (z7q h1)))).1
 ·unfold prA;rw [List.getD_eq_getElem?_getD,List.getElem?_eq_none h1];decide
theorem x5q {p:Pg} (h:ZB p=true) {t:S} (ht:t∈GL p) (h4:t.kind=4) : ∃ k,k<p.procs.length∧caI p t=(k:Nat)∧caP p t=prA p k∧(prA p k).name=t.proc∧(prA p k).params.map Param.ref=t.args.map Arg.ref:=by
 obtain ⟨_,hs,ha,_⟩:=QM h;have hf:=(z2y hs).1 ha t ht h4;unfold KY at hf;rw [Bool.and_eq_true] at hf;have hf2:=hf.2;cases hq:p.procs.find? (fun f=>f.name==t.proc) with
 | none=>rw [hq] at hf2;cases hf2
 | some f =>
   rw [hq] at hf2;have hn:t.proc∈QD p:=List.mem_map.2 ⟨f,List.mem_of_find?_eq_some hq,by simpa using List.find?_some hq⟩;obtain ⟨k,hk,h1,_,h3,h5⟩:=q0m hn;rw [hq] at h3;have hkf:p.procs[k]=f:=(Option.some.inj h3).symm;have hp:prA p k=f:=by rw [<- hkf];exact q3c (List.getElem?_eq_getElem hk)
   have hci:caI p t=(k:Nat):=h1;refine ⟨k,hk,hci,?_,?_,?_⟩
   ·unfold caP;rw [hci];rfl
   ·rw [hp,<- hkf];exact h5
   ·rw [hp];unfold x5l at hf2;exact of_decide_eq_true hf2
section
variable (p:Pg) (i:Nat) (f:Pr) (D U:List (List Str)) (o:List Str) (x:Str)
end
section
variable {p:Pg} {i:Nat} {f:Pr} {D U:List (List Str)} {o:List Str} {x:Str}
variable {n:Nat} {seen:List Bool} {todo:List Int} {a:Int}
end
theorem z3a {p:Pg} {f:Pr} {n:Str} (h:MW p f n≠0):n∈p.globals∨n∈q2q f:=by
 unfold MW at h;unfold q2q;cases hq:f.params.find? (fun a=>a.name==n) with
 | some a =>
   refine .inr (List.mem_append_left _ (List.mem_map.2 ⟨a,List.mem_of_find?_eq_some hq,by simpa using List.find?_some hq⟩))
 | none =>
   rw [hq] at h;cases hv:f.vars.any (fun s=>n==s) with
   | true =>
     obtain ⟨s,h1,h2⟩:=List.any_eq_true.1 hv;exact .inr (List.mem_append_right _ (by rw [eq_of_beq h2];exact h1))
   | false =>
     cases hg:p.globals.any (fun s=>n==s) with
     | true =>
       obtain ⟨s,h1,h2⟩:=List.any_eq_true.1 hg;exact .inl (by rw [eq_of_beq h2];exact h1)
     | false=>exact absurd (by simp only [hv,hg];rfl) h
section
variable {p:Pg} {j:Nat} {f:Pr}
end
inductive Cf
 | next (a:Int) (M:Mc)
 | back (gave:Int) (M:Mc)
 | fin (M:Mc)
def ZZ (M:Mc):Fm:=M.stack.getLast?.getD ⟨0,[],[],0⟩
def z2r (r:Int×Mc):Cf:=if r.2.fin=0 then .next r.1 r.2 else .fin r.2
def x5j (r:Int×Mc):Cf:=if r.2.fin=0 then .back r.1 r.2 else .fin r.2
def VY (M:Mc):Mc:={ M with steps:=M.steps+1 }
def MQ (p:Pg) (t:S):Nat:=(idxF (fun g=>g.name==t.proc) p.procs).toNat
def stI (p:Pg) (tape watch:List Int) (M:Mc) (it:Item):Cf :=
 if it.s.kind=4 then z2r (JA p watch M (ZZ M) it.s (MQ p it.s) (prA p (MQ p it.s)))
 else if it.s.kind=9 then x5j (x4e watch M (ZZ M) it.s)
 else z2r (doM p tape watch M (ZZ M) (prA p (ZZ M).proc) it)
def GE (p:Pg) (gave:Int) (M:Mc):Cf :=
 if (ZZ M).call=0 then .fin (endM (popM M M.stack.dropLast) 1)
 else match (sheetOf p).l[((ZZ M).call-1).toNat]? with
 | none => .fin M
 | some it => .next it.next (if it.s.name=[] then popM M M.stack.dropLast else setM (popM M M.stack.dropLast) (varM (ZZ (popM M M.stack.dropLast)) it.s.name) gave)
def goC (p:Pg) (tape watch:List Int) (fuel:Int):Cf->Cf
 | .next a M=>if a = -1 then .back 0 M else if M.steps=fuel then .fin (endM M 2) else match (sheetOf p).l[(a-1).toNat]? with
   | none => .fin M
   | some it=>stI p tape watch (VY M) it
 | .back g M=>GE p g M
 | .fin M => .fin M
def q1q (p:Pg) (tape watch:List Int) (fuel:Int):Nat->Cf->Cf
 | 0,c=>c
 | n+1,c=>goC p tape watch fuel (q1q p tape watch fuel n c)
structure FrameOk (p:Pg) (M:Mc) (f:Fm):Prop where
 pr : ∃ g,p.procs[f.proc]? = some g∧f.names=varsS p g
 len:f.vars.length=f.names.length
 rng : ∀ v∈f.vars,v<M.mem.length
inductive Chain (p:Pg):List Fm->Prop
 | one {f:Fm} (h:f.call=0):Chain p [f]
 | push {l:List Fm} {g f:Fm} {q:Pr} {it:Item} (hl:Chain p (l++[g])) (h1:1<=f.call) (hle:f.call<=100000) (hit:(sheetOf p).l[(f.call-1).toNat]? = some it) (hk:it.s.kind=4) (hp:p.procs[g.proc]? = some q) (hi:it∈itsOf p g.proc q) (hid:it.s.id=f.call):Chain p (l++[g]++[f])
structure Good (p:Pg) (M:Mc) (b:Int):Prop where
 ch:Chain p M.stack
 fr : ∀ f∈M.stack,FrameOk p M f
 gl:p.globals.length<=M.mem.length
 sl:M.stack.length<=101
 fin:M.fin=0
 r0:0<=M.reads
 rd:M.reads<=b
 tr:(M.trace.length:Int)<=b
 ou:(M.out.length:Int)<=b
def AtOk (p:Pg) (a:Int) (k:Nat):Prop:=a = -1 ∨ ∃ g it,p.procs[k]? = some g∧1<=a∧(sheetOf p).l[(a-1).toNat]? = some it∧it∈itsOf p k g∧it.s.id=a
def NI (p:Pg) (fuel:Int):Cf->Prop
 | .next a M=>Good p M M.steps∧0<=M.steps∧M.steps<=fuel∧AtOk p a (ZZ M).proc
 | .back _ M=>Good p M M.steps∧0<=M.steps∧M.steps<=fuel
 | .fin _=>True
def cfμ (fuel:Int):Cf->Nat
 | .next _ M=>6*(fuel-M.steps).toNat+2*M.stack.length+2
 | .back _ M=>6*(fuel-M.steps).toNat+2*M.stack.length+1
 | .fin _=>0
theorem Chain.ne {p:Pg} {l:List Fm} (h:Chain p l) : ∃ st f,l=st++[f]:=by
 cases h with
 | one h=>exact ⟨[],_,rfl⟩
 | push=>exact ⟨_,_,rfl⟩
theorem q7z {M:Mc} {st:List Fm} {f:Fm} (h:M.stack=st++[f]):ZZ M=f:=by
 unfold ZZ;rw [h,List.getLast?_concat];rfl
theorem Good.top {p:Pg} {M:Mc} {b:Int} (h:Good p M b) : ∃ st,M.stack=st++[ZZ M]:=by
 obtain ⟨st,f,e⟩:=h.ch.ne;exact ⟨st,by rw [q7z e];exact e⟩
theorem x0t {M M':Mc} (h:M'.stack=M.stack):ZZ M'=ZZ M:=by unfold ZZ;rw [h]
theorem z1e {p:Pg} (hc:ZB p=true) {k:Nat} {g:Pr} (hk:p.procs[k]? = some g):(varsS p g).length<=100:=by
 have h1:=(YY hc).1;have h2:=(JE (QM hc).1).pr g (List.mem_of_getElem? hk);unfold varsS q2q;simp only [length_append,length_map];omega
theorem Good.okM {p:Pg} {M:Mc} {b:Int} (hc:ZB p=true) (h:Good p M b) {bs:List Nat} (hb:bs.length=M.mem.length):OkM p bs M :=
 ⟨hb,fun f hf=>⟨(h.fr f hf).len,(h.fr f hf).rng⟩,h.gl,Nat.le_trans h.sl (by decide),fun f hf=>by
   obtain ⟨g,h1,h2⟩:=(h.fr f hf).pr;have:=z1e hc h1;rw [h2];omega⟩
theorem Good.same {p:Pg} {M M':Mc} {b b':Int} (h:Good p M b) (hs:M'.stack=M.stack) (hm:M.mem.length<=M'.mem.length) (hf:M'.fin=0) (h0:0<=M'.reads) (h1:M'.reads<=b') (h2:(M'.trace.length:Int)<=b') (h3:(M'.out.length:Int)<=b'):Good p M' b' :=
 ⟨by rw [hs];exact h.ch,fun f hq=>by
   rw [hs] at hq;exact ⟨(h.fr f hq).pr,(h.fr f hq).len,fun v hv=>Nat.lt_of_lt_of_le ((h.fr f hq).rng v hv) hm⟩,Nat.le_trans h.gl hm,by rw [hs];exact h.sl,hf,h0,h1,h2,h3⟩
theorem VJ (w:List Int) (M:Mc) (id:Int) (v:List Int):(QG w M id v).stack=M.stack∧(QG w M id v).mem=M.mem∧(QG w M id v).fin=M.fin∧(QG w M id v).steps=M.steps∧(QG w M id v).reads=M.reads∧(QG w M id v).out=M.out∧(QG w M id v).trace.length<=M.trace.length+1:=by
 refine ⟨q7y,q3a,?_,?_,?_,z6t,z5h⟩<;>(unfold QG;cases w.any fun x=>decide (id=x)<;>rfl)
theorem Good.event {p:Pg} {M:Mc} {b:Int} (h:Good p M b) (w:List Int) (id:Int) (v:List Int):Good p (QG w M id v) (b+1):=by
 obtain ⟨e1,e2,e3,e4,e5,e6,e7⟩:=VJ w M id v;have:=h.tr;have:=h.ou;have:=h.rd;exact h.same e1 (by rw [e2];exact Nat.le_refl _) (e3.trans h.fin) (by rw [e5];exact h.r0) (by rw [e5];omega) (by omega) (by rw [e6];omega)
section
variable {p:Pg}
theorem AtOk.of (hc:ZB p=true) {k:Nat} {g:Pr} (hk:p.procs[k]? = some g) {a:Int} (h:okI (QE p.procs k) (QE p.procs k+QY g.body) a):AtOk p a k:=by
 rcases h with h|⟨h1,h2⟩
 ·exact .inl h
 ·obtain ⟨it,h3,h4⟩:=KP hk (k:=(a-1).toNat) (by omega) (by omega);have h5:=x4o hc hk (by omega) (by omega) h3;exact .inr ⟨g,it,hk,by omega,h3,h4,by omega⟩
theorem x4f (hc:ZB p=true) {k:Nat} {g:Pr} (hk:p.procs[k]? = some g) {t:S} (ht:t∈flL g.body) {n:Str} (hn:n∈ZY t):n∈varsS p g:=by
 have h1:=KE (QM hc).2.1 (List.mem_of_getElem? hk) ht;unfold UR at h1;rw [Bool.and_eq_true] at h1;have h2:=List.all_eq_true.1 h1.1 n hn;have h3:MW p g n≠0:=by simpa using h2
 unfold varsS;rcases z3a h3 with h|h
 ·exact List.mem_append_left _ h
 ·exact List.mem_append_right _ h
theorem x2v {l:List Str} {n:Str} (h:n∈l):0<=idxF (fun y=>n==y) l:=by
 unfold idxF;have:l.any (fun y=>n==y)=true:=List.any_eq_true.2 ⟨n,h,by simp⟩;rw [this,cond_true];omega
theorem z6f {t:S} (h1:t.kind≠10) (h2:t.name≠[]):t.name∈ZY t:=by
 unfold ZY HX;have:(decide (t.kind≠10) && !(t.name==[]))=true:=by simp [h1,h2]
 rw [this];simp
theorem z8p {t:S} {a:Arg} (ha:a∈t.args) (hr:a.ref=true):a.name∈ZY t:=by
 unfold ZY;refine List.mem_append_right _ (List.mem_flatMap.2 ⟨a,ha,?_⟩);unfold JX;rw [hr];simp
theorem z3n {f:Fm} (hl:f.vars.length=f.names.length) {n:Str} (h:n∈f.names):varM f n∈f.vars:=by
 have h1:=q0b (x2v h);unfold varM;rw [List.getD_eq_getElem?_getD,List.getElem?_eq_getElem (by omega)];exact List.getElem_mem _
end
theorem q4a {f:Fm} : ∀ (l:List Arg) (ps:List Nat) (M:Mc),(∀ a∈l,a.ref=true->varM f a.name<M.mem.length)->(∀ v∈ps,v<M.mem.length) ->
  (argsM f l ps M).2.1.stack=M.stack∧M.mem.length<=(argsM f l ps M).2.1.mem.length∧(argsM f l ps M).2.1.steps=M.steps∧(argsM f l ps M).2.1.reads=M.reads∧(argsM f l ps M).2.1.out=M.out∧(argsM f l ps M).2.1.trace=M.trace ∧
  ((argsM f l ps M).2.2=true->(argsM f l ps M).2.1.fin=M.fin∧(argsM f l ps M).1.length=ps.length+l.length ∧ ∀ v∈(argsM f l ps M).1,v<(argsM f l ps M).2.1.mem.length)∧((argsM f l ps M).2.2=false->(argsM f l ps M).2.1.fin=4)
 | [],ps,M,_,hp=>⟨rfl,Nat.le_refl _,rfl,rfl,rfl,rfl,fun _=>⟨rfl,rfl,hp⟩,(fun h=>(by cases h))⟩
 | a::r,ps,M,ha,hp=>by
   rw [argsM];cases hr:a.ref with
   | true =>
     rw [cond_true];obtain ⟨h1,h2,h3,h4,h5,h6,h7,h8⟩:=q4a r (ps++[varM f a.name]) M (fun b hb=>ha b (mem_cons_of_mem _ hb)) fun v hv=>by
      rcases List.mem_append.1 hv with hv|hv
      ·exact hp v hv
      ·rw [List.mem_singleton.1 hv];exact ha a mem_cons_self hr
     refine ⟨h1,h2,h3,h4,h5,h6,fun h => ?_,h8⟩;obtain ⟨g1,g2,g3⟩:=h7 h;exact ⟨g1,by rw [g2,length_append,length_cons,length_cons,length_nil];omega,g3⟩
   | false =>
     rw [cond_false];cases hw:(QC M f a.x).2 with
     | false=>exact ⟨rfl,Nat.le_refl _,rfl,rfl,rfl,rfl,(fun h=>(by cases h)),fun _=>rfl⟩
     | true =>
       rw [cond_true];have hml:({ M with mem:=M.mem++[(QC M f a.x).1] }:Mc).mem.length=M.mem.length+1:=by simp
       obtain ⟨h1,h2,h3,h4,h5,h6,h7,h8⟩:=q4a (f:=f) r (ps++[M.mem.length]) { M with mem:=M.mem++[(QC M f a.x).1] } (fun b hb h=>by
         have:=ha b (mem_cons_of_mem _ hb) h;rw [hml];omega) fun v hv=>by
        rw [hml];rcases List.mem_append.1 hv with hv|hv
        ·have:=hp v hv;omega
        ·rw [List.mem_singleton.1 hv];omega
       rw [hml] at h2;refine ⟨h1,by omega,h3,h4,h5,h6,fun h => ?_,h8⟩;obtain ⟨g1,g2,g3⟩:=h7 h;exact ⟨g1,by rw [g2,length_append,length_cons,length_cons,length_nil];omega,g3⟩
section
variable {p:Pg} (hc:ZB p=true)
include hc
theorem q6x {M:Mc} {b:Int} (hG:Good p M b) {g:Pr} (hk:p.procs[(ZZ M).proc]? = some g) {t:S} (ht:t∈flL g.body) {n:Str} (hn:n∈ZY t):0<=idxF (fun y=>n==y) (ZZ M).names∧varM (ZZ M) n<M.mem.length:=by
 obtain ⟨st,hs⟩:=hG.top;have hF:=hG.fr (ZZ M) (by rw [hs];exact List.mem_append_right _ (List.mem_singleton.2 rfl));obtain ⟨g',h1,h2⟩:=hF.pr;rw [hk] at h1;cases h1;have h3:=x4f hc hk ht hn;rw [<- h2] at h3;exact ⟨x2v h3,hF.rng _ (z3n hF.len h3)⟩
theorem x9s {k:Nat} {g:Pr} (hk:p.procs[k]? = some g) {t:S} (ht:t∈flL g.body) (h4:t.kind=4):idxF (fun g=>g.name==t.proc) p.procs=(MQ p t:Nat)∧p.procs[MQ p t]? = some (prA p (MQ p t))∧(prA p (MQ p t)).params.length=t.args.length:=by
 obtain ⟨k',h1,h2,_,_,h5⟩:=x5q hc (List.mem_flatMap.2 ⟨g,List.mem_of_getElem? hk,ht⟩) h4;have e:MQ p t=k':=by
  unfold MQ;show (caI p t).toNat=k';rw [h2];rfl
 refine ⟨by rw [e];exact h2,by rw [e];exact z7q h1,?_⟩;rw [e];have:=congrArg List.length h5;simpa using this
theorem z0s {M:Mc} {b:Int} (hfr : ∀ f∈M.stack,FrameOk p M f) (hgl:p.globals.length<=M.mem.length) (hfin:M.fin=0) (hr0:0<=M.reads) (hrd:M.reads<=b) (htr:(M.trace.length:Int)<=b) (hou:(M.out.length:Int)<=b) (hsl:M.stack.length<=100) {k:Nat} {g:Pr} (hk:p.procs[k]? = some g) {ps:List Nat} (hpl:ps.length=g.params.length) (hpr : ∀ v∈ps,v<M.mem.length) {call:Int}
  (hch:Chain p (M.stack++[⟨k,varsS p g,List.range p.globals.length++ps++List.range' M.mem.length g.vars.length,call⟩])):Good p (JQ p k g ps call M) b∧AtOk p (q2h p k g) (ZZ (JQ p k g ps call M)).proc∧(JQ p k g ps call M).stack.length=M.stack.length+1:=by
 have hml:(JQ p k g ps call M).mem.length=M.mem.length+g.vars.length:=by unfold JQ;simp
 refine ⟨⟨hch,fun f hf => ?_,by rw [hml];have:=hgl;omega,by unfold JQ;simp;omega,hfin,hr0,hrd,htr,hou⟩,?_,by unfold JQ;simp⟩
 ·rcases List.mem_append.1 hf with hf|hf
  ·exact ⟨(hfr f hf).pr,(hfr f hf).len,fun v hv=>by have:=(hfr f hf).rng v hv;rw [hml];omega⟩
  ·rw [List.mem_singleton.1 hf];refine ⟨⟨g,hk,rfl⟩,?_,fun v hv => ?_⟩
   ·show (List.range p.globals.length++ps++List.range' M.mem.length g.vars.length).length=(varsS p g).length;unfold varsS q2q;simp only [length_append,List.length_range,List.length_range',length_map];omega
   ·have hv:v∈List.range p.globals.length++ps++List.range' M.mem.length g.vars.length:=hv;rw [hml];rcases List.mem_append.1 hv with hv|hv
    ·rcases List.mem_append.1 hv with hv|hv
     ·have:=List.mem_range.1 hv;have:=hgl;omega
     ·have:=hpr v hv;omega
    ·have:=List.mem_range'_1.1 hv;omega
 ·rw [q7z (M:=JQ p k g ps call M) (st:=M.stack) rfl];refine AtOk.of hc hk ?_;unfold q2h;split
  ·exact .inr ⟨by omega,by omega⟩
  ·exact .inl rfl
theorem z8n (watch:List Int) {M:Mc} {b:Int} (hG:Good p M b) {g:Pr} (hk:p.procs[(ZZ M).proc]? = some g) {it:Item} (hi:it∈itsOf p (ZZ M).proc g) (h4:it.s.kind=4) {r:Int×Mc} (hr:r=JA p watch M (ZZ M) it.s (MQ p it.s) (prA p (MQ p it.s))) :
  r.2.steps=M.steps∧(r.2.fin=0->Good p r.2 (b+1)∧AtOk p r.1 (ZZ r.2).proc∧r.2.stack.length=M.stack.length+1):=by
 subst hr;have ht:=BC hi;obtain ⟨_,k1,k2⟩:=x9s hc hk ht h4;obtain ⟨st,hst⟩:=hG.top;obtain ⟨a1,a2,a3,a4,a5,a6,a7,a8⟩:=q4a (f:=ZZ M) it.s.args [] M (fun a ha hr=>(q6x hc hG hk ht (z8p ha hr)).2) (fun v hv=>by cases hv);unfold JA;generalize argsM (ZZ M) it.s.args [] M=ar at *
 obtain ⟨ps,M1,ok⟩:=ar;simp only at a1 a2 a3 a4 a5 a6 a7 a8 ⊢;cases ok with
 | false =>
   refine ⟨a3,fun h => ?_⟩;have h:M1.fin=0:=h;have:=a8 rfl;omega
 | true =>
   obtain ⟨b1,b2,b3⟩:=a7 rfl;rw [cond_true];split
   ·refine ⟨a3,fun h => ?_⟩;have h:(5:Int)=0:=h;cases h
   ·rename_i hsl;have hG1:Good p M1 b:=hG.same a1 a2 (b1.trans hG.fin) (by rw [a4];exact hG.r0) (by rw [a4];exact hG.rd) (by rw [a6];exact hG.tr) (by rw [a5];exact hG.ou);have hG2:=hG1.event watch it.s.id [];obtain ⟨e1,e2,e3,e4,e5,e6,e7⟩:=VJ watch M1 it.s.id [];have hid:=YG (QM hc).1 hk ht;have hcn:=(YY hc).2.2;have hle:=((QJ p).2.2.2.2 _ _ hk).2.2.1;have hop:=z0s hc hG2.fr hG2.gl hG2.fin hG2.r0 hG2.rd hG2.tr hG2.ou (by rw [e1];omega) k1 (ps:=ps) (by rw [b2,k2];simp) (fun v hv=>by rw [e2];exact b3 v hv) (call:=it.s.id) (by
     rw [e1,a1,hst];exact .push (it:=it) (hst▸hG.ch) (by show 1<=it.s.id;omega) (by show it.s.id<=100000;omega) (z7j hc hk hi) h4 hk hi rfl)
    refine ⟨?_,fun _=>⟨hop.1,hop.2.1,?_⟩⟩
    ·show (QG watch M1 it.s.id []).steps=M.steps;rw [e4,a3]
    ·rw [<- a1,<- e1];exact hop.2.2
omit hc in
theorem z6z (watch:List Int) {M:Mc} {b:Int} (hG:Good p M b) (t:S) {r:Int×Mc} (hr:r=x4e watch M (ZZ M) t):r.2.steps=M.steps∧(r.2.fin=0->Good p r.2 (b+1)∧r.2.stack=M.stack):=by
 subst hr;have he:=fun v=>VJ watch M t.id v;unfold x4e;cases t.has with
 | false=>exact ⟨(he []).2.2.2.1,fun _=>⟨hG.event watch t.id [],(he []).1⟩⟩
 | true =>
   rw [cond_true];cases hw:(QC M (ZZ M) t.x).2 with
   | false =>
     refine ⟨rfl,fun h => ?_⟩;have h:(4:Int)=0:=h;cases h
   | true=>exact ⟨(he _).2.2.2.1,fun _=>⟨hG.event watch t.id _,(he _).1⟩⟩
omit hc in
theorem z2h (tape watch:List Int) {M:Mc} {f:Fm} {g:Pr} {it:Item} (h4:it.s.kind≠4) (h9:it.s.kind≠9) {r:Int×Mc} (hr:r=doM p tape watch M f g it) (h0:r.2.fin=0):r.1∈VH (sheetOf p) g it:=by
 subst hr;unfold doM at h0 ⊢;unfold VH;by_cases h7:it.s.kind=7
 ·simp [h7]
 by_cases h8:it.s.kind=8
 ·simp [h8]
 by_cases h10:it.s.kind=10
 ·simp [h10]
 simp only [if_neg h7,if_neg h8,if_neg h10,if_neg h9] at h0 ⊢;by_cases h2:it.s.kind=2
 ·have h5 : ¬it.s.kind=5:=by omega
  have h6 : ¬it.s.kind=6:=by omega
  simp only [if_pos h2,if_neg h5,if_neg h6] at h0 ⊢;split at h0
  ·have h0:(3:Int)=0:=h0;cases h0
  ·rename_i h;rw [if_neg h];exact mem_cons_self
 simp only [if_neg h2] at h0 ⊢;cases hw:(QC M f it.s.x).2 with
 | false =>
   rw [hw] at h0;have h0:(4:Int)=0:=h0;cases h0
 | true =>
   clear h0;simp only [cond_true];by_cases h5:it.s.kind=5
   ·have h1 : ¬it.s.kind=1:=by omega
    have h3 : ¬it.s.kind=3:=by omega
    simp only [if_neg h1,if_neg h3,if_pos h5];split<;>simp
   by_cases h6:it.s.kind=6
   ·have h1 : ¬it.s.kind=1:=by omega
    have h3 : ¬it.s.kind=3:=by omega
    simp only [if_neg h1,if_neg h3,if_neg h5,if_pos h6];split<;>simp
   simp only [if_neg h5,if_neg h6];split
   ·exact mem_cons_self
   split
   ·exact mem_cons_self
   ·exact mem_cons_self
theorem w0k (tape watch:List Int) {M:Mc} {b:Int} (hG:Good p M b) {g:Pr} (hk:p.procs[(ZZ M).proc]? = some g) {it:Item} (hi:it∈itsOf p (ZZ M).proc g) (h4:it.s.kind≠4) (h9:it.s.kind≠9) {r:Int×Mc} (hr:r=doM p tape watch M (ZZ M) g it) :
  r.2.steps=M.steps∧(r.2.fin=0->Good p r.2 (b+1)∧AtOk p r.1 (ZZ M).proc∧r.2.stack=M.stack):=by
 have hgo:=z2h (p:=p) tape watch (M:=M) (f:=ZZ M) (g:=g) h4 h9 hr;have hat:r.2.fin=0->AtOk p r.1 (ZZ M).proc:=fun h0=>AtOk.of hc hk ((PB hc hk).2.1 _ (z6a hi (hgo h0))).2
 suffices h:r.2.steps=M.steps∧(r.2.fin=0->Good p r.2 (b+1)∧r.2.stack=M.stack) from ⟨h.1,fun h0=>⟨(h.2 h0).1,hat h0,(h.2 h0).2⟩⟩
 clear hgo hat;subst hr;have he:=fun v=>VJ watch M it.s.id v;have key : ∀ (a:Int) v,(QG watch M it.s.id v).steps=M.steps∧((QG watch M it.s.id v).fin=0->Good p (QG watch M it.s.id v) (b+1)∧(QG watch M it.s.id v).stack=M.stack):=fun _ v=>⟨(he v).2.2.2.1,fun _=>⟨hG.event watch it.s.id v,(he v).1⟩⟩;unfold doM;by_cases h7:it.s.kind=7
 ·rw [if_pos h7];exact key 0 []
 by_cases h8:it.s.kind=8
 ·rw [if_neg h7,if_pos h8];exact key 0 []
 by_cases h10:it.s.kind=10
 ·rw [if_neg h7,if_neg h8,if_pos h10];exact key 0 []
 rw [if_neg h7,if_neg h8,if_neg h10];by_cases h2:it.s.kind=2
 ·rw [if_pos h2];split
  ·refine ⟨rfl,fun h => ?_⟩;have h:(3:Int)=0:=h;cases h
  ·generalize varM (ZZ M) it.s.name=v;generalize tape.getD M.reads.toNat 0=n;obtain ⟨e1,e2,e3,e4,e5,e6,e7⟩:=VJ watch (setM { M with reads:=M.reads+1 } v n) it.s.id [n];refine ⟨e4,fun _=>⟨hG.same e1 (by rw [e2];unfold setM;simp) (e3.trans hG.fin) ?_ ?_ ?_ ?_,e1⟩⟩
   ·rw [e5];have:=hG.r0;show 0<=M.reads+1;omega
   ·rw [e5];have:=hG.rd;show M.reads+1<=b+1;omega
   ·have:=hG.tr;have e7:(QG watch (setM { M with reads:=M.reads+1 } v n) it.s.id [n]).trace.length<=M.trace.length+1:=e7;have e9:((QG watch (setM { M with reads:=M.reads+1 } v n) it.s.id [n]).trace.length:Int)<=b+1:=by omega
    exact e9
   ·rw [e6];have:=hG.ou;show (M.out.length:Int)<=b+1;omega
 rw [if_neg h2];cases hw:(QC M (ZZ M) it.s.x).2 with
 | false =>
   refine ⟨rfl,fun h => ?_⟩;have h:(4:Int)=0:=h;cases h
 | true =>
   rw [cond_true];generalize (QC M (ZZ M) it.s.x).1=n;by_cases h1:it.s.kind=1
   ·rw [if_pos h1];obtain ⟨e1,e2,e3,e4,e5,e6,e7⟩:=he [n];have hG1:=hG.event watch it.s.id [n];exact ⟨e4,fun _=>⟨hG1.same rfl (by unfold setM;simp) hG1.fin hG1.r0 hG1.rd hG1.tr hG1.ou,e1⟩⟩
   rw [if_neg h1];by_cases h3:it.s.kind=3
   ·rw [if_pos h3];obtain ⟨e1,e2,e3,e4,e5,e6,e7⟩:=he [n];have hG1:=hG.event watch it.s.id [n];refine ⟨e4,fun _=>⟨hG1.same rfl (Nat.le_refl _) hG1.fin hG1.r0 hG1.rd hG1.tr ?_,e1⟩⟩;show (((QG watch M it.s.id [n]).out++[n]).length:Int)<=b+1;rw [e6,length_append];have:=hG.ou;simp only [length_cons,length_nil];omega
   rw [if_neg h3];by_cases h5:it.s.kind=5
   ·rw [if_pos h5];exact key 0 [n]
   by_cases h6:it.s.kind=6
   ·rw [if_neg h5,if_pos h6];exact key 0 [n]
   rw [if_neg h5,if_neg h6];exact key 0 [n]
theorem x3s {M:Mc} {b:Int} (hG:Good p M b) {st:List Fm} (hs:M.stack=st++[ZZ M]) (gave:Int):(ZZ M).call<=100000 ∧
  ((∃ M',GE p gave M = .fin M'∧CloseP p M st (ZZ M) gave (-1) M'∧M'.fin=1) ∨
  ∃ a M',GE p gave M = .next a M'∧CloseP p M st (ZZ M) gave a M'∧Good p M' b∧AtOk p a (ZZ M').proc∧M'.stack.length+1=M.stack.length∧M'.steps=M.steps):=by
 have hst:M.stack.dropLast=st:=by rw [hs,List.dropLast_concat]
 have hch:=hG.ch;rw [hs] at hch;generalize hF:ZZ M=F at *
 unfold GE;rw [hst,hF];generalize hL:st++[F]=L at hch;cases hch with
 | one h =>
   rename_i f;obtain ⟨rfl,h2⟩:=List.append_inj' (show st++[F]=[]++[f] from hL) rfl;have h2:F=f:=by simpa using h2
   subst h2;rw [if_pos h];exact ⟨by omega,.inl ⟨_,rfl,.done h,rfl⟩⟩
 | push hl h1 hle hit hk hp hi hid =>
   rename_i l g f q it;obtain ⟨rfl,h2⟩:=List.append_inj' hL rfl;have h2:F=f:=by simpa using h2
   subst h2;have hgm:g∈M.stack:=by rw [hs];simp
   have hgF:=hG.fr g hgm;refine ⟨hle,.inr ?_⟩;rw [if_neg (by omega),hit];have htop:ZZ (popM M (l++[g]))=g:=q7z (st:=l) rfl;have hnx:AtOk p it.next g.proc:=AtOk.of hc hp (q0t hi).1;have hG1:Good p (popM M (l++[g])) b:=⟨hl,fun f hf=>⟨(hG.fr f (by rw [hs];exact List.mem_append_left _ hf)).pr,(hG.fr f (by rw [hs];exact List.mem_append_left _ hf)).len,(hG.fr f (by rw [hs];exact List.mem_append_left _ hf)).rng⟩,hG.gl,by
    have h:=hG.sl;rw [hs,length_append] at h;show (l++[g]).length<=101;omega,hG.fin,hG.r0,hG.rd,hG.tr,hG.ou⟩
   have hlen:(popM M (l++[g])).stack.length+1=M.stack.length:=by
    rw [hs,length_append];rfl
   by_cases hn:it.s.name=[]
   ·refine ⟨it.next,_,rfl,?_,?_⟩
    ·rw [if_pos hn];exact .drop h1 hit hn
    ·rw [if_pos hn];exact ⟨hG1,by rw [htop];exact hnx,hlen,rfl⟩
   ·obtain ⟨q',u1,u2⟩:=hgF.pr;rw [hp] at u1;cases u1;have hin:=x4f hc hp (BC hi) (z6f (by omega) hn);rw [<- u2] at hin;refine ⟨it.next,_,rfl,?_,?_⟩
    ·rw [if_neg hn,htop];exact .keep h1 hit hn rfl (x2v hin)
    ·rw [if_neg hn];refine ⟨hG1.same rfl (by unfold setM;simp) hG1.fin hG1.r0 hG1.rd hG1.tr hG1.ou,?_,hlen,rfl⟩;have e:ZZ (setM (popM M (l++[g])) (varM (ZZ (popM M (l++[g]))) it.s.name) gave)=g:=(x0t (M:=popM M (l++[g])) rfl).trans htop;rw [e];exact hnx
end
def mainN (p:Pg):Nat:=(idxF (fun f=>f.name==mainS) p.procs).toNat
def M00 (p:Pg):Mc:=⟨[],List.replicate p.globals.length 0,0,0,0,[],[]⟩
def GC (p:Pg):Cf := .next (q2h p (mainN p) (prA p (mainN p))) (JQ p (mainN p) (prA p (mainN p)) [] 0 (M00 p))
theorem x0x {p:Pg} (hc:ZB p=true):idxF (fun f=>f.name==mainS) p.procs=(mainN p:Nat)∧p.procs[mainN p]? = some (prA p (mainN p))∧(prA p (mainN p)).params=[]:=by
 obtain ⟨k,f,h1,_,h3,h4⟩:=x4v hc;obtain ⟨k',hk',h5,_,_,h6⟩:=q0m (p:=p) (n:=mainS) (List.mem_map.2 ⟨f,List.mem_of_getElem? h1,h3⟩);obtain ⟨rfl,h7⟩:=q6o hc h1 (List.getElem?_eq_getElem hk') (h3.trans h6.symm);have e:mainN p=k:=by unfold mainN;rw [h5];rfl
 rw [e,q3c h1];exact ⟨h5,h1,h4⟩
theorem x3n {p:Pg} (hc:ZB p=true) {fuel:Int} (h0:0<=fuel):NI p fuel (GC p):=by
 obtain ⟨h1,h2,h3⟩:=x0x hc;have h:=z0s hc (M:=M00 p) (b:=0) (fun f hf=>by cases hf) (by simp [M00]) rfl (Int.le_refl _) (Int.le_refl _) (Int.le_refl _) (Int.le_refl _) (zero_le _) h2 (ps:=[]) (by rw [h3];rfl) (fun v hv=>by cases hv) (call:=0) (.one rfl);exact ⟨h.1,Int.le_refl _,h0,h.2.1⟩
theorem DV (p:Pg) (tape watch:List Int) (fuel:Int) (n:Nat) (c:Cf):q1q p tape watch fuel (n+1) c=goC p tape watch fuel (q1q p tape watch fuel n c):=rfl
end Go.Ab
