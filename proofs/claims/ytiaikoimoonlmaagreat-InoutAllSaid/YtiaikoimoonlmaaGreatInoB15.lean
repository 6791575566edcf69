/- The reference's ways from a place: what they lead to. -/
import Derived.Test.YtiaikoimoonlmaaGreatInoB4
import Derived.Test.YtiaikoimoonlmaaGreatInoB6
import Derived.Test.YtiaikoimoonlmaaGreatInoB9
import Derived.Test.YtiaikoimoonlmaaGreatInoB10
import Derived.Test.YtiaikoimoonlmaaGreatInoB13
import Derived.Test.YtiaikoimoonlmaaGreatInoB14
set_option linter.unusedSimpArgs false
set_option linter.unusedVariables false
set_option maxRecDepth 100000
set_option maxHeartbeats 16000000
open Nat (beq)
namespace Go.Ab
open Go.Proofs.Tryz
open Go.Proofs
def frR (steps:List Step) (at_:Int) (but:List Int) (a b:Int):Prop:=(a=at_∨JS but a=false) ∧ ∃ s∈steps,s.src=a∧s.dst=b
structure FrI (steps:List Step) (at_:Int) (but:List Int) (n:Nat) (l:List Int):Prop where
 le:n<=l.length
 hd:l[0]? = some at_
 nd:l.Nodup
 sub : ∀ x∈l,x∈at_::steps.map Step.dst
 snd : ∀ x∈l,Rch (frR steps at_ but) at_ x
 cl : ∀ (m:Nat) (a:Int),m<n->l[m]? = some a -> ∀ b,frR steps at_ but a b->b∈l
theorem FrI.len {steps:List Step} {at_:Int} {but:List Int} {n:Nat} {l:List Int} (h:FrI steps at_ but n l):l.length<=steps.length+1:=by
 have:=UZ h.nd h.sub;simpa using this
theorem FrI.start (steps:List Step) (at_:Int) (but:List Int):FrI steps at_ but 0 [at_]:=⟨u3l _,rfl,by simp,by simp,fun x hx=>by rw [u3b.1 hx];exact .refl,fun m a hm=>by omega⟩
theorem FrI.add {steps:List Step} {at_:Int} {but:List Int} {n:Nat} {l:List Int} (h:FrI steps at_ but n l) {a b:Int} (ha:a∈l) (hb:frR steps at_ but a b) (hn:JS l b=false):FrI steps at_ but n (l++[b]):=by
 have hnm:b∉l:=fun hm=>by rw [ZI.2 hm] at hn;cases hn
 have h0:0<l.length:=(u3e.1 h.hd).1;refine ⟨by rw [u3f];have:=h.le;omega,by rw [u5g h0];exact h.hd,?_,fun x hx => ?_,fun x hx => ?_,fun m c hm hc d hd => ?_⟩
 ·rw [u5p];refine ⟨h.nd,by simp,fun x hx y hy => ?_⟩;rw [u3b.1 hy];exact fun e=>hnm (e▸hx)
 ·rcases u3p.1 hx with hx|hx
  ·exact h.sub x hx
  ·rw [u3b.1 hx];obtain ⟨_,s,hs,_,h2⟩:=hb;exact u3n _ (u3s.2 ⟨s,hs,h2⟩)
 ·rcases u3p.1 hx with hx|hx
  ·exact h.snd x hx
  ·rw [u3b.1 hx];exact .tail (h.snd a ha) hb
 ·rcases u3r m l.length with hml|hml
  ·rw [u5g hml] at hc;exact u3p.2 (.inl (h.cl m c hm hc d hd))
  ·have:=h.le;omega
theorem FrI.fin {steps:List Step} {at_:Int} {but:List Int} {l:List Int} (h:FrI steps at_ but l.length l) (x:Int):x∈l↔Rch (frR steps at_ but) at_ x:=by
 refine ⟨h.snd x,fun hr=>hr.closed (S:=fun x=>x∈l) (fun a b ha hb => ?_) (u4d h.hd)⟩;obtain ⟨m,hm⟩:=u7q.1 ha;exact h.cl m a (u3e.1 hm).1 hm b hb
theorem FrI.next {steps:List Step} {at_:Int} {but:List Int} {n:Nat} {l:List Int} (h:FrI steps at_ but n l) (hn:n<l.length) (hc : ∀ b,frR steps at_ but l[n] b->b∈l):FrI steps at_ but (n+1) l:=by
 refine ⟨hn,h.hd,h.nd,h.sub,h.snd,fun m a hm ha b hb => ?_⟩;rcases u3r m n with hmn|hmn
 ·exact h.cl m a hmn ha b hb
 ·obtain rfl:m=n:=by omega
  rw [u3h hn] at ha;cases ha;exact hc b hb
def v9z (steps:List Step) (at_:Int) (but:List Int) (r:AV):Prop := ∃ es,r=QR es∧(∀ x,x∈es↔Rch (frR steps at_ but) at_ x)∧es.Nodup
theorem YP (steps:List Step) (at_:Int) (but:List Int) (hlen:steps.length<=1000000):SpecP prog 138 [QL steps,.int .i64 at_,QR but] (fun r=>v9z steps at_ but r):=by
 refine sB MC func138 rfl call138 ?_;conv=>whnf
 have hsl:(steps.map fun s=>AV.agg s.cells).length=steps.length:=u3k _;repeat' ((first|refine u3d rfl ?_|refine aD ?_|refine u8x (fun x hx=>by rcases u3b.1 hx with rfl;rfl) rfl ?_);conv=>whnf)
 refine LoopK.inv QX (fun x:Nat×List Int=>⟨[(0,.p (QL steps)),(2,.p (QR but)),(7,.hd 0 0 x.2.length),(8,.p (.int .i64 x.1))],[(0,.own 3 1 (x.2.map (.int .i64)))]⟩) (fun x=>x.1<=x.2.length∧FrI steps at_ but x.1 x.2) (fun x=>steps.length+2-x.1) (0,[at_]) (Le.of_eq rfl) ⟨u3l _,FrI.start _ _ _⟩ ?_;rintro ⟨n,l⟩ ⟨h1,h2⟩;simp only at h1 h2 ⊢;have hll:=h2.len;rcases u3r n l.length with hn|hn;rotate_left 1
 ·conv=>whnf
  repeat' (first|(refine iM fun _=>?_;conv=>whnf)|(apply bD<;>intro _<;>first|omega|conv=>whnf))
  have hnl:n=l.length:=by have:=h2.le;omega
  subst hnl;exact ⟨_,.hd rfl (by simp),l,rfl,h2.fin,h2.nd⟩
 conv=>whnf
 repeat' (first|((first|(refine iM fun _=>?_)|refine u3d rfl ?_|refine wI ?_|refine u5q n (by omega) (by omega) ?_|refine u5y n 0 (.int .i64 l[n]) (by omega) (by simp [hn]) ?_|refine cP (XG but l[n]) ?_);conv=>whnf)|(apply bD<;>intro _<;>first|omega|conv=>whnf)|(apply bB<;>intro _<;>conv=>whnf))
 ·have hb:JS but l[n]=true:=by assumption
  have hn0:0<n:=by omega
  refine ⟨(n+1,l),⟨hn,h2.next hn fun b ⟨h3,_⟩ => ?_⟩,by simp only;omega,Le.of_eq rfl⟩;rcases h3 with h3|h3
  ·have h4:l[0]? = l[n]? := by rw [h2.hd,u3h hn,h3]
   have:=(List.getElem?_inj (by omega) h2.nd).1 h4;omega
  ·rw [hb] at h3;cases h3
 all_goals
  have hcan:l[n]=at_∨JS but l[n]=false:=by
   first
    | exact .inr (by assumption)
    | (left
       have h5:n=0:=by omega
       have h6:=h2.hd;subst h5;rw [u3h hn] at h6;exact u6y h6)
  refine LoopK.inv QX (fun x:Nat×List Int=>⟨[(0,.p (QL steps)),(2,.p (QR but)),(7,.hd 0 0 x.2.length),(8,.p (.int .i64 n)),(29,.p (QL steps)),(30,.p (.int .i64 (steps.map fun s=>AV.agg s.cells).length)),(31,.p (.int .i64 x.1))],[(0,.own 3 1 (x.2.map (.int .i64)))]⟩) (fun x=>x.1<=steps.length∧l <+: x.2∧FrI steps at_ but n x.2 ∧ ∀ s∈steps.take x.1,s.src=l[n]->s.dst∈x.2) (fun x=>steps.length-x.1) (0,l) (Le.of_eq rfl) ⟨u3l _,List.prefix_refl _,h2,by simp⟩ ?_;rintro ⟨y,o⟩ ⟨h3,h4,h5,h6⟩;simp only at h3 h4 h5 h6 ⊢;have hno:n<o.length:=u7z hn h4.length_le;have hon:o[n]=l[n]:=by
   have:=q6a h4 (u3h hn);rw [u3h hno] at this;exact u6y this
  have hol:=h5.len;have hom:(o.map (AV.int .i64)).length=o.length:=u3k _;rcases u3r y steps.length with hy|hy
  ·have htk:=u3a hy;conv=>whnf
   repeat' (first|((first|refine dA ?_|refine u3d rfl ?_|refine aD ?_|refine bP ?_|(refine iA fun _=>?_)|refine wI ?_|refine u5q n (by omega) (by omega) ?_|refine u5y n 0 (.int .i64 o[n]) (by omega) (by simp [hno]) ?_|(refine QD (XG o steps[y].dst) (.cons (.hd rfl hom.symm) (.cons (.p (Sub.refl _)) .nil)) (by rintro _ rfl;rfl) ?_;rintro _ rfl)|refine ZZ (by simp) (by simp;omega) ?_);conv=>whnf)|(apply bD<;>intro _<;>first|omega|conv=>whnf)|(apply bN<;>intro _<;>conv=>whnf))
   all_goals first
    | exact ⟨(y+1,o++[steps[y].dst]),⟨hy,h4.trans (List.prefix_append _ _),h5.add (u3i hno) ⟨by rw [hon];exact hcan,steps[y],u3i hy,by assumption,rfl⟩ (by assumption),fun s hs he=>by
       rw [htk] at hs;rcases u3p.1 hs with hs|hs
       ·exact u3p.2 (.inl (h6 s hs he))
       ·rw [u3b.1 hs];exact u3p.2 (.inr (u3b.2 rfl))⟩,by simp only;omega,Le.of_eq (by simp only [u3f,u3t];rfl)⟩
    | exact ⟨(y+1,o),⟨hy,h4,h5,fun s hs he=>by
       rw [htk] at hs;rcases u3p.1 hs with hs|hs
       ·exact h6 s hs he
       ·rw [u3b.1 hs] at he ⊢;first
         | exact ZI.1 (by assumption)
         | (exfalso
            have hne : ¬steps[y].src=o[n]:=by assumption
            exact hne (he.trans hon.symm))⟩,by simp only;omega,Le.of_eq rfl⟩
  ·rw [u3o hy] at h6;conv=>whnf
   repeat' (first|(refine wI ?_;conv=>whnf)|(apply bD<;>intro _<;>first|omega|conv=>whnf))
   exact ⟨(n+1,o),⟨hno,h5.next hno fun b ⟨_,s,hs,h7,h8⟩=>h8▸h6 s hs (by rw [h7,hon])⟩,by simp only;omega,Le.of_eq rfl⟩
theorem q7e {P:Program} {T:Tab} {hr:Bool} {s:St} {o:Oper} {K:LV->Prop} (hT:TabOK P T) {t u:TypeId} {x y:Operand} (hop:o.op = .binOp .eql t x y u) {i:TyI} (ht:T.get t=some i) (hd:i.desc = .bool)
  {a b:Bool} (hx:v3y (XX s.sl x)=some a) (hy:v3y (XX s.sl y)=some b) (hK:K (.p (.bool (a==b)))):ValO P hr s o K:=by
 refine ⟨fun σ β ac w hs _=>⟨_,.bool (a==b),hK,.p (.bool _),fun w' _ _ => ?_⟩⟩;have h1:=q9b (QY hs x) hx;have h2:=q9b (QY hs y) hy;have hu:=hT.of ht;rw [hd] at hu;have hg:(eqGuard .eql t x y (.bool a) (.bool b)).run P w' = .ok () w':=by unfold eqGuard;rfl
 have he:(Op.equal t (.bool a) (.bool b)).run P w' = .ok (a==b) w':=by
  have e:Op.equal t (.bool a) (.bool b)=Op.equalIn (9999+1) t (.bool a) (.bool b):=rfl;rw [e,Op.equalIn,Sem.run_bind,run_underlying hu,Result.andThen_ok];rfl
 simp only [execOp,hop,h1,h2,Sem.run_bind,hg,Result.andThen_ok,binOp];simp [he]
theorem ZU {l:List Str} {x:Str}:inS l x=true↔x∈l:=by
 unfold inS;rw [u5n];constructor
 ·rintro ⟨y,h1,h2⟩;have:y=x:=by simpa using h2
  rw [<- this];exact h1
 ·intro h;exact ⟨x,h,by simp⟩
theorem BH {p:Pg} (h:QM p=true) {j:Nat} {f:Pr} (hj:p.procs[j]? = some f) {a:Int} (h1:(QN p.procs j:Int)+1<=a) (h2:a<=(QN p.procs j+cntL f.body:Nat)) : ∃ t∈flL f.body,v2b p a=some t∧t.id=a:=by
 obtain ⟨it,h3,h4⟩:=NO hj (k:=(a-1).toNat) (by omega) (by omega);refine ⟨it.s,q1m h4,by unfold v2b;rw [h3];rfl,?_⟩;obtain ⟨_,_,_,hlen,hsp⟩:=QJ p;obtain ⟨_,_,hle,hd⟩:=hsp j f hj;have hids:=w4i (QK h).1 hj;have h5:(itsOf p j f)[(a-1).toNat-QN p.procs j]? = some it:=by
  unfold itsOf;rw [<- hd,u5o,u5x,if_pos (by omega),show QN p.procs j+((a-1).toNat-QN p.procs j)=(a-1).toNat by omega];exact h3
 have h6:((itsOf p j f).map fun it=>it.s.id)[(a-1).toNat-QN p.procs j]? = some it.s.id:=by rw [u4q,h5];rfl
 rw [hids] at h6;unfold KT at h6;rw [u4q,u8j (by omega)] at h6;simp at h6;omega
theorem z5t {l:List Str} {s:Str} (h:s∈l):s∈Go.Lib.compact l:=by
 have key : ∀ (j:Nat) (hj:j<l.length),l[j]∈Go.Lib.compact l:=fun j=>by
  induction j with
  | zero =>
    intro hj;refine u3s.2 ⟨0,u4i.2 ⟨by simpa using hj,by simp [Go.Lib.keeps]⟩,?_⟩;simp [hj]
  | succ j ih =>
    intro hj;cases hk:Go.Lib.keeps l.toArray (j+1) with
    | true =>
      refine u3s.2 ⟨j+1,u4i.2 ⟨by simpa using hj,hk⟩,?_⟩;simp [hj]
    | false =>
      have hj':j<l.length:=by omega
      have:l[j+1]=l[j]:=by
       unfold Go.Lib.keeps at hk;simp [hj,hj'] at hk;exact hk
      rw [this];exact ih hj'
 obtain ⟨j,hj,rfl⟩:=u5w.1 h;exact key j hj
theorem x2f {l:List Str} {s:Str}:s∈Go.Lib.compact l↔s∈l:=⟨q1g,z5t⟩
theorem HG {α:Type} {R:α->α->Prop} (irr : ∀ a,¬R a a) (tr : ∀ a b c,R a b->R b c->R a c) : ∀ {l m:List α},l.Pairwise R->m.Pairwise R->(∀ s,s∈l↔s∈m)->l=m
 | [],[],_,_,_=>rfl
 | [],b::m,_,_,h=>by have:=(h b).2 u3g;cases this
 | a::l,[],_,_,h=>by have:=(h a).1 u3g;cases this
 | a::l,b::m,hl,hm,h=>by
   rw [u6s] at hl hm;have hab:a=b:=by
    rcases u3c.1 ((h a).1 u3g) with h1|h1
    ·exact h1
    rcases u3c.1 ((h b).2 u3g) with h2|h2
    ·exact h2.symm
    exact absurd (tr _ _ _ (hl.1 b h2) (hm.1 a h1)) (irr a)
   subst hab;rw [HG irr tr hl.2 hm.2 fun s => ?_];constructor
   ·intro hs;rcases u3c.1 ((h s).1 (u3n _ hs)) with rfl|h1
    ·exact absurd (hl.1 s hs) (irr s)
    ·exact h1
   ·intro hs;rcases u3c.1 ((h s).2 (u3n _ hs)) with rfl|h1
    ·exact absurd (hm.1 s hs) (irr s)
    ·exact h1
theorem z7y : ∀ (x y:List UInt8),Op.bytesLess x y=decide (x<y)
 | [],[]=>by simp [Op.bytesLess]
 | _::_,[]=>by simp [Op.bytesLess]
 | [],_::_=>by simp [Op.bytesLess]
 | a::x,b::y=>by
   rw [Op.bytesLess,z7y x y];simp only [List.cons_lt_cons_iff];by_cases h1:a<b<;>by_cases h2:a=b<;>by_cases h3:x<y<;>simp [h1,h2,h3]
def ltT (a b:Str):Prop:=Op.bytesLess a b=true
theorem NP {a b:Str}:ltT a b↔a<b:=by
 unfold ltT;rw [z7y,u4b]
theorem ltT.irr (a:Str) : ¬ltT a a:=fun h=>List.lt_irrefl a (NP.1 h)
theorem ltT.trans (a b c:Str) (h1:ltT a b) (h2:ltT b c):ltT a c:=NP.2 (List.lt_trans (NP.1 h1) (NP.1 h2))
theorem ltT.total {a b:Str} (h:a≠b):ltT a b∨ltT b a:=by
 by_cases h1:a<b
 ·exact .inl (NP.2 h1)
 ·rcases List.le_iff_lt_or_eq.1 (List.not_lt.1 h1) with h2|h2
  ·exact .inr (NP.2 h2)
  ·exact absurd h2.symm h
theorem z9b (l:List Str):(JL l).Pairwise fun a b=>a<=b:=by
 have:=List.pairwise_mergeSort (le:=fun x y:Str=>decide (x<=y)) (fun a b c h1 h2=>by
  rw [u4b] at h1 h2 ⊢;exact List.le_trans h1 h2) (fun a b=>by
  rcases List.le_total a b with h|h
  ·rw [u5z h];rfl
  ·rw [u5z h];exact Bool.or_true _) l
 exact this.imp fun h=>by simpa using h
theorem z1f {l:List Str} (h:l.Pairwise fun a b=>a<=b):(Go.Lib.compact l).Pairwise ltT:=by
 unfold Go.Lib.compact Go.Lib.compactUpTo;rw [u8f];refine (List.Pairwise.filter _ (List.pairwise_lt_range (n:=l.length))).imp_of_mem fun {i k} hi hk hlt => ?_;obtain ⟨hi1,_⟩:=u4i.1 hi;obtain ⟨hk1,hk2⟩:=u4i.1 hk;rw [u6c] at hi1 hk1;have le : ∀ (a b:Nat) (_:a<=b) (hb:b<l.length),l[a]'(by omega)<=l[b]:=fun a b hab hb=>by
  rcases u3r a b with h1|h1
  ·exact List.pairwise_iff_getElem.1 h a b (by omega) hb h1
  ·obtain rfl:a=b:=by omega
   exact List.le_refl _
 have g : ∀ (a:Nat) (ha:a<l.length),l.toArray[a]! = l[a]:=fun a ha=>by simp [ha]
 rw [g i hi1,g k hk1];unfold Go.Lib.keeps at hk2;rw [u4b,g k hk1,g (k-1) (by omega)] at hk2;have hne:l[k]≠l[k-1]'(by omega):=by
  rcases hk2 with h0|h0
  ·omega
  ·exact h0
 have h1:=le i (k-1) (by omega) (by omega);have h2:=le (k-1) k (by omega) hk1;rcases List.le_iff_lt_or_eq.1 h2 with h3|h3
 ·exact NP.2 (List.lt_of_le_of_lt h1 h3)
 ·exact absurd h3.symm hne
def XZ (l:List Str):List Str:=Go.Lib.compact (JL l)
theorem XF {l:List Str} {s:Str}:s∈XZ l↔s∈l:=by unfold XZ;rw [x2f,q4l]
theorem WN (l:List Str):(XZ l).Pairwise ltT:=z1f (z9b l)
theorem q4h {l m:List Str} (h:m.Pairwise ltT) (hm : ∀ s,s∈m↔s∈l):m=XZ l:=HG ltT.irr ltT.trans h (WN l) fun s=>by rw [hm,XF]
theorem z6f {l:List Str} (h:l.Nodup):JL l=XZ l:=by
 refine q4h ?_ fun s=>q4l;have hn:(JL l).Nodup:=by
  unfold JL;exact (List.mergeSort_perm l _).nodup_iff.2 h
 refine (List.pairwise_and_iff.2 ⟨z9b l,hn⟩).imp fun ⟨h1,h2⟩ => ?_;rcases List.le_iff_lt_or_eq.1 h1 with h3|h3
 ·exact NP.2 h3
 ·exact absurd h3 h2
structure RiseI {α:Type} (R:α->α->Prop) (l out:List α) (i:Nat):Prop where
 rise:out.Pairwise R
 sub : ∀ s∈out,s∈l
 seg : ∀ s∈l,s∉out -> ∀ o∈out,R o s
 cnt:(∀ s∈l,s∈out)∨out.length=i
def LeastI {α:Type} (R:α->α->Prop) (l out:List α) (k:Nat):Option α->Prop
 | none => ∀ s∈l.take k,s∈out
 | some m=>m∈l∧m∉out ∧ ∀ s∈l.take k,s∉out->s=m∨R m s
section
variable {α:Type} {R:α->α->Prop} {l out:List α} {i k:Nat}
theorem RiseI.zero:RiseI R l [] 0:=⟨.nil,fun _ h=>(by cases h),fun _ _ _ _ h=>(by cases h),.inr rfl⟩
theorem LeastI.zero:LeastI R l out 0 none:=fun s h=>by rw [u7b] at h;cases h
theorem QA {s:α} (hk:k<l.length):s∈l.take (k+1)↔s∈l.take k∨s=l[k]:=by
 rw [u3a hk,u3p,u3b]
theorem LeastI.old (hk:k<l.length) {o:Option α} (h:LeastI R l out k o) (hx:l[k]∈out):LeastI R l out (k+1) o:=by
 cases o with
 | none =>
   intro s hs;rcases (QA hk).1 hs with h1|rfl
   ·exact h s h1
   ·exact hx
 | some m =>
   refine ⟨h.1,h.2.1,fun s hs hn => ?_⟩;rcases (QA hk).1 hs with h1|rfl
   ·exact h.2.2 s h1 hn
   ·exact absurd hx hn
theorem LeastI.first (hk:k<l.length) (h:LeastI R l out k none) (hx:l[k]∉out):LeastI R l out (k+1) (some l[k]):=by
 refine ⟨u3i hk,hx,fun s hs hn => ?_⟩;rcases (QA hk).1 hs with h1|rfl
 ·exact absurd (h s h1) hn
 ·exact .inl rfl
theorem LeastI.less (tr : ∀ a b c,R a b->R b c->R a c) (hk:k<l.length) {m:α} (h:LeastI R l out k (some m)) (hx:l[k]∉out) (hR:R l[k] m):LeastI R l out (k+1) (some l[k]):=by
 refine ⟨u3i hk,hx,fun s hs hn => ?_⟩;rcases (QA hk).1 hs with h1|rfl
 ·rcases h.2.2 s h1 hn with rfl|h2
  ·exact .inr hR
  ·exact .inr (tr _ _ _ hR h2)
 ·exact .inl rfl
theorem LeastI.more (tot : ∀ a b,a≠b->R a b∨R b a) (hk:k<l.length) {m:α} (h:LeastI R l out k (some m)) (hR : ¬R l[k] m):LeastI R l out (k+1) (some m):=by
 refine ⟨h.1,h.2.1,fun s hs hn => ?_⟩;rcases (QA hk).1 hs with h1|rfl
 ·exact h.2.2 s h1 hn
 ·by_cases he:l[k]=m
  ·exact .inl he
  ·exact .inr ((tot _ _ he).resolve_left hR)
theorem RiseI.stay (h:RiseI R l out i) (hl:LeastI R l out l.length none):RiseI R l out (i+1):=by
 rw [LeastI,u7w] at hl;exact ⟨h.rise,h.sub,h.seg,.inl hl⟩
theorem RiseI.snoc (h:RiseI R l out i) {m:α} (hl:LeastI R l out l.length (some m)):RiseI R l (out++[m]) (i+1):=by
 obtain ⟨h1,h2,h3⟩:=hl;rw [u7w] at h3;refine ⟨?_,fun s hs => ?_,fun s hs hn o ho => ?_,?_⟩
 ·rw [u7t];exact ⟨h.rise,u9z _ _,fun a ha b hb=>by rw [u3b.1 hb];exact h.seg m h1 h2 a ha⟩
 ·rcases u3p.1 hs with h4|h4
  ·exact h.sub s h4
  ·rw [u3b.1 h4];exact h1
 ·rw [u3p,not_or,u3b] at hn;rcases u3p.1 ho with h4|h4
  ·exact h.seg s hs hn.1 o h4
  ·rw [u3b.1 h4];exact (h3 s hs hn.1).resolve_left hn.2
 ·rcases h.cnt with h4|h4
  ·exact absurd (h4 m h1) h2
  ·exact .inr (by rw [u3f,h4];rfl)
theorem RiseI.nodup (irr : ∀ a,¬R a a) (h:RiseI R l out i):out.Nodup:=by
 unfold List.Nodup;refine h.rise.imp fun {a b} hR e => ?_;subst e;exact irr _ hR
theorem RiseI.all [DecidableEq α] (irr : ∀ a,¬R a a) (h:RiseI R l out i) (hi:i=l.length):out.Pairwise R ∧ ∀ s,s∈out↔s∈l:=by
 refine ⟨h.rise,fun s=>⟨h.sub s,fun hs => ?_⟩⟩;rcases h.cnt with h4|h4
 ·exact h4 s hs
 ·refine u6r fun hn => ?_;have hnd:(s::out).Nodup:=u5l.2 ⟨hn,h.nodup irr⟩;have:=UZ hnd (m:=l) fun x hx=>by
   rcases u3c.1 hx with rfl|hx
   ·exact hs
   ·exact h.sub x hx
  rw [u4t] at this;omega
theorem RiseI.len [DecidableEq α] (irr : ∀ a,¬R a a) (h:RiseI R l out i):out.length<=l.length:=UZ (h.nodup irr) h.sub
end
def ordP (a b:Int):Prop:=v0k a b=true
theorem HK {a b:Int}:ordP a b↔(b = -1∧a ≠ -1)∨(a ≠ -1∧b ≠ -1∧a<b):=by
 unfold ordP v0k;by_cases ha:a = -1<;>by_cases hb:b = -1<;>simp [ha,hb]
theorem ordP.irr (a:Int) : ¬ordP a a:=fun h=>by rw [HK] at h;omega
theorem ordP.trans (a b c:Int) (h1:ordP a b) (h2:ordP b c):ordP a c:=by rw [HK] at *;omega
theorem ordP.total (a b:Int) (h:a≠b):ordP a b∨ordP b a:=by rw [HK,HK];omega
theorem z6q {l m:List Int} (h1:l.Pairwise ordP) (h2:m.Pairwise ordP) (h : ∀ s,s∈l↔s∈m):l=m:=HG ordP.irr ordP.trans h1 h2 h
def w0h (k t:Nat) (cs:List AV):List (Nat×LV)->(List (Nat×LV)->Prop)->Prop
 | [],K=>K []
 | (j,l)::r,K=>bif beq j t then w0h k t cs r fun r=>K ((j,.p (.agg cs))::r) else JO (l.kill k) fun l=>w0h k t cs r fun r=>K ((j,l)::r)
theorem q5a {k t:Nat} {cs:List AV} : ∀ {sl:List (Nat×LV)} {K:List (Nat×LV)->Prop},w0h k t cs sl K -> ∃ sl',K sl' ∧ ∀ i,getS sl' i=(getS sl i).kill k∨(i=t∧getS sl' i = .p (.agg cs))
 | [],_,h=>⟨[],h,fun _ => .inl rfl⟩
 | (j,l)::r,K,h=>by
   unfold w0h at h;cases hb:beq j t with
   | true =>
     rw [hb,u4y] at h;have hj:j=t:=Nat.eq_of_beq_eq_true hb;obtain ⟨sl',hK,hs⟩:=q5a h;refine ⟨_,hK,fun i => ?_⟩;simp only [getS];cases hi:j==i with
     | true=>exact .inr ⟨by rw [<- hj];exact (by simpa using hi:j=i).symm,rfl⟩
     | false=>exact hs i
   | false =>
     rw [hb,u4h,XP] at h;obtain ⟨sl',hK,hs⟩:=q5a h;refine ⟨_,hK,fun i => ?_⟩;simp only [getS];cases hi:j==i with
     | true=>exact .inl rfl
     | false=>exact hs i
theorem w2a {N:Nat} {s:St} {k:Nat} {e:TypeId} {sz:Nat} {es:List AV} {t:Nat} {ls:List LV} {cs:List AV} (hg:getH s.H k=some (.own e sz es)) (ht:getS s.sl t = .agg ls) (hln:ls.length=cs.length)
  (hcs : ∀ (j:Nat) (l:LV) (c:AV),ls[j]? = some l->cs[j]? = some c->(∃ a,l = .p a∧Sub a c)∨(∃ n,l = .hd k 0 n∧n=es.length∧c = .sl es)) {K:St->Prop} (h:w0h k t cs s.sl fun sl=>LO k s.H fun H=>K ⟨sl,H⟩) : ∃ s',K s'∧Le N s s':=by
 obtain ⟨sl,h,hsl⟩:=q5a h;obtain ⟨H,h,hsub,hH⟩:=MM h;have agg : ∀ {σ τ:Mem} {β:Lab} {v:Value},σ.le τ->RepL σ β (.agg ls) v->(∀ v,RepL σ β (.hd k 0 es.length) v->Rep τ (.sl es) v)->Rep τ (.agg cs) v:=fun {σ τ β v} hle hv hrow=>by
  cases hv with
  | agg _ vs u hn hc hrr =>
    refine Rep.agg cs vs u (by rw [hn,hln]) (fun j c hj => ?_) fun j c hj => ?_
    ·have hlt:j<ls.length:=by rw [hln];exact (u3e.1 hj).1
     exact hc j _ (u3h hlt)
    ·have hlt:j<ls.length:=by rw [hln];exact (u3e.1 hj).1
     have h1:=hrr j _ (u3h hlt);rcases hcs j _ c (u3h hlt) hj with ⟨a,h2,h3⟩|⟨n,h2,rfl,rfl⟩
     ·rw [h2] at h1;cases h1 with
      | p hp=>exact h3 _ _ (hp.mono hle)
     ·rw [h2] at h1;exact hrow _ h1
 refine ⟨_,h,fun σ β a w hr => ?_⟩;rcases YK.1 (hr.heap.chunks k _ (QT hg)) with ⟨hb0,rfl⟩|⟨i,vs,hi,hisz,hh,hn,hle',hmax,hE⟩
 ·refine ⟨σ,β,⟨hr.size,hr.defers,fun j => ?_,⟨hr.heap.mem,fun j c' hj => ?_,hsub.nodup hr.heap.nodup,fun j hj=>hr.heap.apart j (hsub.subset hj),fun j hj j' hj'=>hr.heap.inj j (hsub.subset hj) j' (hsub.subset hj')⟩⟩,Mem.le_refl σ,Frm.refl _ _,fun _ h0 h1=>absurd h0 h1,fun b ⟨j,hj,r⟩ => .inl ⟨j,hsub.subset hj,r⟩,fun _ _ _=>rfl⟩
  ·show RepL σ β (getS sl j) _;have hv:=hr.slots j;rcases hsl j with he|⟨rfl,h2⟩
   ·rw [he];exact hv.kill k
   ·rw [h2];rw [ht] at hv;refine .p (agg (Mem.le_refl σ) hv fun v hv => ?_);rcases hv.hdI with ⟨_,_,_,he⟩|⟨i,_,hk,_⟩
    ·rw [he];exact .nilsl
    ·rw [hb0] at hk;cases hk
  ·obtain ⟨_,c,h2,rfl⟩:=hH j c' hj;exact (hr.heap.chunks j c h2).kill k
 ·refine hr.lay hi (XN hg) hh (fun τ hle hτ j v hv => ?_) (fun τ hle hτ j c' hj => ?_) (hsub.nodup hr.heap.nodup)
  ·show RepL τ β (getS sl j) v;rcases hsl j with he|⟨rfl,h2⟩
   ·rw [he];exact (hv.kill k).mono hle
   ·rw [h2];rw [ht] at hv;refine .p (agg hle hv fun v hv => ?_);rcases hv.hdI with ⟨hk,_⟩|⟨i',oo,hk,hl,ho,rfl⟩
    ·rw [hi] at hk;cases hk
    ·rw [hi] at hk;cases hk;have hoo:oo=0:=by
      rcases ho with ho|ho
      ·simpa using ho
      ·omega
     subst hoo;obtain ⟨u,hu⟩ : ∃ u:Nat->Nat->Value,∀ (m:Nat) (x:AV) (j:Nat) (c:AV),es[m]? = some x->x.cells[j]? = some c->vs[m*sz+j]? = some (u m j)∧Rep σ c (u m j):=by
      refine ⟨fun m j=>(vs[m*sz+j]?).getD undef,fun m x j c hx hj => ?_⟩;obtain ⟨v,h1,h2⟩:=hE.rep m x j c hx hj;rw [u5x] at h1;split at h1
      ·have h1':vs[m*sz+j]? = some v:=by simpa using h1
       exact ⟨by simp [h1'],by simpa [h1'] using h2⟩
      ·cases h1
     exact .sl es i.blk 0 _ sz vs u hτ (by omega) (by omega) hE.size (fun m x j c hx hj=>by simpa using (hu m x j c hx hj).1) fun m x j c hx hj=>(hu m x j c hx hj).2.mono hle
  ·obtain ⟨h1,c,h2,rfl⟩:=hH j c' hj;exact ⟨h1,c,h2,fun hold=>(hold.kill k).mono hle fun _ _ _ _=>rfl⟩
theorem w0j {P:Program} {T:Tab} {N:Nat} {o:Oper} {K:St->Prop} {s:St} (hT:TabOK P T) {k:Nat} {e:TypeId} {sz:Nat} {es:List AV} (t:Nat) {ls:List LV} (cs:List AV) (hg:getH s.H k=some (.own e sz es)) (ht:getS s.sl t = .agg ls) (hln:ls.length=cs.length)
  (hcs : ∀ (j:Nat) (l:LV) (c:AV),ls[j]? = some l->cs[j]? = some c->(∃ a,l = .p a∧Sub a c)∨(∃ n,l = .hd k 0 n∧n=es.length∧c = .sl es)) (h:w0h k t cs s.sl fun sl=>LO k s.H fun H=>opW P T N ⟨sl,H⟩ o K):OpK P N s o K:=⟨fun σ β a w hr Q=>by
 obtain ⟨s1,h1,hle⟩:=w2a (N:=N) hg ht hln hcs (K:=fun s'=>opW P T N s' o K) h;obtain ⟨σ1,β1,hr1,hl1⟩:=hle σ β a w hr;exact Oper.wp_mono (fun a' w' ⟨σ',β',s2,hK,hr',hl⟩=>⟨σ',β',s2,hK,hr',hl1.trans hl⟩) (q4u hT h1 hr1 Q)⟩
section
variable {P:Program} {T:Tab} {N:Nat} {o:Oper} {K:St->Prop} {s:St}
end
section
variable {P:Program} {T:Tab} {N:Nat} {o:Oper} {s:St} {hr:Bool}
def setCell (b:Nat) (c:AV) (l:List (Nat×AV)):List (Nat×AV):=l.map fun x=>if x.1=b then (b,c) else x
end
theorem w0o {s:St} {k k2:Nat} {c c2:Chunk} {K:St->Prop} (h:NG s k k2 c c2 K) : ∃ s2,K s2∧NG s k k2 c c2 fun s3=>s3=s2:=by
 unfold NG at h ⊢;obtain ⟨sl,h1,_⟩:=KS (by rfl) h;have key : ∀ {f:LV->LV} {l:List (Nat×LV)} {K:List (Nat×LV)->Prop},x4w f l K↔K (l.map fun x=>(x.1,f x.2)):=fun {f} l=>by
  induction l with
  | nil=>intro K;rfl
  | cons x r ih=>intro K;simp only [x4w,XP,ih,u4m]
 have key2 : ∀ {f:LV->LV} {c:Chunk} {H:Heap},∃ H',∀ K:Heap->Prop,q9u k k2 f c H K↔K H':=fun {f c} H=>by
  induction H with
  | nil=>exact ⟨[],fun K=>u9n⟩
  | cons x r ih =>
    obtain ⟨H',hH'⟩:=ih;obtain ⟨j,d⟩:=x;simp only [q9u,q4x];cases j==k2 with
    | true=>exact ⟨H',fun K=>by simp only [u4y];exact hH' _⟩
    | false =>
      cases j==k with
      | true=>exact ⟨(j,c)::H',fun K=>by simp only [u4y,u4h];exact hH' _⟩
      | false=>exact ⟨(j,d.mapL f)::H',fun K=>by simp only [u4h];exact hH' _⟩
 rw [key] at h;simp only [key];obtain ⟨H',hH'⟩:=key2 (f:=LV.xkill k) (c:=c) (H:=s.H);rw [hH'] at h;exact ⟨_,h,(hH' _).2 rfl⟩
theorem OpK.focus {P:Program} {T:Tab} {N:Nat} (hT:TabOK P T) {s:St} {o:Oper} {K:St->Prop} (t k a k2:Nat) {e e2 sz:Nat} {rows:List (List AV)} {hole:List Nat} {row:List AV} (hu:WB k2 s=true) (hg:getH s.H k=some (.ext (.mat e e2 sz rows hole)))
  (hrow:rows[a]? = some row) (hnh:a∉hole) (hpin:UW k=false) (ht:getS s.sl t = .ext k (.row a row.length))
  (h:NG s k k2 (.ext (.mat e e2 sz rows (a::hole))) (.own e2 sz row) fun s2=>opW P T N ⟨(t,.hd k2 0 row.length)::s2.sl,s2.H⟩ o K):OpK P N s o K:=by
 obtain ⟨s2,h,he⟩:=w0o h;refine ⟨fun σ β ac w hr Q => ?_⟩;obtain ⟨β',hr',hl,hrep,hrow'⟩:=z7s hr hu hg hrow hnh hpin he;have hr2:Rel N σ β' ⟨(t,.hd k2 0 row.length)::s2.sl,s2.H⟩ ac w:=⟨hr'.size,hr'.defers,fun i=>by
  show RepL σ β' (getS ((t,.hd k2 0 row.length)::s2.sl) i) _;simp only [getS];cases hi:t==i with
  | true =>
    have:t=i:=by simpa using hi
    subst this;have h1:=hr.slots t;rw [ht] at h1;exact hrow' _ h1
  | false=>exact hr'.slots i,hr'.heap⟩
 exact Oper.wp_mono (fun a' w' ⟨σ',β'',s3,hK,hr3,hl3⟩=>⟨σ',β'',s3,hK,hr3,hl.trans hl3⟩) (q4u hT h hr2 Q)
theorem w7v {α:Type} {l m:List α} {j:Nat} (h:l.take j=m.take j) (hl:j<l.length) (hm:j<m.length) (he:l[j]=m[j]):l.take (j+1)=m.take (j+1):=by
 rw [u3a hl,u3a hm,h,he]
theorem w8d {α:Type} {l m:List α} {j:Nat} (h:l.take j=m.take j) (hl:l.length<=j) (hm:m.length<=j):l=m:=by
 rwa [u3o hl,u3o hm] at h
theorem QE (l m:List Str):SpecP prog 20 [eStrs l,eStrs m] (fun r=>r = .bool (decide (l=m))):=by
 refine sB PJ func20 rfl call20 ?_;conv=>whnf
 have h1:(l.map AV.str).length=l.length:=u3k _;have h2:(m.map AV.str).length=m.length:=u3k _;repeat' (first|(refine iM fun _=>?_;conv=>whnf)|(apply bE<;>intro _<;>first|omega|conv=>whnf))
 all_goals first
  | exact RetK.ff (u5h fun h=>by subst h;omega)
  | skip
 have hlen:l.length=m.length:=by omega
 refine LoopK.inv QX (fun j:Nat=>⟨[(0,.p (eStrs l)),(1,.p (eStrs m)),(12,.p (.int .i64 (l.map AV.str).length)),(13,.p (.int .i64 j))],[]⟩) (fun j=>j<=l.length∧l.take j=m.take j) (fun j=>l.length-j) 0 (Le.of_eq rfl) ⟨u3l _,rfl⟩ ?_;rintro j ⟨h3,h4⟩;rcases u3r j l.length with hj|hj
 ·conv=>whnf
  repeat' (first|((first|refine dA ?_|(refine iA fun _=>?_)|refine wI ?_);conv=>whnf)|(apply bD<;>intro _<;>first|omega|conv=>whnf)|(apply bN<;>intro _<;>conv=>whnf))
  all_goals first
   | exact RetK.ff (u5h fun h=>by subst h;simp_all)
   | exact ⟨j+1,⟨by omega,w7v h4 hj (by omega) (by simp_all)⟩,by omega,Le.of_eq rfl⟩
 ·conv=>whnf
  repeat' (apply bD<;>intro _<;>first|omega|conv=>whnf)
  exact RetK.tt (u5z (w8d h4 hj (by omega)))
theorem w3o {E:Int->Int->Prop} {B:List Int} {u x:Int} (h:Rch E u x) (hu:u∈B) (hx:x∉B) : ∃ z y,z∈B∧E z y∧y∉B∧Rch E u y∧Rch E y x:=by
 induction h with
 | refl=>exact absurd hu hx
 | @tail b c h hr ih =>
   by_cases hb:b∈B
   ·exact ⟨b,c,hb,hr,hx,.tail h hr,.refl⟩
   ·obtain ⟨z,y,h1,h2,h3,h4,h5⟩:=ih hb;exact ⟨z,y,h1,h2,h3,h4,.tail h5 hr⟩
def chainE (E:Int->Int->Prop):List Int->Prop
 | []=>True
 | [_]=>True
 | a::b::r=>E a b∧chainE E (b::r)
theorem q1j {E:Int->Int->Prop} : ∀ (l:List Int) {a y:Int},chainE E (l++[a])->y∈l++[a]->Rch E y a
 | [],a,y,_,hy=>by
   simp at hy;rw [hy];exact .refl
 | [b],a,y,h,hy=>by
   simp at hy;rcases hy with rfl|rfl
   ·exact .tail .refl h.1
   ·exact .refl
 | b::c::r,a,y,h,hy=>by
   have h1:chainE E ((c::r)++[a]):=h.2;rcases u3c.1 hy with rfl|hy
   ·exact .head h.1 (q1j (c::r) h1 (by simp))
   ·exact q1j (c::r) h1 hy
theorem x1z {E:Int->Int->Prop} : ∀ (l:List Int) {a b:Int},chainE E (l++[a])->E a b->chainE E (l++[a]++[b])
 | [],a,b,_,hb=>⟨hb,trivial⟩
 | [c],a,b,h,hb=>⟨h.1,hb,trivial⟩
 | c::d::r,a,b,h,hb=>⟨h.1,x1z (d::r) h.2 hb⟩
theorem x4t {E:Int->Int->Prop} : ∀ (l:List Int) {a:Int},chainE E (l++[a])->chainE E l
 | [],_,_=>trivial
 | [_],_,_=>trivial
 | c::d::r,_,h=>⟨h.1,x4t (d::r) h.2⟩
structure DfsI (n:Nat) (E:Int->Int->Prop) (out stack:List Int):Prop where
 nd:(out++stack).Nodup
 rng : ∀ x∈out++stack,0<=x∧x<n
 path:chainE E stack
 cl : ∀ u∈out,∀ v,E u v->v∈out∨v∈stack
 J : ∀ u∈out,∀ x,Rch E u x->x∉out -> ∃ s∈stack,Rch E u s∧Rch E s u∧Rch E s x
 K : ∀ (i:Nat) (r:Int),out[i]? = some r -> ∀ u,Rch E u r->Rch E r u ∨ ∃ u',Rch E u u'∧Rch E u' u∧(u'∉out ∨ ∃ j,i<j∧out[j]? = some u')
theorem DfsI.start (n:Nat) (E:Int->Int->Prop):DfsI n E [] []:=⟨by simp,by simp,trivial,by simp,by simp,by simp⟩
theorem DfsI.push {n:Nat} {E:Int->Int->Prop} {out stack:List Int} (h:DfsI n E out stack) {b:Int} (hb:0<=b∧b<n) (hn:b∉out++stack) (hp:chainE E (stack++[b])):DfsI n E out (stack++[b]):=by
 refine ⟨?_,fun x hx => ?_,hp,fun u hu v hv => ?_,fun u hu x hx hxo => ?_,h.K⟩
 ·rw [<- u4f,u5p];refine ⟨h.nd,by simp,fun x hx y hy => ?_⟩;rw [u3b.1 hy];exact fun e=>hn (e▸hx)
 ·rw [<- u4f] at hx;rcases u3p.1 hx with hx|hx
  ·exact h.rng x hx
  ·rw [u3b.1 hx];exact hb
 ·rcases h.cl u hu v hv with h1|h1
  ·exact .inl h1
  ·exact .inr (u3p.2 (.inl h1))
 ·obtain ⟨s,h1,h2⟩:=h.J u hu x hx hxo;exact ⟨s,u3p.2 (.inl h1),h2⟩
theorem DfsI.pop {n:Nat} {E:Int->Int->Prop} {out st:List Int} {a:Int} (h:DfsI n E out (st++[a])) (ha : ∀ v,E a v->v∈out∨v∈st++[a]):DfsI n E (out++[a]) st:=by
 have hnd:=h.nd;rw [u5p] at hnd;obtain ⟨hn1,hn2,hn3⟩:=hnd;rw [u5p] at hn2;obtain ⟨hn4,_,hn5⟩:=hn2;have hao:a∉out:=fun hm=>hn3 a hm a (by simp) rfl;have hast:a∉st:=fun hm=>hn5 a hm a (by simp) rfl;have hcl : ∀ u∈out++[a],∀ v,E u v->v∈out++[a]∨v∈st:=fun u hu v hv=>by
  have:v∈out∨v∈st++[a]:=by
   rcases u3p.1 hu with hu|hu
   ·exact h.cl u hu v hv
   ·rw [u3b.1 hu] at hv;exact ha v hv
  rcases this with h1|h1
  ·exact .inl (u3p.2 (.inl h1))
  ·rcases u3p.1 h1 with h1|h1
   ·exact .inr h1
   ·exact .inl (u3p.2 (.inr h1))
 have hfst : ∀ u∈out++[a],∀ x,Rch E u x->x∉out++[a] -> ∃ y∈st,Rch E u y∧Rch E y x:=fun u hu x hx hxo=>by
  obtain ⟨z,y,h1,h2,h3,h4,h5⟩:=w3o hx hu hxo;rcases hcl z h1 y h2 with h6|h6
  ·exact absurd h6 h3
  ·exact ⟨y,h6,h4,h5⟩
 have hya : ∀ y∈st,Rch E y a:=fun y hy=>q1j st h.path (u3p.2 (.inl hy));refine ⟨?_,fun x hx => ?_,x4t st h.path,hcl,fun u hu x hx hxo => ?_,fun i r hi u hu => ?_⟩
 ·rw [u4f,u5p];refine ⟨hn1,?_,fun x hx y hy=>hn3 x hx y (by simp at hy ⊢;exact hy.symm)⟩;rw [u5p];refine ⟨by simp,hn4,fun x hx y hy e => ?_⟩;rw [u3b.1 hx] at e;exact hast (e▸hy)
 ·refine h.rng x ?_;simp only [u3p,u3b] at hx ⊢;rcases hx with (h1|h1)|h1
  ·exact .inl h1
  ·exact .inr (.inr h1)
  ·exact .inr (.inl h1)
 ·obtain ⟨y,h1,h2,h3⟩:=hfst u hu x hx hxo;rcases u3p.1 hu with hu|hu
  ·have hyo:y∉out:=fun hm=>hn3 y hm y (u3p.2 (.inl h1)) rfl;obtain ⟨s,h4,h5,h6,h7⟩:=h.J u hu y h2 hyo;rcases u3p.1 h4 with h4|h4
   ·exact ⟨s,h4,h5,h6,h7.trans h3⟩
   ·rw [u3b.1 h4] at h5 h6;exact ⟨y,h1,h2,(hya y h1).trans h6,h3⟩
  ·rw [u3b.1 hu] at h2 ⊢;exact ⟨y,h1,h2,hya y h1,h3⟩
 ·rcases u3r i out.length with hil|hil
  ·rw [u5g hil] at hi;rcases h.K i r hi u hu with h1|⟨u',h1,h2,h3⟩
   ·exact .inl h1
   ·refine .inr ⟨u',h1,h2,?_⟩;rcases h3 with h3|⟨j,h3,h4⟩
    ·by_cases hua:u'=a
     ·exact .inr ⟨out.length,hil,by rw [hua];simp⟩
     ·exact .inl fun hm=>by
       rcases u3p.1 hm with hm|hm
       ·exact h3 hm
       ·exact hua (u3b.1 hm)
    ·exact .inr ⟨j,h3,by rw [u5g (u3e.1 h4).1];exact h4⟩
  ·have hr:r=a:=by
    have h1:=(u3e.1 hi).1;simp at h1;rw [u5f hil,show i-out.length=0 by omega] at hi;simpa using hi.symm
   subst hr;by_cases hau:Rch E r u
   ·exact .inl hau
   ·right;by_cases huo:u∈out
    ·obtain ⟨s,h4,h5,h6,h7⟩:=h.J u huo r hu hao;rcases u3p.1 h4 with h4|h4
     ·refine ⟨s,h5,h6,.inl fun hm => ?_⟩;rcases u3p.1 hm with hm|hm
      ·exact hn3 s hm s (u3p.2 (.inl h4)) rfl
      ·rw [u3b.1 hm] at h4;exact hast h4
     ·rw [u3b.1 h4] at h6;exact absurd h6 hau
    ·refine ⟨u,.refl,.refl,.inl fun hm => ?_⟩;rcases u3p.1 hm with hm|hm
     ·exact huo hm
     ·rw [u3b.1 hm] at hau;exact hau .refl
structure EndsP (n:Nat) (E:Int->Int->Prop) (es:List Int):Prop where
 nd:es.Nodup
 mem : ∀ x:Int,x∈es↔0<=x∧x<n
 K : ∀ (i:Nat) (r:Int),es[i]? = some r -> ∀ u:Int,0<=u∧u<n->Rch E u r->Rch E r u ∨ ∃ u',Rch E u u'∧Rch E u' u ∧ ∃ j,i<j∧es[j]? = some u'
theorem DfsI.fin {n:Nat} {E:Int->Int->Prop} (hE : ∀ x y,E x y->0<=y∧y<n) {out:List Int} (h:DfsI n E out []) (hall : ∀ x:Int,0<=x∧x<n->x∈out):EndsP n E out:=by
 refine ⟨by simpa using h.nd,fun x=>⟨fun hx=>h.rng x (by simpa using hx),hall x⟩,fun i r hi u hur hu => ?_⟩;rcases h.K i r hi u hu with h1|⟨u',h1,h2,h3⟩
 ·exact .inl h1
 ·refine .inr ⟨u',h1,h2,?_⟩;rcases h3 with h3|h3
  ·exfalso;apply h3;apply hall;cases h1 with
   | refl=>exact hur
   | tail _ hr=>exact hE _ _ hr
  ·exact h3
def sccP (E:Int->Int->Prop) (x y:Int):Prop:=Rch E x y∧Rch E y x
theorem sccP.refl {E:Int->Int->Prop} (x:Int):sccP E x x:=⟨.refl,.refl⟩
theorem sccP.symm {E:Int->Int->Prop} {x y:Int} (h:sccP E x y):sccP E y x:=⟨h.2,h.1⟩
theorem sccP.trans {E:Int->Int->Prop} {x y z:Int} (h:sccP E x y) (h':sccP E y z):sccP E x z:=⟨h.1.trans h'.1,h'.2.trans h.2⟩
def SeenP (E:Int->Int->Prop) (es:List Int) (i:Nat) (x:Int):Prop := ∃ (j:Nat) (y:Int),i<=j∧es[j]? = some y∧sccP E x y
theorem w3j {n:Nat} {E:Int->Int->Prop} (hE : ∀ x y,E x y->(0<=x∧x<n)∧0<=y∧y<n) {es:List Int} (h:EndsP n E es) {i:Nat} {r:Int} (hi:es[i]? = some r) (hr : ¬SeenP E es (i+1) r) (x:Int) :
  Rch (fun a b=>E b a ∧ ¬SeenP E es (i+1) b) r x↔sccP E r x:=by
 have hrr:=(h.mem r).1 (u4d hi);constructor
 ·intro hx;have key:(0<=x∧x<n) ∧ ¬SeenP E es (i+1) x∧Rch E x r:=hx.closed (S:=fun x:Int=>(0<=x∧x<n) ∧ ¬SeenP E es (i+1) x∧Rch E x r) (fun a b ⟨h1,h2,h3⟩ ⟨h4,h5⟩=>⟨(hE _ _ h4).1,h5,.head h4 h3⟩) ⟨hrr,hr,.refl⟩;refine ⟨?_,key.2.2⟩;rcases h.K i r hi x key.1 key.2.2 with h1|⟨u',h1,h2,j,h3,h4⟩
  ·exact h1
  ·exact absurd ⟨j,u',h3,h4,h1,h2⟩ key.2.1
 ·rintro ⟨h1,h2⟩;have hns : ∀ y,sccP E r y -> ¬SeenP E es (i+1) y:=fun y hy ⟨j,z,h3,h4,h5⟩=>hr ⟨j,z,h3,h4,hy.trans h5⟩;have key : ∀ {a b:Int},Rch E a b->Rch E r a->Rch E b r->Rch (fun a b=>E b a ∧ ¬SeenP E es (i+1) b) b a:=fun {a b} hab=>by
   induction hab with
   | refl=>intro _ _;exact .refl
   | @tail b c hab hbc ih =>
     intro h3 h4;have h5:Rch E b r := .head hbc h4;exact .head ⟨hbc,hns b ⟨h3.trans hab,h5⟩⟩ (ih h3 h5)
  exact key h2 h1 .refl
theorem w6f {E:Int->Int->Prop} {es:List Int} {i:Nat} {r:Int} (hi:es[i]? = some r) (hr:SeenP E es (i+1) r) (x:Int):SeenP E es i x↔SeenP E es (i+1) x:=by
 constructor
 ·rintro ⟨j,y,h1,h2,h3⟩;rcases Nat.eq_or_lt_of_le h1 with h4|h4
  ·subst h4;rw [hi] at h2;cases h2;obtain ⟨k,z,h5,h6,h7⟩:=hr;exact ⟨k,z,h5,h6,h3.trans h7⟩
  ·exact ⟨j,y,h4,h2,h3⟩
 ·rintro ⟨j,y,h1,h2,h3⟩;exact ⟨j,y,by omega,h2,h3⟩
theorem z3p {E:Int->Int->Prop} {es:List Int} {i:Nat} {r:Int} (hi:es[i]? = some r) (x:Int):SeenP E es i x↔SeenP E es (i+1) x∨sccP E r x:=by
 constructor
 ·rintro ⟨j,y,h1,h2,h3⟩;rcases Nat.eq_or_lt_of_le h1 with h4|h4
  ·subst h4;rw [hi] at h2;cases h2;exact .inr h3.symm
  ·exact .inl ⟨j,y,h4,h2,h3⟩
 ·rintro (⟨j,y,h1,h2,h3⟩|h)
  ·exact ⟨j,y,by omega,h2,h3⟩
  ·exact ⟨i,r,u4j _,hi,h.symm⟩
theorem v0e {n:Nat} {E:Int->Int->Prop} {es:List Int} (h:EndsP n E es) {x:Int} (hx:0<=x∧x<n):SeenP E es 0 x:=by
 obtain ⟨j,hj⟩:=u7q.1 ((h.mem x).2 hx);exact ⟨j,x,u3l _,hj,.refl x⟩
def rowE (rows:List (List Int)) (x y:Int):Prop:=0<=x∧x8o rows x y
structure EndI (n:Nat) (rows:List (List Int)) (out stack:List Int) (seen:List Bool) (at_:List Int):Prop where
 dfs:DfsI n (rowE rows) out stack
 sl:seen.length=n
 al:at_.length=n
 seen : ∀ x:Int,0<=x∧x<n->(seen.getD x.toNat false=true↔x∈out++stack)
 arng : ∀ x:Int,0<=x∧x<n->0<=at_.getD x.toNat 0∧at_.getD x.toNat 0<=(rows.getD x.toNat []).length
 cur : ∀ x:Int,0<=x∧x<n -> ∀ (i:Nat) (y:Int),(i:Int)<at_.getD x.toNat 0->(rows.getD x.toNat [])[i]? = some y->y∈out++stack
theorem EndI.start (n:Nat) (rows:List (List Int)):EndI n rows [] [] (List.replicate n false) (List.replicate n 0):=by
 have h0 : ∀ x:Int,(List.replicate n (0:Int)).getD x.toNat 0=0:=fun x=>by
  rw [u3m,u4r];split<;>rfl
 refine ⟨DfsI.start n _,by simp,by simp,fun x hx => ?_,fun x hx=>by rw [h0];omega,fun x hx i y hi=>by rw [h0] at hi;omega⟩;rw [u3m,u4r];split<;>simp
theorem WS {α:Type} {l:List α} {i j:Nat} {a d:α} (hi:i<l.length):(l.set i a).getD j d=if i=j then a else l.getD j d:=by
 simp only [u3m,u7c];split
 ·rename_i h;first
   | rfl
   | (rw [if_pos hi];rfl)
 ·rfl
theorem EndI.push {n:Nat} {rows:List (List Int)} {out stack:List Int} {seen:List Bool} {at_:List Int} (h:EndI n rows out stack seen at_) {b:Int} (hb:0<=b∧b<n) (hn:seen.getD b.toNat false=false) (hp:chainE (rowE rows) (stack++[b])):EndI n rows out (stack++[b]) (seen.set b.toNat true) at_:=by
 have hno:b∉out++stack:=fun hm=>by rw [(h.seen b hb).2 hm] at hn;cases hn
 refine ⟨h.dfs.push hb hno hp,by simpa using h.sl,h.al,fun x hx => ?_,h.arng,fun x hx i y hi hy => ?_⟩
 ·rw [WS (by rw [h.sl];omega),<- u4f,u3p,u3b];split
  ·have:x=b:=by omega
   simp [this]
  ·have:x≠b:=by omega
   rw [h.seen x hx];simp [this]
 ·rw [<- u4f];exact u3p.2 (.inl (h.cur x hx i y hi hy))
theorem EndI.pop {n:Nat} {rows:List (List Int)} {out st:List Int} {a:Int} {seen:List Bool} {at_:List Int} (h:EndI n rows out (st++[a]) seen at_) (ha:at_.getD a.toNat 0=(rows.getD a.toNat []).length):EndI n rows (out++[a]) st seen at_:=by
 have hr:=h.dfs.rng a (by simp);have hsw : ∀ x:Int,x∈out++[a]++st↔x∈out++(st++[a]):=fun x=>by
  simp only [u3p,u3b];constructor
  ·rintro ((h1|h1)|h1)
   ·exact .inl h1
   ·exact .inr (.inr h1)
   ·exact .inr (.inl h1)
  ·rintro (h1|h1|h1)
   ·exact .inl (.inl h1)
   ·exact .inr h1
   ·exact .inl (.inr h1)
 refine ⟨h.dfs.pop fun v hv => ?_,h.sl,h.al,fun x hx=>by rw [h.seen x hx,hsw],h.arng,fun x hx i y hi hy=>(hsw y).2 (h.cur x hx i y hi hy)⟩;obtain ⟨i,hi⟩:=u7q.1 hv.2;have:=h.cur a hr i v (by rw [ha];have:=(u3e.1 hi).1;omega) hi;exact u3p.1 this
theorem EndI.step {n:Nat} {rows:List (List Int)} {out stack:List Int} {seen:List Bool} {at_:List Int} (h:EndI n rows out stack seen at_) {a b:Int} (ha:0<=a∧a<n) {k:Nat} (hk:at_.getD a.toNat 0=k) (hb:(rows.getD a.toNat [])[k]? = some b) (hs:b∈out++stack):EndI n rows out stack seen (at_.set a.toNat ((k:Int)+1)):=by
 have hlt:a.toNat<at_.length:=by rw [h.al];omega
 refine ⟨h.dfs,h.sl,by simpa using h.al,h.seen,fun x hx => ?_,fun x hx i y hi hy => ?_⟩
 ·rw [WS hlt];split
  ·rename_i he;have:=(u3e.1 hb).1;rw [<- he];omega
  ·exact h.arng x hx
 ·rw [WS hlt] at hi;split at hi
  ·rename_i he;rw [<- he] at hy;rcases u3r i k with hik|hik
   ·exact h.cur a ha i y (by omega) hy
   ·have:i=k:=by omega
    subst this;rw [hb] at hy;cases hy;exact hs
  ·exact h.cur x hx i y hi hy
def v2v (m:Int) (l:List Int):Int:=l.foldl (fun m x=>if x<m then x else m) m
def z0w:List Int->Int
 | []=>0
 | a::r=>v2v a r
theorem z2r : ∀ (l:List Int) (m:Int),v2v m l∈m::l ∧ ∀ x∈m::l,v2v m l<=x
 | [],m=>⟨by simp [v2v],by simp [v2v]⟩
 | a::r,m=>by
   obtain ⟨h1,h2⟩:=z2r r (if a<m then a else m);have e:v2v m (a::r)=v2v (if a<m then a else m) r:=rfl;have h3:=h2 _ u3g;rw [e];generalize v2v (if a<m then a else m) r=z at h1 h2 h3 ⊢;refine ⟨?_,fun x hx => ?_⟩
   ·rcases u3c.1 h1 with h|h
    ·rw [h];split<;>simp
    ·exact u3n _ (u3n _ h)
   ·rcases u3c.1 hx with rfl|hx
    ·split at h3<;>omega
    ·rcases u3c.1 hx with rfl|hx
     ·split at h3<;>omega
     ·exact h2 x (u3n _ hx)
theorem z2t {l:List Int} (h:0<l.length):z0w l∈l ∧ ∀ x∈l,z0w l<=x:=by
 cases l with
 | nil=>simp at h
 | cons a r=>exact z2r r a
theorem OpK.min2 {P:Program} {N:Nat} {s:St} {o:Oper} {K:St->Prop} {x y:Operand} {ts:Array TypeId} (hop:o.op = .call { callee := .builtin .min,args := #[x,y],argTypes:=ts }) {m n:Int} (hx:XX s.sl x = .p (.int .i64 m)) (hy:XX s.sl y = .p (.int .i64 n))
  (h:setD N s.sl o.dst (.p (.int .i64 (if n<m then n else m))) fun sl=>K ⟨sl,s.H⟩):OpK P N s o K:=by
 refine ⟨fun σ β a w hr Q => ?_⟩;have h1:=QY hr.slots x;have h2:=QY hr.slots y;rw [hx] at h1;rw [hy] at h2;have e1:=h1.int;have e2:=h2.int;have hrun:(execOp a.eval o).run P w = .ok (.value (.int .i64 (if n<m then n else m))) w:=by
  simp [execOp,hop,resolve,invoke,builtin,e1,e2,Builtin.min_,Builtin.min2]
 obtain ⟨sl,hK,hr2⟩:=hr.setD (.p (.int .i64 (if n<m then n else m))) h;exact UK hrun ⟨σ,β,_,hK,hr2,Later.refl _ _ _ _⟩
theorem q1o (l:List Int) (hl:0<l.length):SpecP prog 360 [QR l] (fun r=>r = .int .i64 (z0w l)):=by
 refine sB PB func360 rfl call360 ?_;conv=>whnf
 have hlm:(l.map (AV.int .i64)).length=l.length:=u3k _;repeat' (first|(refine iM fun _=>?_;conv=>whnf)|(apply bD<;>intro _<;>first|omega|conv=>whnf))
 refine IdxK.at (k:=0) (e := .int .i64 l[0]) rfl (by simp [hl]) rfl ?_;conv=>whnf
 skip
 refine LoopK.inv QX (fun x:Nat×Int=>⟨[(0,.p (QR l)),(3,.p (.int .i64 x.2)),(4,.p (.int .i64 x.1))],[]⟩) (fun x=>1<=x.1∧x.1<=l.length∧z0w (x.2::l.drop x.1)=z0w l) (fun x=>l.length-x.1) (1,l[0]) (Le.of_eq rfl) ⟨u4j _,hl,by
  cases l with
  | nil=>simp at hl
  | cons a r=>rfl⟩ ?_
 rintro ⟨j,m⟩ ⟨h1,h2,h3⟩;simp only at h1 h2 h3 ⊢;rcases u3r j l.length with hj|hj
 ·rw [QF hj] at h3;conv=>whnf
  repeat' (first|((first|(refine iM fun _=>?_)|(refine iA fun _=>?_)|refine wI ?_|refine OpK.min2 rfl rfl rfl ?_);conv=>whnf)|(apply bD<;>intro _<;>first|omega|conv=>whnf))
  exact ⟨(j+1,if l[j]<m then l[j] else m),⟨by simp only;omega,hj,h3⟩,by simp only;omega,Le.of_eq rfl⟩
 ·rw [u4z hj] at h3;conv=>whnf
  repeat' (first|(refine iM fun _=>?_;conv=>whnf)|(apply bD<;>intro _<;>first|omega|conv=>whnf))
  exact RetK.int h3
theorem v2n {α:Type} {f g:α->Nat} : ∀ {l:List α},(∀ x∈l,f x<=g x)->(∃ x∈l,f x<g x)->(l.map f).sum<(l.map g).sum
 | [],_,h=>by obtain ⟨x,hx,_⟩:=h;cases hx
 | a::r,h1,h2=>by
   have hle : ∀ {l:List α},(∀ x∈l,f x<=g x)->(l.map f).sum<=(l.map g).sum:=fun {l} h=>by
    induction l with
    | nil=>simp
    | cons b r ih =>
      simp only [u4m,u9p];have:=ih fun x hx=>h x (u3n _ hx);have:=h b u3g;omega
   simp only [u4m,u9p];have h3:=h1 a u3g;have h4:=hle fun x hx=>h1 x (u3n _ hx);obtain ⟨x,hx,h5⟩:=h2;rcases u3c.1 hx with rfl|hx
   ·omega
   ·have:=v2n (fun y hy=>h1 y (u3n _ hy)) ⟨x,hx,h5⟩;omega
def muE (rows:List (List Int)) (at_:List Int) (n:Nat):Nat:=((List.range n).map fun i=>(rows.getD i []).length-(at_.getD i 0).toNat).sum
theorem v0w {n:Nat} {rows:List (List Int)} {at_:List Int} {a:Nat} (ha:a<n) (hl:at_.length=n) {k:Nat} (hk:at_.getD a 0=k) (hlt:k<(rows.getD a []).length):muE rows (at_.set a ((k:Int)+1)) n<muE rows at_ n:=by
 unfold muE;refine v2n (fun i _ => ?_) ⟨a,u6c.2 ha,?_⟩
 ·rw [WS (by omega)];split
  ·rename_i h;rw [<- h,hk];omega
  ·exact u4j _
 ·rw [WS (by omega),if_pos rfl,hk];omega
theorem x8e {n:Nat} {l:List Int} (h:l.Nodup) (hr : ∀ x∈l,0<=x∧x<n):l.length<=n:=by
 have:=UZ (m:=(List.range n).map fun (k:Nat)=>(k:Int)) h fun x hx=>u3s.2 ⟨x.toNat,u6c.2 (by have:=hr x hx;omega),by have:=hr x hx;omega⟩;simpa using this
theorem v1r {l:List Bool} {i:Nat} (h:i<l.length):(l.map bv)[i]? = some (bv (l.getD i false)):=by
 rw [u4q,u3h h,u3m,u3h h];rfl
theorem z2d {l:List Int} {i:Nat} (h:i<l.length):(l.map (AV.int .i64))[i]? = some (.int .i64 (l.getD i 0)):=by
 rw [u4q,u3h h,u3m,u3h h];rfl
def v6c (n:Nat) (rows:List (List Int)) (r:AV):Prop := ∃ es,r=QR es∧EndsP n (rowE rows) es
theorem q9w (n:Nat) (hn:n<=5000) (g:List (List Int)×List (List Int)) (hg:XT n g.1):SpecP prog 359 [FT g] (fun r=>v6c n g.1 r):=by
 refine sB q2r func359 rfl call359 ?_;conv=>whnf
 have hl:((avI g.1).map AV.sl).length=n:=by simp [avI,hg.1]
 repeat' ((first|(refine iM fun _=>?_)|refine aR ?_|refine MkK.mk n (by rw [hl]) (by show 1*n<=140737488355328;omega) (by unfold maxLen;omega) ?_|refine MkK.mk n (by rw [hl]) (by show 8*n<=140737488355328;omega) (by unfold maxLen;omega) ?_);conv=>whnf)
 refine LoopK.inv QX (fun x:Nat×List Int×List Bool×List Int=>⟨[(0,.p (FT g)),(3,.hd 2 0 x.2.1.length),(4,.hd 3 0 0),(5,.hd 0 0 n),(6,.hd 1 0 n),(26,.p (.int .i64 n)),(27,.p (.int .i64 x.1))],[(0,.own 4 1 (x.2.2.1.map bv)),(1,.own 3 1 (x.2.2.2.map (.int .i64))),(2,.own 3 1 (x.2.1.map (.int .i64))),(3,.own 3 1 [])]⟩)
  (fun x=>x.1<=n∧EndI n g.1 x.2.1 [] x.2.2.1 x.2.2.2 ∧ ∀ y:Int,0<=y∧y<x.1->y∈x.2.1) (fun x=>n-x.1) (0,[],List.replicate n false,List.replicate n 0)
  (Le.mk [(2,.own 3 1 []),(3,.own 3 1 [])] (by simp [Chunk.new0];exact ⟨rfl,rfl⟩) (by simp) (by simp) (.cons (.refl _) (.cons (.nil u3g) (.cons (.nil (u3n _ u3g)) (.cons (.refl _) (.cons (.refl _) (.cons (.of_eq (by rw [hl];rfl)) (.cons (.refl _) .nil)))))))
    (.cons rfl (.of_eq (by rw [u6t];rfl)) (.cons rfl (.of_eq (by rw [u6t];rfl)) (.new u3g (.new (u3n _ u3g) .nil)))))
  ⟨u3l _,EndI.start n g.1,fun y hy=>by omega⟩ ?_
 rintro ⟨r,out,seen,at_⟩ ⟨h1,h2,h3⟩;simp only at h1 h2 h3 ⊢;have hsl:=h2.sl;have hal:=h2.al;rcases u3r r n with hr|hr;rotate_left 1
 ·conv=>whnf
  repeat' (apply bD<;>intro _<;>first|omega|conv=>whnf)
  have hall : ∀ x:Int,0<=x∧x<n->x∈out:=fun x hx=>h3 x (by omega);exact ⟨_,.hd rfl (by simp),out,rfl,h2.dfs.fin (fun x y hxy=>NI hg hxy.2) hall⟩
 have e1:=v1r (l:=seen) (i:=r) (by omega);have hstart : ∃ st s2,EndI n g.1 out st s2 at_∧(r:Int)∈out++st∧((seen.getD r false=true∧st=[]∧s2=seen)∨(seen.getD r false=false∧st=[(r:Int)]∧s2=seen.set r true)):=by
  cases hq:seen.getD r false with
  | true=>exact ⟨[],seen,h2,(h2.seen r (by omega)).1 (by simpa using hq),.inl ⟨rfl,rfl,rfl⟩⟩
  | false=>exact ⟨[(r:Int)],seen.set r true,h2.push (stack:=[]) (b:=r) (by omega) (by simpa using hq) trivial,by simp,.inr ⟨rfl,rfl,rfl⟩⟩
 obtain ⟨st0,seen0,h4,h5,h6⟩:=hstart;rcases h6 with ⟨hq,hst,hs0⟩|⟨hq,hst,hs0⟩;all_goals
  rw [hq] at e1;conv=>whnf
  repeat' (first|((first|refine u3d rfl ?_|refine aD ?_|refine bP ?_|refine u5q r rfl (by omega) ?_|refine u5y r 0 .tt (by omega) e1 ?_|refine u5y r 0 .ff (by omega) e1 ?_|refine u6o r 0 .ff .tt (by omega) e1 (u4j 1) rfl ?_|refine ZZ rfl (by simp) ?_);conv=>whnf)|(apply bD<;>intro _<;>first|omega|conv=>whnf))
  refine LoopK.inv QX (fun x:List Int×List Int×List Bool×List Int=>⟨[(0,.p (FT g)),(3,.hd 2 0 x.1.length),(4,.hd 3 0 x.2.1.length),(5,.hd 0 0 n),(6,.hd 1 0 n),(26,.p (.int .i64 n)),(27,.p (.int .i64 r))],[(0,.own 4 1 (x.2.2.1.map bv)),(1,.own 3 1 (x.2.2.2.map (.int .i64))),(2,.own 3 1 (x.1.map (.int .i64))),(3,.own 3 1 (x.2.1.map (.int .i64)))]⟩)
   (fun x=>EndI n g.1 x.1 x.2.1 x.2.2.1 x.2.2.2∧(r:Int)∈x.1++x.2.1 ∧ ∀ y:Int,0<=y∧y<r->y∈x.1) (fun x=>muE g.1 x.2.2.2 n+(n-x.1.length)) (out,st0,seen0,at_)
   (Le.mk [] (by simp) (by simp) (by simp) (.cons (.refl _) (.cons (.refl _) (.cons (.of_eq (by first|(rw [hst];done)|(rw [hst];rfl))) (.cons (.refl _) (.cons (.refl _) (.cons (.refl _) (.cons (.refl _) .nil)))))))
     (.cons rfl (.of_eq (by rw [hs0];first|done|rfl|(rw [u6k];rfl))) (.cons rfl (.refl _) (.cons rfl (.refl _) (.cons rfl (.of_eq (by rw [hst];rfl)) .nil)))))
   ⟨h4,h5,h3⟩ ?_
  clear h4 h5 hst hs0 e1 hq hsl hal h2 h3;rintro ⟨o,stk,s,t⟩ ⟨h2,h3,h4⟩;simp only at h2 h3 h4 ⊢;have hsl:=h2.sl;have hal:=h2.al;have hol:o.length<=n:=x8e (by have:=h2.dfs.nd;rw [u5p] at this;exact this.1) fun x hx=>h2.dfs.rng x (u3p.2 (.inl hx));rcases u8n stk with rfl|⟨st,a,rfl⟩
  ·have hz:(([]:List Int).length)=0:=rfl;conv=>whnf
   repeat' (first|((first|(refine iM fun _=>?_)|refine wI ?_);conv=>whnf)|(apply bD<;>intro _<;>first|omega|conv=>whnf))
   exact ⟨(r+1,o,s,t),⟨hr,h2,fun y hy=>by
    rcases Int.lt_or_le y r with hyr|hyr
    ·exact h4 y ⟨hy.1,hyr⟩
    ·have:y=r:=by simp only at hy;omega
     rw [this];simpa using h3⟩,by simp only;omega,Le.of_eq rfl⟩
  ·rw [u8p] at h2 h3 ⊢;have ha:=h2.dfs.rng a (by simp);have hstl:(st++[a]).length=st.length+1:=by simp
   obtain ⟨hk0,hk1⟩:=h2.arng a ha;have e2:=z2d (l:=t) (i:=a.toNat) (by omega);have e3:((st++[a]).map (AV.int .i64))[st.length]? = some (.int .i64 a):=by simp
   have hrow:((avI g.1).map AV.sl)[a.toNat]? = some (.sl ((g.1.getD a.toNat []).map (.int .i64))):=by
    have:a.toNat<g.1.length:=by rw [hg.1];omega
    rw [u3m,u3h this];simp [avI,this]
   obtain ⟨k,hk⟩ : ∃ k:Nat,t.getD a.toNat 0=k:=⟨(t.getD a.toNat 0).toNat,by omega⟩;rw [hk] at e2 hk1;have hrl:((g.1.getD a.toNat []).map (AV.int .i64)).length=(g.1.getD a.toNat []).length:=u3k _;have hnd:=h2.dfs.nd;rcases u3r k (g.1.getD a.toNat []).length with hkl|hkl
   ·obtain ⟨b,hb⟩ : ∃ b,(g.1.getD a.toNat [])[k]? = some b:=⟨_,u3h hkl⟩;have hbe:(g.1.getD a.toNat [])[k]=b:=by rw [u3h hkl] at hb;exact u6y hb
    have hE:rowE g.1 a b:=⟨ha.1,u7q.2 ⟨k,hb⟩⟩;have hbr:=NI hg hE.2;have hmu:=v0w (by omega) hal hk hkl;have e4:=v1r (l:=s) (i:=b.toNat) (by omega);have hstk:(st++[a]).length<=n:=x8e (u5p.1 hnd).2.1 fun x hx=>h2.dfs.rng x (u3p.2 (.inr hx));have hms:(t.set a.toNat ((k:Int)+1)).map (AV.int .i64)=(t.map (AV.int .i64)).set a.toNat (.int .i64 ((k:Int)+1)):=u6k;have hkm:=h2.arng a ha;cases hq:s.getD b.toNat false with
    | true =>
      rw [hq] at e4;conv=>whnf
      repeat' (first|((first|(refine iM fun _=>?_)|refine dA ?_|refine u3d rfl ?_|(refine iA fun _=>?_)|refine wI ?_|refine u5q st.length (by omega) (by omega) ?_|refine u5y st.length 0 (.int .i64 a) (by omega) e3 ?_|refine u5q a.toNat (by omega) (by omega) ?_|refine u5y a.toNat 0 (.int .i64 k) (by omega) e2 ?_|(refine IdxK.at (k:=a.toNat) (by omega) hrow rfl ?_)|refine u5q b.toNat (by omega) (by omega) ?_|refine u5y b.toNat 0 .tt (by omega) e4 ?_|refine u6o a.toNat 0 (.int .i64 k) (.int .i64 (k+1)) (by omega) e2 (u4j 1) rfl ?_);conv=>whnf)|(apply bD<;>intro _<;>first|omega|conv=>whnf))
      exact ⟨(o,st++[a],s,t.set a.toNat ((k:Int)+1)),⟨h2.step ha hk hb ((h2.seen b hbr).1 hq),h3,h4⟩,by simp only;omega,Le.mk [] (by simp) (by simp) (by simp) (.cons (.refl _) (.cons (.refl _) (.cons (.refl _) (.cons (.refl _) (.cons (.refl _) (.cons (.refl _) (.cons (.refl _) .nil))))))) (.cons rfl (.refl _) (.cons rfl (.of_eq (by rw [hms])) (.cons rfl (.refl _) (.cons rfl (.refl _) .nil))))⟩
    | false =>
      rw [hq] at e4;conv=>whnf
      repeat' (first|((first|(refine iM fun _=>?_)|refine dA ?_|refine u3d rfl ?_|refine aD ?_|refine bP ?_|(refine iA fun _=>?_)|refine wI ?_|refine u5q st.length (by omega) (by omega) ?_|refine u5y st.length 0 (.int .i64 a) (by omega) e3 ?_|refine u5q a.toNat (by omega) (by omega) ?_|refine u5y a.toNat 0 (.int .i64 k) (by omega) e2 ?_|(refine IdxK.at (k:=a.toNat) (by omega) hrow rfl ?_)|refine u5q b.toNat (by omega) (by omega) ?_|refine u5y b.toNat 0 .ff (by omega) e4 ?_|refine u6o a.toNat 0 (.int .i64 k) (.int .i64 (k+1)) (by omega) e2 (u4j 1) rfl ?_|refine u6o b.toNat 0 .ff .tt (by omega) e4 (u4j 1) rfl ?_|refine ZZ (by simp) (by simp;omega) ?_);conv=>whnf)|(apply bD<;>intro _<;>first|omega|conv=>whnf))
      have h8:=h2.push hbr hq (x1z st h2.dfs.path hE);exact ⟨(o,st++[a]++[b],s.set b.toNat true,t.set a.toNat ((k:Int)+1)),⟨h8.step ha hk hb (by simp),by rw [<- u4f];exact u3p.2 (.inl h3),h4⟩,by simp only;omega,Le.mk [] (by simp) (by simp) (by simp) (.cons (.refl _) (.cons (.refl _) (.cons (.of_eq (by simp;rfl)) (.cons (.refl _) (.cons (.refl _) (.cons (.refl _) (.cons (.refl _) .nil))))))) (.cons rfl (.of_eq (by rw [u6k];rfl)) (.cons rfl (.of_eq (by rw [hms])) (.cons rfl (.refl _) (.cons rfl (.of_eq (by rw [hbe];simp;rfl)) .nil))))⟩
   ·have hkl2:k=(g.1.getD a.toNat []).length:=by omega
    have hp:=h2.pop (by rw [hk,hkl2]);have hol2:o.length+1<=n:=by
     have h7:=hp.dfs;have:=x8e (u5p.1 h7.nd).1 fun x hx=>h7.rng x (u3p.2 (.inl hx));simpa using this
    conv=>whnf
    repeat' (first|((first|(refine iM fun _=>?_)|refine dA ?_|refine u3d rfl ?_|refine aD ?_|refine bP ?_|refine wI ?_|refine u5q st.length (by omega) (by omega) ?_|refine u5y st.length 0 (.int .i64 a) (by omega) e3 ?_|refine u5q a.toNat (by omega) (by omega) ?_|refine u5y a.toNat 0 (.int .i64 k) (by omega) e2 ?_|(refine IdxK.at (k:=a.toNat) (by omega) hrow rfl ?_)|refine ZZ (by simp) (by simp;omega) ?_|refine SlK.mk 0 st.length rfl (by show ((st++[a]).length:Int)-1=_;omega) (by omega) (by omega) ?_);conv=>whnf)|(apply bD<;>intro _<;>first|omega|conv=>whnf))
    have h9:muE g.1 t n+(n-(o++[a]).length)<muE g.1 t n+(n-o.length):=by simp;omega
    exact ⟨(o++[a],st,s,t),⟨hp,by simpa [or_assoc,or_comm,or_left_comm] using h3,fun y hy=>u3p.2 (.inl (h4 y hy))⟩,h9,(Le.cut (.same (.same (.same (.cut (es':=st.map (.int .i64)) ⟨[.int .i64 a],by simp⟩ .nil))))).trans (Le.mk [] (by simp) (by simp) (by simp) (.cons (.refl _) (.cons (.of_eq (by simp;rfl)) (.cons (.of_eq (by simp;rfl)) (.cons (.refl _) (.cons (.refl _) (.cons (.refl _) (.cons (.refl _) .nil))))))) (.cons rfl (.refl _) (.cons rfl (.refl _) (.cons rfl (.of_eq (by simp;rfl)) (.cons rfl (.refl _) .nil)))))⟩
def v2y (pre:List Bool) (rows:List (List Int)):List (List Int):=rows.map fun r=>r.filter fun b => !pre.getD b.toNat false
theorem z3q {pre:List Bool} {rows:List (List Int)} {x y:Int}:x8o (v2y pre rows) x y↔x8o rows x y∧pre.getD y.toNat false=false:=by
 unfold x8o v2y;simp only [u3m,u4q];cases rows[x.toNat]? with
 | none=>simp
 | some r=>simp
theorem v4n {n:Nat} {pre:List Bool} {rows:List (List Int)} (h:XT n rows):XT n (v2y pre rows):=by
 refine ⟨by simp [v2y,h.1],fun r hr b hb => ?_⟩;obtain ⟨r',hr',rfl⟩:=u3s.1 hr;exact h.2 r' hr' b (u4i.1 hb).1
structure SimW (pre:List Bool) (st st':List Bool×List Int):Prop where
 todo:st.2=st'.2
 len:st.1.length=st'.1.length
 mrk : ∀ k,st.1.getD k false=(pre.getD k false||st'.1.getD k false)
theorem SimW.see {pre:List Bool} {st st':List Bool×List Int} (h:SimW pre st st') {b:Int} (hb:b.toNat<st.1.length) (hp:pre.getD b.toNat false=false):SimW pre (HH st b) (HH st' b):=by
 have hm:=h.mrk b.toNat;rw [hp,Bool.false_or] at hm;unfold HH;rw [hm];cases st'.1.getD b.toNat false with
 | true=>exact h
 | false =>
   refine ⟨by simp only [u4h];rw [h.todo],by simpa using h.len,fun k => ?_⟩;simp only [u4h];rw [WS hb,WS (by rw [<- h.len];exact hb)];split
   ·simp
   ·exact h.mrk k
theorem SimW.skip {pre:List Bool} {st st':List Bool×List Int} (h:SimW pre st st') {b:Int} (hp:pre.getD b.toNat false=true):HH st b=st:=by
 unfold HH;rw [h.mrk,hp];rfl
theorem v0a (st:List Bool×List Int) (b:Int):(HH st b).1.length=st.1.length:=by
 unfold HH;cases st.1.getD b.toNat false<;>simp
theorem SimW.fold {n:Nat} {pre:List Bool} : ∀ (l:List Int) {st st':List Bool×List Int},SimW pre st st'->st.1.length=n->(∀ b∈l,0<=b∧b<n)->SimW pre (l.foldl HH st) ((l.filter fun b => !pre.getD b.toNat false).foldl HH st')∧(l.foldl HH st).1.length=n
 | [],_,_,h,hn,_=>⟨h,hn⟩
 | b::r,st,st',h,hn,hl=>by
   have hb:=hl b u3g;have hr : ∀ c∈r,0<=c∧c<n:=fun c hc=>hl c (u3n _ hc);rw [u6e];cases hp:pre.getD b.toNat false with
   | true =>
     rw [h.skip hp,u5v (by rw [hp];simp)];exact SimW.fold r h hn hr
   | false =>
     rw [u5u (by rw [hp];simp),u6e];exact SimW.fold r (h.see (by omega) hp) (by rw [v0a];exact hn) hr
theorem z0c {n:Nat} {pre:List Bool} {rows:List (List Int)} (hr:XT n rows) : ∀ (k i:Nat) {st st':List Bool×List Int},SimW pre st st'->st.1.length=n->SimW pre (ZT rows k i st) (ZT (v2y pre rows) k i st')
 | 0,_,_,_,h,_=>h
 | k+1,i,st,st',h,hn=>by
   rw [ZT,ZT,<- h.todo];cases ha:st.2[i]? with
   | none=>exact h
   | some a =>
     simp only;have hrow : ∀ b∈rows.getD a.toNat [],0<=b∧b<n:=fun b hb=>NI hr hb;have he:(v2y pre rows).getD a.toNat []=(rows.getD a.toNat []).filter fun b => !pre.getD b.toNat false:=by
      unfold v2y;simp only [u3m,u4q];cases rows[a.toNat]? with
      | none=>simp
      | some r=>simp
     rw [he];obtain ⟨h1,h2⟩:=SimW.fold (n:=n) _ h hn hrow;exact z0c hr k (i+1) h1 h2
theorem w8q {n:Nat} {pre:List Bool} {rows:List (List Int)} (hr:XT n rows) (hp:pre.length=n) {r:Int} (hrr:0<=r∧r<n) (hu:pre.getD r.toNat false=false) :
  (∀ x,x∈(ZT rows (n+1) 0 (pre.set r.toNat true,[r])).2↔Rch (fun a b=>x8o rows a b∧pre.getD b.toNat false=false) r x) ∧
  (∀ x:Int,0<=x∧x<n->((ZT rows (n+1) 0 (pre.set r.toNat true,[r])).1.getD x.toNat false=true↔pre.getD x.toNat false=true∨x∈(ZT rows (n+1) 0 (pre.set r.toNat true,[r])).2)):=by
 have e0:HH (List.replicate n false,[]) r=((List.replicate n false).set r.toNat true,[r]):=by
  unfold HH;have:(List.replicate n false).getD r.toNat false=false:=by
   rw [u3m,u4r];split<;>rfl
  simp only [this,u4h,u6u]
 obtain ⟨h1,h2,_⟩:=(WkM.start n).see hrr;rw [e0] at h1 h2;have hsim:SimW pre (pre.set r.toNat true,[r]) ((List.replicate n false).set r.toNat true,[r]):=⟨rfl,by simp [hp],fun k=>by
  rw [WS (by omega),WS (by simp;omega)];split
  ·simp
  ·have:(List.replicate n false).getD k false=false:=by
    rw [u3m,u4r];split<;>rfl
   rw [this,Bool.or_false]⟩
 have hw:=z0c hr (n+1) 0 hsim (by simpa using hp);obtain ⟨h3,h4,h5,h6⟩:=x3h (v4n (pre:=pre) hr) (n+1) 0 h1 (u3l _) (by omega) (fun m a hm=>by omega);refine ⟨fun x => ?_,fun x hx => ?_⟩
 ·rw [hw.todo];constructor
  ·intro hx;exact h6 (fun x=>Rch (fun a b=>x8o rows a b∧pre.getD b.toNat false=false) r x) (fun x hx=>by rw [u3b.1 hx];exact .refl) (fun x b h7 h8 => .tail h7 (z3q.1 h8)) x hx
  ·intro hx;exact hx.closed (S:=fun x=>x∈(ZT (v2y pre rows) (n+1) 0 ((List.replicate n false).set r.toNat true,[r])).2) (fun x y h7 h8=>h5 x h7 y (z3q.2 h8)) (h4 r (by simp))
 ·rw [hw.mrk,hw.todo,h3.mem,u8y];exact ⟨fun h=>h.imp id fun h=>⟨hx,h⟩,fun h=>h.imp id fun h=>h.2⟩
theorem x8z {n:Nat} {a:Int} (h:0<=a∧a<n):WP n a=true:=by
 unfold WP;simpa using h
structure MinP (E:Int->Int->Prop) (x v:Int):Prop where
 scc:sccP E x v
 le : ∀ y,sccP E x y->v<=y
theorem MinP.uniq {E:Int->Int->Prop} {x v w:Int} (h:MinP E x v) (h':MinP E x w):v=w:=Int.le_antisymm (h.le w h'.scc) (h'.le v h.scc)
def q6t (n:Nat) (rows:List (List Int)):List Int:=(List.range n).map fun (a:Nat)=>z0w ((PF 0 (WD rows [(a:Int)])).filter fun b=>(PF 0 (WD rows [b])).contains (a:Int))
theorem v0r {n:Nat} {rows:List (List Int)} (hr:XT n rows) {x y:Int} (hx:0<=x):Rch (rowE rows) x y↔Rch (x8o rows) x y:=by
 refine ⟨fun h=>h.mono fun _ _ h=>h.2,fun h => ?_⟩;exact (h.closed (S:=fun y:Int=>0<=y∧Rch (rowE rows) x y) (fun a b ⟨h1,h2⟩ h3=>⟨(NI hr h3).1,.tail h2 ⟨h1,h3⟩⟩) ⟨hx,.refl⟩).2
theorem z9w {n:Nat} {rows:List (List Int)} (hr:XT n rows) {x y:Int} (hx:0<=x∧x<n) (h:Rch (rowE rows) x y):0<=y∧y<n :=
 h.closed (S:=fun y:Int=>0<=y∧y<n) (fun _ _ _ h=>NI hr h.2) hx
theorem z5n {n:Nat} {rows:List (List Int)} (hr:XT n rows) {x:Int} (hx:0<=x∧x<n) (y:Int):y∈PF 0 (WD rows [x])↔Rch (rowE rows) x y:=by
 rw [z3g hr,v0r hr hx.1];constructor
 ·rintro ⟨a,ha,_,h⟩;rw [u3b.1 ha] at h;exact h
 ·intro h;exact ⟨x,by simp,x8z hx,h⟩
theorem NT (n:Nat) (rows:List (List Int)):(q6t n rows).length=n:=by simp [q6t]
theorem q6s {n:Nat} {rows:List (List Int)} (hr:XT n rows) {x:Int} (hx:0<=x∧x<n):MinP (rowE rows) x ((q6t n rows).getD x.toNat 0):=by
 have e:(q6t n rows).getD x.toNat 0=z0w ((PF 0 (WD rows [x])).filter fun b=>(PF 0 (WD rows [b])).contains x):=by
  unfold q6t;rw [u3m,u4q,u8d (by omega)];have:((x.toNat:Nat):Int)=x:=by omega
  simp [this]
 have hm : ∀ y,y∈(PF 0 (WD rows [x])).filter (fun b=>(PF 0 (WD rows [b])).contains x)↔sccP (rowE rows) x y:=fun y=>by
  rw [u4i,z5n hr hx,List.contains_iff_mem];constructor
  ·rintro ⟨h1,h2⟩;exact ⟨h1,(z5n hr (z9w hr hx h1) x).1 h2⟩
  ·rintro ⟨h1,h2⟩;exact ⟨h1,(z5n hr (z9w hr hx h1) x).2 h2⟩
 rw [e];obtain ⟨h1,h2⟩:=z2t (l:=(PF 0 (WD rows [x])).filter fun b=>(PF 0 (WD rows [b])).contains x) (u9j ((hm x).2 (sccP.refl x)));exact ⟨(hm _).1 h1,fun y hy=>h2 y ((hm y).2 hy)⟩
structure PartI (n:Nat) (E:Int->Int->Prop) (es:List Int) (m:Nat) (part:List Int) (seen:List Bool):Prop where
 sl:seen.length=n
 pl:part.length=n
 seen : ∀ x:Int,0<=x∧x<n->(seen.getD x.toNat false=true↔SeenP E es m x)
 min : ∀ x:Int,0<=x∧x<n->SeenP E es m x->MinP E x (part.getD x.toNat 0)
theorem PartI.start {n:Nat} {E:Int->Int->Prop} {es:List Int}:PartI n E es es.length (List.replicate n 0) (List.replicate n false):=by
 have hno : ∀ x,¬SeenP E es es.length x:=fun x ⟨j,y,h1,h2,_⟩=>by
  have:=(u3e.1 h2).1;omega
 refine ⟨by simp,by simp,fun x _ => ?_,fun x _ hx=>absurd hx (hno x)⟩;rw [u3m,u4r];have:=hno x;split<;>simp [this]
def YH (l:List Int) (v:Int) (part:List Int):List Int:=l.foldl (fun p a=>p.set a.toNat v) part
theorem q1i (v:Int) : ∀ (l part:List Int),(YH l v part).length=part.length
 | [],_=>rfl
 | a::r,part=>by
   show (YH r v (part.set a.toNat v)).length=_;rw [q1i v r];simp
theorem x3x {n:Nat} (v:Int) {x:Int} (hx:0<=x∧x<n) : ∀ (l:List Int) {part:List Int},part.length=n->(∀ a∈l,0<=a∧a<n)->(x∈l->(YH l v part).getD x.toNat 0=v)∧(x∉l->(YH l v part).getD x.toNat 0=part.getD x.toNat 0)
 | [],_,_,_=>⟨by simp,fun _=>rfl⟩
 | a::r,part,hl,ha=>by
   have ha0:=ha a u3g;have e:YH (a::r) v part=YH r v (part.set a.toNat v):=rfl;obtain ⟨h1,h2⟩:=x3x v hx r (part:=part.set a.toNat v) (by simpa using hl) fun b hb=>ha b (u3n _ hb);have hg:(part.set a.toNat v).getD x.toNat 0=if a.toNat=x.toNat then v else part.getD x.toNat 0:=WS (by omega);rw [e];by_cases hxr:x∈r
   ·exact ⟨fun _=>h1 hxr,fun h=>absurd (u3n _ hxr) h⟩
   ·rw [h2 hxr,hg];constructor
    ·intro h;rcases u3c.1 h with rfl|h
     ·rw [if_pos rfl]
     ·exact absurd h hxr
    ·intro h;have:x≠a:=fun h'=>h (by rw [h'];exact u3g);rw [if_neg (by omega)]
theorem PartI.part {n:Nat} {g:List (List Int)×List (List Int)} (hg:XT n g.1) (hg2:XT n g.2) (hm : ∀ x y,rowE g.2 x y↔rowE g.1 y x) {es:List Int} (he:EndsP n (rowE g.1) es) {m:Nat} {part:List Int} {seen:List Bool} (h:PartI n (rowE g.1) es (m+1) part seen) {r:Int} (hr:es[m]? = some r) (hu:seen.getD r.toNat false=false) :
  (∀ x∈(ZT g.2 (n+1) 0 (seen.set r.toNat true,[r])).2,0<=x∧x<n)∧0<(ZT g.2 (n+1) 0 (seen.set r.toNat true,[r])).2.length∧wkInv n (seen.set r.toNat true,[r]) ∧
  PartI n (rowE g.1) es m (YH (ZT g.2 (n+1) 0 (seen.set r.toNat true,[r])).2 (z0w (ZT g.2 (n+1) 0 (seen.set r.toNat true,[r])).2) part) (ZT g.2 (n+1) 0 (seen.set r.toNat true,[r])).1:=by
 have hrr:=(he.mem r).1 (u4d hr);have hsl:=h.sl;have hns : ¬SeenP (rowE g.1) es (m+1) r:=fun hs=>by rw [(h.seen r hrr).2 hs] at hu;cases hu
 obtain ⟨h1,h2⟩:=w8q hg2 h.sl hrr hu;have hin : ∀ x y,rowE g.1 x y->(0<=x∧x<n)∧0<=y∧y<n:=fun x y hxy=>⟨NI hg2 ((hm y x).2 hxy).2,NI hg hxy.2⟩;have hback:=w3j hin he hr hns;have hrel : ∀ x,Rch (fun a b=>x8o g.2 a b∧seen.getD b.toNat false=false) r x↔Rch (fun a b=>rowE g.1 b a ∧ ¬SeenP (rowE g.1) es (m+1) b) r x:=fun x=>by
  constructor
  ·intro hx;exact (hx.closed (S:=fun x:Int=>(0<=x∧x<n)∧Rch (fun a b=>rowE g.1 b a ∧ ¬SeenP (rowE g.1) es (m+1) b) r x) (fun a b ⟨h3,h4⟩ ⟨h5,h6⟩=>by
    have hb:=NI hg2 h5;refine ⟨hb,.tail h4 ⟨(hm a b).1 ⟨h3.1,h5⟩,fun hs => ?_⟩⟩;rw [(h.seen b hb).2 hs] at h6;cases h6) ⟨hrr,.refl⟩).2
  ·intro hx;refine hx.mono fun a b ⟨h3,h4⟩=>⟨((hm a b).2 h3).2,?_⟩;have hb:=(hin b a h3).1;cases hq:seen.getD b.toNat false with
   | true=>exact absurd ((h.seen b hb).1 hq) h4
   | false=>rfl
 have hmem : ∀ x,x∈(ZT g.2 (n+1) 0 (seen.set r.toNat true,[r])).2↔sccP (rowE g.1) r x:=fun x=>by rw [h1,hrel,hback]
 have hrng : ∀ x∈(ZT g.2 (n+1) 0 (seen.set r.toNat true,[r])).2,0<=x∧x<n:=fun x hx=>z9w hg hrr ((hmem x).1 hx).1;have hpos:0<(ZT g.2 (n+1) 0 (seen.set r.toNat true,[r])).2.length:=u9j ((hmem r).2 (sccP.refl r));have hwk:wkInv n (seen.set r.toNat true,[r]):=by
  refine ⟨by simpa using h.sl,?_,fun x hx=>by rw [u3b.1 hx];exact hrr⟩;have hlt:r.toNat<(seen.set r.toNat true).length:=by simp;omega
  show 1<=_;exact List.count_pos_iff.2 (u5w.2 ⟨r.toNat,hlt,by simp⟩)
 have hwl:(ZT g.2 (n+1) 0 (seen.set r.toNat true,[r])).1.length=n:=(MW hg2 _ _ hwk).1;generalize ZT g.2 (n+1) 0 (seen.set r.toNat true,[r])=w at hmem hrng hpos hwl h2 ⊢;obtain ⟨h7,h8⟩:=z2t hpos;refine ⟨hrng,hpos,hwk,hwl,by rw [q1i];exact h.pl,fun x hx => ?_,fun x hx hs => ?_⟩
 ·rw [h2 x hx,hmem,h.seen x hx,z3p hr]
 ·obtain ⟨h3,h4⟩:=x3x (z0w w.2) hx w.2 h.pl hrng;by_cases hxw:x∈w.2
  ·rw [h3 hxw];have hsx:=(hmem x).1 hxw;exact ⟨hsx.symm.trans ((hmem _).1 h7),fun y hy=>h8 y ((hmem y).2 (hsx.trans hy))⟩
  ·rw [h4 hxw];refine h.min x hx ?_;rcases (z3p hr x).1 hs with h5|h5
   ·exact h5
   ·exact absurd ((hmem x).2 h5) hxw
theorem PartI.fin {n:Nat} {rows:List (List Int)} (hr:XT n rows) {es:List Int} (he:EndsP n (rowE rows) es) {part:List Int} {seen:List Bool} (h:PartI n (rowE rows) es 0 part seen):part=q6t n rows:=by
 refine List.ext_getElem? fun i => ?_;rcases u3r i n with hi|hi
 ·have hx:0<=(i:Int)∧(i:Int)<n:=by omega
  have h1:=h.min i hx (v0e he hx);have h2:=q6s hr hx;have h3:=h1.uniq h2;have hp1:i<part.length:=by rw [h.pl];exact hi
  have hp2:i<(q6t n rows).length:=by rw [NT];exact hi
  simpa [u3m,hp1,hp2] using h3
 ·rw [u5d (by rw [h.pl];exact hi),u5d (by rw [NT];exact hi)]
theorem q6h (n:Nat) (hn:n<=5000) (g:List (List Int)×List (List Int)) (hg:XT n g.1) (hg2:XT n g.2) (hgm : ∀ x y,rowE g.2 x y↔rowE g.1 y x):SpecP prog 330 [FT g] (fun r=>r=QR (q6t n g.1)):=by
 refine sB q0d func330 rfl call330 ?_;conv=>whnf
 have hl:((avI g.1).map AV.sl).length=n:=by simp [avI,hg.1]
 repeat' ((first|(refine iM fun _=>?_)|refine aR ?_|refine wI ?_|refine MkK.mk n (by rw [hl]) (by show 1*n<=140737488355328;omega) (by unfold maxLen;omega) ?_|refine MkK.mk n (by rw [hl]) (by show 8*n<=140737488355328;omega) (by unfold maxLen;omega) ?_|(refine CallK.pure (q9w n hn g hg) (.cons (Sub.refl _) .nil) ?_;rintro _ ⟨es,rfl,he⟩));conv=>whnf)
 have hesl:es.length<=n:=by
  have h1:=he.nd;exact x8e h1 fun x hx=>(he.mem x).1 hx
 have hml:(es.map (AV.int .i64)).length=es.length:=u3k _;refine LoopK.inv QX (fun x:Nat×List Int×List Bool=>⟨[(0,.p (FT g)),(3,.hd 0 0 n),(4,.hd 1 0 n),(5,.p (QR es)),(6,.p (.int .i64 ((x.1:Int)-1)))],[(0,.own 3 1 (x.2.1.map (.int .i64))),(1,.own 4 1 (x.2.2.map bv))]⟩)
  (fun x=>x.1<=es.length∧PartI n (rowE g.1) es x.1 x.2.1 x.2.2) (fun x=>x.1) (es.length,List.replicate n 0,List.replicate n false)
  (Le.mk [] (by simp) (by simp) (by simp) (.cons (.refl _) (.cons (.of_eq rfl) (.cons (.of_eq rfl) (.cons (.refl _) (.cons (.of_eq (by rw [hml];rfl)) .nil)))))
    (.cons rfl (.of_eq (by rw [u6t];rfl)) (.cons rfl (.of_eq (by rw [u6t];rfl)) .nil)))
  ⟨u4j _,PartI.start⟩ ?_
 rintro ⟨m,part,seen⟩ ⟨h1,h2⟩;simp only at h1 h2 ⊢;have hsl:=h2.sl;have hpl:=h2.pl;cases m with
 | zero =>
   conv=>whnf
   repeat' (apply bD<;>intro _<;>first|omega|conv=>whnf)
   exact ⟨_,.hd rfl (by simp [hpl]),by rw [h2.fin hg he];rfl⟩
 | succ m =>
   obtain ⟨r,hr⟩ : ∃ r,es[m]? = some r:=⟨_,u3h (by omega)⟩;have hrr:=(he.mem r).1 (u4d hr);have hre:es[m]=r:=by rw [u3h (by omega)] at hr;exact u6y hr
   have hra:(es.map (AV.int .i64))[m]? = some (.int .i64 r):=by rw [u4q,hr];rfl
   have e1:=v1r (l:=seen) (i:=r.toNat) (by omega);cases hq:seen.getD r.toNat false with
   | true =>
     rw [hq] at e1;have hsk:=w6f hr ((h2.seen r hrr).1 hq);conv=>whnf
     repeat' (first|((first|refine u3d rfl ?_|refine wI ?_|(refine IdxK.at (k:=m) (by omega) hra rfl ?_)|refine u5q r.toNat (by omega) (by omega) ?_|refine u5y r.toNat 0 .tt (by omega) e1 ?_);conv=>whnf)|(apply bD<;>intro _<;>first|omega|conv=>whnf))
     exact ⟨(m,part,seen),⟨by simp only;omega,h2.sl,h2.pl,fun x hx=>by rw [h2.seen x hx,hsk],fun x hx hs=>h2.min x hx ((hsk x).1 hs)⟩,Nat.lt_succ_self m,Le.of_eq (by rw [show ((m+1:Nat):Int)-1-1=(m:Int)-1 by omega])⟩
   | false =>
     rw [hq] at e1;obtain ⟨h3,h4,h5,h6⟩:=h2.part hg hg2 hgm he hr hq;conv=>whnf
     repeat' (first|((first|refine dA ?_|refine u3d rfl ?_|refine aD ?_|(refine IdxK.at (k:=m) (by omega) hra rfl ?_)|refine u5q r.toNat (by omega) (by omega) ?_|refine u5y r.toNat 0 .ff (by omega) e1 ?_|refine u6o r.toNat 0 .ff .tt (by omega) e1 (u4j 1) rfl ?_|refine u8x (fun x hx=>by rcases u3b.1 hx with rfl;rfl) rfl ?_);conv=>whnf)|(apply bD<;>intro _<;>first|omega|conv=>whnf))
     have hwl:(ZT g.2 (n+1) 0 (seen.set r.toNat true,[r])).1.length=n:=h6.sl;rw [show (seen.map bv).set r.toNat AV.tt=(seen.set r.toNat true).map bv by rw [u6k];rfl];refine CallK.heap [(1000,1),(2000,2)] 0 (u4w (u4v _) (u4w (u4v _) (u4w (u4v _) u4s))) (by refine u4x (j:=1) rfl rfl ?_ ?_;exact CSub.refl _;refine u4x (j:=2) rfl rfl ?_ ?_;exact CSub.refl _;exact u4c) (x5k n hn g.2 hg2 (seen.set r.toNat true,[r]) h5) rfl rfl ?_;rintro l' H' ⟨rfl,rfl⟩;conv=>whnf
     have hwn:(ZT g.2 (n+1) 0 (seen.set r.toNat true,[r])).2.length<=n:=MY (MW hg2 _ _ h5);generalize ZT g.2 (n+1) 0 (seen.set r.toNat true,[r])=w at h3 h4 h6 hwl hwn ⊢;repeat' ((first|(refine iM fun _=>?_)|(refine QD (q1o w.2 h4) (.cons (.hd rfl (by simp)) .nil) (by rintro _ rfl;rfl) ?_;rintro _ rfl));conv=>whnf)
     refine LoopK.inv QX (fun x:Nat=>⟨[(0,.p (FT g)),(3,.hd 0 0 n),(4,.hd 1 0 n),(5,.p (QR es)),(6,.p (.int .i64 (((m+1:Nat):Int)-1))),(8,.p (.int .i64 (z0w w.2))),(60,.hd 2 0 w.2.length),(61,.p (.int .i64 w.2.length)),(62,.p (.int .i64 x))],[(1,.own 4 1 (w.1.map bv)),(2,.own 3 1 (w.2.map (.int .i64))),(0,.own 3 1 ((YH (w.2.take x) (z0w w.2) part).map (.int .i64)))]⟩)
      (fun x=>x<=w.2.length) (fun x=>w.2.length-x) 0 (Le.of_eq rfl) (u3l _) ?_
     intro q hqw;rcases u3r q w.2.length with hq2|hq2
     ·have hwr:=h3 _ (u3i hq2);have e4:=z2d (l:=YH (w.2.take q) (z0w w.2) part) (i:=w.2[q].toNat) (by rw [q1i];omega);have e5:YH (w.2.take (q+1)) (z0w w.2) part=(YH (w.2.take q) (z0w w.2) part).set w.2[q].toNat (z0w w.2):=by
       unfold YH;rw [u3a hq2,List.foldl_append];rfl
      generalize YH (w.2.take q) (z0w w.2) part=pt at e4 e5 ⊢;conv=>whnf
      repeat' (first|((first|refine u3d rfl ?_|refine wI ?_|refine u5q q (by omega) (by omega) ?_|refine u5y q 0 (.int .i64 w.2[q]) (by omega) (by simp [hq2]) ?_|refine u5q w.2[q].toNat (by omega) (by omega) ?_|refine u6o w.2[q].toNat 0 (.int .i64 (pt.getD w.2[q].toNat 0)) (.int .i64 (z0w w.2)) (by omega) e4 (u4j 1) rfl ?_);conv=>whnf)|(apply bD<;>intro _<;>first|omega|conv=>whnf))
      exact ⟨q+1,hq2,by omega,Le.of_eq (by rw [e5,u6k];rfl)⟩
     ·rw [u3o hq2];conv=>whnf
      repeat' (first|(refine wI ?_;conv=>whnf)|(apply bD<;>intro _<;>first|omega|conv=>whnf))
      exact ⟨(m,YH w.2 (z0w w.2) part,w.1),⟨by simp only;omega,h6⟩,Nat.lt_succ_self m,Le.mk [] (by simp) (by simp) (by simp) (.cons (.refl _) (.cons (.refl _) (.cons (.refl _) (.cons (.refl _) (.cons (.of_eq (by rw [show (m:Int)=((m+1:Nat):Int)-1 by omega];rfl)) .nil))))) (.cons rfl (.refl _) (.cons rfl (.refl _) .nil))⟩
end Go.Ab
