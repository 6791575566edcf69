/- The reference's matrix: who follows whom. -/
import Derived.Test.YtneccajakpeodaaGreatCdepA16
import Derived.Test.YtneccajakpeodaaGreatCdepA17
import Derived.Test.YtneccajakpeodaaGreatCdepA18
import Derived.Test.YtneccajakpeodaaGreatCdepA21
set_option linter.unusedSimpArgs false
set_option linter.unusedVariables false
set_option maxRecDepth 100000
set_option maxHeartbeats 16000000
namespace Go.Ab
open Go.Proofs
theorem q3z (l:List Int) (x:Int):SpecP Tryz.prog 122 [QF l,.int .i64 x] (fun r=>r = .bool (FC l x)):=by
 refine SpecP.body NM QQ Tryz.func122 rfl Tryz.call122 (by show 2≤_;decide) ?_
 conv=>whnf
 repeat' (intro (_:_≤9223372036854775807);conv=>whnf)
 have hl:(l.map (AV.int .i64)).length=l.length:=List.length_map _
 refine LoopK.inv QQ (fun j:Nat=>⟨[(1,.p (.int .i64 x)),(7,.p (QF l)),(8,.p (.int .i64 (l.map (AV.int .i64)).length)),(9,.p (.int .i64 j))],[]⟩) (fun j=>j≤l.length∧FC (l.take j) x=false) (fun j=>l.length-j) 0 (Le.of_eq rfl) ⟨Nat.zero_le _,rfl⟩ ?_
 rintro j ⟨h2,h3⟩
 rcases Nat.lt_or_ge j l.length with hj|hj
 ·have hst:FC (l.take (j+1)) x=(FC (l.take j) x||decide (x=l[j])):=by unfold FC;rw [List.take_succ_eq_append_getElem hj,List.any_append];simp
  rw [h3,Bool.false_or] at hst
  conv=>whnf
  repeat' (first|((first|refine IdxK.map (by omega) (fun _=>rfl) ?_|refine Wr.i64 (by omega) (by omega) ?_);conv=>whnf)|(refine Br.dec (fun _=>?_) (fun _=>?_)<;>first|(exfalso;omega)|conv=>whnf))
  all_goals first
   | (have h9:l[j]=x:=by assumption
      exact RetK.tt (WO.2 (by subst h9;exact List.getElem_mem hj)))
   | (have h9 : ¬l[j]=x:=by assumption
      exact ⟨j+1,⟨by omega,by rw [hst,decide_eq_false_iff_not];exact fun h8=>h9 h8.symm⟩,by omega,Le.of_eq rfl⟩)
   | trace_state
 ·rw [List.take_of_length_le hj] at h3
  rw [h3]
  conv=>whnf
  repeat' (refine Br.dec (fun _=>?_) (fun _=>?_)<;>first|(exfalso;omega)|conv=>whnf)
  all_goals first
   | exact RetK.ff rfl
   | exact RetK.p rfl
   | trace_state
noncomputable def z6f (A:List Step) (a b:Int):Bool := @decide (a=b∨b = -1 ∨ ¬Rch (frR A a [b]) a (-1)) (Classical.propDecidable _)
theorem z2d {A:List Step} {a b:Int}:z6f A a b=true↔a=b∨b = -1 ∨ ¬Rch (frR A a [b]) a (-1):=by
 unfold z6f
 exact @decide_eq_true_iff _ (Classical.propDecidable _)
theorem DR (A:List Step) (a b:Int) (hl:A.length≤1000000):SpecP Tryz.prog 163 [QL A,.int .i64 a,.int .i64 b] (fun r=>r = .bool (z6f A a b)):=by
 refine SpecP.body HG QQ Tryz.func163 rfl Tryz.call163 (by show 3≤_;decide) ?_
 conv=>whnf
 have hF:=JC A a [b] hl
 have hx:=z2d (A:=A) (a:=a) (b:=b)
 generalize z6f A a b=v at *
 repeat' (first|((first|refine And.intro rfl ?_|(refine And.intro ⟨by decide,by decide⟩ ?_)|refine BsK.pure (fun x hx=>by rcases List.mem_singleton.1 hx with rfl;rfl) rfl ?_|(refine CallK.pure hF (.cons (Sub.refl _) (.cons (Sub.refl _) (.cons (Sub.refl _) .nil))) ?_;rintro _ ⟨es,rfl,hes,hnd⟩)|(refine CallK.pure (q3z _ (-1)) (.cons (Sub.refl _) (.cons (Sub.refl _) .nil)) ?_;rintro _ rfl));conv=>whnf)|(refine Br.dec (fun _=>?_) (fun _=>?_)<;>first|(exfalso;omega)|conv=>whnf))
 all_goals first
  | exact RetK.tt (hx.2 (.inl (by assumption)))
  | exact RetK.tt (hx.2 (.inr (.inl (by assumption))))
  | (have e:(!FC es (-1))=v:=by
      rw [Bool.eq_iff_iff,hx]
      have h1:=(WO (l:=es) (x := -1)).trans (hes (-1))
      constructor
      ·intro h2
       refine .inr (.inr fun h3 => ?_)
       rw [h1.2 h3] at h2
       cases h2
      ·rintro (h2|h2|h2)
       ·contradiction
       ·contradiction
       ·cases h4:FC es (-1) with
        | true=>exact absurd (h1.1 h4) h2
        | false=>rfl
     exact RetK.bool e)
  | trace_state
theorem PN (P:List Int) (x:Int) (hx:x∈P):SpecP Tryz.prog 108 [QF P,.int .i64 x] (fun r => ∃ i:Nat,r = .int .i64 i∧P[i]? = some x):=by
 refine SpecP.body FN QQ Tryz.func108 rfl Tryz.call108 (by show 2≤_;decide) ?_
 conv=>whnf
 repeat' (intro (_:_≤9223372036854775807);conv=>whnf)
 have hl:(P.map (AV.int .i64)).length=P.length:=List.length_map _
 refine LoopK.inv QQ (fun j:Nat=>⟨[(0,.p (QF P)),(1,.p (.int .i64 x)),(7,.p (.int .i64 (P.map (AV.int .i64)).length)),(8,.p (.int .i64 j))],[]⟩) (fun j=>j≤P.length∧x∉P.take j) (fun j=>P.length-j) 0 (Le.of_eq rfl) ⟨Nat.zero_le _,by simp⟩ ?_
 rintro j ⟨h2,h3⟩
 rcases Nat.lt_or_ge j P.length with hj|hj
 ·conv=>whnf
  repeat' (first|((first|refine IdxK.map (by omega) (fun _=>rfl) ?_|refine Wr.i64 (by omega) (by omega) ?_);conv=>whnf)|(refine Br.dec (fun _=>?_) (fun _=>?_)<;>first|(exfalso;omega)|conv=>whnf))
  all_goals first
   | (have h9:P[j]=x:=by assumption
      exact ⟨_,.p (Sub.refl _),j,rfl,by rw [List.getElem?_eq_getElem hj,h9]⟩)
   | (have h9 : ¬P[j]=x:=by assumption
      exact ⟨j+1,⟨by omega,fun h4=>by
       rcases (QA hj).1 h4 with h5|h5
       ·exact h3 h5
       ·exact h9 h5.symm⟩,by omega,Le.of_eq rfl⟩)
   | trace_state
 ·rw [List.take_of_length_le hj] at h3
  exact absurd hx h3
def fmR (F:Int→Int→Bool) (P:List Int) (a:Int):AV := .sl (P.map fun b => .bool (F a b))
def fmE (F:Int→Int→Bool) (P:List Int):AV := .sl (P.map (fmR F P))
def mxS (A:List Step) (P:List Int) (F:Int→Int→Bool) (i:Nat) (a:Int) (q:Nat):St:=⟨[(0,.p (QL A)),(1,.p (QF P)),(5,.hd 0 0 i),(7,.p (.int .i64 a)),(8,.hd 1 0 q),(11,.p (QF P)),(12,.p (.int .i64 (P.map (AV.int .i64)).length)),(13,.p (.int .i64 i)),(17,.p (QF P)),(18,.p (.int .i64 (P.map (AV.int .i64)).length)),(19,.p (.int .i64 q))],[(0,.own 112 1 ((P.take i).map (fmR F P))),(1,.own 4 1 ((P.take q).map fun b => .bool (F a b)))]⟩
def mxF (A:List Step) (P:List Int) (F:Int→Int→Bool) (i:Nat) (a:Int) (q:Nat):St:=⟨[(0,.p (QL A)),(1,.p (QF P)),(5,.hd 0 0 i),(7,.p (.int .i64 a)),(8,.p (.sl ((P.take q).map fun b => .bool (F a b)))),(11,.p (QF P)),(12,.p (.int .i64 (P.map (AV.int .i64)).length)),(13,.p (.int .i64 i)),(17,.p (QF P)),(18,.p (.int .i64 (P.map (AV.int .i64)).length)),(19,.p (.int .i64 q))],[(0,.own 112 1 ((P.take i).map (fmR F P)))]⟩
theorem v0i {N:Nat} (A:List Step) (P:List Int) (F:Int→Int→Bool) (i:Nat) (a:Int) (q:Nat) (hq:q≤P.length):Le N (mxS A P F i a q) (mxF A P F i a q):=by
 obtain ⟨s',h1,hle⟩:=Le.row (N:=N) (s:=mxS A P F i a q) (k:=1) (e:=4) (sz:=1) (es:=(P.take q).map fun b => .bool (F a b)) (set:=[8]) rfl (K:=fun s'=>s'=mxF A P F i a q) (by
  exact ⟨by rw [List.length_map,List.length_take];omega,rfl⟩)
 rw [h1] at hle
 exact hle
theorem UI (A:List Step) (P:List Int) (F:Int→Int→Bool) (hP:P.length≤1000000) (hF : ∀ a∈P,∀ b∈P,SpecP Tryz.prog 163 [QL A,.int .i64 a,.int .i64 b] (fun r=>r = .bool (F a b))):SpecP Tryz.prog 107 [QL A,QF P] (fun r=>r=fmE F P):=by
 refine SpecP.body FS QQ Tryz.func107 rfl Tryz.call107 (by show 2≤_;decide) ?_
 conv=>whnf
 intro (_:_≤9223372036854775807)
 have hPl:(P.map (AV.int .i64)).length=P.length:=List.length_map _
 conv=>whnf
 refine LoopK.inv QQ (fun i:Nat=>⟨[(0,.p (QL A)),(1,.p (QF P)),(5,.hd 0 0 i),(11,.p (QF P)),(12,.p (.int .i64 (P.map (AV.int .i64)).length)),(13,.p (.int .i64 i))],[(0,.own 112 1 ((P.take i).map (fmR F P)))]⟩) (fun i=>i≤P.length) (fun i=>P.length-i) 0
  (Le.mk [(0,.own 112 1 [])] (by simp [Chunk.new0];rfl) (by simp) (by simp) (.cons (.refl _) (.cons (.refl _) (.cons (.nil List.mem_cons_self) (.cons (.refl _) (.cons (.refl _) (.cons (.refl _) .nil)))))) (.new List.mem_cons_self .nil)) (Nat.zero_le _) ?_
 intro i hi
 rcases Nat.lt_or_ge i P.length with hi2|hi2
 rotate_left 1
 ·obtain rfl:i=P.length:=by omega
  rw [List.take_length]
  conv=>whnf
  repeat' (refine Br.dec (fun _=>?_) (fun _=>?_)<;>first|(exfalso;omega)|conv=>whnf)
  exact ⟨_,.hd rfl (by simp),rfl⟩
 have hpos:0<P.length:=by omega
 conv=>whnf
 repeat' (first|((first|intro (_:_≤9223372036854775807)|refine IdxK.map (by omega) (fun _=>rfl) ?_);conv=>whnf)|(refine Br.dec (fun _=>?_) (fun _=>?_)<;>first|(exfalso;omega)|conv=>whnf))
 refine LoopK.inv QQ (fun x:Nat×Bool=>bif x.2 then mxF A P F i P[i] x.1 else mxS A P F i P[i] x.1) (fun x=>x.1≤P.length∧(x.2=true↔x.1=P.length)) (fun x=>P.length-x.1) (0,false) ?_ ⟨Nat.zero_le _,⟨fun h=>(by cases h),fun h=>by simp only at h;omega⟩⟩ ?_
 ·exact Le.mk [(1,.own 4 1 [])] (by simp [Chunk.new0];rfl) (by simp) (by simp) (.cons (.refl _) (.cons (.refl _) (.cons (.refl _) (.cons (.refl _) (.cons (.nil List.mem_cons_self) (.cons (.refl _) (.cons (.refl _) (.cons (.refl _) (.cons (.refl _) (.cons (.refl _) (.cons (.refl _) .nil))))))))))) (.cons rfl (.refl _) (.new List.mem_cons_self .nil))
 rintro ⟨q,fz⟩ ⟨h10,h11⟩
 simp only at h10 h11 ⊢
 cases fz with
 | false =>
   have hq:q<P.length:=by
    rcases Nat.lt_or_ge q P.length with h|h
    ·exact h
    ·have:=h11.2 (by omega)
     cases this
   have hfo:=hF P[i] (List.getElem_mem hi2) P[q] (List.getElem_mem hq)
   have hn1:(P.take (q+1)).map (fun b=>AV.bool (F P[i] b))=(P.take q).map (fun b=>AV.bool (F P[i] b))++[.bool (F P[i] P[q])]:=by rw [List.take_succ_eq_append_getElem hq,List.map_append];rfl
   have hln:((P.take q).map fun b=>AV.bool (F P[i] b)).length=q:=by rw [List.length_map,List.length_take];omega
   have fin : ∃ x:Nat×Bool,(x.1≤P.length∧(x.2=true↔x.1=P.length))∧P.length-x.1<P.length-q∧Le Tryz.f107.ntmps (mxS A P F i P[i] (q+1)) (bif x.2 then mxF A P F i P[i] x.1 else mxS A P F i P[i] x.1):=by
    rcases Nat.lt_or_ge (q+1) P.length with h|h
    ·exact ⟨(q+1,false),⟨by simp only;omega,⟨fun h=>(by cases h),fun h'=>by simp only at h';omega⟩⟩,by simp only;omega,Le.refl _⟩
    ·exact ⟨(q+1,true),⟨by simp only;omega,⟨fun _=>by simp only;omega,fun _=>rfl⟩⟩,by simp only;omega,v0i A P F i P[i] (q+1) hq⟩
   obtain ⟨x,hx,hμ,hle⟩:=fin
   conv=>whnf
   repeat' (first|((first|refine And.intro rfl ?_|(refine And.intro ⟨by decide,by decide⟩ ?_)|refine BsK.pure (fun x hx=>by rcases List.mem_singleton.1 hx with rfl;rfl) rfl ?_|refine IdxK.map (by omega) (fun _=>rfl) ?_|refine Wr.i64 (by omega) (by omega) ?_|(refine CallK.pure hfo (.cons (Sub.refl _) (.cons (Sub.refl _) (.cons (Sub.refl _) .nil))) ?_;rintro _ rfl)|refine AppK.mk (n:=q) (by omega) rfl (by show (q+1)*1≤140737488355328;omega) (by show q+1≤9223372036854775807;omega) (fun x hx=>by rcases List.mem_singleton.1 hx with rfl;exact ⟨rfl,rfl⟩) ?_);conv=>whnf)|(refine Br.dec (fun _=>?_) (fun _=>?_)<;>first|(exfalso;omega)|conv=>whnf))
   all_goals exact ⟨x,hx,hμ,Le.trans (Le.of_eq (by unfold mxS;rw [hn1];rfl)) hle⟩
 | true =>
   obtain rfl:q=P.length:=h11.1 rfl
   have hn1:(P.take (i+1)).map (fmR F P)=(P.take i).map (fmR F P)++[fmR F P P[i]]:=by rw [List.take_succ_eq_append_getElem hi2,List.map_append];rfl
   have hln:((P.take i).map (fmR F P)).length=i:=by rw [List.length_map,List.length_take];omega
   rw [cond_true,mxF,List.take_length]
   conv=>whnf
   repeat' (first|((first|refine And.intro rfl ?_|(refine And.intro ⟨by decide,by decide⟩ ?_)|refine BsK.pure (fun x hx=>by rcases List.mem_singleton.1 hx with rfl;rfl) rfl ?_|refine Wr.i64 (by omega) (by omega) ?_|refine AppK.mk (n:=i) (by omega) rfl (by show (i+1)*24≤140737488355328;omega) (by show i+1≤9223372036854775807;omega) (fun x hx=>by rcases List.mem_singleton.1 hx with rfl;exact ⟨rfl,rfl⟩) ?_);conv=>whnf)|(refine Br.dec (fun _=>?_) (fun _=>?_)<;>first|(exfalso;omega)|conv=>whnf))
   all_goals exact ⟨i+1,by omega,by omega,Le.of_eq (by rw [hn1];rfl)⟩
open Go.Proofs
open Go.Proofs
section
variable {p:Pg} {j:Nat} {f:Pr}
end
open Go.Proofs
open Go.Proofs
open Go.Proofs
open Go.Proofs
open Go.Proofs
open Go.Proofs
open Go.Proofs
section
variable {p:Pg} {j:Nat} {f:Pr} {n:Str}
end
open Go.Proofs
section
variable {p:Pg} {j:Nat} {f:Pr}
end
open Go.Proofs
theorem z1u {p:Pg} {j:Nat} {f:Pr} {a b:Int} (hab:a≠b) (hb:b ≠ -1):Rch (frR (PH (QX p j f) f) a [b]) a (-1)↔AvdP (aR p j f) b a:=by
 have hno : ∀ x,FC [b] x=false↔x≠b:=fun x=>by
  unfold FC
  simp
 constructor
 ·intro h
  have key : ∀ {x:Int},Rch (frR (PH (QX p j f) f) a [b]) a x→AvdP (aR p j f) b x→AvdP (aR p j f) b a:=fun {x} h=>by
   induction h with
   | refl=>exact id
   | @tail y x _ hs ih =>
     intro hx
     obtain ⟨h1,s,h2,h3,h4⟩:=hs
     refine ih (.step ?_ ⟨s,h2,h3,h4⟩ hx)
     rcases h1 with h1|h1
     ·rw [h1];exact hab
     ·exact (hno y).1 h1
  exact key h (.exit hb)
 ·intro h
  have key : ∀ {x:Int},AvdP (aR p j f) b x→Rch (frR (PH (QX p j f) f) a [b]) a x→Rch (frR (PH (QX p j f) f) a [b]) a (-1):=fun {x} h=>by
   induction h with
   | exit _=>exact id
   | @step x t hx hs _ ih =>
     obtain ⟨s,h2,h3,h4⟩:=hs
     exact fun hr=>ih (.tail hr ⟨.inr ((hno x).2 hx),s,h2,h3,h4⟩)
  exact key h (.refl)
open Go.Proofs
def befR (a b:List Int):Prop := ∃ x∈a,∀ y∈b,ordP x y
theorem befR.irr (a:List Int) : ¬befR a a:=fun ⟨x,hx,h⟩=>ordP.irr x (h x hx)
theorem befR.trans (a b c:List Int) (h1:befR a b) (h2:befR b c):befR a c:=by
 obtain ⟨x,hx,h⟩:=h1
 obtain ⟨y,hy,h'⟩:=h2
 exact ⟨x,hx,fun z hz=>ordP.trans _ _ _ (h y hy) (h' z hz)⟩
def tlsP (p:Pg) (j:Nat) (f:Pr) (l:List Int):Prop:=l.Pairwise ordP ∧ ∃ r,TrapP p j f l r
def trpX (p:Pg) (j:Nat) (f:Pr) (x:Int):Prop := ¬Rch (wR p j f) x (-1) ∧ ∀ y,Rch (wR p j f) x y→Rch (wR p j f) y x
section
variable {p:Pg} {j:Nat} {f:Pr}
theorem z8h {l m:List Int} (hl:tlsP p j f l) (hm:tlsP p j f m) {x:Int} (h1:x∈l) (h2:x∈m):l=m:=by
 obtain ⟨h3,r,h4⟩:=hl
 obtain ⟨h5,s,h6⟩:=hm
 have h7:=((h4.mem x).1 h1).2
 have h8:=((h6.mem x).1 h2).2
 refine z8z h3 h5 fun b => ?_
 rw [h4.mem,h6.mem]
 exact and_congr Iff.rfl ⟨fun h=>(h8.trans h7.symm).trans h,fun h=>(h7.trans h8.symm).trans h⟩
theorem BB {i k:Int} (hi:0≤i∧i<k) (hk:k<(QY f.body+2:Nat)):ordP (QM p j (QY f.body+2:Nat) i) (QM p j (QY f.body+2:Nat) k):=by
 rw [HH]
 unfold QM loI
 (repeat' split)<;>omega
theorem z8w {part:List Int} {i:Nat}:(GK (QM p j (QY f.body+2:Nat)) part i (QY f.body+2)).Pairwise ordP:=by
 unfold GK
 rw [List.pairwise_map]
 have h1:((List.range (QY f.body+2)).filter fun j=>part.getD j 0==(i:Int)).Pairwise fun a b=>a<b:=List.Pairwise.sublist List.filter_sublist List.pairwise_lt_range
 refine h1.imp_of_mem fun {a b} ha hb hab => ?_
 have h2:=List.mem_range.1 (List.mem_filter.1 hb).1
 exact BB (by omega) (by omega)
theorem x5i (h:XK p=true) (hj:p.procs[j]? = some f) {l:List Int} (hl:l∈trapsW (QX p j f) f):l.Pairwise ordP:=by
 obtain ⟨i,_,_,_,rfl⟩:=q1h.1 hl
 exact z8w
theorem z9g (h:XK p=true) (hj:p.procs[j]? = some f):(trapsW (QX p j f) f).Pairwise befR ∧ ∀ l,l∈trapsW (QX p j f) f↔tlsP p j f l:=by
 constructor
 ·have e:trapsW (QX p j f) f=((List.range (QY f.body+2)).filter (q0l (ZE (QX p j f) f) (q4m (QY f.body+2) (ZE (QX p j f) f) (prsW (QX p j f) f)))).map fun i=>GK (QM p j (QY f.body+2:Nat)) (ZE (QX p j f) f) i (QY f.body+2):=by
   unfold trapsW ME
   rw [q5w]
   rfl
  rw [e,List.pairwise_map]
  have h1:((List.range (QY f.body+2)).filter (q0l (ZE (QX p j f) f) (q4m (QY f.body+2) (ZE (QX p j f) f) (prsW (QX p j f) f)))).Pairwise fun a b=>a<b:=List.Pairwise.sublist List.filter_sublist List.pairwise_lt_range
  refine h1.imp_of_mem fun {a b} ha hb hab => ?_
  obtain ⟨h2,h3⟩:=List.mem_filter.1 ha
  have h2:=List.mem_range.1 h2
  unfold q0l at h3
  rw [Bool.and_eq_true,beq_iff_eq] at h3
  refine ⟨QM p j (QY f.body+2:Nat) a,q7q.2 ⟨a,h2,h3.1,rfl⟩,fun y hy => ?_⟩
  obtain ⟨k,hk,hpk,rfl⟩:=q7q.1 hy
  have h4:=(q1v (p:=p) (j:=j) (f:=f) (i:=(k:Int)) (by omega)).le _ (.refl _)
  rw [← q1z,hpk] at h4
  exact BB (by omega) (by omega)
 ·intro l
  constructor
  ·intro hl
   exact ⟨x5i h hj hl,x5u h hj hl⟩
  ·rintro ⟨h1,r,h2⟩
   obtain ⟨l',h3,h4⟩:=w6w h hj h2.pl h2.cl h2.n0 h2.nx
   have:l=l':=z8z h1 (x5i h hj h3) fun b=>by rw [h2.mem,h4]
   rw [this]
   exact h3
theorem w7i (h:XK p=true) (hj:p.procs[j]? = some f) {a b:Int} (hr:wR p j f a b):b≠0:=by
 obtain ⟨s,hs,_,rfl⟩:=hr
 have h1:=((BG h hj).2.1 s (((JY h hj).2 s).1 hs)).2
 unfold okI at h1
 omega
theorem w8f (h:XK p=true) (hj:p.procs[j]? = some f) {a b:Int} (ha:a≠0) (hr:Rch (wR p j f) a b):b≠0:=by
 cases hr with
 | refl=>exact ha
 | tail _ h2=>exact w7i h hj h2
theorem w6x (h:XK p=true) (hj:p.procs[j]? = some f) {x:Int} (hx:plP p j f x) (h0:x≠0) (ht:trpX p j f x) {m:List Int} (hm1:m.Pairwise ordP) (hm2 : ∀ s,s∈m↔Rch (wR p j f) x s):tlsP p j f m:=by
 obtain ⟨h1,h2⟩:=ht
 refine ⟨hm1,x,hx,fun b => ?_,fun b c hb hbc => ?_,fun hs => ?_,fun hs=>h1 hs.1⟩
 ·rw [hm2]
  exact ⟨fun h3=>⟨w7k h hj hx h3,h3,h2 b h3⟩,fun h3=>h3.2.1⟩
 ·have h3:Rch (wR p j f) x c := .tail hb.1 hbc
  exact ⟨h3,h2 c h3⟩
 ·exact w8f h hj h0 hs.1 rfl
theorem z6b (h:XK p=true) (hj:p.procs[j]? = some f) {l:List Int} (hl:tlsP p j f l) {x:Int} (hx:x∈l):trpX p j f x∧(QN p.procs j:Int)+1≤x∧x≤(QN p.procs j+QY f.body:Nat):=by
 obtain ⟨_,r,ht⟩:=hl
 obtain ⟨hpl,hs⟩:=(ht.mem x).1 hx
 have hcl : ∀ y,Rch (wR p j f) x y→sccP (wR p j f) r y:=fun y hy=>hy.closed (S:=fun y=>sccP (wR p j f) r y) (fun a b ha hab=>ht.cl a b ha hab) hs
 refine ⟨⟨fun hr=>ht.nx (hcl _ hr),fun y hy=>((hcl y hy).symm.trans hs).1⟩,?_⟩
 rcases hpl with rfl|rfl|h1
 ·exact absurd hs ht.n0
 ·exact absurd hs ht.nx
 ·exact h1
structure TrI (p:Pg) (j:Nat) (f:Pr) (k:Nat) (out:List (List Int)):Prop where
 ok : ∀ l∈out,tlsP p j f l ∧ ∃ x∈((flatU f).take k).map (fun y=>y.s.id),x∈l
 has : ∀ x∈((flatU f).take k).map (fun y=>y.s.id),trpX p j f x → ∃ l∈out,x∈l
 ord:out.Pairwise befR
theorem TrI.zero:TrI p j f 0 []:=⟨fun _ h=>(by cases h),fun x h=>(by simp at h),.nil⟩
theorem x3p (h:XK p=true) (hj:p.procs[j]? = some f) {k:Nat} (hk:k<(flatU f).length):(flatU f)[k].s.id=(QN p.procs j:Int)+1+k:=by
 have h1:=q1m (QK h).1 hj
 have h2:=congrArg (fun l=>l[k]?) h1
 simp only [List.getElem?_map,List.getElem?_eq_getElem hk,Option.map_some] at h2
 have hc:(flatU f).length=QY f.body:=by
  have:=congrArg List.length h1
  unfold YF at this
  simpa using this
 unfold YF at h2
 rw [List.getElem?_map,List.getElem?_range' (by omega)] at h2
 simp only [Option.map_some,Option.some.injEq] at h2
 rw [h2]
 omega
theorem w4r (h:XK p=true) (hj:p.procs[j]? = some f) {k:Nat} {x:Int} (hx:x∈((flatU f).take k).map (fun y=>y.s.id)):(QN p.procs j:Int)+1≤x∧x≤(QN p.procs j:Int)+k:=by
 obtain ⟨y,hy,rfl⟩:=List.mem_map.1 hx
 obtain ⟨i,hi,rfl⟩:=List.mem_iff_getElem.1 hy
 rw [List.length_take] at hi
 rw [List.getElem_take,x3p h hj (by omega)]
 omega
theorem z6x (h:XK p=true) (hj:p.procs[j]? = some f) {k:Nat} {x:Int} (hk:k≤(flatU f).length) (h1:(QN p.procs j:Int)+1≤x) (h2:x≤(QN p.procs j:Int)+k):x∈((flatU f).take k).map (fun y=>y.s.id):=by
 refine List.mem_map.2 ⟨(flatU f)[(x-QN p.procs j-1).toNat],List.mem_iff_getElem.2 ⟨(x-QN p.procs j-1).toNat,by rw [List.length_take];omega,by rw [List.getElem_take]⟩,?_⟩
 rw [x3p h hj]
 omega
theorem TrI.same {k:Nat} {out:List (List Int)} (hk:k<(flatU f).length) (hI:TrI p j f k out) (hx:trpX p j f (flatU f)[k].s.id → ∃ l∈out,(flatU f)[k].s.id∈l):TrI p j f (k+1) out:=by
 have e:((flatU f).take (k+1)).map (fun y=>y.s.id)=((flatU f).take k).map (fun y=>y.s.id)++[(flatU f)[k].s.id]:=by rw [List.take_succ_eq_append_getElem hk,List.map_append];rfl
 refine ⟨fun l hl => ?_,fun x h1 h2 => ?_,hI.ord⟩
 ·obtain ⟨h1,x,h2,h3⟩:=hI.ok l hl
  exact ⟨h1,x,by rw [e];exact List.mem_append.2 (.inl h2),h3⟩
 ·rw [e] at h1
  rcases List.mem_append.1 h1 with h1|h1
  ·exact hI.has x h1 h2
  ·rw [List.mem_singleton.1 h1] at h2 ⊢
   exact hx h2
theorem TrI.more (h:XK p=true) (hj:p.procs[j]? = some f) {k:Nat} {out:List (List Int)} (hk:k<(flatU f).length) (hI:TrI p j f k out) (ht:trpX p j f (flatU f)[k].s.id) (hn : ∀ l∈out,(flatU f)[k].s.id∉l) {m:List Int} (hm1:m.Pairwise ordP) (hm2 : ∀ s,s∈m↔Rch (wR p j f) (flatU f)[k].s.id s):TrI p j f (k+1) (out++[m]):=by
 have e:((flatU f).take (k+1)).map (fun y=>y.s.id)=((flatU f).take k).map (fun y=>y.s.id)++[(flatU f)[k].s.id]:=by rw [List.take_succ_eq_append_getElem hk,List.map_append];rfl
 have hid:=x3p h hj hk
 have hlen:(flatU f).length=QY f.body:=WQ 1 0 false f.body
 have hT:tlsP p j f m:=w6x h hj (.inr (.inr ⟨by omega,by omega⟩)) (by omega) ht hm1 hm2
 have hxm:(flatU f)[k].s.id∈m:=(hm2 _).2 .refl
 refine ⟨fun l hl => ?_,fun x h1 h2 => ?_,?_⟩
 ·rcases List.mem_append.1 hl with hl|hl
  ·obtain ⟨h1,x,h2,h3⟩:=hI.ok l hl
   exact ⟨h1,x,by rw [e];exact List.mem_append.2 (.inl h2),h3⟩
  ·rw [List.mem_singleton.1 hl]
   exact ⟨hT,_,by rw [e];exact List.mem_append.2 (.inr (List.mem_singleton.2 rfl)),hxm⟩
 ·rw [e] at h1
  rcases List.mem_append.1 h1 with h1|h1
  ·obtain ⟨l,h3,h4⟩:=hI.has x h1 h2
   exact ⟨l,List.mem_append.2 (.inl h3),h4⟩
  ·rw [List.mem_singleton.1 h1]
   exact ⟨m,List.mem_append.2 (.inr (List.mem_singleton.2 rfl)),hxm⟩
 ·rw [List.pairwise_append]
  refine ⟨hI.ord,List.pairwise_singleton _ _,fun a ha b hb => ?_⟩
  rw [List.mem_singleton.1 hb]
  obtain ⟨_,x,h2,h3⟩:=hI.ok a ha
  refine ⟨x,h3,fun z hz => ?_⟩
  obtain ⟨h4,h5,h6⟩:=z6b h hj hT hz
  have h7:=w4r h hj h2
  rw [HH]
  refine .inr ⟨by omega,by omega,?_⟩
  rcases Int.lt_or_le (QN p.procs j+k:Int) z with h8|h8
  ·omega
  ·obtain ⟨l,h9,h10⟩:=hI.has z (z6x h hj (by omega) h5 h8) h4
   have h11:=z8h (hI.ok l h9).1 hT h10 hz
   exact absurd (by rw [h11];exact hxm) (hn l h9)
theorem TrI.all (h:XK p=true) (hj:p.procs[j]? = some f) {k:Nat} {out:List (List Int)} (hk:k=(flatU f).length) (hI:TrI p j f k out):out=trapsW (QX p j f) f:=by
 obtain ⟨h1,h2⟩:=z9g h hj
 have hlen:(flatU f).length=QY f.body:=WQ 1 0 false f.body
 refine q1w befR.irr befR.trans hI.ord h1 fun l => ?_
 rw [h2]
 constructor
 ·exact fun hl=>(hI.ok l hl).1
 ·intro hl
  obtain ⟨_,r,ht⟩:=id hl
  have hr:r∈l:=(ht.mem r).2 ⟨ht.pl,.refl _⟩
  obtain ⟨h3,h4,h5⟩:=z6b h hj hl hr
  obtain ⟨l',h6,h7⟩:=hI.has r (z6x h hj (by omega) h4 (by omega)) h3
  rw [z8h hl (hI.ok l' h6).1 hr h7]
  exact h6
theorem TrI.len (h:XK p=true) (hj:p.procs[j]? = some f) {k:Nat} {out:List (List Int)} (hk:k≤(flatU f).length) (hI:TrI p j f k out):out.length≤k:=by
 have hnd:out.Nodup:=by
  unfold List.Nodup
  refine hI.ord.imp fun {a b} hab e => ?_
  subst e
  exact befR.irr _ hab
 classical
 let g:List Int→Int:=fun l=>if hl:l∈out then Classical.choose (hI.ok l hl).2 else 0
 have hg : ∀ l∈out,g l∈((flatU f).take k).map (fun y=>y.s.id)∧g l∈l:=fun l hl=>by
  have e:g l=Classical.choose (hI.ok l hl).2:=dif_pos hl
  rw [e]
  exact Classical.choose_spec (hI.ok l hl).2
 have h1:(out.map g).Nodup:=by
  unfold List.Nodup
  rw [List.pairwise_map]
  refine hnd.imp_of_mem fun {a b} ha hb hab e=>hab ?_
  exact z8h (hI.ok a ha).1 (hI.ok b hb).1 (hg a ha).2 (by rw [e];exact (hg b hb).2)
 have:=WS h1 (m:=((flatU f).take k).map (fun y=>y.s.id)) fun s hs=>by
  obtain ⟨l,hl,rfl⟩:=List.mem_map.1 hs
  exact (hg l hl).1
 rw [List.length_map,List.length_map,List.length_take] at this
 omega
end
theorem z0y {l m:List Step} (hok : ∀ s∈l,okSt s) (h : ∀ s,s∈l↔s∈m):ZM l=ZM m:=by
 obtain ⟨h1,h2,h3⟩:=LK (l:=m) fun s hs=>hok s ((h s).2 hs)
 exact q5b hok h1 (fun s hs=>(h s).2 (h2 s hs)) fun s hs=>h3 s ((h s).1 hs)
open Go.Proofs
theorem GX (p:Pg) (j:Nat) (f:Pr) (h:XK p=true) (hj:p.procs[j]? = some f):SpecP Tryz.prog 101 [x9v f,QL (QX p j f).real] (fun r=>r=q8i (trapsW (QX p j f) f)):=by
 refine SpecP.body JR QQ Tryz.func101 rfl Tryz.call101 (by show 2≤_;decide) ?_
 conv=>whnf
 intro (_:_≤9223372036854775807)
 have hm:=(QK h).1
 have hlU:=YI hm hj
 have hLl:=ZI (flatU f)
 have hrl:=z7r h hj
 have hFr:=fun a=>JC (QX p j f).real a [] (by omega)
 have hlen:(flatU f).length=QY f.body:=WQ 1 0 false f.body
 conv=>whnf
 refine LoopK.inv QQ (fun x:Nat×List (List Int)=>⟨[(1,.p (QL (QX p j f).real)),(5,.hd 0 0 x.2.length),(16,.p (YN (flatU f))),(17,.p (.int .i64 ((flatU f).map fun i=>AV.agg i.cells).length)),(18,.p (.int .i64 x.1))],[(0,.own 36 1 (x.2.map QF))]⟩) (fun x=>x.1≤(flatU f).length∧TrI p j f x.1 x.2) (fun x=>(flatU f).length-x.1) (0,[])
  (Le.mk [(0,.own 36 1 [])] (by simp [Chunk.new0];rfl) (by simp) (by simp) (.cons (.refl _) (.cons (.nil List.mem_cons_self) (.cons (.refl _) (.cons (.refl _) (.cons (.refl _) .nil))))) (.new List.mem_cons_self .nil)) ⟨Nat.zero_le _,TrI.zero⟩ ?_
 rintro ⟨k,out⟩ ⟨h2,hI⟩
 simp only at h2 hI ⊢
 have hol:=hI.len h hj h2
 rcases Nat.lt_or_ge k (flatU f).length with hk|hk
 rotate_left 1
 ·have:=hI.all h hj (by omega)
  subst this
  conv=>whnf
  repeat' (refine Br.dec (fun _=>?_) (fun _=>?_)<;>first|(exfalso;omega)|conv=>whnf)
  exact ⟨_,.hd rfl (by simp),by unfold q8i avI;rw [List.map_map];rfl⟩
 have hid:=x3p h hj hk
 have hpl:plP p j f (flatU f)[k].s.id := .inr (.inr ⟨by omega,by omega⟩)
 have hF1:=hFr (flatU f)[k].s.id
 conv=>whnf
 repeat' (first|((first|intro (_:_≤9223372036854775807)|refine And.intro rfl ?_|refine IdxK.map (by omega) (fun _=>rfl) ?_|(refine CallK.pure hF1 (.cons (Sub.refl _) (.cons (Sub.refl _) (.cons Sub.nils .nil))) ?_;rintro _ ⟨es,rfl,hes,hnd⟩)|(refine CallK.pure (QO _ (-1)) (.cons (Sub.refl _) (.cons (Sub.refl _) .nil)) ?_;rintro _ rfl));conv=>whnf)|(refine Br.dec (fun _=>?_) (fun _=>?_)<;>first|(exfalso;omega)|conv=>whnf))
 have hel:=z9y hes hnd
 have hml:(es.map (AV.int .i64)).length=es.length:=List.length_map _
 refine LoopK.inv QQ (fun x:Nat×Bool=>⟨[(1,.p (QL (QX p j f).real)),(5,.hd 0 0 out.length),(7,.p (.ip (flatU f)[k].cells)),(8,.p (QF es)),(9,.p (.bool x.2)),(16,.p (YN (flatU f))),(17,.p (.int .i64 ((flatU f).map fun i=>AV.agg i.cells).length)),(18,.p (.int .i64 k)),(30,.p (QF es)),(31,.p (.int .i64 (es.map (AV.int .i64)).length)),(32,.p (.int .i64 x.1))],[(0,.own 36 1 (out.map QF))]⟩) (fun x=>x.1≤es.length∧(x.2=true↔FC es (-1)=false ∧ ∀ y∈es.take x.1,Rch (wR p j f) y (flatU f)[k].s.id)) (fun x=>es.length-x.1) (0,!FC es (-1)) (Le.of_eq rfl) ⟨Nat.zero_le _,by simp⟩ ?_
 rintro ⟨q,b⟩ ⟨h3,h4⟩
 simp only at h3 h4 ⊢
 rcases Nat.lt_or_ge q es.length with hq|hq
 ·have htk : ∀ s,s∈es.take (q+1)↔s∈es.take q∨s=es[q]:=fun s=>QA hq
  have hF2:=hFr es[q]
  cases b with
  | true =>
    have h4:=h4.1 rfl
    conv=>whnf
    repeat' (first|((first|refine DrawK.auto QQ mixed (by kernel_rfl) ?_|refine IdxK.map (by omega) (fun _=>rfl) ?_|refine Wr.i64 (by omega) (by omega) ?_|(refine CallK.pure hF2 (.cons (Sub.refl _) (.cons (Sub.refl _) (.cons Sub.nils .nil))) ?_;rintro _ ⟨ey,rfl,hey,hnd2⟩)|(refine CallK.pure (QO _ _) (.cons (Sub.refl _) (.cons (Sub.refl _) .nil)) ?_;rintro _ rfl));conv=>whnf)|(refine Br.dec (fun _=>?_) (fun _=>?_)<;>first|(exfalso;omega)|conv=>whnf)|(refine Br.b (fun _=>?_) (fun _=>?_)<;>conv=>whnf))
    all_goals first
     | contradiction
     | exact ⟨(q+1,FC ey (flatU f)[k].s.id),⟨by simp only;omega,by
        simp only
        rw [WO,hey,q5a]
        constructor
        ·exact fun h5=>⟨h4.1,fun y hy=>((htk y).1 hy).elim (h4.2 y) fun e=>e▸h5⟩
        ·exact fun h5=>h5.2 _ ((htk _).2 (.inr rfl))⟩,by simp only;omega,Le.of_eq rfl⟩
     | trace_state
  | false =>
    conv=>whnf
    repeat' (first|((first|refine DrawK.auto QQ mixed (by kernel_rfl) ?_|refine IdxK.map (by omega) (fun _=>rfl) ?_|refine Wr.i64 (by omega) (by omega) ?_);conv=>whnf)|(refine Br.dec (fun _=>?_) (fun _=>?_)<;>first|(exfalso;omega)|conv=>whnf)|(refine Br.b (fun _=>?_) (fun _=>?_)<;>conv=>whnf))
    all_goals first|contradiction|exact ⟨(q+1,false),⟨by simp only;omega,by
      simp only
      refine ⟨fun h5=>(by cases h5),fun h5 => ?_⟩
      exact h4.2 ⟨h5.1,fun y hy=>h5.2 y ((htk y).2 (.inl hy))⟩⟩,by simp only;omega,(Le.mk [] (by simp) (by simp) (by simp) (by repeat' (first|exact .nil|refine .cons ?_ ?_|exact .refl _|exact .p (Sub.ff rfl)|exact .p (Sub.tt rfl))) (.cons rfl (.refl _) .nil))⟩
 ·rw [List.take_of_length_le hq] at h4
  have htr:b=true↔trpX p j f (flatU f)[k].s.id:=by
   rw [h4]
   unfold trpX
   have e1:FC es (-1)=false ↔ ¬Rch (wR p j f) (flatU f)[k].s.id (-1):=by
    have h5:=(WO (l:=es) (x := -1)).trans ((hes (-1)).trans q5a)
    rw [← show Rch (stR (QX p j f).real) (flatU f)[k].s.id (-1)↔Rch (wR p j f) (flatU f)[k].s.id (-1) from Iff.rfl,← h5]
    cases FC es (-1)<;>simp
   rw [e1]
   refine and_congr Iff.rfl ⟨fun h5 y hy=>h5 y ((hes y).2 (q5a.2 hy)),fun h5 y hy=>h5 y (q5a.1 ((hes y).1 hy))⟩
  conv=>whnf
  repeat' (first|(intro (_:_≤9223372036854775807);conv=>whnf)|(refine Br.dec (fun _=>?_) (fun _=>?_)<;>first|(exfalso;omega)|conv=>whnf))
  have hom:(out.map QF).length=out.length:=List.length_map _
  refine LoopK.inv QQ (fun x:Nat×Bool=>⟨[(1,.p (QL (QX p j f).real)),(5,.hd 0 0 out.length),(7,.p (.ip (flatU f)[k].cells)),(8,.p (QF es)),(9,.p (.bool b)),(12,.p (.bool x.2)),(16,.p (YN (flatU f))),(17,.p (.int .i64 ((flatU f).map fun i=>AV.agg i.cells).length)),(18,.p (.int .i64 k)),(47,.hd 0 0 out.length),(48,.p (.int .i64 out.length)),(49,.p (.int .i64 x.1))],[(0,.own 36 1 (out.map QF))]⟩) (fun x=>x.1≤out.length∧x.2=(out.take x.1).any fun l=>FC l (flatU f)[k].s.id) (fun x=>out.length-x.1) (0,false)
   (Le.mk [] (by simp) (by simp) (by simp) (by repeat' (first|exact .nil|refine .cons ?_ ?_|exact .refl _|exact .p (Sub.ff rfl)|exact .p (Sub.tt rfl))) (.cons rfl (.refl _) .nil)) ⟨Nat.zero_le _,by simp⟩ ?_
  rintro ⟨i,o⟩ ⟨h5,h6⟩
  simp only at h5 h6 ⊢
  rcases Nat.lt_or_ge i out.length with hi|hi
  ·have g:(out.map QF)[i]? = some (QF out[i]):=by simp [hi]
   have h7:((out.take (i+1)).any fun l=>FC l (flatU f)[k].s.id)=(o||FC out[i] (flatU f)[k].s.id):=by rw [List.take_succ_eq_append_getElem hi,List.any_append,← h6];simp
   cases o with
   | true =>
     conv=>whnf
     repeat' (first|((first|refine And.intro rfl ?_|refine Wr.i64 (by omega) (by omega) ?_|refine IdxL.mk i rfl hi ?_|refine LdOwn.mk i 0 _ (by show (0+i)*1+0=i*1+0;omega) g ?_);conv=>whnf)|(refine Br.dec (fun _=>?_) (fun _=>?_)<;>first|(exfalso;omega)|conv=>whnf)|(refine Br.b (fun _=>?_) (fun _=>?_)<;>conv=>whnf))
     all_goals first|contradiction|exact ⟨(i+1,true),⟨by simp only;omega,by simp only;rw [h7];rfl⟩,by simp only;omega,(Le.mk [] (by simp) (by simp) (by simp) (by repeat' (first|exact .nil|refine .cons ?_ ?_|exact .refl _|exact .p (Sub.ff rfl)|exact .p (Sub.tt rfl))) (.cons rfl (.refl _) .nil))⟩
   | false =>
     conv=>whnf
     repeat' (first|((first|refine And.intro rfl ?_|refine Wr.i64 (by omega) (by omega) ?_|refine IdxL.mk i rfl hi ?_|refine LdOwn.mk i 0 _ (by show (0+i)*1+0=i*1+0;omega) g ?_|(refine CallK.pure (QO out[i] _) (.cons (Sub.refl _) (.cons (Sub.refl _) .nil)) ?_;rintro _ rfl));conv=>whnf)|(refine Br.dec (fun _=>?_) (fun _=>?_)<;>first|(exfalso;omega)|conv=>whnf)|(refine Br.b (fun _=>?_) (fun _=>?_)<;>conv=>whnf))
     all_goals first|contradiction|exact ⟨(i+1,FC out[i] (flatU f)[k].s.id),⟨by simp only;omega,by simp only;rw [h7,Bool.false_or]⟩,by simp only;omega,Le.of_eq rfl⟩
  ·rw [List.take_of_length_le hi] at h6
   have hold:o=true ↔ ∃ l∈out,(flatU f)[k].s.id∈l:=by
    rw [h6,List.any_eq_true]
    exact ⟨fun ⟨l,h7,h8⟩=>⟨l,h7,WO.1 h8⟩,fun ⟨l,h7,h8⟩=>⟨l,h7,WO.2 h8⟩⟩
   have hsame:(¬b=true∨o=true)→TrI p j f (k+1) out:=fun h7=>hI.same hk fun h8=>h7.elim (fun h9=>absurd (htr.2 h8) h9) fun h9=>hold.1 h9
   have hR:=PY es (by omega)
   cases b<;>cases o <;>
   (conv=>whnf
    repeat' (first|((first|refine And.intro rfl ?_|(refine And.intro ⟨by decide,by decide⟩ ?_)|refine BsK.pure (fun x hx=>by rcases List.mem_singleton.1 hx with rfl;rfl) rfl ?_|refine Wr.i64 (by omega) (by omega) ?_|(refine CallK.pure hR (.cons (Sub.refl _) .nil) ?_;rintro _ ⟨m,rfl,hm1,hm2⟩)|refine AppK.mk (n:=out.length) (es:=out.map QF) (by omega) rfl (by show (out.length+1)*24≤140737488355328;omega) (by show out.length+1≤9223372036854775807;omega) (fun x hx=>by rcases List.mem_singleton.1 hx with rfl;exact ⟨rfl,rfl⟩) ?_);conv=>whnf)|(refine Br.dec (fun _=>?_) (fun _=>?_)<;>first|(exfalso;omega)|conv=>whnf)|(refine Br.n (fun _=>?_) (fun _=>?_)<;>conv=>whnf)|(refine Br.b (fun _=>?_) (fun _=>?_)<;>conv=>whnf))
    all_goals first
     | contradiction
     | exact ⟨(k+1,out++[m]),⟨by simp only;omega,hI.more h hj hk (htr.1 rfl) (fun l h7 h8=>by have:=hold.2 ⟨l,h7,h8⟩;cases this) hm1 fun s=>by rw [hm2,hes,q5a];exact Iff.rfl⟩,by simp only;omega,Le.of_eq (by simp only [List.length_append,List.map_append];rfl)⟩
     | exact ⟨(k+1,out),⟨by simp only;omega,hsame (by simp)⟩,by simp only;omega,Le.of_eq rfl⟩
     | trace_state)
open Go.Proofs
def vrL (L:List RI) (l:List Int):List Step:=(L.filter fun x=>decide (x.s.kind=10)&&FC l x.s.id).map fun x=>⟨x.s.id,-1,3⟩
def vrT (L:List RI) (T:List (List Int)):List Step:=T.flatMap (vrL L)
theorem z7d (L:List RI) (l:List Int):(vrL L l).length≤L.length:=by
 unfold vrL
 rw [List.length_map]
 exact List.length_filter_le _ _
theorem x3a (L:List RI) : ∀ T:List (List Int),(vrT L T).length≤T.length*L.length
 | []=>by unfold vrT;simp
 | a::r=>by
   have h1:=x3a L r
   have h2:=z7d L a
   have e:vrT L (a::r)=vrL L a++vrT L r:=by unfold vrT;rw [List.flatMap_cons]
   rw [e,List.length_append,List.length_cons,Nat.add_mul]
   omega
theorem w0r {L:List RI} {l:List Int} {k:Nat} (hk:k<L.length):vrL (L.take (k+1)) l=vrL (L.take k) l++(if L[k].s.kind=10∧FC l L[k].s.id=true then [⟨L[k].s.id,-1,3⟩] else []):=by
 unfold vrL
 rw [List.take_succ_eq_append_getElem hk,List.filter_append,List.map_append]
 congr 1
 by_cases h:L[k].s.kind=10∧FC l L[k].s.id=true
 ·rw [if_pos h,List.filter_cons_of_pos (by simpa using h)]
  rfl
 ·rw [if_neg h,List.filter_cons_of_neg (by simpa using h)]
  rfl
section
variable {p:Pg} {j:Nat} {f:Pr}
theorem w5g (h:XK p=true) (hj:p.procs[j]? = some f) {t u:S} (ht:t∈flL f.body) (hu:u∈flL f.body) (he:t.id=u.id):t=u :=
 BR (f:=S.id) (by rw [x3l (QK h).1 hj];exact q3u _ _) t ht u hu he
theorem z8t {x:RI} (hx:x∈flatU f):x.s∈flL f.body:=by
 rw [← show (flatU f).map RI.s=flL f.body from DW 1 0 false f.body]
 exact List.mem_map.2 ⟨x,hx,rfl⟩
theorem z0j (h:XK p=true) (hj:p.procs[j]? = some f) (s:Step):s∈vrT (flatU f) (trapsW (QX p j f) f)↔s∈VW (QX p j f) f:=by
 have e:VW (QX p j f) f=(trapsW (QX p j f) f).flatMap fun l=>l.flatMap (vOf p):=rfl
 rw [e]
 unfold vrT
 rw [List.mem_flatMap,List.mem_flatMap]
 refine exists_congr fun l=>and_congr_right fun hl => ?_
 have hr:=(x3o h hj hl).2
 unfold vrL
 rw [List.mem_map,List.mem_flatMap]
 constructor
 ·rintro ⟨x,hx,rfl⟩
  obtain ⟨h1,h2⟩:=List.mem_filter.1 hx
  rw [Bool.and_eq_true,decide_eq_true_eq,WO] at h2
  refine ⟨x.s.id,h2.2,?_⟩
  obtain ⟨h3,h4⟩:=hr _ h2.2
  obtain ⟨t,ht,h5,h6⟩:=q0w h hj h3 h4
  have:t=x.s:=w5g h hj ht (z8t h1) h6
  unfold vOf
  rw [h5,this]
  simp only
  rw [if_pos h2.1]
  exact List.mem_singleton.2 rfl
 ·rintro ⟨id,h1,h2⟩
  obtain ⟨h3,h4⟩:=hr _ h1
  obtain ⟨t,ht,h5,h6⟩:=q0w h hj h3 h4
  unfold vOf at h2
  rw [h5] at h2
  simp only at h2
  split at h2
  ·rename_i h7
   obtain ⟨x,hx,rfl⟩:=q5y ht
   rw [List.mem_singleton.1 h2,← h6]
   exact ⟨x,List.mem_filter.2 ⟨hx,by rw [Bool.and_eq_true,decide_eq_true_eq,WO];exact ⟨h7,by rw [h6];exact h1⟩⟩,rfl⟩
  ·cases h2
theorem w6b (h:XK p=true) (hj:p.procs[j]? = some f) : ∀ s∈VW (QX p j f) f,leSt s:=fun s hs=>by
 rw [← z0j h hj] at hs
 unfold vrT vrL at hs
 obtain ⟨l,hl,hs⟩:=List.mem_flatMap.1 hs
 obtain ⟨x,hx,rfl⟩:=List.mem_map.1 hs
 have hb:=VX (QK h).1 hj (z8t (List.mem_filter.1 hx).1)
 have hc:=HM _ _ (List.mem_of_getElem? hj)
 have hcn:=(UY h).2.2
 obtain ⟨_,_,_,_,hsp⟩:=QJ p
 have:=(hsp j f hj).2.2.1
 unfold leSt
 simp only
 omega
theorem w6k (h:XK p=true) (hj:p.procs[j]? = some f) : ∀ s∈(QX p j f).real,leSt s:=fun s hs=>w3i h hj s (((JY h hj).2 s).1 hs)
theorem w4h (h:XK p=true) (hj:p.procs[j]? = some f) : ∀ it∈itsOf p j f,∀ s∈fOf it,leSt s:=fun it hi s hs=>by
 have hb:=VX (QK h).1 hj (PK hi)
 have hcn:=(UY h).2.2
 obtain ⟨_,_,_,_,hsp⟩:=QJ p
 have:=(hsp j f hj).2.2.1
 have h1:=(MO hi).1
 unfold okI at h1
 unfold fOf at hs
 split at hs
 ·rw [List.mem_singleton.1 hs]
  unfold leSt
  simp only
  omega
 ·cases hs
def q8s (p:Pg) (j:Nat) (f:Pr) (k:Nat):List Step:=(QX p j f).real++[⟨0,-1,2⟩]++((itsOf p j f).take k).flatMap fOf
theorem w0q (h:XK p=true) (hj:p.procs[j]? = some f) {k:Nat} : ∀ s∈q8s p j f k++vrT (flatU f) (trapsW (QX p j f) f),leSt s:=fun s hs=>by
 rcases List.mem_append.1 hs with hs|hs
 ·unfold q8s at hs
  rcases List.mem_append.1 hs with hs|hs
  ·rcases List.mem_append.1 hs with hs|hs
   ·exact w6k h hj s hs
   ·rw [List.mem_singleton.1 hs]
    unfold leSt
    simp only
    omega
  ·obtain ⟨it,hi,hs⟩:=List.mem_flatMap.1 hs
   exact w4h h hj it (List.mem_of_mem_take hi) s hs
 ·exact w6b h hj s ((z0j h hj s).1 hs)
theorem w4g (h:XK p=true) (hj:p.procs[j]? = some f) {k:Nat} (hk:(itsOf p j f).length≤k):ZM (q8s p j f k++vrT (flatU f) (trapsW (QX p j f) f))=PH (QX p j f) f:=by
 refine z0y (fun s hs=>(w0q h hj s hs).ok) fun s => ?_
 have e:FH (QX p j f) f=VW (QX p j f) f++(QX p j f).real++[⟨0,-1,2⟩]++(itsOf p j f).flatMap fOf:=rfl
 rw [e]
 unfold q8s
 rw [List.take_of_length_le hk]
 simp only [List.mem_append,z0j h hj]
 constructor
 ·rintro (((h1|h1)|h1)|h1)
  ·exact .inl (.inl (.inr h1))
  ·exact .inl (.inr h1)
  ·exact .inr h1
  ·exact .inl (.inl (.inl h1))
 ·rintro (((h1|h1)|h1)|h1)
  ·exact .inr h1
  ·exact .inl (.inl (.inl h1))
  ·exact .inl (.inl (.inr h1))
  ·exact .inl (.inr h1)
theorem x6b {k:Nat} (hk:k<(itsOf p j f).length):q8s p j f (k+1)=q8s p j f k++fOf (itsOf p j f)[k]:=by
 unfold q8s
 rw [List.take_succ_eq_append_getElem hk,List.flatMap_append,List.append_assoc,List.append_assoc,List.append_assoc]
 simp
theorem z1q : ∀ k,(q8s p j f k).length≤(QX p j f).real.length+1+k
 | 0=>by unfold q8s;simp
 | k+1=>by
   have h1:=z1q k
   rcases Nat.lt_or_ge k (itsOf p j f).length with hk|hk
   ·rw [x6b hk,List.length_append]
    have:=z8k (itsOf p j f)[k]
    omega
   ·have e:q8s p j f (k+1)=q8s p j f k:=by
     unfold q8s
     rw [List.take_of_length_le hk,List.take_of_length_le (by omega)]
    rw [e]
    omega
theorem q9o:(trapsW (QX p j f) f).length≤QY f.body+2:=by
 unfold trapsW ME
 rw [List.length_map,q5w]
 exact Nat.le_trans (List.length_filter_le _ _) (by simp)
end
open Go.Proofs
theorem JT (p:Pg) (j:Nat) (f:Pr) (h:XK p=true) (hj:p.procs[j]? = some f):SpecP Tryz.prog 104 [x9v f,QL (QX p j f).real] (fun r=>r=QL (vrT (flatU f) (trapsW (QX p j f) f))):=by
 refine SpecP.body YG QQ Tryz.func104 rfl Tryz.call104 (by show 2≤_;decide) ?_
 conv=>whnf
 have hm:=(QK h).1
 have hlU:=YI hm hj
 have hT:=GX p j f h hj
 have hTl:(trapsW (QX p j f) f).length≤202:=by
  have h1:=q9o (p:=p) (j:=j) (f:=f)
  have h2:(flatU f).length=QY f.body:=WQ 1 0 false f.body
  omega
 unfold x9v at hT
 generalize (QX p j f).real=R at *
 generalize trapsW (QX p j f) f=T at *
 generalize flatU f=L at *
 have hLl:=ZI L
 have hvl:=x3a L T
 have hTm:((avI T).map AV.sl).length=T.length:=by unfold avI;simp
 have hmul:T.length*L.length≤202*200:=Nat.mul_le_mul hTl hlU
 repeat' ((first|intro (_:_≤9223372036854775807)|(refine CallK.pure hT (.cons (Sub.refl _) (.cons (Sub.refl _) .nil)) ?_;rintro _ rfl));conv=>whnf)
 refine LoopK.inv QQ (fun x:Nat=>⟨[(2,.p (.ip [YN L,QD f.fin])),(5,.hd 0 0 (vrT L (T.take x)).length),(12,.p (q8i T)),(13,.p (.int .i64 ((avI T).map AV.sl).length)),(14,.p (.int .i64 x))],[(0,.own 79 3 ((vrT L (T.take x)).map fun s => .agg s.cells))]⟩) (fun x=>x≤T.length) (fun x=>T.length-x) 0
  (Le.mk [(0,.own 79 3 [])] (by simp [Chunk.new0];rfl) (by simp) (by simp) (.cons (.refl _) (.cons (.nil List.mem_cons_self) (.cons (.refl _) (.cons (.refl _) (.cons (.refl _) .nil))))) (.new List.mem_cons_self .nil)) (Nat.zero_le _) ?_
 intro i hi
 rcases Nat.lt_or_ge i T.length with hi2|hi2
 rotate_left 1
 ·rw [List.take_of_length_le hi2]
  conv=>whnf
  repeat' (refine Br.dec (fun _=>?_) (fun _=>?_)<;>first|(exfalso;omega)|conv=>whnf)
  exact ⟨_,.hd rfl (by simp),rfl⟩
 have g:((avI T).map AV.sl)[i]? = some (QF T[i]):=by unfold avI;simp [hi2,QF]
 have hs:vrT L (T.take (i+1))=vrT L (T.take i)++vrL L T[i]:=by unfold vrT;rw [List.take_succ_eq_append_getElem hi2,List.flatMap_append];simp
 have hb:(vrT L (T.take i)).length≤202*200:=by
  have h1:=x3a L (T.take i)
  have h2:(T.take i).length*L.length≤202*200:=Nat.mul_le_mul (by rw [List.length_take];omega) hlU
  omega
 have hgi : ∀ hx,AV.sl ((avI T)[i]'hx)=QF T[i]:=fun _=>by simp [avI,QF]
 generalize vrT L (T.take i)=A at *
 conv=>whnf
 repeat' (first|((first|intro (_:_≤9223372036854775807)|refine IdxK.map (by omega) (fun _=>rfl) ?_);conv=>whnf)|(refine Br.dec (fun _=>?_) (fun _=>?_)<;>first|(exfalso;omega)|conv=>whnf))
 refine LoopK.inv QQ (fun x:Nat=>⟨[(2,.p (.ip [YN L,QD f.fin])),(5,.hd 0 0 (A++vrL (L.take x) T[i]).length),(7,.p (QF T[i])),(12,.p (q8i T)),(13,.p (.int .i64 ((avI T).map AV.sl).length)),(14,.p (.int .i64 i)),(19,.p (YN L)),(20,.p (.int .i64 (L.map fun i=>AV.agg i.cells).length)),(21,.p (.int .i64 x))],[(0,.own 79 3 ((A++vrL (L.take x) T[i]).map fun s => .agg s.cells))]⟩) (fun x=>x≤L.length) (fun x=>L.length-x) 0 (Le.of_eq (by simp only [hgi];rw [show vrL (L.take 0) T[i]=[] by unfold vrL;simp,List.append_nil];rfl)) (Nat.zero_le _) ?_
 intro q hq
 rcases Nat.lt_or_ge q L.length with hq2|hq2
 ·have hst:=w0r (l:=T[i]) hq2
  have hql:(A++vrL (L.take q) T[i]).length≤202*200+200:=by
   rw [List.length_append]
   have:=z7d (L.take q) T[i]
   rw [List.length_take] at this
   omega
  have hst:A++vrL (L.take (q+1)) T[i]=(A++vrL (L.take q) T[i])++(if L[q].s.kind=10∧FC T[i] L[q].s.id=true then [⟨L[q].s.id,-1,3⟩] else []):=by rw [hst,List.append_assoc]
  generalize A++vrL (L.take q) T[i]=B at *
  have hBl:=KK B
  conv=>whnf
  repeat' (first|((first|refine And.intro rfl ?_|(refine And.intro ⟨by decide,by decide⟩ ?_)|refine BsK.pure (fun x hx=>by rcases List.mem_singleton.1 hx with rfl;rfl) rfl ?_|refine IdxK.map (by omega) (fun _=>rfl) ?_|refine Wr.i64 (by omega) (by omega) ?_|(refine CallK.pure (QO T[i] _) (.cons (Sub.refl _) (.cons (Sub.refl _) .nil)) ?_;rintro _ rfl)|refine AppK.mk (n:=B.length) (by omega) rfl (by show (B.length+1)*24≤140737488355328;omega) (by show B.length+1≤9223372036854775807;omega) (fun x hx=>by rcases List.mem_singleton.1 hx with rfl;exact ⟨rfl,rfl⟩) ?_);conv=>whnf)|(refine Br.dec (fun _=>?_) (fun _=>?_)<;>first|(exfalso;omega)|conv=>whnf)|(refine Br.b (fun _=>?_) (fun _=>?_)<;>conv=>whnf))
  all_goals first
   | exact ⟨q+1,by omega,by omega,Le.of_eq (by rw [hst,if_pos (show L[q].s.kind=10∧FC T[i] L[q].s.id=true from ⟨by assumption,by assumption⟩)];simp only [List.length_append,List.map_append];rfl)⟩
   | exact ⟨q+1,by omega,by omega,Le.of_eq (by rw [hst,if_neg (show ¬(L[q].s.kind=10∧FC T[i] L[q].s.id=true) from fun hh=>absurd hh.1 (by assumption)),List.append_nil];rfl)⟩
   | exact ⟨q+1,by omega,by omega,Le.of_eq (by rw [hst,if_neg (show ¬(L[q].s.kind=10∧FC T[i] L[q].s.id=true) from fun hh=>by have h9:=hh.2;rw [show FC T[i] L[q].s.id=false by assumption] at h9;cases h9),List.append_nil];rfl)⟩
   | trace_state
 ·rw [List.take_of_length_le hq2,← hs]
  conv=>whnf
  repeat' (first|(refine Wr.i64 (by omega) (by omega) ?_;conv=>whnf)|(refine Br.dec (fun _=>?_) (fun _=>?_)<;>first|(exfalso;omega)|conv=>whnf))
  all_goals exact ⟨i+1,by omega,by omega,Le.of_eq rfl⟩
open Go.Proofs
open Go.Proofs
open Go.Proofs
theorem z1f : ∀ l:List Pr,l.length≤w4z l
 | []=>Nat.zero_le _
 | f::r=>by have:=z1f r;simp only [List.length_cons,w4z,wPr];omega
theorem z4w {p:Pg} (h:Fit p):p.procs.length≤20000:=by
 have:=z1f p.procs
 unfold Fit wPg at h
 omega
theorem w7d:Sub (.bool true) .tt:=fun _ _ hr=>by cases hr;exact .tt
open Go.Proofs
theorem q2p (p:Pg) (hf:Fit p) (n:Str):SpecP Tryz.prog 36 [.agg p.cells,.str n] (fun r=>r=QL (w7l p n)):=by
 refine SpecP.body LX QQ Tryz.func36 rfl Tryz.call36 (by show 2≤_;decide) ?_
 conv=>whnf
 cases hw:HP p n with
 | none =>
   rw [x4t hw]
   have hW:=GS p hf n hw
   repeat' (first|((first|refine And.intro rfl ?_|(refine CallK.pure hW (.cons (Sub.refl _) (.cons (Sub.refl _) .nil)) ?_;rintro _ rfl));conv=>whnf)|(refine Br.n (fun _=>?_) (fun _=>?_)<;>conv=>whnf))
   all_goals first
    | contradiction
    | exact ⟨_,.p Sub.nils,rfl⟩
 | some w =>
   obtain ⟨k,f,hk,rfl,hc,_⟩:=KI hw
   rw [x7q hw hk]
   have hm:=(QK hc).1
   have hW:=HW p hf n k f hw hk
   have hR:=HB p k f hc hk
   have hV:=JT p k f hc hk
   have hrl:=z7r hc hk
   have hlU:=YI hm hk
   have hLl:=ZI (flatU f)
   obtain ⟨hil,hat⟩:=w3f hm hk
   have hvl:(vrT (flatU f) (trapsW (QX p k f) f)).length≤202*200:=by
    have h1:=q9o (p:=p) (j:=k) (f:=f)
    have h2:(flatU f).length=QY f.body:=WQ 1 0 false f.body
    exact Nat.le_trans (x3a _ _) (Nat.mul_le_mul (by omega) hlU)
   have hq0:q8s p k f 0=(QX p k f).real++[⟨0,-1,2⟩]:=by unfold q8s;simp
   have hRm:=KK (QX p k f).real
   unfold x9v at hW hR hV
   repeat' (first|((first|intro (_:_≤9223372036854775807)|refine And.intro rfl ?_|(refine And.intro ⟨by decide,by decide⟩ ?_)|(refine CallK.pure hW (.cons (Sub.refl _) (.cons (Sub.refl _) .nil)) ?_;rintro _ rfl)|(refine CallK.pure hR (.cons (Sub.refl _) .nil) ?_;rintro _ rfl)|refine BsK.own (es:=[]) (fun x hx=>(by cases hx)) rfl ?_|refine BsK.pureL rfl rfl ?_|(refine AppK.mk (es:=[]) (by rfl) rfl (by show (0+((QX p k f).real.map fun s=>AV.agg s.cells).length)*24≤140737488355328;omega) (by show 0+((QX p k f).real.map fun s=>AV.agg s.cells).length≤9223372036854775807;omega) (fun x hx=>by obtain ⟨s,_,rfl⟩:=List.mem_map.1 hx;exact ⟨rfl,rfl⟩) ?_)|(refine AppK.mk (es:=[]++(QX p k f).real.map fun s=>AV.agg s.cells) (by simp) rfl (by show (0+((QX p k f).real.map fun s=>AV.agg s.cells).length+1)*24≤140737488355328;omega) (by show 0+((QX p k f).real.map fun s=>AV.agg s.cells).length+1≤9223372036854775807;omega) (fun x hx=>by rcases List.mem_singleton.1 hx with rfl;exact ⟨rfl,rfl⟩) ?_));conv=>whnf)|(refine Br.n (fun _=>?_) (fun _=>?_)<;>conv=>whnf))
   all_goals first
    | contradiction
    | skip
   refine LoopK.inv QQ (fun x:Nat=>⟨[(5,.p (.ip [YN (flatU f),QD f.fin])),(7,.p (QL (QX p k f).real)),(8,.hd 0 0 (q8s p k f x).length),(28,.p (YN (flatU f))),(29,.p (.int .i64 ((flatU f).map fun i=>AV.agg i.cells).length)),(30,.p (.int .i64 x))],[(0,.own 79 3 ((q8s p k f x).map fun s => .agg s.cells))]⟩) (fun x=>x≤(flatU f).length) (fun x=>(flatU f).length-x) 0 (Le.of_eq (by rw [hq0];simp only [List.length_append,List.map_append,List.length_map,Nat.zero_add,List.nil_append];rfl)) (Nat.zero_le _) ?_
   intro q hq
   have hql:=z1q (p:=p) (j:=k) (f:=f) q
   rcases Nat.lt_or_ge q (flatU f).length with hq2|hq2
   ·have hqi:q<(itsOf p k f).length:=by omega
    have hst:=x6b hqi
    have hsk:=hat q hq2 hqi
    have hB:=FI (by omega) (x3i hm hk (List.getElem_mem hqi))
    have h1:=z2g hc hk (z8t (List.getElem_mem hq2))
    have hfo:fOf (itsOf p k f)[q]=if (flatU f)[q].s.kind=7∨(flatU f)[q].s.kind=8∨(flatU f)[q].s.kind=9∨(flatU f)[q].s.kind=10 then [⟨(flatU f)[q].s.id,(itsOf p k f)[q].next,2⟩] else []:=by
     unfold fOf
     rw [hsk]
    rw [hsk] at hB
    rw [hfo] at hst
    have hhi:=h1.hi
    generalize q8s p k f q=A at *
    have hAm:=KK A
    conv=>whnf
    repeat' (first|((first|refine DrawK.auto QQ mixed (by kernel_rfl) ?_|refine And.intro rfl ?_|(refine And.intro ⟨by decide,by decide⟩ ?_)|refine BsK.pure (fun x hx=>by rcases List.mem_singleton.1 hx with rfl;rfl) rfl ?_|refine IdxK.map (by omega) (fun _=>rfl) ?_|refine Wr.i64 (by omega) (by omega) ?_|(refine CallK.pure hB (.cons (Sub.refl _) (.cons (Sub.refl _) .nil)) ?_;rintro _ rfl)|refine AppK.mk (n:=A.length) (by omega) rfl (by show (A.length+1)*24≤140737488355328;omega) (by show A.length+1≤9223372036854775807;omega) (fun x hx=>by rcases List.mem_singleton.1 hx with rfl;exact ⟨rfl,rfl⟩) ?_);conv=>whnf)|(refine Br.dec (fun _=>?_) (fun _=>?_)<;>first|(exfalso;omega)|conv=>whnf))
    all_goals first
     | exact ⟨q+1,by omega,by omega,Le.of_eq (by rw [hst,if_pos (by omega)];simp only [List.length_append,List.map_append];rfl)⟩
     | exact ⟨q+1,by omega,by omega,Le.of_eq (by rw [hst,if_neg (by omega),List.append_nil];rfl)⟩
     | trace_state
   ·have hS:=JQ (q8s p k f q++vrT (flatU f) (trapsW (QX p k f) f)) (by rw [List.length_append];omega) (w0q hc hk)
    rw [w4g hc hk (by omega)] at hS
    rw [show QL (q8s p k f q++vrT (flatU f) (trapsW (QX p k f) f)) = .sl ((q8s p k f q).map (fun s=>AV.agg s.cells)++(vrT (flatU f) (trapsW (QX p k f) f)).map fun s=>AV.agg s.cells) by simp [QL]] at hS
    generalize vrT (flatU f) (trapsW (QX p k f) f)=V at *
    generalize q8s p k f q=A at *
    have hAm:=KK A
    have hVm:=KK V
    conv=>whnf
    repeat' (first|((first|(refine And.intro ⟨by decide,by decide⟩ ?_)|(refine CallK.pure hV (.cons (Sub.refl _) (.cons (Sub.refl _) .nil)) ?_;rintro _ rfl)|refine AppK.mk (n:=A.length) (by omega) rfl (by show (A.length+(V.map fun s=>AV.agg s.cells).length)*24≤140737488355328;omega) (by show A.length+(V.map fun s=>AV.agg s.cells).length≤9223372036854775807;omega) (fun x hx=>by obtain ⟨s,_,rfl⟩:=List.mem_map.1 hx;exact ⟨rfl,rfl⟩) ?_|(refine CallK.give hS (.cons (.hd rfl (by simp)) .nil) ?_;rintro _ rfl));conv=>whnf)|(refine Br.dec (fun _=>?_) (fun _=>?_)<;>first|(exfalso;omega)|conv=>whnf))
    all_goals first
     | exact RetK.p rfl
     | trace_state
open Go.Proofs
def tsB (F:Int→Int→Bool) (a b:Int) (s:Step):Bool:=decide (s.src=a)&&F s.dst b
def dcB (F:Int→Int→Bool) (A:List Step) (a b:Int):Bool := !(decide (b≤0)||(decide (b≠a)&&F a b))&&A.any (tsB F a b)
def dcR (F:Int→Int→Bool) (A:List Step) (P:List Int) (a:Int):List (Int×Int):=(P.filter (dcB F A a)).map fun b=>(a,b)
def dcL (F:Int→Int→Bool) (A:List Step) (P Q:List Int):List (Int×Int):=Q.flatMap (dcR F A P)
theorem z5i (F:Int→Int→Bool) (A:List Step) (P:List Int) (a:Int):(dcR F A P a).length≤P.length:=by
 unfold dcR
 rw [List.length_map]
 exact List.length_filter_le _ _
theorem w0n {F:Int→Int→Bool} {A:List Step} {P:List Int} {a:Int} {k:Nat} (hk:k<P.length):dcR F A (P.take (k+1)) a=dcR F A (P.take k) a++(if dcB F A a P[k]=true then [(a,P[k])] else []):=by
 unfold dcR
 rw [List.take_succ_eq_append_getElem hk,List.filter_append,List.map_append]
 congr 1
 by_cases h:dcB F A a P[k]=true
 ·rw [if_pos h,List.filter_cons_of_pos h]
  rfl
 ·rw [if_neg h,List.filter_cons_of_neg h]
  rfl
theorem w5e (F:Int→Int→Bool) (A:List Step) (P Q:List Int):(dcL F A P Q).length≤Q.length*P.length:=by
 unfold dcL
 exact XI Q fun x _=>z5i F A P x
theorem w8q {α:Type} {q:α→Bool} {l:List α} {k:Nat} (hk:k<l.length) (h:(l.take k).any q=false):(l.take (k+1)).any q=q l[k]:=by
 rw [List.take_succ_eq_append_getElem hk,List.any_append,h]
 simp
theorem w4a {α:Type} {q:α→Bool} {l:List α} {k:Nat} (hk:k<l.length) (h:q l[k]=true):l.any q=true:=List.any_eq_true.2 ⟨l[k],List.getElem_mem hk,h⟩
theorem UD (p:Pg) (n:Str) (P:List Int) (A:List Step) (F:Int→Int→Bool) (hPl:P.length≤1000) (hAl:A.length≤1000000) (hA : ∀ s∈A,s.dst∈P) (hP:SpecP Tryz.prog 70 [.agg p.cells,.str n] (fun r=>r=QF P)) (hG:SpecP Tryz.prog 36 [.agg p.cells,.str n] (fun r=>r=QL A)) (hM:SpecP Tryz.prog 107 [QL A,QF P] (fun r=>r=fmE F P)):SpecP Tryz.prog 40 [.agg p.cells,.str n] (fun r=>r = .sl (avP (dcL F A P P))):=by
 refine SpecP.body FQ QQ Tryz.func40 rfl Tryz.call40 (by show 2≤_;decide) ?_
 conv=>whnf
 have hPm:(P.map (AV.int .i64)).length=P.length:=List.length_map _
 have hAm:=KK A
 repeat' ((first|intro (_:_≤9223372036854775807)|(refine CallK.pure hP (.cons (Sub.refl _) (.cons (Sub.refl _) .nil)) ?_;rintro _ rfl)|(refine CallK.pure hG (.cons (Sub.refl _) (.cons (Sub.refl _) .nil)) ?_;rintro _ rfl)|(refine CallK.pure hM (.cons (Sub.refl _) (.cons (Sub.refl _) .nil)) ?_;rintro _ rfl));conv=>whnf)
 refine LoopK.inv QQ (fun i:Nat=>⟨[(5,.p (QF P)),(6,.p (QL A)),(7,.p (fmE F P)),(8,.hd 0 0 (dcL F A P (P.take i)).length),(24,.p (QF P)),(25,.p (.int .i64 (P.map (AV.int .i64)).length)),(26,.p (.int .i64 i))],[(0,.own 47 2 (avP (dcL F A P (P.take i))))]⟩) (fun i=>i≤P.length) (fun i=>P.length-i) 0
  (Le.mk [(0,.own 47 2 [])] (by simp [Chunk.new0];rfl) (by simp) (by simp) (.cons (.refl _) (.cons (.refl _) (.cons (.refl _) (.cons (.nil List.mem_cons_self) (.cons (.refl _) (.cons (.refl _) (.cons (.refl _) .nil))))))) (.new List.mem_cons_self .nil)) (Nat.zero_le _) ?_
 intro i hi
 rcases Nat.lt_or_ge i P.length with hi2|hi2
 rotate_left 1
 ·obtain rfl:i=P.length:=by omega
  rw [List.take_length]
  conv=>whnf
  repeat' (refine Br.dec (fun _=>?_) (fun _=>?_)<;>first|(exfalso;omega)|conv=>whnf)
  exact ⟨_,.hd rfl (by simp [avP]),rfl⟩
 have hs:dcL F A P (P.take (i+1))=dcL F A P (P.take i)++dcR F A P P[i]:=by unfold dcL;rw [List.take_succ_eq_append_getElem hi2,List.flatMap_append];simp
 have hb:(dcL F A P (P.take i)).length≤1000*1000:=by
  have h1:=w5e F A P (P.take i)
  have h2:(P.take i).length*P.length≤1000*1000:=Nat.mul_le_mul (by rw [List.length_take];omega) hPl
  omega
 generalize dcL F A P (P.take i)=B at *
 conv=>whnf
 repeat' (first|((first|intro (_:_≤9223372036854775807)|refine IdxK.map (by omega) (fun _=>rfl) ?_);conv=>whnf)|(refine Br.dec (fun _=>?_) (fun _=>?_)<;>first|(exfalso;omega)|conv=>whnf))
 refine LoopK.inv QQ (fun k:Nat=>⟨[(5,.p (QF P)),(6,.p (QL A)),(7,.p (fmE F P)),(8,.hd 0 0 (B++dcR F A (P.take k) P[i]).length),(9,.p (.int .i64 i)),(10,.p (.int .i64 P[i])),(24,.p (QF P)),(25,.p (.int .i64 (P.map (AV.int .i64)).length)),(26,.p (.int .i64 i)),(31,.p (QF P)),(32,.p (.int .i64 (P.map (AV.int .i64)).length)),(33,.p (.int .i64 k))],[(0,.own 47 2 (avP (B++dcR F A (P.take k) P[i])))]⟩) (fun k=>k≤P.length) (fun k=>P.length-k) 0 (Le.of_eq (by rw [show dcR F A (P.take 0) P[i]=[] by unfold dcR;simp,List.append_nil];rfl)) (Nat.zero_le _) ?_
 intro k hk
 rcases Nat.lt_or_ge k P.length with hk2|hk2
 rotate_left 1
 ·rw [List.take_of_length_le hk2,← hs]
  conv=>whnf
  repeat' (first|(refine Wr.i64 (by omega) (by omega) ?_;conv=>whnf)|(refine Br.dec (fun _=>?_) (fun _=>?_)<;>first|(exfalso;omega)|conv=>whnf))
  all_goals exact ⟨i+1,by omega,by omega,Le.of_eq rfl⟩
 have hst:B++dcR F A (P.take (k+1)) P[i]=(B++dcR F A (P.take k) P[i])++(if dcB F A P[i] P[k]=true then [(P[i],P[k])] else []):=by rw [w0n hk2,List.append_assoc]
 have hcl:(B++dcR F A (P.take k) P[i]).length≤1000*1000+1000:=by
  rw [List.length_append]
  have:=z5i F A (P.take k) P[i]
  rw [List.length_take] at this
  omega
 generalize B++dcR F A (P.take k) P[i]=C at *
 have hCm:(avP C).length=C.length:=by unfold avP;rw [List.length_map]
 have hno:dcB F A P[i] P[k]=false → ∃ x,x≤P.length∧P.length-x<P.length-k∧Le Tryz.f40.ntmps ⟨[(5,.p (QF P)),(6,.p (QL A)),(7,.p (fmE F P)),(8,.hd 0 0 C.length),(9,.p (.int .i64 i)),(10,.p (.int .i64 P[i])),(24,.p (QF P)),(25,.p (.int .i64 (P.map (AV.int .i64)).length)),(26,.p (.int .i64 i)),(31,.p (QF P)),(32,.p (.int .i64 (P.map (AV.int .i64)).length)),(33,.p (.int .i64 (k+1)))],[(0,.own 47 2 (avP C))]⟩ ⟨[(5,.p (QF P)),(6,.p (QL A)),(7,.p (fmE F P)),(8,.hd 0 0 (B++dcR F A (P.take x) P[i]).length),(9,.p (.int .i64 i)),(10,.p (.int .i64 P[i])),(24,.p (QF P)),(25,.p (.int .i64 (P.map (AV.int .i64)).length)),(26,.p (.int .i64 i)),(31,.p (QF P)),(32,.p (.int .i64 (P.map (AV.int .i64)).length)),(33,.p (.int .i64 x))],[(0,.own 47 2 (avP (B++dcR F A (P.take x) P[i])))]⟩:=fun h=>⟨k+1,hk2,by omega,Le.of_eq (by rw [hst,if_neg (by rw [h];decide),List.append_nil];rfl)⟩
 conv=>whnf
 repeat' (first|((first|intro (_:_≤9223372036854775807)|refine IdxK.map (by omega) (fun _=>rfl) ?_|refine Wr.i64 (by omega) (by omega) ?_|(refine IdxK.at (k:=i) (e:=fmR F P P[i]) rfl (by rw [List.getElem?_map,List.getElem?_eq_getElem hi2];rfl) rfl ?_)|(refine IdxK.at (k:=k) (e := .bool (F P[i] P[k])) rfl (by rw [List.getElem?_map,List.getElem?_eq_getElem hk2];rfl) rfl ?_));conv=>whnf)|(refine Br.dec (fun _=>?_) (fun _=>?_)<;>first|(exfalso;omega)|conv=>whnf)|(refine Br.dec2 (fun _=>?_) (fun _=>?_)<;>first|(exfalso;omega)|conv=>whnf)|(refine Br.b (fun _=>?_) (fun _=>?_)<;>conv=>whnf))
 all_goals try (exact hno (by unfold dcB;simp [*];done))
 all_goals try (exact hno (by unfold dcB;simp;omega))
 all_goals
  have hcond:dcB F A P[i] P[k]=A.any (tsB F P[i] P[k]):=by
   unfold dcB
   rw [show (decide (P[k]≤0)||(decide (P[k]≠P[i])&&F P[i] P[k]))=false by simp;refine ⟨by omega,fun h => ?_⟩;first|exact absurd (by assumption) h|assumption]
   rfl
  refine LoopK.inv QQ (fun s:Nat=>⟨[(5,.p (QF P)),(6,.p (QL A)),(7,.p (fmE F P)),(8,.hd 0 0 C.length),(9,.p (.int .i64 i)),(10,.p (.int .i64 P[i])),(11,.p (.int .i64 k)),(12,.p (.int .i64 P[k])),(24,.p (QF P)),(25,.p (.int .i64 (P.map (AV.int .i64)).length)),(26,.p (.int .i64 i)),(31,.p (QF P)),(32,.p (.int .i64 (P.map (AV.int .i64)).length)),(33,.p (.int .i64 k)),(54,.p (QL A)),(55,.p (.int .i64 (A.map fun s=>AV.agg s.cells).length)),(56,.p (.int .i64 s))],[(0,.own 47 2 (avP C))]⟩) (fun s=>s≤A.length∧(A.take s).any (tsB F P[i] P[k])=false) (fun s=>A.length-s) 0 (Le.of_eq rfl) ⟨Nat.zero_le _,by simp⟩ ?_
  rintro s ⟨h4,h5⟩
  rcases Nat.lt_or_ge s A.length with h6|h6
  ·have h7:=w8q h6 h5
   have h8:tsB F P[i] P[k] A[s]=(decide (A[s].src=P[i])&&F A[s].dst P[k]):=rfl
   have hN:=PN P A[s].dst (hA _ (List.getElem_mem h6))
   conv=>whnf
   repeat' (first|((first|refine And.intro rfl ?_|(refine And.intro ⟨by decide,by decide⟩ ?_)|refine BsK.pure (fun x hx=>by rcases List.mem_singleton.1 hx with rfl;rfl) rfl ?_|refine IdxK.map (by omega) (fun _=>rfl) ?_|refine Wr.i64 (by omega) (by omega) ?_|(refine CallK.pure hN (.cons (Sub.refl _) (.cons (Sub.refl _) .nil)) ?_;rintro _ ⟨ix,rfl,hix⟩)|(refine IdxK.at (k:=ix) (e:=fmR F P A[s].dst) rfl (by rw [List.getElem?_map,hix];rfl) rfl ?_)|(refine IdxK.at (k:=k) (e := .bool (F A[s].dst P[k])) rfl (by rw [List.getElem?_map,List.getElem?_eq_getElem hk2];rfl) rfl ?_)|refine AppK.mk (n:=C.length) (by omega) rfl (by show (C.length+1)*16≤140737488355328;omega) (by show C.length+1≤9223372036854775807;omega) (fun x hx=>by rcases List.mem_singleton.1 hx with rfl;exact ⟨rfl,rfl⟩) ?_);conv=>whnf)|(refine Br.dec (fun _=>?_) (fun _=>?_)<;>first|(exfalso;omega)|conv=>whnf)|(refine Br.b (fun _=>?_) (fun _=>?_)<;>conv=>whnf))
   all_goals first
    | (have h9:A[s].src=P[i]:=by assumption
       have h10:F A[s].dst P[k]=true:=by assumption
       exact ⟨k+1,hk2,by omega,Le.of_eq (by rw [hst,if_pos (by rw [hcond];exact w4a h6 (by rw [h8,h10];simp [h9]))];simp only [avP,List.length_append,List.map_append];rfl)⟩)
    | (have h9:A[s].src=P[i]:=by assumption
       have h10:F A[s].dst P[k]=false:=by assumption
       exact ⟨s+1,⟨h6,by rw [h7,h8,h10,Bool.and_false]⟩,by omega,Le.of_eq rfl⟩)
    | (have h9 : ¬A[s].src=P[i]:=by assumption
       exact ⟨s+1,⟨h6,by rw [h7,h8,decide_eq_false h9,Bool.false_and]⟩,by omega,Le.of_eq rfl⟩)
    | trace_state
  ·rw [List.take_of_length_le h6] at h5
   conv=>whnf
   repeat' (first|(refine Wr.i64 (by omega) (by omega) ?_;conv=>whnf)|(refine Br.dec (fun _=>?_) (fun _=>?_)<;>first|(exfalso;omega)|conv=>whnf))
   all_goals exact hno (by rw [hcond,h5])
open Go.Proofs
def lexP (a b:Int×Int):Prop:=ordP a.1 b.1∨(a.1=b.1∧ordP a.2 b.2)
theorem lexP.irr (a:Int×Int) : ¬lexP a a:=fun h=>h.elim (ordP.irr _) fun h=>ordP.irr _ h.2
theorem lexP.trans (a b c:Int×Int) (h1:lexP a b) (h2:lexP b c):lexP a c:=by
 rcases h1 with h1|⟨h1,h1'⟩<;>rcases h2 with h2|⟨h2,h2'⟩
 ·exact .inl (ordP.trans _ _ _ h1 h2)
 ·exact .inl (h2▸h1)
 ·exact .inl (h1▸h2)
 ·exact .inr ⟨h1.trans h2,ordP.trans _ _ _ h1' h2'⟩
section
variable {p:Pg} {j:Nat} {f:Pr}
theorem w6n (h:XK p=true) (hj:p.procs[j]? = some f):(z3x f).Pairwise ordP:=by
 rw [List.pairwise_iff_getElem]
 intro a b ha hb hab
 have hl:=z2u f
 have hm:=(QK h).1
 have h1:=z5s hm hj (x:=a) (by omega)
 have h2:=z5s hm hj (x:=b) (by omega)
 rw [List.getElem?_eq_getElem ha] at h1
 rw [List.getElem?_eq_getElem hb] at h2
 rw [Option.some.inj h1,Option.some.inj h2]
 exact BB (by omega) (by omega)
theorem x9a (a b:Int):z6f (PH (QX p j f) f) a b=true↔w5w p j f a b:=by
 rw [z2d]
 unfold w5w
 constructor
 ·rintro (rfl|rfl|h1) h2
  ·cases h2 with
   | exit h3=>exact h3 rfl
   | step h3 _ _=>exact h3 rfl
  ·have : ∀ {x},AvdP (aR p j f) (-1) x→False:=fun {x} hx=>by
    induction hx with
    | exit h3=>exact h3 rfl
    | step _ _ _ ih=>exact ih
   exact this h2
  ·by_cases hab:a=b
   ·subst hab
    cases h2 with
    | exit h3=>exact h3 rfl
    | step h3 _ _=>exact h3 rfl
   ·by_cases hb:b = -1
    ·subst hb
     have : ∀ {x},AvdP (aR p j f) (-1) x→False:=fun {x} hx=>by
      induction hx with
      | exit h3=>exact h3 rfl
      | step _ _ _ ih=>exact ih
     exact this h2
    ·exact h1 ((z1u hab hb).2 h2)
 ·intro h1
  by_cases hab:a=b
  ·exact .inl hab
  ·by_cases hb:b = -1
   ·exact .inr (.inl hb)
   ·exact .inr (.inr fun h2=>h1 ((z1u hab hb).1 h2))
theorem w6v {F:Int→Int→Bool} {A:List Step} {P Q:List Int} {a b:Int}:(a,b)∈dcL F A P Q↔a∈Q∧b∈P∧dcB F A a b=true:=by
 unfold dcL dcR
 rw [List.mem_flatMap]
 constructor
 ·rintro ⟨x,hx,h1⟩
  obtain ⟨y,hy,h2⟩:=List.mem_map.1 h1
  obtain ⟨rfl,rfl⟩:=Prod.mk.inj h2
  obtain ⟨h3,h4⟩:=List.mem_filter.1 hy
  exact ⟨hx,h3,h4⟩
 ·rintro ⟨h1,h2,h3⟩
  exact ⟨a,h1,List.mem_map.2 ⟨b,List.mem_filter.2 ⟨h2,h3⟩,rfl⟩⟩
theorem w4l {F:Int→Int→Bool} {A:List Step} {P:List Int} (hP:P.Pairwise ordP):(dcL F A P P).Pairwise lexP:=by
 unfold dcL
 rw [List.pairwise_flatMap]
 refine ⟨fun a _ => ?_,hP.imp fun {a b} hab x hx y hy => ?_⟩
 ·unfold dcR
  rw [List.pairwise_map]
  exact (List.Pairwise.sublist List.filter_sublist hP).imp fun {x y} hxy => .inr ⟨rfl,hxy⟩
 ·unfold dcR at hx hy
  obtain ⟨_,_,rfl⟩:=List.mem_map.1 hx
  obtain ⟨_,_,rfl⟩:=List.mem_map.1 hy
  exact .inl hab
theorem w2y:(x7a (QX p j f) f (QY f.body+2)).Pairwise lexP:=by
 unfold x7a
 rw [List.pairwise_flatMap]
 have hr:(List.range (QY f.body+2)).Pairwise fun a b=>a<b:=List.pairwise_lt_range
 refine ⟨fun a ha => ?_,hr.imp_of_mem fun {a b} ha hb hab x hx y hy => ?_⟩
 ·rw [List.pairwise_map]
  refine (List.Pairwise.sublist List.filter_sublist hr).imp_of_mem fun {x y} hx hy hxy => .inr ⟨rfl,?_⟩
  have:=List.mem_range.1 (List.mem_filter.1 hy).1
  exact BB (by omega) (by omega)
 ·obtain ⟨_,_,rfl⟩:=List.mem_map.1 hx
  obtain ⟨_,_,rfl⟩:=List.mem_map.1 hy
  have:=List.mem_range.1 hb
  exact .inl (BB (by omega) (by omega))
theorem w5j {a b:Int}:dcB (z6f (PH (QX p j f) f)) (PH (QX p j f) f) a b=true↔0<b∧w7q p j f a b:=by
 unfold dcB w7q
 rw [Bool.and_eq_true,Bool.not_eq_true',Bool.or_eq_false_iff,Bool.and_eq_false_iff,decide_eq_false_iff_not,decide_eq_false_iff_not,List.any_eq_true]
 have e:z6f (PH (QX p j f) f) a b=false ↔ ¬w5w p j f a b:=by
  rw [← x9a]
  cases z6f (PH (QX p j f) f) a b<;>simp
 rw [e]
 constructor
 ·rintro ⟨⟨h1,h2⟩,s,hs,h3⟩
  unfold tsB at h3
  rw [Bool.and_eq_true,decide_eq_true_eq,x9a] at h3
  refine ⟨by omega,s.dst,⟨s,hs,h3.1,rfl⟩,h3.2,?_⟩
  rcases h2 with h2|h2
  ·exact .inl (Classical.byContradiction fun h=>h2 fun h'=>h h'.symm)
  ·exact .inr h2
 ·rintro ⟨h1,t,⟨s,hs,h2,rfl⟩,h3,h4⟩
  refine ⟨⟨by omega,?_⟩,s,hs,?_⟩
  ·rcases h4 with h4|h4
   ·exact .inl fun h=>h h4.symm
   ·exact .inr h4
  ·unfold tsB
   rw [Bool.and_eq_true,decide_eq_true_eq,x9a]
   exact ⟨h2,h3⟩
theorem w8y (h:XK p=true) (hj:p.procs[j]? = some f):dcL (z6f (PH (QX p j f) f)) (PH (QX p j f) f) (z3x f) (z3x f)=x7a (QX p j f) f (QY f.body+2):=by
 have hm:=(QK h).1
 refine q1w lexP.irr lexP.trans (w4l (w6n h hj)) w2y ?_
 rintro ⟨a,b⟩
 rw [w6v,w6g h hj,x3j hm hj,x3j hm hj,w5j]
theorem w6s (h:XK p=true) (hj:p.procs[j]? = some f) : ∀ s∈PH (QX p j f) f,s.dst∈z3x f:=fun s hs =>
 (x3j (QK h).1 hj).2 (x8k h hj ⟨s,hs,rfl,rfl⟩).2.1
end
theorem x2d {p:Pg} (hf:Fit p) (n:Str):SpecP Tryz.prog 40 [.agg p.cells,.str n] (fun r=>r = .sl (avP (x4j p n))):=by
 have hG:=q2p p hf n
 cases hw:HP p n with
 | none =>
   have hP:=KF p hf n hw
   rw [x4t hw] at hG
   rw [q8d hw]
   exact UD p n [] [] (z6f []) (by simp) (by simp) (fun s hs=>by cases hs) hP hG (UI [] [] (z6f []) (by simp) fun a ha=>by cases ha)
 | some w =>
   obtain ⟨k,f,hk,rfl,hc,_⟩:=KI hw
   have hP:=KS p hf n k f hw hk
   rw [x7q hw hk] at hG
   rw [DB hw hk,← w8y hc hk]
   have hl:=z2u f
   have h4:=YI (QK hc).1 hk
   have h7:(flatU f).length=QY f.body:=WQ 1 0 false f.body
   have hA:(PH (QX p k f) f).length≤1000000:=by have:=z7y hc hk;omega
   exact UD p n (z3x f) _ _ (by omega) hA (w6s hc hk) hP hG (UI _ _ _ (by omega) fun a _ b _=>DR _ a b hA)
open Go.Proofs
theorem z2o {p:Pg} (h:XK p=true) {id:Int} (h1:1≤id) (h2:id≤(sheetOf p).l.length):(YU p id).2.2=true∧(YU p id).1.inn=x1m (sheetOf p) id:=by
 have hm:=(QK h).1
 obtain ⟨_,_,_,_,_,_,_,ho,_⟩:=z9r h h1 h2
 refine ⟨ho,?_⟩
 unfold YU at ho ⊢
 cases hr:q6u p id with
 | none=>rw [hr] at ho;cases ho
 | some y =>
   simp only
   unfold q6u at hr
   obtain ⟨g,hg,h3⟩:=List.exists_of_findSome?_eq_some hr
   unfold x4e at h3
   rw [Option.map_eq_some_iff] at h3
   obtain ⟨x,h4,rfl⟩:=h3
   obtain ⟨k,hk,rfl⟩:=List.mem_iff_getElem.1 hg
   have hk':p.procs[k]? = some p.procs[k]:=List.getElem?_eq_getElem hk
   rw [WK hm hg] at h4
   have h5:x.s.id=id:=by simpa using List.find?_some h4
   obtain ⟨q,hq,rfl⟩:=List.mem_iff_getElem.1 (List.mem_of_find?_eq_some h4)
   obtain ⟨m,hrw⟩:=DX hm hk'
   have hpar:=w7z (k:Nat) 1 0 false p.procs[k].body (-1) 0 (QN p.procs k) hrw
   have e1:itL (k:Nat) 0 (-1) 0 (QN p.procs k) p.procs[k].body=itsOf p k p.procs[k]:=rfl
   have e2:fuL 1 0 false p.procs[k].body=flatU p.procs[k]:=rfl
   rw [e1,e2] at hpar
   have hlen:(itsOf p k p.procs[k]).length=(flatU p.procs[k]).length:=by simpa using congrArg List.length hpar
   have hqi:q<(itsOf p k p.procs[k]).length:=by omega
   have h6:=congrArg (fun l=>l[q]?) hpar
   simp only [List.getElem?_map,List.getElem?_eq_getElem hq,List.getElem?_eq_getElem hqi,Option.map_some] at h6
   have h7:=Prod.mk.inj (Option.some.inj h6)
   have h8:=w9e h hk' (List.getElem_mem hqi)
   rw [h7.1,h5] at h8
   unfold x1m
   rw [h8]
   exact h7.2.symm
def v0y (p:Pg) (b:Bool) (x:RI) (acc:List Int):St:=⟨[(2,.p (.ip p.cells)),(5,.ptr 0 0),(8,.hd (bif b then 2 else 1) 0 acc.length)],[(0,.obj 103 (x.cells.map .p)),(bif b then 2 else 1,.own 3 1 (acc.map (.int .i64)))]⟩
theorem q4j (p:Pg) (hf:Fit p) (id:Int):SpecP Tryz.prog 45 [.agg p.cells,.int .i64 id] (fun r=>r=QF (inR p id)):=by
 refine SpecP.body LC QQ Tryz.func45 rfl Tryz.call45 (by show 2≤_;decide) ?_
 conv=>whnf
 have hF:=GP p id
 have hR:=ZV p hf
 cases hc:XK p with
 | false =>
   have e:inR p id=[]:=by unfold inR;rw [hc];rfl
   rw [hc] at hR
   rw [e]
   generalize (YU p id).2.2=ok at *
   repeat' (first|((first|refine And.intro rfl ?_|(refine CallK.pure hF (.cons (Sub.refl _) (.cons (Sub.refl _) .nil)) ?_;rintro _ rfl)|(refine CallK.pure hR (.cons (Sub.refl _) .nil) ?_;rintro _ rfl));conv=>whnf)|(refine Br.n (fun _=>?_) (fun _=>?_)<;>conv=>whnf))
   all_goals first
    | contradiction
    | exact ⟨_,.p Sub.nils,rfl⟩
 | true =>
   rw [hc] at hR
   by_cases hin:1≤id∧id≤(sheetOf p).l.length
   rotate_left 1
   ·obtain ⟨ho,_⟩:=z9e hc hin
    have e:inR p id=[]:=by
     have e0:(decide (1≤id)&&decide (id≤(sheetOf p).l.length))=false:=by
      rw [Bool.eq_false_iff]
      intro e
      rw [Bool.and_eq_true,decide_eq_true_eq,decide_eq_true_eq] at e
      exact hin e
     unfold inR
     rw [hc,e0]
     rfl
    rw [ho] at hF
    rw [e]
    repeat' (first|((first|refine And.intro rfl ?_|(refine CallK.pure hF (.cons (Sub.refl _) (.cons (Sub.refl _) .nil)) ?_;rintro _ rfl)|(refine CallK.pure hR (.cons (Sub.refl _) .nil) ?_;rintro _ rfl));conv=>whnf)|(refine Br.n (fun _=>?_) (fun _=>?_)<;>conv=>whnf))
    all_goals first
     | contradiction
     | exact ⟨_,.p Sub.nils,rfl⟩
   ·obtain ⟨ho,hu⟩:=z2o hc hin.1 hin.2
    have e:inR p id=(upF (sheetOf p) 300 (x1m (sheetOf p) id)).reverse:=by
     unfold inR
     rw [hc,decide_eq_true hin.1,decide_eq_true hin.2]
     rfl
    rw [ho] at hF
    rw [e]
    generalize (YU p id).2.1=nm at *
    generalize (YU p id).1=x0 at *
    repeat' (first|((first|refine And.intro rfl ?_|(refine CallK.pure hF (.cons (Sub.refl _) (.cons (Sub.refl _) .nil)) ?_;rintro _ rfl)|(refine CallK.pure hR (.cons (Sub.refl _) .nil) ?_;rintro _ rfl));conv=>whnf)|(refine Br.n (fun _=>?_) (fun _=>?_)<;>conv=>whnf))
    all_goals first
     | contradiction
     | skip
    have hu0:=x6z p hin.1
    have hid:=hin.2
    obtain ⟨_,_,hcn⟩:=UY hc
    obtain ⟨_,_,_,hlen,_⟩:=QJ p
    have hTl:=z7c p 300 (x1m (sheetOf p) id) hu0.1
    rw [← hu] at hTl hu0 ⊢
    generalize hT:(upF (sheetOf p) 300 x0.inn).reverse=T at *
    have hTl2:T.length≤300:=by rw [← hT,List.length_reverse];omega
    clear hF hu ho e
    refine LoopK.inv QQ (fun x:Bool×RI×List Int=>v0y p x.1 x.2.1 x.2.2) (fun x=>(0≤x.2.1.inn∧x.2.1.inn≤(sheetOf p).l.length) ∧ ∃ m:Nat,x.2.1.inn≤m∧(upF (sheetOf p) m x.2.1.inn).reverse++x.2.2=T) (fun x=>x.2.1.inn.toNat) (false,x0,[])
     (Le.mk [(1,.own 3 1 [])] (by simp [Chunk.new0];rfl) (by simp) (by simp) (.cons (.refl _) (.cons (.refl _) (.cons (.nil List.mem_cons_self) .nil))) (.cons rfl (.of_eq rfl) (.new List.mem_cons_self .nil))) ⟨⟨hu0.1,by simp only;omega⟩,300,by simp only;omega,by simpa using hT⟩ ?_
    rintro ⟨b,x,acc⟩ ⟨⟨h1,h2⟩,m,h3,h4⟩
    simp only at h1 h2 h3 h4 ⊢
    have hal:acc.length≤300:=by
     have:=congrArg List.length h4
     rw [List.length_append] at this
     omega
    have ham:(acc.map (AV.int .i64)).length=acc.length:=List.length_map _
    by_cases hz:x.inn=0
    ·have e0:upF (sheetOf p) m x.inn=[]:=by
      rw [hz]
      cases m with
      | zero=>rw [upF]
      | succ m=>rw [upF,if_pos rfl]
     rw [e0,List.reverse_nil,List.nil_append] at h4
     subst h4
     cases b<;>unfold v0y<;>simp only [cond_true,cond_false]
     all_goals
      conv=>whnf
      repeat' (refine Br.dec2 (fun _=>?_) (fun _=>?_)<;>first|(exfalso;omega)|conv=>whnf)
      all_goals first
       | (exfalso;omega)
       | exact ⟨_,.hd rfl (by simp),rfl⟩
    ·obtain ⟨m',rfl⟩ : ∃ m',m=m'+1:=⟨m-1,by omega⟩
     rw [upF,if_neg hz,List.reverse_cons,List.append_assoc,List.singleton_append] at h4
     have hF:=GP p x.inn
     obtain ⟨ho,hu⟩:=z2o hc (show 1≤x.inn by omega) h2
     have hu1:=x6z p (show 1≤x.inn by omega)
     rw [← hu] at h4 hu1
     generalize (YU p x.inn).2.2=ok at *
     generalize (YU p x.inn).2.1=nm at *
     generalize (YU p x.inn).1=y at *
     have fin : ∃ z:Bool×RI×List Int,((0≤z.2.1.inn∧z.2.1.inn≤(sheetOf p).l.length) ∧ ∃ m:Nat,z.2.1.inn≤m∧(upF (sheetOf p) m z.2.1.inn).reverse++z.2.2=T)∧z.2.1.inn.toNat<x.inn.toNat∧z=(!b,y,x.inn::acc):=⟨_,⟨⟨by simp only;omega,by simp only;omega⟩,m',by simp only;omega,h4⟩,by simp only;omega,rfl⟩
     obtain ⟨z,hz1,hz2,rfl⟩:=fin
     cases b<;>unfold v0y<;>simp only [cond_true,cond_false]
     all_goals
      conv=>whnf
      repeat' (first|((first|refine And.intro rfl ?_|(refine And.intro ⟨by decide,by decide⟩ ?_)|refine BsK.own (fun x hx=>by rcases List.mem_singleton.1 hx with rfl;rfl) rfl ?_|refine AppK.mk (n:=1) rfl (by omega) (by show (1+acc.length)*8≤140737488355328;omega) (by show 1+acc.length≤9223372036854775807;omega) (fun x hx=>by obtain ⟨s,_,rfl⟩:=List.mem_map.1 hx;exact ⟨rfl,rfl⟩) ?_|(refine CallK.pure hF (.cons (Sub.refl _) (.cons (Sub.refl _) .nil)) ?_;rintro _ rfl));conv=>whnf)|(refine Br.dec2 (fun _=>?_) (fun _=>?_)<;>first|(exfalso;omega)|conv=>whnf))
      all_goals first
       | (exfalso;omega)
       | exact ⟨_,hz1,hz2,Le.mk [] (by simp) (by simp) (by simp) (.cons (.refl _) (.cons (.refl _) (.cons (.of_eq (by simp only [List.length_cons,Nat.add_comm];rfl)) .nil))) (.cons rfl (.of_eq rfl) (.cons rfl (.of_eq rfl) .nil))⟩
       | trace_state
open Go.Proofs
theorem BK (p:Pg) (n id:Int):SpecP Tryz.prog 5 [.agg p.cells,.int .i64 n,.int .i64 id] (fun r=>r = .tt):=by
 refine SpecP.body FV QQ Tryz.func5 rfl Tryz.call5 (by show 3≤_;decide) ?_
 conv=>whnf
 cases hfb:w3b p with
 | false =>
   have hno : ¬gPg p≤20000:=by unfold w3b at hfb;simpa using hfb
   repeat' (first|((first|(refine CallK.pure (GI _) (by repeat' (first|exact ArgP.nil|refine ArgP.cons ?_ ?_|exact Sub.refl _|exact Sub.tt rfl|exact Sub.ff rfl)) ?_;rintro _ rfl)|(refine CallK.pure VI .nil ?_;rintro _ rfl));conv=>whnf)|(refine Br.dec2 (fun _=>?_) (fun _=>?_)<;>first|(exfalso;omega)|conv=>whnf))
   all_goals first
    | exact ⟨_,.p (Sub.refl _),rfl⟩
    | (exfalso;simp_all;done)
 | true =>
   have hf:Fit p:=w7p hfb
   have hfit:gPg p≤20000:=by unfold w3b at hfb;simpa using hfb
   have hM:=JB p hf
   have hPA:=ND p n (z4w hf)
   have hC:(z5n p).1=0→SpecP Tryz.prog 18 [.agg p.cells] (fun r=>r = .int .i64 (cntP p.procs)):=fun hA=>z4b p (by have:=(UY (show XK p=true by unfold XK;simpa using hA)).2.2;omega)
   have hD1:=x1a p hf (WB p n)
   have hD2:=x2d hf (WB p n)
   have hB:=z0u p hf (WB p n) id
   have hI1:=z7s p hf id
   have hI2:=q4j p hf id
   have hlen:=x2u p (WB p n)
   have hBd:byR p (WB p n) id=((x4j p (WB p n)).filter fun d=>decide (d.2=id)).map Prod.fst:=rfl
   have hQ1:=BL (x4j p (WB p n)) (x4j p (WB p n))
   have hQ2:=YW (byR p (WB p n) id) (byR p (WB p n) id)
   have hQ3:=YW (inR p id) (inR p id)
   simp only [eq_self,decide_true] at hQ1 hQ2 hQ3
   generalize byR p (WB p n) id=B at *
   generalize inR p id=Q at *
   generalize x4j p (WB p n)=L at *
   generalize WB p n=pn at *
   have hal:(avP L).length=L.length:=by unfold avP;rw [List.length_map]
   repeat' (first|((first|intro (_:_≤9223372036854775807)|(refine CallK.pure (GI _) (by repeat' (first|exact ArgP.nil|refine ArgP.cons ?_ ?_|exact Sub.refl _|exact Sub.tt rfl|exact Sub.ff rfl)) ?_;rintro _ rfl)|(refine CallK.pure VI .nil ?_;rintro _ rfl)|(refine CallK.pure hM (.cons (Sub.refl _) .nil) ?_;rintro _ rfl)|(refine CallK.pure (hC (by assumption)) (.cons (Sub.refl _) .nil) ?_;rintro _ rfl)|(refine CallK.pure hPA (.cons (Sub.refl _) (.cons (Sub.refl _) .nil)) ?_;rintro _ rfl)|(refine CallK.pure hD2 (.cons (Sub.refl _) (.cons (Sub.refl _) .nil)) ?_;rintro _ rfl));conv=>whnf)|(refine Br.dec (fun _=>?_) (fun _=>?_)<;>first|(exfalso;omega)|conv=>whnf)|(refine Br.dec2 (fun _=>?_) (fun _=>?_)<;>first|(exfalso;omega)|conv=>whnf))
   all_goals first
    | contradiction
    | exact ⟨_,.p (Sub.refl _),rfl⟩
    | skip
   all_goals
    refine LoopK.inv QQ (fun x:Nat×List Int=>⟨[(2,.p (.int .i64 id)),(3,.p (.ip p.cells)),(7,.p (.str pn)),(8,.p (.sl (avP L))),(9,.hd 0 0 x.2.length),(30,.p (.sl (avP L))),(31,.p (.int .i64 (avP L).length)),(32,.p (.int .i64 x.1))],[(0,.own 3 1 (x.2.map (.int .i64)))]⟩) (fun x=>x.1≤L.length∧x.2.length≤x.1∧x.2++((L.drop x.1).filter fun d=>decide (d.2=id)).map Prod.fst=B) (fun x=>L.length-x.1) (0,[])
     (Le.mk [(0,.own 3 1 [])] (by simp [Chunk.new0];rfl) (by simp) (by simp) (.cons (.refl _) (.cons (.refl _) (.cons (.refl _) (.cons (.refl _) (.cons (.nil List.mem_cons_self) (.cons (.refl _) (.cons (.refl _) (.cons (.refl _) .nil)))))))) (.new List.mem_cons_self .nil)) ⟨Nat.zero_le _,Nat.le_refl _,hBd.symm⟩ ?_
    rintro ⟨j,o⟩ ⟨h2,h4,h3⟩
    simp only at h2 h3 h4 ⊢
    rcases Nat.lt_or_ge j L.length with hj|hj
    ·rw [List.drop_eq_getElem_cons hj] at h3
     have hme:(avP L)[j]? = some (.agg [.int .i64 L[j].1,.int .i64 L[j].2]):=by simp [avP,hj]
     generalize L[j]=t at hme h3
     conv=>whnf
     repeat' (first|((first|refine And.intro rfl ?_|(refine And.intro ⟨by decide,by decide⟩ ?_)|refine BsK.pure (fun x hx=>by rcases List.mem_singleton.1 hx with rfl;rfl) rfl ?_|refine Wr.i64 (by omega) (by omega) ?_|(refine IdxK.at (k:=j) rfl hme rfl ?_)|refine IdxL.mk 1 rfl (by decide) ?_|refine IdxL.mk 0 rfl (by decide) ?_|refine AppK.int1 (by simp) (by simp;omega) ?_);conv=>whnf)|(refine Br.dec (fun _=>?_) (fun _=>?_)<;>first|(exfalso;omega)|conv=>whnf))
     all_goals first
      | (have e:decide (t.2=id)=true:=decide_eq_true (by assumption)
         rw [List.filter_cons_of_pos (by exact e),List.map_cons] at h3
         exact ⟨(j+1,o++[t.1]),⟨hj,by simp;omega,by rw [List.append_assoc];exact h3⟩,by simp only;omega,Le.of_eq (by simp only [List.length_append,List.map_append,List.length_map];rfl)⟩)
      | (have e:decide (t.2=id)=false:=decide_eq_false (by assumption)
         rw [List.filter_cons_of_neg (fun hh=>by rw [e] at hh;cases hh)] at h3
         exact ⟨(j+1,o),⟨hj,by simp only;omega,h3⟩,by simp only;omega,Le.of_eq rfl⟩)
      | trace_state
    ·rw [List.drop_eq_nil_of_le hj,List.filter_nil,List.map_nil,List.append_nil] at h3
     subst h3
     conv=>whnf
     repeat' (first|((first|refine DrawK.auto QQ mixed (by kernel_rfl) ?_|(refine CallK.pure hD1 (.cons (Sub.refl _) (.cons (Sub.refl _) .nil)) ?_;rintro _ rfl)|(refine CallK.pure hQ1 (.cons (Sub.refl _) (.cons (Sub.refl _) .nil)) ?_;rintro _ rfl)|(refine CallK.pure hB (.cons (Sub.refl _) (.cons (Sub.refl _) (.cons (Sub.refl _) .nil))) ?_;rintro _ rfl)|(refine CallK.borrow hQ2 (.cons (.p (Sub.refl _)) (.cons (.hd rfl (by simp)) .nil)) (by rintro _ rfl;rfl) ?_;rintro _ rfl)|(refine CallK.pure hI1 (.cons (Sub.refl _) (.cons (Sub.refl _) .nil)) ?_;rintro _ rfl)|(refine CallK.pure hI2 (.cons (Sub.refl _) (.cons (Sub.refl _) .nil)) ?_;rintro _ rfl)|(refine CallK.pure hQ3 (.cons (Sub.refl _) (.cons (Sub.refl _) .nil)) ?_;rintro _ rfl));conv=>whnf)|(refine Br.dec (fun _=>?_) (fun _=>?_)<;>first|(exfalso;omega)|conv=>whnf)|(refine Br.b (fun _=>?_) (fun _=>?_)<;>conv=>whnf))
     all_goals first
      | contradiction
      | exact ⟨_,.p (Sub.refl _),rfl⟩
      | exact ⟨_,.p w7d,rfl⟩
      | (exfalso;simp_all;done)
      | trace_state
end Go.Ab
