/- The reference's looking up: a statement of a flat row, its row, what stands behind it, in it. -/
import Derived.Test.YtiaikoimoonlmaaGreatInoB14
import Derived.Test.YtiaikoimoonlmaaGreatInoB15
import Derived.Test.YtiaikoimoonlmaaGreatInoB16
import Derived.Test.YtiaikoimoonlmaaGreatInoB17
import Derived.Test.YtiaikoimoonlmaaGreatInoB18
import Derived.Test.YtiaikoimoonlmaaGreatInoB19
set_option linter.unusedSimpArgs false
set_option linter.unusedVariables false
set_option maxRecDepth 100000
set_option maxHeartbeats 16000000
open List (Nodup length)
namespace Go.Ab
open Go.Proofs.Tryz
open Go.Proofs
theorem HF (l:List RI) (id:Int):SpecP prog 348 [VM l,.int .i64 id] (fun r=>r = .agg (itemR l id).cells):=by
 refine sB MT func348 rfl call348 ?_;conv=>whnf
 refine iM fun _=>?_;have hLl:=WA l;conv=>whnf
 refine LoopK.inv QX (fun k:Nat=>⟨[(1,.p (.int .i64 id)),(4,.ptr 0 0),(7,.p (VM l)),(8,.p (.int .i64 (l.map fun i=>AV.agg i.cells).length)),(9,.p (.int .i64 k))],[(0,.obj 42 [.p (.int .i64 0),.p (.int .i64 0),.p .nils,.p (.str []),.p (.str []),.p (.int .i64 0),.p (.int .i64 0),.p (.str []),.p .nils,.p .ff,.p .nils,.p .nils,.p .nils,.p (.int .i64 0),.p (.int .i64 0),.p .ff])]⟩) (fun k=>k<=l.length∧(l.drop k).find? (fun x=>decide (x.s.id=id))=l.find? fun x=>decide (x.s.id=id)) (fun k=>l.length-k) 0 (Le.of_eq rfl) ⟨u3l _,rfl⟩ ?_;rintro k ⟨h4,h5⟩;rcases u3r k l.length with hk|hk;rotate_left 1
 ·rw [u4z hk,u9c] at h5;have hO:itemR l id=RI0:=by unfold itemR;rw [<- h5];rfl
  rw [hO];conv=>whnf
  repeat' (first|(refine u3d rfl ?_;conv=>whnf)|(apply bD<;>intro _<;>first|omega|conv=>whnf))
  exact ⟨_,.p w7q,rfl⟩
 rw [x1u hk] at h5;conv=>whnf
 repeat' (first|((first|refine u3d rfl ?_|(refine iA fun _=>?_)|refine wI ?_);conv=>whnf)|(apply bD<;>intro _<;>first|omega|conv=>whnf))
 ·have hid:l[k].s.id=id:=by assumption
  rw [if_pos (u5z hid)] at h5;have hO:itemR l id=l[k]:=by unfold itemR;rw [<- h5];rfl
  rw [hO];exact ⟨_,.p (Sub.refl _),rfl⟩
 ·have hid : ¬l[k].s.id=id:=by assumption
  rw [if_neg (by simpa using hid)] at h5;exact ⟨k+1,⟨hk,h5⟩,by omega,Le.of_eq rfl⟩
theorem q7k (l:List RI) (x:RI) (hl:l.length<=1000000):SpecP prog 349 [VM l,.agg x.cells] (fun r=>r=QR (stdR l x)):=by
 refine sB q0p func349 rfl call349 ?_;conv=>whnf
 refine iM fun _=>?_;have hLl:=WA l;have hsd:stdR l x=(l.filter (inI x.inn x.els)).map fun y=>y.s.id:=rfl;rw [hsd];conv=>whnf
 refine LoopK.inv QX (fun q:Nat×List Int=>⟨[(3,.p (.ip x.cells)),(5,.hd 0 0 q.2.length),(8,.p (VM l)),(9,.p (.int .i64 (l.map fun i=>AV.agg i.cells).length)),(10,.p (.int .i64 q.1))],[(0,.own 3 1 (q.2.map (.int .i64)))]⟩) (fun q=>q.1<=l.length∧q.2=((l.take q.1).filter (inI x.inn x.els)).map (fun y=>y.s.id)∧q.2.length<=q.1) (fun q=>l.length-q.1) (0,[])
  (Le.mk [(0,.own 3 1 [])] (by simp [Chunk.new0];rfl) (by simp) (by simp) (.cons (.refl _) (.cons (.nil u3g) (.cons (.refl _) (.cons (.refl _) (.cons (.refl _) .nil))))) (.new u3g .nil)) ⟨u3l _,by simp,by simp⟩ ?_
 rintro ⟨j,acc⟩ ⟨h2,h3,h4⟩;simp only at h2 h3 h4 ⊢;rcases u3r j l.length with hj|hj
 ·have h6:=u3a hj;have hin:inI x.inn x.els l[j]=(decide (l[j].inn=x.inn)&&(l[j].els==x.els)):=rfl;conv=>whnf
  repeat' (first|((first|refine u3d rfl ?_|refine aD ?_|refine bP ?_|(refine iA fun _=>?_)|refine wI ?_|refine ZZ (by simp) (by simp;omega) ?_|refine q7e QX rfl rfl rfl rfl rfl ?_);conv=>whnf)|(apply bD<;>intro _<;>first|omega|conv=>whnf))
  all_goals first
   | exact ⟨(j+1,acc++[l[j].s.id]),⟨by simp only;omega,by simp only;rw [h6,u4a,u3t,<- h3,u5u (by rw [hin];simp_all)];rfl,by simp;omega⟩,by simp only;omega,Le.of_eq (by simp only [u3f,u3t];rfl)⟩
   | exact ⟨(j+1,acc),⟨by simp only;omega,by simp only;rw [h6,u4a,u3t,<- h3,u5v (by rw [hin];simp_all)];simp,by simp only;omega⟩,by simp only;omega,Le.of_eq rfl⟩
 ·rw [u3o hj] at h3;subst h3;conv=>whnf
  repeat' (apply bD<;>intro _<;>first|omega|conv=>whnf)
  exact ⟨_,.hd rfl (by simp),rfl⟩
theorem WH (l:List RI) (id:Int) (e:Bool) (o:Int):SpecP prog 273 [VM l,.int .i64 id,.bool e,.int .i64 o] (fun r=>r = .int .i64 (v3i l id e o)):=by
 refine sB PL func273 rfl call273 ?_;conv=>whnf
 refine iM fun _=>?_;have hLl:=WA l;conv=>whnf
 refine LoopK.inv QX (fun k:Nat=>⟨[(1,.p (.int .i64 id)),(2,.p (.bool e)),(3,.p (.int .i64 o)),(11,.p (VM l)),(12,.p (.int .i64 (l.map fun i=>AV.agg i.cells).length)),(13,.p (.int .i64 k))],[]⟩) (fun k=>k<=l.length∧(l.drop k).find? (inI id e)=l.find? (inI id e)) (fun k=>l.length-k) 0 (Le.of_eq rfl) ⟨u3l _,rfl⟩ ?_;rintro k ⟨h4,h5⟩;rcases u3r k l.length with hk|hk;rotate_left 1
 ·rw [u4z hk,u9c] at h5;conv=>whnf
  repeat' (apply bD<;>intro _<;>first|omega|conv=>whnf)
  exact RetK.int (by unfold v3i;rw [<- h5];rfl)
 rw [x1u hk] at h5;have hin:inI id e l[k]=(decide (l[k].inn=id)&&(l[k].els==e)):=rfl;rw [hin] at h5;conv=>whnf
 repeat' (first|((first|refine u3d rfl ?_|(refine iA fun _=>?_)|refine wI ?_|refine q7e QX rfl rfl rfl rfl rfl ?_);conv=>whnf)|(apply bD<;>intro _<;>first|omega|conv=>whnf))
 all_goals first
  | (rw [if_pos (by simp_all)] at h5
     exact RetK.int (by unfold v3i;rw [<- h5];rfl))
  | (rw [if_neg (by simp_all)] at h5
     exact ⟨k+1,⟨hk,h5⟩,by omega,Le.of_eq rfl⟩)
theorem z5e {r:List Int} {i:Nat} {id:Int} (h:i+1<r.length):nextIn (r.drop i) id=if r[i]=id then some r[i+1] else nextIn (r.drop (i+1)) id:=by
 rw [u4n (show i<r.length by omega),u4n h];rfl
theorem w1l {r:List Int} {i:Nat} {id:Int} (h:r.length<=i+1):nextIn (r.drop i) id=none:=by
 rcases u3r i r.length with hi|hi
 ·rw [u4n hi,u4z h];rfl
 ·rw [u4z hi];rfl
theorem XL (l:List RI) (hl:l.length<=1000000) (id v:Int) (hv:nextIn (stdR l (itemR l id)) id=some v∨(nextIn (stdR l (itemR l id)) id=none∧(((itemR l id).inn=0∧v = -1)∨((itemR l id).inn≠0∧(itemR l (itemR l id).inn).s.kind=6∧v=(itemR l id).inn)∨((itemR l id).inn≠0∧(itemR l (itemR l id).inn).s.kind≠6∧SpecP prog 322 [VM l,.int .i64 (itemR l id).inn] (fun r=>r = .int .i64 v))))):SpecP prog 322 [VM l,.int .i64 id] (fun r=>r = .int .i64 v):=by
 refine sB PU func322 rfl call322 ?_;conv=>whnf
 have hI:=HF l id;have hI2:=HF l (itemR l id).inn;have hR:=q7k l (itemR l id) hl;have hrl:(stdR l (itemR l id)).length<=l.length:=by
  unfold stdR;rw [u3k];exact u5c _ _
 generalize itemR l (itemR l id).inn=y at *
 generalize itemR l id=x at *
 generalize stdR l x=R at *
 have hRl:(R.map (AV.int .i64)).length=R.length:=u3k _;repeat' ((first|refine u3d rfl ?_|refine cP hI ?_|refine cP hR ?_);conv=>whnf)
 refine LoopK.inv QX (fun i:Nat=>⟨[(0,.p (VM l)),(1,.p (.int .i64 id)),(5,.p (.ip x.cells)),(6,.p (QR R)),(7,.p (.int .i64 i))],[]⟩) (fun i=>i<=R.length∧nextIn (R.drop i) id=nextIn R id) (fun i=>R.length-i) 0 (Le.of_eq rfl) ⟨u3l _,rfl⟩ ?_;rintro i ⟨h2,h3⟩;rcases u3r (i+1) R.length with hi|hi
 ·have g1:(R.map (AV.int .i64))[i]? = some (.int .i64 R[i]):=by rw [u4q,u3h (by omega)];rfl
  have g2:(R.map (AV.int .i64))[i+1]? = some (.int .i64 R[i+1]):=by rw [u4q,u3h hi];rfl
  have hst:=z5e (id:=id) hi;conv=>whnf
  repeat' (first|((first|(refine iM fun _=>?_)|(refine iA fun _=>?_)|refine Wr.eq (m:=((i+1:Nat):Int)) (by omega) (by omega) (by omega) ?_);conv=>whnf)|(apply bD<;>intro _<;>first|omega|conv=>whnf))
  all_goals first
   | (rw [if_pos (by assumption)] at hst
      rw [hst] at h3;rcases hv with hv|hv
      ·rw [hv] at h3;exact RetK.int (u6y h3)
      ·rw [hv.1] at h3;cases h3)
   | (rw [if_neg (by assumption)] at hst
      exact ⟨i+1,⟨by omega,by rw [<- hst];exact h3⟩,by omega,Le.of_eq rfl⟩)
 ·rw [w1l hi] at h3;rw [<- h3] at hv;rcases hv with hv|⟨_,⟨h4,rfl⟩|⟨h4,h5,rfl⟩|⟨h4,h5,h6⟩⟩
  ·cases hv
  all_goals
   conv=>whnf
   repeat' (first|((first|(refine iM fun _=>?_)|refine Wr.eq (m:=((i+1:Nat):Int)) (by omega) (by omega) (by omega) ?_|refine cP hI2 ?_|refine cP h6 ?_);conv=>whnf)|(apply bD<;>intro _<;>first|omega|conv=>whnf))
   all_goals first
    | (exfalso;omega)
    | exact RetK.int rfl
theorem q8b {l:List RI} (hl:l.length<=1000000) {id v:Int} (h:BehP l id v):SpecP prog 322 [VM l,.int .i64 id] (fun r=>r = .int .i64 v):=by
 induction h with
 | next h=>exact XL l hl _ _ (.inl h)
 | exit h h0=>exact XL l hl _ _ (.inr ⟨h,.inl ⟨h0,rfl⟩⟩)
 | loop h h0 hk=>exact XL l hl _ _ (.inr ⟨h,.inr (.inl ⟨h0,hk,rfl⟩)⟩)
 | up h h0 hk _ ih=>exact XL l hl _ _ (.inr ⟨h,.inr (.inr ⟨h0,hk,ih⟩)⟩)
def slB (a b:Step):Bool:=if a.src≠b.src then v0k a.src b.src else if a.dst≠b.dst then v0k a.dst b.dst else decide (a.kind<b.kind)
def slP (a b:Step):Prop:=slB a b=true
def ltP (a b:Step):Prop:=ordP a.src b.src∨(a.src=b.src∧ordP a.dst b.dst)
theorem q7x {a b:Step}:slP a b↔ordP a.src b.src∨(a.src=b.src∧(ordP a.dst b.dst∨(a.dst=b.dst∧a.kind<b.kind))):=by
 unfold slP slB;by_cases h1:a.src=b.src
 ·rw [if_neg (fun h=>h h1)];have i1 : ¬ordP a.src b.src:=fun h=>ordP.irr b.src (h1▸h);by_cases h2:a.dst=b.dst
  ·rw [if_neg (fun h=>h h2)];have i2 : ¬ordP a.dst b.dst:=fun h=>ordP.irr b.dst (h2▸h);rw [u4b];exact ⟨fun h => .inr ⟨h1,.inr ⟨h2,h⟩⟩,fun h=>(h.resolve_left i1).2.elim (fun h3=>absurd h3 i2) fun h3=>h3.2⟩
  ·rw [if_pos h2];exact ⟨fun h => .inr ⟨h1,.inl h⟩,fun h=>(h.resolve_left i1).2.elim id fun h3=>absurd h3.1 h2⟩
 ·rw [if_pos h1];exact ⟨fun h => .inl h,fun h=>h.elim id fun h3=>absurd h3.1 h1⟩
theorem slP.irr (a:Step) : ¬slP a a:=fun h=>by
 rw [q7x] at h;rcases h with h|⟨_,h|⟨_,h⟩⟩
 ·exact ordP.irr _ h
 ·exact ordP.irr _ h
 ·omega
theorem slP.trans (a b c:Step) (h1:slP a b) (h2:slP b c):slP a c:=by
 rw [q7x] at *
 rcases h1 with h1|⟨e1,h1⟩
 ·rcases h2 with h2|⟨e2,_⟩
  ·exact .inl (ordP.trans _ _ _ h1 h2)
  ·exact .inl (e2▸h1)
 ·rcases h2 with h2|⟨e2,h2⟩
  ·exact .inl (e1▸h2)
  ·refine .inr ⟨e1.trans e2,?_⟩;rcases h1 with h1|⟨e3,h1⟩
   ·rcases h2 with h2|⟨e4,_⟩
    ·exact .inl (ordP.trans _ _ _ h1 h2)
    ·exact .inl (e4▸h1)
   ·rcases h2 with h2|⟨e4,h2⟩
    ·exact .inl (e3▸h2)
    ·exact .inr ⟨e3.trans e4,by omega⟩
theorem slP.total (a b:Step) (h:a≠b):slP a b∨slP b a:=by
 rw [q7x,q7x];by_cases h1:a.src=b.src
 ·by_cases h2:a.dst=b.dst
  ·have h3:a.kind≠b.kind:=fun h3=>h (JZ h1 h2 h3);rcases Int.lt_or_gt_of_ne h3 with h4|h4
   ·exact .inl (.inr ⟨h1,.inr ⟨h2,h4⟩⟩)
   ·exact .inr (.inr ⟨h1.symm,.inr ⟨h2.symm,h4⟩⟩)
  ·rcases ordP.total _ _ h2 with h3|h3
   ·exact .inl (.inr ⟨h1,.inl h3⟩)
   ·exact .inr (.inr ⟨h1.symm,.inl h3⟩)
 ·rcases ordP.total _ _ h1 with h3|h3
  ·exact .inl (.inl h3)
  ·exact .inr (.inl h3)
theorem slP.lt {a b:Step} (h:slP a b) (hn : ¬(a.src=b.src∧a.dst=b.dst)):ltP a b:=by
 rw [q7x] at h;rcases h with h|⟨e,h|⟨e2,_⟩⟩
 ·exact .inl h
 ·exact .inr ⟨e,h⟩
 ·exact absurd ⟨e,e2⟩ hn
theorem ltP.sl {a b c:Step} (h:ltP a b) (h2:slP b c):ltP a c:=by
 rw [q7x] at h2;rcases h with h|⟨e,h⟩
 ·rcases h2 with h2|⟨e2,_⟩
  ·exact .inl (ordP.trans _ _ _ h h2)
  ·exact .inl (e2▸h)
 ·rcases h2 with h2|⟨e2,h2|⟨e3,_⟩⟩
  ·exact .inl (e▸h2)
  ·exact .inr ⟨e.trans e2,ordP.trans _ _ _ h h2⟩
  ·exact .inr ⟨e.trans e2,e3▸h⟩
structure InvO (P out:List Step):Prop where
 lt:out.Pairwise ltP
 sub : ∀ o∈out,o∈P
 all : ∀ s∈P,∃ o∈out,o.src=s.src∧o.dst=s.dst
 last:out.getLast? = P.getLast?
theorem InvO.nil:InvO [] []:=⟨.nil,fun _ h=>h,fun _ h=>(by cases h),rfl⟩
theorem InvO.same {P o:List Step} {z m:Step} (h:InvO P (o++[z])) (hm : ∀ p∈P,slP p m) (h1:z.src=m.src) (h2:z.dst=m.dst):InvO (P++[m]) (o++[m]):=by
 have hl:=h.lt;rw [u7t] at hl;refine ⟨?_,fun x hx => ?_,fun s hs => ?_,by simp⟩
 ·rw [u7t];refine ⟨hl.1,u9z _ _,fun a ha b hb => ?_⟩;rw [u3b.1 hb];have h3:=hl.2.2 a ha z (u3b.2 rfl);unfold ltP at h3 ⊢;rw [<- h1,<- h2];exact h3
 ·rcases u3p.1 hx with hx|hx
  ·exact u3p.2 (.inl (h.sub x (u3p.2 (.inl hx))))
  ·exact u3p.2 (.inr hx)
 ·rcases u3p.1 hs with hs|hs
  ·obtain ⟨x,hx,e1,e2⟩:=h.all s hs;rcases u3p.1 hx with hx|hx
   ·exact ⟨x,u3p.2 (.inl hx),e1,e2⟩
   ·rw [u3b.1 hx] at e1 e2;exact ⟨m,u3p.2 (.inr (u3b.2 rfl)),h1▸e1,h2▸e2⟩
  ·rw [u3b.1 hs];exact ⟨m,u3p.2 (.inr (u3b.2 rfl)),rfl,rfl⟩
theorem InvO.new {P out:List Step} {m:Step} (h:InvO P out) (hm : ∀ p∈P,slP p m) (hn : ∀ o z,out=o++[z] -> ¬(z.src=m.src∧z.dst=m.dst)):InvO (P++[m]) (out++[m]):=by
 refine ⟨?_,fun x hx => ?_,fun s hs => ?_,by simp⟩
 ·rw [u7t];refine ⟨h.lt,u9z _ _,fun a ha b hb => ?_⟩;rw [u3b.1 hb];rcases u8n out with rfl|⟨o,z,rfl⟩
  ·cases ha
  ·rw [u8p] at *
   have hz:ltP z m:=(hm z (h.sub z (u3p.2 (.inr (u3b.2 rfl))))).lt (hn o z rfl);rcases u3p.1 ha with ha|ha
   ·have hl:=h.lt;rw [u7t] at hl;exact (hl.2.2 a ha z (u3b.2 rfl)).sl (hm z (h.sub z (u3p.2 (.inr (u3b.2 rfl)))))
   ·rw [u3b.1 ha];exact hz
 ·rcases u3p.1 hx with hx|hx
  ·exact u3p.2 (.inl (h.sub x hx))
  ·exact u3p.2 (.inr hx)
 ·rcases u3p.1 hs with hs|hs
  ·obtain ⟨x,hx,e⟩:=h.all s hs;exact ⟨x,u3p.2 (.inl hx),e⟩
  ·rw [u3b.1 hs];exact ⟨m,u3p.2 (.inr (u3b.2 rfl)),rfl,rfl⟩
theorem InvO.none {P:List Step} (h:InvO P []):P=[]:=by
 have:=h.last;rw [List.getLast?_nil] at this;exact List.getLast?_eq_none_iff.1 this.symm
theorem InvO.left {l P o:List Step} {z:Step} {i:Nat} (h:InvO P (o++[z])) (hR:RiseI slP l P i) {s:Step} (hs:s∈l):s∉P↔slP z s:=by
 have hl:=h.last;rw [List.getLast?_append] at hl;simp only [List.getLast?_singleton,Option.some_or] at hl;obtain ⟨Q,rfl⟩:=List.getLast?_eq_some_iff.1 hl.symm;constructor
 ·exact fun hn=>hR.seg s hs hn z (u3p.2 (.inr (u3b.2 rfl)))
 ·intro hz hm;have hr:=hR.rise;rw [u7t] at hr;rcases u3p.1 hm with hm|hm
  ·exact slP.irr _ (slP.trans _ _ _ hz (hr.2.2 s hm z (u3b.2 rfl)))
  ·rw [u3b.1 hm] at hz;exact slP.irr _ hz
def x7c (a b:Int):List Step->Int->Int
 | [],k=>k
 | s::r,k=>x7c a b r (if s.src=a∧s.dst=b∧s.kind<k then s.kind else k)
def z7p (l:List Step) (o:Step):Step:=⟨o.src,o.dst,x7c o.src o.dst l o.kind⟩
theorem x1g (a b:Int) : ∀ (l:List Step) (k:Int),(x7c a b l k=k ∨ ∃ s∈l,s.src=a∧s.dst=b∧s.kind=x7c a b l k)∧x7c a b l k<=k ∧ ∀ s∈l,s.src=a->s.dst=b->x7c a b l k<=s.kind
 | [],k=>⟨.inl rfl,Int.le_refl _,fun _ h=>(by cases h)⟩
 | s::r,k=>by
   obtain ⟨h1,h2,h3⟩:=x1g a b r (if s.src=a∧s.dst=b∧s.kind<k then s.kind else k);rw [x7c];split at h1
   ·rename_i hc;rw [if_pos hc] at h2 h3 ⊢;refine ⟨?_,by omega,fun t ht e1 e2 => ?_⟩
    ·rcases h1 with h1|⟨t,ht,h4⟩
     ·exact .inr ⟨s,u3g,hc.1,hc.2.1,h1.symm⟩
     ·exact .inr ⟨t,u3n _ ht,h4⟩
    ·rcases u3c.1 ht with rfl|ht
     ·exact h2
     ·exact h3 t ht e1 e2
   ·rename_i hc;rw [if_neg hc] at h2 h3 ⊢;refine ⟨?_,h2,fun t ht e1 e2 => ?_⟩
    ·rcases h1 with h1|⟨t,ht,h4⟩
     ·exact .inl h1
     ·exact .inr ⟨t,u3n _ ht,h4⟩
    ·rcases u3c.1 ht with rfl|ht
     ·have : ¬t.kind<k:=fun h=>hc ⟨e1,e2,h⟩;omega
     ·exact h3 t ht e1 e2
theorem z1m {a b:Int} : ∀ {l:List Step} {k:Int} {j:Nat} (hj:j<l.length),x7c a b (l.take (j+1)) k=(if l[j].src=a∧l[j].dst=b∧l[j].kind<x7c a b (l.take j) k then l[j].kind else x7c a b (l.take j) k)
 | [],_,_,hj=>by simp at hj
 | s::r,k,0,_=>rfl
 | s::r,k,j+1,hj=>by
   rw [u8o,u8o,x7c,x7c];exact z1m (l:=r) (by simpa using hj)
theorem z9z {a b:Int} (ha:a<=9223372036854775806) (hb:b<=9223372036854775806):ordP a b↔ZD a<ZD b:=by
 rw [HK];unfold ZD;split<;>split<;>omega
theorem v0q {a b:Step} (ha:a.src<=9223372036854775806∧a.dst<=9223372036854775806) (hb:b.src<=9223372036854775806∧b.dst<=9223372036854775806) (h:ltP a b):q4q a b:=by
 unfold ltP at h;rw [z9z ha.1 hb.1,z9z ha.2 hb.2] at h;unfold q4q;rcases h with h|⟨e,h⟩
 ·exact .inl h
 ·exact .inr ⟨by rw [e],h⟩
def leSt (s:Step):Prop:=s.src<=9223372036854775806∧s.dst<=9223372036854775806
theorem leSt.ok {s:Step} (h:leSt s):okSt s:=by
 unfold leSt at h;unfold okSt;omega
theorem w2f {l P out:List Step} {i:Nat} (hle : ∀ s∈l,leSt s) (hR:RiseI slP l P i) (hall : ∀ s∈l,s∈P) (h:InvO P out):out.map (z7p l)=WZ l:=by
 refine (HJ (fun s hs=>(hle s hs).ok) ?_ ?_ ?_).symm
 ·rw [u8f];refine h.lt.imp_of_mem fun {a b} ha hb hab => ?_;have h1:=hle a (hR.sub a (h.sub a ha));have h2:=hle b (hR.sub b (h.sub b hb));exact v0q h1 h2 hab
 ·intro s hs;obtain ⟨o,ho,rfl⟩:=u3s.1 hs;have hol:=hR.sub o (h.sub o ho);rcases (x1g o.src o.dst l o.kind).1 with h1|⟨t,ht,e1,e2,e3⟩
  ·have:z7p l o=o:=by unfold z7p;rw [h1]
   rw [this];exact hol
  ·have:z7p l o=t:=JZ e1.symm e2.symm e3.symm;rw [this];exact ht
 ·intro s hs;obtain ⟨o,ho,e1,e2⟩:=h.all s (hall s hs);exact ⟨z7p l o,u3s.2 ⟨o,ho,rfl⟩,e1,e2,(x1g o.src o.dst l o.kind).2.2 s hs e1.symm e2.symm⟩
def Chunk.short (m:Nat):Chunk->Chunk
 | .own e sz es => .own e sz (es.take m)
 | c=>c
def q8n (k m:Nat):Heap->Heap
 | []=>[]
 | (j,c)::r=>(j,bif j==k then c.short m else c)::q8n k m r
theorem x3z (k m:Nat) : ∀ H:Heap,(q8n k m H).map (·.1)=H.map (·.1)
 | []=>rfl
 | (j,c)::r=>by rw [q8n,u4m,u4m,x3z k m r]
theorem x6g {k m:Nat} : ∀ {H:Heap} {j:Nat} {c':Chunk},(j,c')∈q8n k m H -> ∃ c,(j,c)∈H∧(c'=c∨c'=c.short m)
 | [],_,_,h=>by rw [q8n] at h;cases h
 | (j0,c0)::r,j,c',h=>by
   rw [q8n] at h;rcases u3c.1 h with h|h
   ·cases h;refine ⟨c0,u3g,?_⟩;cases j0==k
    ·exact .inl rfl
    ·exact .inr rfl
   ·obtain ⟨c,h1,h2⟩:=x6g h;exact ⟨c,u3n _ h1,h2⟩
theorem Le.short {N:Nat} {sl:List (Nat×LV)} {H:Heap} (k m:Nat):Le N ⟨sl,H⟩ ⟨sl,q8n k m H⟩:=fun σ β a w hr=>by
 have hk:=x3z k m H;refine ⟨σ,β,⟨hr.size,hr.defers,hr.slots,⟨hr.heap.mem,fun j c' hj => ?_,by show ((q8n k m H).map (·.1)).Nodup;rw [hk];exact hr.heap.nodup,fun j hj=>hr.heap.apart j (by rw [<- hk];exact hj),fun j hj j' hj'=>hr.heap.inj j (by rw [<- hk];exact hj) j' (by rw [<- hk];exact hj')⟩⟩,Mem.le_refl σ,Frm.refl _ _,fun _ h h'=>absurd h h',fun b ⟨j,hj,i,hi,hb⟩ => .inl ⟨j,by rw [<- hk];exact hj,i,hi,hb⟩,fun _ _ _=>rfl⟩;obtain ⟨c,h1,h2⟩:=x6g hj;have hc:=hr.heap.chunks j c h1;rcases h2 with rfl|rfl
 ·exact hc
 ·cases c with
  | own e sz es =>
    show (Chunk.own e sz (es.take m)).holds σ β w j;rcases hc with ⟨h3,h4⟩|⟨i,vs,h3,h4,h5,h6,h7,h8,h9⟩
    ·exact .inl ⟨h3,by rw [h4];simp⟩
    ·refine .inr ⟨i,vs,h3,h4,h5,h6,by rw [u4k];omega,h8,fun q x hx=>h9 q x ?_⟩;rw [u5x] at hx;split at hx
     ·exact hx
     ·cases hx
  | obj e cs=>exact hc
  | ext d=>exact hc
theorem ZF (a b:Step):SpecP prog 275 [.agg a.cells,.agg b.cells] (fun r=>r = .bool (slB a b)):=by
 refine sB FK func275 rfl call275 ?_;conv=>whnf
 repeat' (first|(refine cP (GN _ _) ?_;conv=>whnf)|(apply bE<;>intro _<;>first|omega|conv=>whnf))
 all_goals exact RetK.bool (by unfold slB;simp [*])
theorem q1d (l:List Step):(l.map fun s=>AV.agg s.cells).length=l.length:=u3k _
theorem GL (l out:List Step) (hl:l.length<=1000000) (ho:out.length<=1000000):SpecH prog 276 [.p (QL l),.hd 2000 0 out.length] [(2000,.own 139 3 (out.map fun s => .agg s.cells))] (fun r H=>r = .hd 2000 0 out.length∧H=[(2000,.own 139 3 ((out.map (z7p l)).map fun s => .agg s.cells))]):=by
 refine sH PS func276 rfl call276 ?_;conv=>whnf
 have hll:=q1d l;repeat' (refine iM fun _=>?_;conv=>whnf)
 refine LoopK.inv QX (fun i:Nat=>⟨[(0,.p (QL l)),(1,.hd 2000 0 out.length),(9,.p (.int .i64 out.length)),(10,.p (.int .i64 i))],[(2000,.own 139 3 (((out.take i).map (z7p l)++out.drop i).map fun s => .agg s.cells))]⟩) (fun i=>i<=out.length) (fun i=>out.length-i) 0 (Le.of_eq rfl) (u3l _) ?_;intro i hi;rcases u3r i out.length with hi2|hi2
 ·have hT:((out.take i).map (z7p l)).length=i:=by rw [u3k,u4k];omega
  have hD:out.drop i=out[i]::out.drop (i+1):=u4n hi2;have hT2:(out.take (i+1)).map (z7p l)=(out.take i).map (z7p l)++[z7p l out[i]]:=by rw [u3a hi2,u3t];rfl
  have hDl:i+(out.drop (i+1)).length+1=out.length:=by rw [u6w];omega
  have hf0:z7p l out[i]=⟨out[i].src,out[i].dst,x7c out[i].src out[i].dst (l.take l.length) out[i].kind⟩:=by rw [u7w];rfl
  rw [hf0] at hT2;rw [hD];generalize hDe:out.drop (i+1)=D at *
  generalize (out.take i).map (z7p l)=Tk at *
  generalize out[i]=o at *
  conv=>whnf
  repeat' (first|(refine iM fun _=>?_;conv=>whnf)|(apply bD<;>intro _<;>first|omega|conv=>whnf))
  refine LoopK.inv QX (fun j:Nat=>⟨[(0,.p (QL l)),(1,.hd 2000 0 out.length),(5,.p (.int .i64 i)),(9,.p (.int .i64 out.length)),(10,.p (.int .i64 i)),(13,.p (QL l)),(14,.p (.int .i64 (l.map fun s=>AV.agg s.cells).length)),(15,.p (.int .i64 j))],[(2000,.own 139 3 ((Tk++(⟨o.src,o.dst,x7c o.src o.dst (l.take j) o.kind⟩:Step)::D).map fun s => .agg s.cells))]⟩) (fun j=>j<=l.length) (fun j=>l.length-j) 0 (Le.of_eq rfl) (u3l _) ?_;intro j hj;rcases u3r j l.length with hj2|hj2
  ·have hst:=z1m (a:=o.src) (b:=o.dst) (k:=o.kind) hj2;have g:((Tk++(⟨o.src,o.dst,x7c o.src o.dst (l.take j) o.kind⟩:Step)::D).map fun s=>AV.agg s.cells)[i]? = some (.agg (⟨o.src,o.dst,x7c o.src o.dst (l.take j) o.kind⟩:Step).cells):=by
    rw [u4q,u5f (by omega),hT,Nat.sub_self];rfl
   have hset : ∀ k:Int,((Tk++(⟨o.src,o.dst,x7c o.src o.dst (l.take j) o.kind⟩:Step)::D).map fun s=>AV.agg s.cells).set i (.agg (⟨o.src,o.dst,k⟩:Step).cells)=(Tk++(⟨o.src,o.dst,k⟩:Step)::D).map fun s => .agg s.cells:=fun k=>by
    rw [u3t,u3t,u4m,u4m,List.set_append_right _ _ (by rw [u3k,hT];exact u4j _),u3k,hT,Nat.sub_self];rfl
   have hlen:(Tk++(⟨o.src,o.dst,x7c o.src o.dst (l.take j) o.kind⟩:Step)::D).length=out.length:=by rw [u3f,u4t,hT];omega
   have hset2:=hset l[j].kind;generalize x7c o.src o.dst (l.take j) o.kind=fk at *
   generalize hrow:(Tk++(⟨o.src,o.dst,fk⟩:Step)::D).map (fun s=>AV.agg s.cells)=row at *
   conv=>whnf
   repeat' (first|((first|refine dA ?_|refine u3d rfl ?_|(refine iA fun _=>?_)|refine wI ?_|refine u5q i rfl (by omega) ?_|refine u5y i 0 _ (by show (0+i)*3+0=i*3+0;omega) g ?_|refine u5y i 1 _ (by show (0+i)*3+1=i*3+1;omega) g ?_|refine u5y i 2 _ (by show (0+i)*3+2=i*3+2;omega) g ?_);conv=>whnf)|(apply bD<;>intro _<;>first|omega|conv=>whnf))
   all_goals first
    | exact ⟨j+1,by omega,by omega,Le.of_eq (by rw [hst,if_neg (fun hh=>by first|exact absurd hh.1 (by assumption)|exact absurd hh.2.1 (by assumption)|exact absurd hh.2.2 (by assumption)),<- hrow];rfl)⟩
    | (refine u6o i 2 _ (.agg [.int .i64 o.src,.int .i64 o.dst,.int .i64 l[j].kind]) ?_ g ?_ ?_ ?_
       ·show (0+i)*3+2=i*3+2;omega
       ·show 2+1<=3;decide
       ·rfl
       conv=>whnf
       refine wI ?_;conv=>whnf
       exact ⟨j+1,by omega,by omega,Le.of_eq (by rw [hst,if_pos ⟨by assumption,by assumption,by assumption⟩,<- hset2];rfl)⟩)
    | (refine ⟨j+1,by omega,by omega,Le.of_eq ?_⟩;rw [hst,if_neg (fun hh=>by first|exact absurd hh.1 (by assumption)|exact absurd hh.2.1 (by assumption)|exact absurd hh.2.2 (by assumption)),<- hrow];rfl)
  ·have hje:j=l.length:=by omega
   subst hje;conv=>whnf
   repeat' (first|(refine wI ?_;conv=>whnf)|(apply bD<;>intro _<;>first|omega|conv=>whnf))
   exact ⟨i+1,by omega,by omega,Le.of_eq (by rw [hT2,hDe,u4f];rfl)⟩
 ·rw [u3o hi2,u4z hi2,u4e];conv=>whnf
  repeat' (apply bD<;>intro _<;>first|omega|conv=>whnf)
  exact ⟨_,.refl _,rfl,rfl⟩
def st0:Step:=⟨0,0,0⟩
def w2r (l out:List Step) (i k:Nat) (m:Step) (y:AV):St:=⟨[(0,.p (QL l)),(3,.hd 0 0 out.length),(4,.ptr 1 0),(5,.p y),(10,.p (.int .i64 (l.map fun s=>AV.agg s.cells).length)),(11,.p (.int .i64 i)),(13,.p (QL l)),(14,.p (.int .i64 (l.map fun s=>AV.agg s.cells).length)),(15,.p (.int .i64 k))],[(0,.own 139 3 (out.map fun s => .agg s.cells)),(1,.obj 139 [.p (.int .i64 m.src),.p (.int .i64 m.dst),.p (.int .i64 m.kind)])]⟩
theorem GM (l:List Step) (hl:l.length<=1000000) (hle : ∀ s∈l,leSt s):SpecP prog 221 [QL l] (fun r=>r=QL (WZ l)):=by
 refine sB PT func221 rfl call221 ?_;conv=>whnf
 refine iM fun _=>?_;have hll:=q1d l;have fin : ∀ (i:Nat) (P out:List Step),RiseI slP l P i->(∀ s∈l,s∈P)->InvO P out->out.map (z7p l)=WZ l:=fun i P out h1 h2 h3=>w2f hle h1 h2 h3;conv=>whnf
 refine LoopK.inv QX (fun x:Nat×List Step×List Step=>⟨[(0,.p (QL l)),(3,.hd 0 0 x.2.2.length),(10,.p (.int .i64 (l.map fun s=>AV.agg s.cells).length)),(11,.p (.int .i64 x.1))],[(0,.own 139 3 (x.2.2.map fun s => .agg s.cells))]⟩) (fun x=>x.1<=l.length∧RiseI slP l x.2.1 x.1∧InvO x.2.1 x.2.2) (fun x=>l.length-x.1) (0,[],[])
  (Le.mk [(0,.own 139 3 [])] (by simp [Chunk.new0];rfl) (by simp) (by simp) (.cons (.refl _) (.cons (.nil u3g) (.cons (.refl _) (.cons (.refl _) .nil)))) (.new u3g .nil)) ⟨u3l _,RiseI.zero,InvO.nil⟩ ?_
 rintro ⟨i,P,out⟩ ⟨h2,h3,h4⟩;simp only at h2 h3 h4 ⊢;have hPl:=h3.len slP.irr;have hol:out.length<=P.length:=UZ (h4.lt.imp fun {a b} h e=>by subst e;exact h.elim (ordP.irr _) fun h=>ordP.irr _ h.2) h4.sub;have hoa:=q1d out;rcases u3r i l.length with hi|hi;rotate_left 1
 ·have hF:=fin i P out h3 (fun s hs=>(h3.all slP.irr (by omega)).2 s |>.2 hs) h4;have hS:=GL l out hl (by omega);rw [hF] at hS;conv=>whnf
  repeat' (first|(apply bD<;>intro _<;>first|omega|conv=>whnf)|(refine CallK.heap [(2000,0)] 0 (by repeat' (first|exact u4s|refine u4w ?_ ?_|exact u4v _|exact u4p Sub.nils|exact u4p (Sub.tt rfl)|exact u4p (Sub.ff rfl)|exact u4p (Sub.int (by omega)))) (by refine u4x (j:=0) rfl rfl ?_ ?_;exact CSub.refl _;exact u4c) hS rfl rfl ?_;rintro l' H' ⟨rfl,rfl⟩;conv=>whnf))
  exact ⟨_,.hd rfl (by rw [<- hF];simp),rfl⟩
 conv=>whnf
 repeat' (first|(refine iM fun _=>?_;conv=>whnf)|(apply bD<;>intro _<;>first|omega|conv=>whnf))
 refine LoopK.inv QX (fun x:Nat×Option Step=>w2r l out i x.1 (x.2.getD st0) (.bool x.2.isSome)) (fun x=>x.1<=l.length∧LeastI slP l P x.1 x.2) (fun x=>l.length-x.1) (0,none) (Le.mk [] (by simp) (by simp) (by simp [w2r]) (.cons (.refl _) (.cons (.refl _) (.cons (.refl _) (.cons (.p (Sub.ff rfl)) (.cons (.refl _) (.cons (.refl _) (.cons (.refl _) (.cons (.refl _) (.cons (.refl _) .nil))))))))) (.cons rfl (.refl _) (.cons rfl (.refl _) .nil))) ⟨u3l _,LeastI.zero⟩ ?_;rintro ⟨k,o⟩ ⟨h5,h6⟩;simp only at h5 h6 ⊢;rcases u3r k l.length with hk|hk
 ·rcases u8n out with rfl|⟨o',z,rfl⟩
  ·have hP:=h4.none;subst hP;have hnot:True->l[k]∉([]:List Step):=fun _ h=>by cases h
   have hmem:False->l[k]∈([]:List Step):=fun h=>h.elim;cases o with
   | none =>
     simp only [w2r,u7o,u7r];conv=>whnf
     repeat' (first|((first|(refine iM fun _=>?_)|refine dA ?_|refine u3d rfl ?_|(refine iA fun _=>?_)|refine wI ?_);conv=>whnf)|(apply bD<;>intro _<;>first|omega|conv=>whnf)|(apply bN<;>intro _<;>conv=>whnf))
     all_goals first
      | (exfalso;simp_all;done)
      | exact ⟨(k+1,none),⟨by simp only;omega,h6.old hk (hmem (by assumption))⟩,by simp only;omega,Le.of_eq rfl⟩
      | exact ⟨(k+1,some l[k]),⟨by simp only;omega,h6.first hk (hnot trivial)⟩,by simp only;omega,(Le.mk [] (by simp) (by simp) (by simp [w2r]) (.cons (.refl _) (.cons (.refl _) (.cons (.refl _) (.cons (.p (Sub.tt rfl)) (.cons (.refl _) (.cons (.refl _) (.cons (.refl _) (.cons (.refl _) (.cons (.refl _) .nil))))))))) (.cons rfl (.refl _) (.cons rfl (.refl _) .nil)))⟩
   | some m =>
     simp only [w2r,u6v,u8w];have hS2:=ZF l[k] m;conv=>whnf
     repeat' (first|((first|(refine iM fun _=>?_)|refine dA ?_|refine u3d rfl ?_|(refine iA fun _=>?_)|refine wI ?_|refine cP hS2 ?_);conv=>whnf)|(apply bD<;>intro _<;>first|omega|conv=>whnf)|(apply bN<;>intro _<;>conv=>whnf)|(apply bB<;>intro _<;>conv=>whnf))
     all_goals first
      | (exfalso;simp_all;done)
      | exact ⟨(k+1,some m),⟨by simp only;omega,h6.old hk (hmem (by assumption))⟩,by simp only;omega,Le.of_eq rfl⟩
      | exact ⟨(k+1,some l[k]),⟨by simp only;omega,h6.less slP.trans hk (hnot trivial) (show slB l[k] m=true by assumption)⟩,by simp only;omega,(Le.mk [] (by simp) (by simp) (by simp [w2r]) (.cons (.refl _) (.cons (.refl _) (.cons (.refl _) (.cons (.p (Sub.tt rfl)) (.cons (.refl _) (.cons (.refl _) (.cons (.refl _) (.cons (.refl _) (.cons (.refl _) .nil))))))))) (.cons rfl (.refl _) (.cons rfl (.refl _) .nil)))⟩
      | (have hb:slB l[k] m=false:=by assumption
         exact ⟨(k+1,some m),⟨by simp only;omega,h6.more slP.total hk (fun h=>by unfold slP at h;rw [hb] at h;cases h)⟩,by simp only;omega,Le.of_eq rfl⟩)
  ·rw [u8p] at *
   have hleft:=h4.left h3 (u3i hk);have hnot:slB z l[k]=true->l[k]∉P:=fun h=>hleft.2 h;have hmem:slB z l[k]=false->l[k]∈P:=fun h=>u6r fun hn=>by
    have:=hleft.1 hn;unfold slP at this;rw [h] at this;cases this
   have g:((o'++[z]).map fun s=>AV.agg s.cells)[o'.length]? = some (.agg z.cells):=by simp
   cases o with
   | none =>
     simp only [w2r,u7o,u7r];conv=>whnf
     repeat' (first|((first|(refine iM fun _=>?_)|refine dA ?_|refine u3d rfl ?_|(refine iA fun _=>?_)|refine wI ?_|refine u5q o'.length (by simp) (by simp) ?_|refine u5y o'.length 0 _ (by show (0+o'.length)*3+0=o'.length*3+0;omega) g ?_|refine cP (ZF z l[k]) ?_);conv=>whnf)|(apply bD<;>intro _<;>first|omega|conv=>whnf)|(apply bN<;>intro _<;>conv=>whnf))
     all_goals first
      | (exfalso;simp_all;done)
      | exact ⟨(k+1,none),⟨by simp only;omega,h6.old hk (hmem (by assumption))⟩,by simp only;omega,Le.of_eq rfl⟩
      | exact ⟨(k+1,some l[k]),⟨by simp only;omega,h6.first hk (hnot (by assumption))⟩,by simp only;omega,(Le.mk [] (by simp) (by simp) (by simp [w2r]) (.cons (.refl _) (.cons (.refl _) (.cons (.refl _) (.cons (.p (Sub.tt rfl)) (.cons (.refl _) (.cons (.refl _) (.cons (.refl _) (.cons (.refl _) (.cons (.refl _) .nil))))))))) (.cons rfl (.refl _) (.cons rfl (.refl _) .nil)))⟩
   | some m =>
     simp only [w2r,u6v,u8w];have hS2:=ZF l[k] m;conv=>whnf
     repeat' (first|((first|(refine iM fun _=>?_)|refine dA ?_|refine u3d rfl ?_|(refine iA fun _=>?_)|refine wI ?_|refine u5q o'.length (by simp) (by simp) ?_|refine u5y o'.length 0 _ (by show (0+o'.length)*3+0=o'.length*3+0;omega) g ?_|refine cP (ZF z l[k]) ?_|refine cP hS2 ?_);conv=>whnf)|(apply bD<;>intro _<;>first|omega|conv=>whnf)|(apply bN<;>intro _<;>conv=>whnf)|(apply bB<;>intro _<;>conv=>whnf))
     all_goals first
      | (exfalso;simp_all;done)
      | exact ⟨(k+1,some m),⟨by simp only;omega,h6.old hk (hmem (by assumption))⟩,by simp only;omega,Le.of_eq rfl⟩
      | exact ⟨(k+1,some l[k]),⟨by simp only;omega,h6.less slP.trans hk (hnot (by assumption)) (show slB l[k] m=true by assumption)⟩,by simp only;omega,(Le.mk [] (by simp) (by simp) (by simp [w2r]) (.cons (.refl _) (.cons (.refl _) (.cons (.refl _) (.cons (.p (Sub.tt rfl)) (.cons (.refl _) (.cons (.refl _) (.cons (.refl _) (.cons (.refl _) (.cons (.refl _) .nil))))))))) (.cons rfl (.refl _) (.cons rfl (.refl _) .nil)))⟩
      | (have hb:slB l[k] m=false:=by assumption
         exact ⟨(k+1,some m),⟨by simp only;omega,h6.more slP.total hk (fun h=>by unfold slP at h;rw [hb] at h;cases h)⟩,by simp only;omega,Le.of_eq rfl⟩)
 ·obtain rfl:k=l.length:=by omega
  cases o with
  | none =>
    have hF:=fin i P out h3 (by have:=h6;rw [LeastI,u7w] at this;exact this) h4;have hS:=GL l out hl (by omega);rw [hF] at hS;simp only [w2r,u7o,u7r];conv=>whnf
    repeat' (first|((first|(refine iM fun _=>?_)|refine dA ?_|refine u3d rfl ?_|refine aD ?_|refine bP ?_|refine wI ?_);conv=>whnf)|(apply bD<;>intro _<;>first|omega|conv=>whnf)|(apply bN<;>intro _<;>conv=>whnf)|(refine CallK.heap [(2000,0)] 0 (by repeat' (first|exact u4s|refine u4w ?_ ?_|exact u4v _|exact u4p Sub.nils|exact u4p (Sub.tt rfl)|exact u4p (Sub.ff rfl)|exact u4p (Sub.int (by omega)))) (by refine u4x (j:=0) rfl rfl ?_ ?_;exact CSub.refl _;exact u4c) hS rfl rfl ?_;rintro l' H' ⟨rfl,rfl⟩;conv=>whnf))
    all_goals first
     | (exfalso;simp_all;done)
     | exact ⟨_,.hd rfl (by rw [<- hF];simp),rfl⟩
  | some m =>
    have hm : ∀ p∈P,slP p m:=fun p hp=>h3.seg m h6.1 h6.2.1 p hp;have hR:=h3.snoc h6;simp only [w2r,u6v,u8w];rcases u8n out with rfl|⟨o',z,rfl⟩
    ·have hI:=h4.new hm (fun o z h=>by simp at h);conv=>whnf
     repeat' (first|((first|(refine iM fun _=>?_)|refine dA ?_|refine u3d rfl ?_|refine aD ?_|refine bP ?_|refine wI ?_|refine u6q (by simp) rfl (by show (0+1)*24<=140737488355328;decide) (by show 0+1<=9223372036854775807;decide) (fun x hx=>by rcases u3b.1 hx with rfl;exact ⟨rfl,rfl⟩) ?_);conv=>whnf)|(apply bD<;>intro _<;>first|omega|conv=>whnf)|(apply bN<;>intro _<;>conv=>whnf))
     all_goals first
      | (exfalso;simp_all;done)
      | exact ⟨(i+1,P++[m],[m]),⟨by simp only;omega,hR,hI⟩,by simp only;omega,Le.of_eq rfl⟩
    ·rw [u8p] at *
     have g:((o'++[z]).map fun s=>AV.agg s.cells)[o'.length]? = some (.agg z.cells):=by simp
     have hdl:((o'++[z]).map fun s=>AV.agg s.cells).take o'.length=o'.map fun s=>AV.agg s.cells:=by rw [u3t,List.take_append_of_le_length (by simp),u3o (by simp)]
     have hlz:(o'++[z]).length=o'.length+1:=by simp
     have hma:(o'++[m]).map (fun s=>AV.agg s.cells)=(o'.map fun s=>AV.agg s.cells)++[.agg m.cells]:=by simp
     have hmb:((o'++[z])++[m]).map (fun s=>AV.agg s.cells)=((o'++[z]).map fun s=>AV.agg s.cells)++[.agg m.cells]:=by simp
     have hsame:=fun h1 h2=>h4.same hm (z:=z) h1 h2;have hnew:=fun hn : ¬(z.src=m.src∧z.dst=m.dst)=>h4.new hm (fun o y h=>by
      have:=List.append_inj_right' h rfl;have hy:z=y:=by simpa using this
      exact hy▸hn)
     conv=>whnf
     repeat' (first|((first|(refine iM fun _=>?_)|refine u3d rfl ?_|refine aD ?_|refine bP ?_|refine wI ?_|refine DrawK.le (id:=16) (Le.short 0 o'.length) (x4k QX mixed (by kernel_rfl) ?_)|refine dA ?_|refine u5q o'.length (by simp) (by simp) ?_|refine u5y o'.length 0 _ (by show (0+o'.length)*3+0=o'.length*3+0;omega) g ?_|refine u5y o'.length 1 _ (by show (0+o'.length)*3+1=o'.length*3+1;omega) g ?_|refine SlK.mk 0 o'.length rfl (by simp) (by omega) (by simp) ?_|refine u6q (n:=o'.length-0) (by simp) rfl (by show (o'.length-0+1)*24<=140737488355328;omega) (by show o'.length-0+1<=9223372036854775807;omega) (fun x hx=>by rcases u3b.1 hx with rfl;exact ⟨rfl,rfl⟩) ?_|refine u6q (n:=(o'++[z]).length) (by simp) rfl (by simp only [hlz];show (o'.length+1+1)*24<=140737488355328;omega) (by simp only [hlz];show o'.length+1+1<=9223372036854775807;omega) (fun x hx=>by rcases u3b.1 hx with rfl;exact ⟨rfl,rfl⟩) ?_);conv=>whnf)|(apply bD<;>intro _<;>first|omega|conv=>whnf)|(apply bN<;>intro _<;>conv=>whnf))
     all_goals first
      | contradiction
      | (refine ⟨(i+1,P++[m],o'++[m]),⟨by simp only;omega,hR,hsame (by assumption) (by assumption)⟩,by simp only;omega,Le.of_eq ?_⟩
         rw [hma,<- hdl,u3f];rfl)
      | (refine ⟨(i+1,P++[m],(o'++[z])++[m]),⟨by simp only;omega,hR,hnew (fun hh=>by first|exact absurd hh.1 (by assumption)|exact absurd hh.2 (by assumption))⟩,by simp only;omega,Le.of_eq ?_⟩
         rw [hmb,show ((o'++[z])++[m]).length=(o'++[z]).length+1 by simp];rfl)
theorem w3k (f:Pr) (n:Str):q0y (flatU f) f.fin n=atB f n:=by
 unfold q0y atB;rw [<- show (flatU f).map RI.s=flL f.body from PH 1 0 false f.body,List.find?_map];have hq:(fun t:S=>t.labels.any fun s=>n==s)∘RI.s=fun x:RI=>inS x.s.labels n:=by
  funext x;exact (q8j _ _).symm
 rw [hq];cases (flatU f).find? fun x=>inS x.s.labels n with
 | some x=>rfl
 | none =>
   simp only [Option.map_none];rw [q8j];cases f.fin.any fun s=>n==s<;>rfl
theorem YV {p:Pg} (hm:UB p=true) {j:Nat} {f:Pr} (hj:p.procs[j]? = some f):(flatU f).length<=200:=by
 rw [show flatU f=fuL 1 0 false f.body from rfl,UD];have:=DC _ _ (u4d hj);have:=ZM hm;omega
def z5v (f:Pr):AV := .agg [VM (flatU f),eStrs f.fin]
theorem BM (p:Pg) (j:Nat) (f:Pr) (h:QM p=true) (hj:p.procs[j]? = some f) (it:Item) (hi:it∈itsOf p j f):SpecP prog 274 [z5v f,.agg it.s.cells] (fun r=>r=QR (VV (sheetOf p) f it)):=by
 refine sB HM func274 rfl call274 ?_;conv=>whnf
 have hm:=(QK h).1;have hlU:=YV hm hj;have hLl:=WA (flatU f);have hB:=q8b (by omega) (z7m hm hj hi);have hI1:=WH (flatU f) it.s.id false it.next;rw [q6u hm hj (q1m hi),u4h] at hI1;have hI2:=WH (flatU f) it.s.id true it.next;rw [q6u hm hj (q1m hi),u4y] at hI2;have hI3:=WH (flatU f) it.s.id false it.s.id;rw [q6u hm hj (q1m hi),u4h] at hI3;have hA:=GT (flatU f) it.s.id;rw [x1n hm hj hi] at hA;have hBe:=q5k (flatU f) f.fin it.s.name;rw [w3k] at hBe;have hx:it.s.kind=7 -> ∃ u,(sheetOf p).l[(it.loop-1).toNat]? = some u∧SpecP prog 322 [VM (flatU f),.int .i64 it.loop] (fun r=>r = .int .i64 u.next):=fun hk=>by
  have h1:=(NU h hj).1 it hi hk;have h2:=(q6p hi).2;obtain ⟨u,hu,hui⟩:=NO hj (k:=(it.loop-1).toNat) (by omega) (by omega);have h3:=z9g h hj (by omega) (by omega) hu;have h4:=q8b (l:=flatU f) (by omega) (z7m hm hj hui);rw [show u.s.id=it.loop by omega] at h4;exact ⟨u,hu,h4⟩
 generalize flatU f=L at *
 repeat' (first|((first|refine dA ?_|refine u3d rfl ?_|refine aD ?_|refine bP ?_|refine cP hB ?_|(refine CallK.pure hI1 (.cons (Sub.refl _) (.cons (Sub.refl _) (.cons (Sub.ff rfl) (.cons (Sub.refl _) .nil)))) ?_;rintro _ rfl)|(refine CallK.pure hI2 (.cons (Sub.refl _) (.cons (Sub.refl _) (.cons (Sub.tt rfl) (.cons (Sub.refl _) .nil)))) ?_;rintro _ rfl)|(refine CallK.pure hI3 (.cons (Sub.refl _) (.cons (Sub.refl _) (.cons (Sub.ff rfl) (.cons (Sub.refl _) .nil)))) ?_;rintro _ rfl)|refine cP hA ?_|refine cP hBe ?_|refine BsK.pureL rfl rfl ?_|(obtain ⟨u,hu1,hu2⟩:=hx (by assumption);refine cP hu2 ?_));conv=>whnf)|(apply bD<;>intro _<;>first|omega|conv=>whnf))
 all_goals first
  | (exfalso;omega)
  | exact RetK.p (by unfold VV;rw [if_neg (by omega),if_neg (by omega),if_pos (by omega),hu1];rfl)
  | exact RetK.p (by unfold VV;rw [if_pos (by omega)];rfl)
  | exact RetK.p (by unfold VV;rw [if_neg (by omega),if_pos (by omega)];rfl)
  | exact RetK.p (by unfold VV;rw [if_neg (by omega),if_neg (by omega),if_neg (by omega),if_pos (by omega)];rfl)
  | exact RetK.p (by unfold VV;rw [if_neg (by omega),if_neg (by omega),if_neg (by omega),if_neg (by omega),if_pos (by omega)];rfl)
  | exact RetK.p (by unfold VV;rw [if_neg (by omega),if_neg (by omega),if_neg (by omega),if_neg (by omega),if_neg (by omega),if_pos (by omega)];rfl)
  | exact RetK.p (by unfold VV;rw [if_neg (by omega),if_neg (by omega),if_neg (by omega),if_neg (by omega),if_neg (by omega),if_neg (by omega)];rfl)
theorem v7j {p:Pg} (h:UB p=true) {j:Nat} {f:Pr} (hj:p.procs[j]? = some f):(itsOf p j f).length=(flatU f).length ∧ ∀ (k:Nat) (hk:k<(flatU f).length) (hk':k<(itsOf p j f).length),(itsOf p j f)[k].s=(flatU f)[k].s:=by
 obtain ⟨m,hr⟩:=q1s h hj;have hpar:=v7r (j:Nat) 1 0 false f.body (-1) 0 (QN p.procs j) hr;have hlen:(itsOf p j f).length=(flatU f).length:=by simpa [itsOf,flatU] using u5j length hpar
 refine ⟨hlen,fun k hk hk' => ?_⟩;have h1:=u5j (fun l=>l[k]?) hpar;have e1:itL (j:Nat) 0 (-1) 0 (QN p.procs j) f.body=itsOf p j f:=rfl;have e2:fuL 1 0 false f.body=flatU f:=rfl;rw [e1,e2] at h1;simp only [u4q,u3h hk,u3h hk',u6n] at h1;exact u5j Prod.fst (u6y h1)
theorem v2k {p:Pg} (h:QM p=true) {j:Nat} {f:Pr} (hj:p.procs[j]? = some f) : ∀ s∈QG p j f,leSt s:=fun s hs=>by
 obtain ⟨h1,h2⟩:=(NU h hj).2.1 s hs;obtain ⟨_,_,hcn⟩:=ZV h;obtain ⟨_,_,_,hlen,hsp⟩:=QJ p;obtain ⟨_,_,hle,_⟩:=hsp j f hj;unfold okI at h2;unfold leSt;omega
def w6x (p:Pg) (j:Nat) (f:Pr) (k:Nat):List Step:=⟨0,v8b p j f,1⟩::((itsOf p j f).take k).flatMap fun it=>(VV (sheetOf p) f it).map (Step.mk it.s.id · 1)
theorem z3k {p:Pg} {j:Nat} {f:Pr} {k:Nat} (hk:k<(itsOf p j f).length):w6x p j f (k+1)=w6x p j f k++(VV (sheetOf p) f (itsOf p j f)[k]).map (Step.mk (itsOf p j f)[k].s.id · 1):=by
 unfold w6x;rw [u3a hk,u7v,u7i];simp
theorem x0z {p:Pg} {j:Nat} {f:Pr} {k:Nat} (hk:(itsOf p j f).length<=k):w6x p j f k=QG p j f:=by
 unfold w6x;rw [u3o hk];rfl
theorem x0w (p:Pg) (j:Nat) (f:Pr) : ∀ k,(w6x p j f k).length<=1+2*k
 | 0=>by unfold w6x;simp
 | k+1=>by
   rcases u3r k (itsOf p j f).length with hk|hk
   ·have:=x0w p j f k;have h2:=(z2z (sheetOf p) f (itsOf p j f)[k]).2.1;rw [z3k hk,u3f,u3k];omega
   ·have:=x0w p j f k;rw [x0z (by omega)];rw [x0z hk] at this;omega
theorem YB (p:Pg) (j:Nat) (f:Pr) (h:QM p=true) (hj:p.procs[j]? = some f):SpecP prog 220 [z5v f] (fun r=>r=QL (QQ p j f).real):=by
 refine sB HN func220 rfl call220 ?_;conv=>whnf
 have hm:=(QK h).1;have hlU:=YV hm hj;have hLl:=WA (flatU f);obtain ⟨hil,hat⟩:=v7j hm hj;have hI:=WH (flatU f) 0 false (-1);rw [z5y hm hj,<- w8o h hj] at hI;have hG:=fun it hi=>BM p j f h hj it hi;have hreal:(QQ p j f).real=WZ (QG p j f):=rfl;have hle:=v2k h hj;have hrl:(QG p j f).length<=1000:=by
  rw [<- x0z (u4j _)];have:=x0w p j f (itsOf p j f).length;omega
 have hS:=GM (QG p j f) (by omega) hle;rw [hreal];repeat' ((first|(refine iM fun _=>?_)|refine u3d rfl ?_|refine aD ?_|(refine CallK.pure hI (.cons (Sub.refl _) (.cons (Sub.refl _) (.cons (Sub.ff rfl) (.cons (Sub.refl _) .nil)))) ?_;rintro _ rfl)|refine u8x (fun x hx=>by rcases u3b.1 hx with rfl;rfl) rfl ?_);conv=>whnf)
 refine LoopK.inv QX (fun x:Nat=>⟨[(1,.p (.ip [VM (flatU f),eStrs f.fin])),(3,.hd 0 0 (w6x p j f x).length),(14,.p (VM (flatU f))),(15,.p (.int .i64 ((flatU f).map fun i=>AV.agg i.cells).length)),(16,.p (.int .i64 x))],[(0,.own 139 3 ((w6x p j f x).map fun s => .agg s.cells))]⟩) (fun x=>x<=(flatU f).length) (fun x=>(flatU f).length-x) 0 (Le.of_eq rfl) (u3l _) ?_;intro k hk;have htl:=x0w p j f k;rcases u3r k (flatU f).length with hk2|hk2
 ·have hki:k<(itsOf p j f).length:=by omega
  have hst:=z3k hki;have hGk:=hG _ (u3i hki);have hsk:=hat k hk2 hki;have hgc:=(z2z (sheetOf p) f (itsOf p j f)[k]).2.1;have hid:(itsOf p j f)[k].s.id=(flatU f)[k].s.id:=by rw [hsk]
  rw [hsk] at hGk;rw [hid] at hst;generalize VV (sheetOf p) f (itsOf p j f)[k]=gs at *
  have hgl:(gs.map (AV.int .i64)).length=gs.length:=u3k _;generalize w6x p j f k=acc at *
  have hst2:(w6x p j f (k+1)).length=acc.length+gs.length:=by rw [hst,u3f,u3k]
  conv=>whnf
  repeat' (first|((first|(refine iM fun _=>?_)|refine u3d rfl ?_|(refine iA fun _=>?_)|refine cP hGk ?_);conv=>whnf)|(apply bD<;>intro _<;>first|omega|conv=>whnf))
  refine LoopK.inv QX (fun q:Nat=>⟨[(1,.p (.ip [VM (flatU f),eStrs f.fin])),(3,.hd 0 0 (acc.length+q)),(5,.p (.ip (flatU f)[k].cells)),(14,.p (VM (flatU f))),(15,.p (.int .i64 ((flatU f).map fun i=>AV.agg i.cells).length)),(16,.p (.int .i64 k)),(23,.p (QR gs)),(24,.p (.int .i64 (gs.map (AV.int .i64)).length)),(25,.p (.int .i64 q))],[(0,.own 139 3 ((acc++(gs.take q).map (Step.mk (flatU f)[k].s.id · 1)).map fun s => .agg s.cells))]⟩) (fun q=>q<=gs.length) (fun q=>gs.length-q) 0 (Le.of_eq (by rw [u7b,u8k,u4e];rfl)) (u3l _) ?_;intro q hq;rcases u3r q gs.length with hq2|hq2
  ·have e1:acc++(gs.take (q+1)).map (Step.mk (flatU f)[k].s.id · 1)=(acc++(gs.take q).map (Step.mk (flatU f)[k].s.id · 1))++[⟨(flatU f)[k].s.id,gs[q],1⟩]:=by rw [u3a hq2,u3t,<- u4f];rfl
   have e2:(acc++(gs.take q).map (Step.mk (flatU f)[k].s.id · 1)).length=acc.length+q:=by rw [u3f,u3k,u4k];omega
   generalize acc++(gs.take q).map (Step.mk (flatU f)[k].s.id · 1)=row at *
   have hrw:=q1d row;conv=>whnf
   repeat' (first|((first|refine u3d rfl ?_|refine aD ?_|refine bP ?_|(refine iA fun _=>?_)|refine wI ?_|refine u6q (by omega) rfl (by show (acc.length+q+1)*24<=140737488355328;omega) (by show acc.length+q+1<=9223372036854775807;omega) (fun x hx=>by rcases u3b.1 hx with rfl;exact ⟨rfl,rfl⟩) ?_);conv=>whnf)|(apply bD<;>intro _<;>first|omega|conv=>whnf))
   all_goals exact ⟨q+1,by omega,by omega,Le.of_eq (by rw [e1,u3t];rfl)⟩
  ·obtain rfl:q=gs.length:=by omega
   rw [u7w];conv=>whnf
   repeat' (first|(refine wI ?_;conv=>whnf)|(apply bD<;>intro _<;>first|omega|conv=>whnf))
   all_goals exact ⟨k+1,by omega,by omega,Le.of_eq (by rw [hst2,hst];rfl)⟩
 ·rw [x0z (by omega)];conv=>whnf
  repeat' (first|(refine ZB hS (.cons (.hd rfl (by simp)) .nil) ?_;rintro _ rfl;conv=>whnf)|(apply bD<;>intro _<;>first|omega|conv=>whnf))
  all_goals exact RetK.p rfl
theorem w6q {p:Pg} {n:Str} {k:Nat} {f:Pr} (hw:q9j p n=some (QQ p k f)) (hk:p.procs[k]? = some f):QM p=true∧q6e p n=(f,true):=by
 obtain ⟨k',f',hk',he,hc,_,hfi⟩:=DU hw;have hk2:(QQ p k f).j=(QQ p k' f').j:=by rw [he]
 have hk3:k=k':=hk2;subst hk3;rw [hk] at hk';obtain rfl:=u6y hk';refine ⟨hc,?_⟩;unfold q6e YC;rw [(QK hc).1,hfi];rfl
theorem w1e {p:Pg} {n:Str} (hw:q9j p n=none):QM p=false∨q6e p n=(Pr0,false):=by
 cases hc:QM p with
 | false=>exact .inl rfl
 | true =>
   refine .inr ?_;unfold q6e;rw [(QK hc).1,w1i hw hc];rfl
theorem UE (p:Pg) (hf:Fit p) (n:Str) (k:Nat) (f:Pr) (hw:q9j p n=some (QQ p k f)) (hk:p.procs[k]? = some f):SpecP prog 140 [.agg p.cells,.str n] (fun r=>r = .tup [z5v f,.bool true]):=by
 refine sB JG func140 rfl call140 ?_;conv=>whnf
 obtain ⟨hc,hM⟩:=w6q hw hk;have hP:=KF p n;rw [hM] at hP;have hR:=YT p hf;rw [hc] at hR;have hF:=XU f;rw [VH (QK hc).1 (u4d hk)] at hF;repeat' (first|((first|refine dA ?_|refine u3d rfl ?_|refine cP hP ?_|refine cP hR ?_|refine cP hF ?_);conv=>whnf)|(apply bN<;>intro _<;>conv=>whnf))
 all_goals first
  | contradiction
  | exact ⟨_,.p (Sub.tup (.cons (Sub.refl _) (.cons (Sub.tt rfl) .nil))),rfl⟩
theorem UA (p:Pg) (hf:Fit p) (n:Str) (hw:q9j p n=none):SpecP prog 140 [.agg p.cells,.str n] (fun r=>r = .tup [.agg [VM [],eStrs []],.bool false]):=by
 refine sB JG func140 rfl call140 ?_;conv=>whnf
 have hP:=KF p n;have hR:=YT p hf;have hN:=w1e hw;generalize (q6e p n).1=q at *
 have hN:QM p=false∨(q6e p n).2=false:=hN.imp id fun h=>by rw [h]
 generalize (q6e p n).2=ok at *
 generalize QM p=ch at *
 repeat' (first|((first|refine dA ?_|refine u3d rfl ?_|refine cP hP ?_|refine cP hR ?_);conv=>whnf)|(apply bN<;>intro _<;>conv=>whnf))
 all_goals first
  | exact ⟨_,.p (Sub.tup (.cons (Sub.agg (.cons Sub.nils (.cons Sub.nils .nil))) (.cons (Sub.ff rfl) .nil))),rfl⟩
  | (exfalso;simp_all;done)
section
variable {p:Pg} {j:Nat} {f:Pr} {n:Str}
end
theorem x9o {p:Pg} (h:QM p=true) {f:Pr} (hf:f∈p.procs) : ∃ k,p.procs[k]? = some f∧q9j p f.name=some (QQ p k f):=by
 cases hw:q9j p f.name with
 | none =>
   exfalso;unfold q9j at hw;rw [h,u4y] at hw;cases hq:p.procs.find? (fun g=>g.name==f.name) with
   | none =>
     have:=u6p.1 hq _ hf;simp at this
   | some g=>rw [hq] at hw;cases hw
 | some w =>
   obtain ⟨k,g,hkj,rfl,_,hgn,_⟩:=DU hw;have he:g=f:=NL (x2b h) g (u4d hkj) f hf hgn;subst he;exact ⟨k,hkj,rfl⟩
theorem v0b {p:Pg} (h:QM p=true) {id:Int} (hid:id∈v8p p 0) : ∃ k f t,p.procs[k]? = some f∧t∈flL f.body∧t.id=id∧q9j p (UQ p id).2.1=some (QQ p k f):=by
 have hm:=(QK h).1;unfold v8p at hid;obtain ⟨x,hx,rfl⟩:=u3s.1 hid;have hx:=(u4i.1 hx).1;rw [q5e hm] at hx;obtain ⟨g,hg,hxg⟩:=u4o.1 hx;rw [<- VH hm hg] at hxg;unfold UQ;cases hr:x1j p x.s.id with
 | none =>
   exfalso;unfold x1j at hr;have h1:=u7f.1 hr g hg;unfold z1p at h1;rw [u9k,u6p] at h1;exact h1 x hxg (by simp)
 | some y =>
   obtain ⟨y,nm⟩:=y;unfold x1j at hr;obtain ⟨f,hf,h1⟩:=u7j hr;unfold z1p at h1;rw [u7p] at h1;obtain ⟨z,h2,h3⟩:=h1;obtain rfl:z=y:=u5j Prod.fst h3;have hnm:f.name=nm:=u5j Prod.snd h3;obtain ⟨k,hk,hw⟩:=x9o h hf;refine ⟨k,f,z.s,hk,w4v h hk (u5i h2),by simpa using u7y h2,?_⟩;show q9j p nm=_;rw [<- hnm];exact hw
theorem w3e {p:Pg} (h:QM p=true) {id:Int} (h1:1<=id) (h2:id<=(sheetOf p).l.length) : ∃ k f it,p.procs[k]? = some f∧it∈itsOf p k f∧it.s.id=id∧q9j p (UQ p id).2.1=some (QQ p k f)∧(UQ p id).2.2=true∧v8g p id=(it.next,true):=by
 obtain ⟨_,_,_,hlen,_⟩:=QJ p;obtain ⟨j,f,hj,h3,h4⟩:=z8e p.procs (id-1).toNat (by omega);obtain ⟨it,h5,h6⟩:=NO hj h3 h4;have h7:=z9g h hj h3 h4 h5;have h8:it.s.id=id:=by omega
 have hm:=(QK h).1;obtain ⟨x,hx,hxs⟩:=q9l (q1m h6);have hid:id∈v8p p 0:=by
  unfold v8p;refine u3s.2 ⟨x,u4i.2 ⟨?_,rfl⟩,by rw [hxs,h8]⟩;rw [q5e hm];exact u4o.2 ⟨f,u4d hj,hx⟩
 obtain ⟨k,g,t,hk,ht,hti,hw⟩:=v0b h hid;have hb:=ZW hm hk ht;have hbl:QN p.procs k+cntL g.body<=(sheetOf p).l.length:=by
  obtain ⟨_,_,_,_,hsp⟩:=QJ p;have:=(hsp k g hk).2.2.1;omega
 obtain ⟨it2,h9,h10⟩:=NO hk (k:=(id-1).toNat) (by omega) (by omega);rw [h5] at h9;obtain rfl:=u6y h9;refine ⟨k,g,it,hk,h10,h8,hw,?_,?_⟩
 ·cases ho:(UQ p id).2.2 with
  | true=>rfl
  | false =>
    exfalso;unfold UQ at ho;cases hr:x1j p id with
    | some y=>rw [hr] at ho;cases ho
    | none =>
      unfold x1j at hr;have h11:=u7f.1 hr f (u4d hj);unfold z1p at h11;rw [u9k,u6p] at h11;rw [VH hm (u4d hj)] at h11;exact h11 x hx (by rw [hxs,h8];simp)
 ·unfold v8g;rw [h,h5,u5z h1,u5z h2];rfl
theorem w3a {p:Pg} (h:QM p=true) {id:Int} (h1 : ¬(1<=id∧id<=(sheetOf p).l.length)):(UQ p id).2.2=false∧v8g p id=(0,false):=by
 have hm:=(QK h).1;constructor
 ·unfold UQ;cases hr:x1j p id with
  | none=>rfl
  | some y =>
    exfalso;unfold x1j at hr;obtain ⟨f,hf,h2⟩:=u7j hr;unfold z1p at h2;rw [u7p] at h2;obtain ⟨z,h3,_⟩:=h2;obtain ⟨k,hk,rfl⟩:=u5w.1 hf;have hk':p.procs[k]? = some p.procs[k]:=u3h hk;have hb:=ZW hm hk' (w4v h hk' (u5i h3));have hz:z.s.id=id:=by simpa using u7y h3
    obtain ⟨_,_,_,hlen,hsp⟩:=QJ p;have:=(hsp k _ hk').2.2.1;omega
 ·unfold v8g;have e:(decide (1<=id)&&decide (id<=(sheetOf p).l.length))=false:=by
   rw [u8r];intro e;rw [u4u,u4b,u4b] at e;exact h1 e
  rw [h,e];rfl
theorem q9o {p:Pg} {n:Str} {w:Way} (h:q9j p n=some w):ofR p n=w.real:=by
 unfold ofR;rw [h]
theorem x8n {p:Pg} {n:Str} (h:q9j p n=none):ofR p n=[]:=by
 unfold ofR;rw [h]
theorem v4p (p:Pg) (n:Str):(ofR p n).length<=100000:=by
 cases hw:q9j p n with
 | none=>rw [x8n hw];exact u3l _
 | some w =>
   obtain ⟨k,f,hk,he,hc,_⟩:=DU hw;rw [q9o hw,he];exact z6e hc hk
theorem q6y {F:List Step} {a b x:Int}:Rch (frR F a []) b x↔Rch (stR F) b x:=by
 have e:frR F a []=stR F:=by
  funext u v;exact propext ⟨fun h=>h.2,fun h=>⟨.inr rfl,h⟩⟩
 rw [e]
theorem z1i {steps:List Step} {at_:Int} {but es:List Int} (h : ∀ x,x∈es↔Rch (frR steps at_ but) at_ x) (hd:es.Nodup):es.length<=steps.length+1:=by
 have:=UZ hd (m:=at_::steps.map Step.dst) fun s hs=>by
  have h1:=(h s).1 hs;cases h1 with
  | refl=>exact u3g
  | tail _ h2 =>
    obtain ⟨_,t,ht,_,rfl⟩:=h2;exact u3n _ (u3s.2 ⟨t,ht,rfl⟩)
 simpa using this
theorem w9i {p:Pg} (h:QM p=true) {j:Nat} {f:Pr} (hj:p.procs[j]? = some f) {y:Int}:y∈w1g (QQ p j f)↔0<y∧Rch (wR p j f) 0 y:=by
 have hn:(QQ p j f).n=(cntL f.body+2:Nat):=rfl;have hpl : ∀ i:Nat,1<=i->i<=cntL f.body->XY p j (cntL f.body+2:Nat) i=QN p.procs j+i:=fun i h1 h2=>by
  unfold XY loI;rw [if_neg (by omega),if_neg (by omega)];omega
 have hix : ∀ i:Nat,1<=i->i<=cntL f.body->(ixI p j f (QN p.procs j+i)).toNat=i:=fun i h1 h2=>by
  unfold ixI VL loI hiI
  (repeat' split)<;>omega
 unfold w1g;rw [u3s];constructor
 ·rintro ⟨i,hi,rfl⟩;obtain ⟨h1,h2⟩:=u4i.1 hi;rw [hn] at h1;have h3:=List.mem_range'_1.1 h1;have e1:=hpl i (by omega) (by omega);have e2:=hix i (by omega) (by omega);show 0<XY p j (cntL f.body+2:Nat) i∧Rch (wR p j f) 0 (XY p j (cntL f.body+2:Nat) i);rw [e1];refine ⟨by omega,(x8g h hj (.inr (.inr ⟨by omega,by omega⟩))).1 ?_⟩;rw [e2];exact h2
 ·rintro ⟨h0,h1⟩;have hp:plP p j f y:=by
   cases h1 with
   | refl=>exact .inl rfl
   | tail _ h2 =>
     obtain ⟨t,ht,_,rfl⟩:=h2;exact (UP h hj t ht).2
  have h2:=(x8g h hj hp).2 h1;rcases hp with hp|hp|⟨h3,h4⟩
  ·omega
  ·omega
  obtain ⟨i,hi⟩ : ∃ i:Nat,y=QN p.procs j+i:=⟨(y-QN p.procs j).toNat,by omega⟩;subst hi;rw [hix i (by omega) (by omega)] at h2;refine ⟨i,u4i.2 ⟨List.mem_range'_1.2 ⟨by omega,?_⟩,h2⟩,hpl i (by omega) (by omega)⟩;rw [hn];omega
theorem w9o {p:Pg} {j:Nat} {f:Pr}:(w1g (QQ p j f)).Pairwise ordP:=by
 have hn:(QQ p j f).n=(cntL f.body+2:Nat):=rfl;unfold w1g;rw [u8f];have h1:((List.range' 1 ((QQ p j f).n-2).toNat).filter fun i=>(QQ p j f).live.getD i false).Pairwise fun a b=>a<b:=List.Pairwise.sublist u9m List.pairwise_lt_range';refine h1.imp_of_mem fun {a b} ha hb hab => ?_;have h2:=List.mem_range'_1.1 (u4i.1 ha).1;have h3:=List.mem_range'_1.1 (u4i.1 hb).1;rw [hn] at h2 h3;rw [HK];right;show XY p j (cntL f.body+2:Nat) a ≠ -1∧XY p j (cntL f.body+2:Nat) b ≠ -1∧XY p j (cntL f.body+2:Nat) a<XY p j (cntL f.body+2:Nat) b;unfold XY loI
 (repeat' split)<;>omega
theorem z8g (p:Pg) (n:Str):(WJ p n).Pairwise ordP ∧ ∀ y,y∈WJ p n↔0<y∧Rch (stR (ofR p n)) 0 y:=by
 cases hw:q9j p n with
 | none =>
   have e:WJ p n=[]:=by unfold WJ;rw [hw]
   rw [e,x8n hw];refine ⟨.nil,fun y=>⟨fun h=>(by cases h),fun ⟨h0,h1⟩ => ?_⟩⟩;cases h1 with
   | refl=>omega
   | tail _ h2=>obtain ⟨t,ht,_⟩:=h2;cases ht
 | some w =>
   obtain ⟨k,f,hk,rfl,hc,_⟩:=DU hw;have e:WJ p n=w1g (QQ p k f):=by unfold WJ;rw [hw]
   rw [e,q9o hw];exact ⟨w9o,fun y=>w9i hc hk⟩
def u2g (l:List Int) (r:AV):Prop := ∃ m,r=QR m∧m.Pairwise ordP ∧ ∀ s,s∈m↔s∈l
def befR (a b:List Int):Prop := ∃ x∈a,∀ y∈b,ordP x y
theorem befR.irr (a:List Int) : ¬befR a a:=fun ⟨x,hx,h⟩=>ordP.irr x (h x hx)
theorem befR.trans (a b c:List Int) (h1:befR a b) (h2:befR b c):befR a c:=by
 obtain ⟨x,hx,h⟩:=h1;obtain ⟨y,hy,h'⟩:=h2;exact ⟨x,hx,fun z hz=>ordP.trans _ _ _ (h y hy) (h' z hz)⟩
def tlsP (p:Pg) (j:Nat) (f:Pr) (l:List Int):Prop:=l.Pairwise ordP ∧ ∃ r,TrapP p j f l r
def trpX (p:Pg) (j:Nat) (f:Pr) (x:Int):Prop := ¬Rch (wR p j f) x (-1) ∧ ∀ y,Rch (wR p j f) x y->Rch (wR p j f) y x
section
variable {p:Pg} {j:Nat} {f:Pr}
theorem w7y {l m:List Int} (hl:tlsP p j f l) (hm:tlsP p j f m) {x:Int} (h1:x∈l) (h2:x∈m):l=m:=by
 obtain ⟨h3,r,h4⟩:=hl;obtain ⟨h5,s,h6⟩:=hm;have h7:=((h4.mem x).1 h1).2;have h8:=((h6.mem x).1 h2).2;refine z6q h3 h5 fun b => ?_;rw [h4.mem,h6.mem];exact and_congr u9n ⟨fun h=>(h8.trans h7.symm).trans h,fun h=>(h7.trans h8.symm).trans h⟩
theorem z3y {i k:Int} (hi:0<=i∧i<k) (hk:k<(cntL f.body+2:Nat)):ordP (XY p j (cntL f.body+2:Nat) i) (XY p j (cntL f.body+2:Nat) k):=by
 rw [HK];unfold XY loI
 (repeat' split)<;>omega
theorem w7h {part:List Int} {i:Nat}:(DV (XY p j (cntL f.body+2:Nat)) part i (cntL f.body+2)).Pairwise ordP:=by
 unfold DV;rw [u8f];have h1:((List.range (cntL f.body+2)).filter fun j=>part.getD j 0==(i:Int)).Pairwise fun a b=>a<b:=List.Pairwise.sublist u9m List.pairwise_lt_range;refine h1.imp_of_mem fun {a b} ha hb hab => ?_;have h2:=u6c.1 (u4i.1 hb).1;exact z3y (by omega) (by omega)
theorem z4q (h:QM p=true) (hj:p.procs[j]? = some f) {l:List Int} (hl:l∈trapsW (QQ p j f) f):l.Pairwise ordP:=by
 obtain ⟨i,_,_,_,rfl⟩:=q4c.1 hl;exact w7h
theorem w7f (h:QM p=true) (hj:p.procs[j]? = some f):(trapsW (QQ p j f) f).Pairwise befR ∧ ∀ l,l∈trapsW (QQ p j f) f↔tlsP p j f l:=by
 constructor
 ·have e:trapsW (QQ p j f) f=((List.range (cntL f.body+2)).filter (q4s (WT (QQ p j f) f) (q9y (cntL f.body+2) (WT (QQ p j f) f) (prsW (QQ p j f) f)))).map fun i=>DV (XY p j (cntL f.body+2:Nat)) (WT (QQ p j f) f) i (cntL f.body+2):=by
   unfold trapsW q2z;rw [x0x];rfl
  rw [e,u8f];have h1:((List.range (cntL f.body+2)).filter (q4s (WT (QQ p j f) f) (q9y (cntL f.body+2) (WT (QQ p j f) f) (prsW (QQ p j f) f)))).Pairwise fun a b=>a<b:=List.Pairwise.sublist u9m List.pairwise_lt_range;refine h1.imp_of_mem fun {a b} ha hb hab => ?_;obtain ⟨h2,h3⟩:=u4i.1 ha;have h2:=u6c.1 h2;unfold q4s at h3;rw [u4u,u6m] at h3;refine ⟨XY p j (cntL f.body+2:Nat) a,x3j.2 ⟨a,h2,h3.1,rfl⟩,fun y hy => ?_⟩;obtain ⟨k,hk,hpk,rfl⟩:=x3j.1 hy;have h4:=(q4y (p:=p) (j:=j) (f:=f) (i:=(k:Int)) (by omega)).le _ (.refl _);rw [<- q4j,hpk] at h4;exact z3y (by omega) (by omega)
 ·intro l;constructor
  ·intro hl;exact ⟨z4q h hj hl,z3o h hj hl⟩
  ·rintro ⟨h1,r,h2⟩;obtain ⟨l',h3,h4⟩:=v5u h hj h2.pl h2.cl h2.n0 h2.nx;have:l=l':=z6q h1 (z4q h hj h3) fun b=>by rw [h2.mem,h4]
   rw [this];exact h3
theorem v6s (h:QM p=true) (hj:p.procs[j]? = some f) {a b:Int} (hr:wR p j f a b):b≠0:=by
 obtain ⟨s,hs,_,rfl⟩:=hr;have h1:=((NU h hj).2.1 s (((GH h hj).2 s).1 hs)).2;unfold okI at h1;omega
theorem v7t (h:QM p=true) (hj:p.procs[j]? = some f) {a b:Int} (ha:a≠0) (hr:Rch (wR p j f) a b):b≠0:=by
 cases hr with
 | refl=>exact ha
 | tail _ h2=>exact v6s h hj h2
theorem v5g (h:QM p=true) (hj:p.procs[j]? = some f) {x:Int} (hx:plP p j f x) (h0:x≠0) (ht:trpX p j f x) {m:List Int} (hm1:m.Pairwise ordP) (hm2 : ∀ s,s∈m↔Rch (wR p j f) x s):tlsP p j f m:=by
 obtain ⟨h1,h2⟩:=ht;refine ⟨hm1,x,hx,fun b => ?_,fun b c hb hbc => ?_,fun hs => ?_,fun hs=>h1 hs.1⟩
 ·rw [hm2];exact ⟨fun h3=>⟨v7s h hj hx h3,h3,h2 b h3⟩,fun h3=>h3.2.1⟩
 ·have h3:Rch (wR p j f) x c := .tail hb.1 hbc;exact ⟨h3,h2 c h3⟩
 ·exact v7t h hj h0 hs.1 rfl
theorem w7j (h:QM p=true) (hj:p.procs[j]? = some f) {l:List Int} (hl:tlsP p j f l) {x:Int} (hx:x∈l):trpX p j f x∧(QN p.procs j:Int)+1<=x∧x<=(QN p.procs j+cntL f.body:Nat):=by
 obtain ⟨_,r,ht⟩:=hl;obtain ⟨hpl,hs⟩:=(ht.mem x).1 hx;have hcl : ∀ y,Rch (wR p j f) x y->sccP (wR p j f) r y:=fun y hy=>hy.closed (S:=fun y=>sccP (wR p j f) r y) (fun a b ha hab=>ht.cl a b ha hab) hs;refine ⟨⟨fun hr=>ht.nx (hcl _ hr),fun y hy=>((hcl y hy).symm.trans hs).1⟩,?_⟩;rcases hpl with rfl|rfl|h1
 ·exact absurd hs ht.n0
 ·exact absurd hs ht.nx
 ·exact h1
structure TrI (p:Pg) (j:Nat) (f:Pr) (k:Nat) (out:List (List Int)):Prop where
 ok : ∀ l∈out,tlsP p j f l ∧ ∃ x∈((flatU f).take k).map (fun y=>y.s.id),x∈l
 has : ∀ x∈((flatU f).take k).map (fun y=>y.s.id),trpX p j f x -> ∃ l∈out,x∈l
 ord:out.Pairwise befR
theorem TrI.zero:TrI p j f 0 []:=⟨fun _ h=>(by cases h),fun x h=>(by simp at h),.nil⟩
theorem x7a (h:QM p=true) (hj:p.procs[j]? = some f) {k:Nat} (hk:k<(flatU f).length):(flatU f)[k].s.id=(QN p.procs j:Int)+1+k:=by
 have h1:=x7e (QK h).1 hj;have h2:=u5j (fun l=>l[k]?) h1;simp only [u4q,u3h hk,u6n] at h2;have hc:(flatU f).length=cntL f.body:=by
  have:=u5j length h1;unfold KT at this;simpa using this
 unfold KT at h2;rw [u4q,u8j (by omega)] at h2;simp only [u6n,u6d] at h2;rw [h2];omega
theorem v3p (h:QM p=true) (hj:p.procs[j]? = some f) {k:Nat} {x:Int} (hx:x∈((flatU f).take k).map (fun y=>y.s.id)):(QN p.procs j:Int)+1<=x∧x<=(QN p.procs j:Int)+k:=by
 obtain ⟨y,hy,rfl⟩:=u3s.1 hx;obtain ⟨i,hi,rfl⟩:=u5w.1 hy;rw [u4k] at hi;rw [u9g,x7a h hj (by omega)];omega
theorem w4w (h:QM p=true) (hj:p.procs[j]? = some f) {k:Nat} {x:Int} (hk:k<=(flatU f).length) (h1:(QN p.procs j:Int)+1<=x) (h2:x<=(QN p.procs j:Int)+k):x∈((flatU f).take k).map (fun y=>y.s.id):=by
 refine u3s.2 ⟨(flatU f)[(x-QN p.procs j-1).toNat],u5w.2 ⟨(x-QN p.procs j-1).toNat,by rw [u4k];omega,by rw [u9g]⟩,?_⟩;rw [x7a h hj];omega
theorem TrI.same {k:Nat} {out:List (List Int)} (hk:k<(flatU f).length) (hI:TrI p j f k out) (hx:trpX p j f (flatU f)[k].s.id -> ∃ l∈out,(flatU f)[k].s.id∈l):TrI p j f (k+1) out:=by
 have e:((flatU f).take (k+1)).map (fun y=>y.s.id)=((flatU f).take k).map (fun y=>y.s.id)++[(flatU f)[k].s.id]:=by rw [u3a hk,u3t];rfl
 refine ⟨fun l hl => ?_,fun x h1 h2 => ?_,hI.ord⟩
 ·obtain ⟨h1,x,h2,h3⟩:=hI.ok l hl;exact ⟨h1,x,by rw [e];exact u3p.2 (.inl h2),h3⟩
 ·rw [e] at h1;rcases u3p.1 h1 with h1|h1
  ·exact hI.has x h1 h2
  ·rw [u3b.1 h1] at h2 ⊢;exact hx h2
theorem TrI.more (h:QM p=true) (hj:p.procs[j]? = some f) {k:Nat} {out:List (List Int)} (hk:k<(flatU f).length) (hI:TrI p j f k out) (ht:trpX p j f (flatU f)[k].s.id) (hn : ∀ l∈out,(flatU f)[k].s.id∉l) {m:List Int} (hm1:m.Pairwise ordP) (hm2 : ∀ s,s∈m↔Rch (wR p j f) (flatU f)[k].s.id s):TrI p j f (k+1) (out++[m]):=by
 have e:((flatU f).take (k+1)).map (fun y=>y.s.id)=((flatU f).take k).map (fun y=>y.s.id)++[(flatU f)[k].s.id]:=by rw [u3a hk,u3t];rfl
 have hid:=x7a h hj hk;have hlen:(flatU f).length=cntL f.body:=UD 1 0 false f.body;have hT:tlsP p j f m:=v5g h hj (.inr (.inr ⟨by omega,by omega⟩)) (by omega) ht hm1 hm2;have hxm:(flatU f)[k].s.id∈m:=(hm2 _).2 .refl;refine ⟨fun l hl => ?_,fun x h1 h2 => ?_,?_⟩
 ·rcases u3p.1 hl with hl|hl
  ·obtain ⟨h1,x,h2,h3⟩:=hI.ok l hl;exact ⟨h1,x,by rw [e];exact u3p.2 (.inl h2),h3⟩
  ·rw [u3b.1 hl];exact ⟨hT,_,by rw [e];exact u3p.2 (.inr (u3b.2 rfl)),hxm⟩
 ·rw [e] at h1;rcases u3p.1 h1 with h1|h1
  ·obtain ⟨l,h3,h4⟩:=hI.has x h1 h2;exact ⟨l,u3p.2 (.inl h3),h4⟩
  ·rw [u3b.1 h1];exact ⟨m,u3p.2 (.inr (u3b.2 rfl)),hxm⟩
 ·rw [u7t];refine ⟨hI.ord,u9z _ _,fun a ha b hb => ?_⟩;rw [u3b.1 hb];obtain ⟨_,x,h2,h3⟩:=hI.ok a ha;refine ⟨x,h3,fun z hz => ?_⟩;obtain ⟨h4,h5,h6⟩:=w7j h hj hT hz;have h7:=v3p h hj h2;rw [HK];refine .inr ⟨by omega,by omega,?_⟩;rcases Int.lt_or_le (QN p.procs j+k:Int) z with h8|h8
  ·omega
  ·obtain ⟨l,h9,h10⟩:=hI.has z (w4w h hj (by omega) h5 h8) h4;have h11:=w7y (hI.ok l h9).1 hT h10 hz;exact absurd (by rw [h11];exact hxm) (hn l h9)
theorem TrI.all (h:QM p=true) (hj:p.procs[j]? = some f) {k:Nat} {out:List (List Int)} (hk:k=(flatU f).length) (hI:TrI p j f k out):out=trapsW (QQ p j f) f:=by
 obtain ⟨h1,h2⟩:=w7f h hj;have hlen:(flatU f).length=cntL f.body:=UD 1 0 false f.body;refine HG befR.irr befR.trans hI.ord h1 fun l => ?_;rw [h2];constructor
 ·exact fun hl=>(hI.ok l hl).1
 ·intro hl;obtain ⟨_,r,ht⟩:=id hl;have hr:r∈l:=(ht.mem r).2 ⟨ht.pl,.refl _⟩;obtain ⟨h3,h4,h5⟩:=w7j h hj hl hr;obtain ⟨l',h6,h7⟩:=hI.has r (w4w h hj (by omega) h4 (by omega)) h3;rw [w7y hl (hI.ok l' h6).1 hr h7];exact h6
theorem TrI.len (h:QM p=true) (hj:p.procs[j]? = some f) {k:Nat} {out:List (List Int)} (hk:k<=(flatU f).length) (hI:TrI p j f k out):out.length<=k:=by
 have hnd:out.Nodup:=by
  unfold Nodup;refine hI.ord.imp fun {a b} hab e => ?_;subst e;exact befR.irr _ hab
 classical
 let g:List Int->Int:=fun l=>if hl:l∈out then Classical.choose (hI.ok l hl).2 else 0;have hg : ∀ l∈out,g l∈((flatU f).take k).map (fun y=>y.s.id)∧g l∈l:=fun l hl=>by
  have e:g l=Classical.choose (hI.ok l hl).2:=dif_pos hl;rw [e];exact Classical.choose_spec (hI.ok l hl).2
 have h1:(out.map g).Nodup:=by
  unfold Nodup;rw [u8f];refine hnd.imp_of_mem fun {a b} ha hb hab e=>hab ?_;exact w7y (hI.ok a ha).1 (hI.ok b hb).1 (hg a ha).2 (by rw [e];exact (hg b hb).2)
 have:=UZ h1 (m:=((flatU f).take k).map (fun y=>y.s.id)) fun s hs=>by
  obtain ⟨l,hl,rfl⟩:=u3s.1 hs;exact (hg l hl).1
 rw [u3k,u3k,u4k] at this;omega
end
theorem z5o {l m:List Step} (hok : ∀ s∈l,okSt s) (h : ∀ s,s∈l↔s∈m):WZ l=WZ m:=by
 obtain ⟨h1,h2,h3⟩:=FO (l:=m) fun s hs=>hok s ((h s).2 hs);exact HJ hok h1 (fun s hs=>(h s).2 (h2 s hs)) fun s hs=>h3 s ((h s).1 hs)
theorem q5w (p:Pg) (hf:Fit p) (n:Str):SpecP prog 139 [.agg p.cells,.str n] (fun r=>r=QL (ofR p n)):=by
 refine sB ME func139 rfl call139 ?_;conv=>whnf
 cases hw:q9j p n with
 | none =>
   rw [x8n hw];have hW:=UA p hf n hw;repeat' (first|((first|refine u3d rfl ?_|refine cP hW ?_);conv=>whnf)|(apply bN<;>intro _<;>conv=>whnf))
   all_goals first
    | contradiction
    | exact ⟨_,.p Sub.nils,rfl⟩
 | some w =>
   obtain ⟨k,f,hk,rfl,hc,_⟩:=DU hw;rw [q9o hw];have hW:=UE p hf n k f hw hk;have hB:=YB p k f hc hk;repeat' (first|((first|refine u3d rfl ?_|refine cP hW ?_|refine cP hB ?_);conv=>whnf)|(apply bN<;>intro _<;>conv=>whnf))
   all_goals first
    | contradiction
    | exact RetK.p rfl
theorem KK (l:List Int) (hl:l.length<=1000000000):SpecP prog 51 [QR l] (fun r=>u2g l r):=by
 refine sB PY func51 rfl call51 ?_;conv=>whnf
 refine iM fun _=>?_;have hll:(l.map (AV.int .i64)).length=l.length:=u3k _;conv=>whnf
 refine LoopK.inv QX (fun x:Nat×List Int=>⟨[(0,.p (QR l)),(3,.hd 0 0 x.2.length),(9,.p (.int .i64 (l.map (AV.int .i64)).length)),(10,.p (.int .i64 x.1))],[(0,.own 3 1 (x.2.map (.int .i64)))]⟩) (fun x=>x.1<=l.length∧RiseI ordP l x.2 x.1) (fun x=>l.length-x.1) (0,[])
  (Le.mk [(0,.own 3 1 [])] (by simp [Chunk.new0];rfl) (by simp) (by simp) (.cons (.refl _) (.cons (.nil u3g) (.cons (.refl _) (.cons (.refl _) .nil)))) (.new u3g .nil)) ⟨u3l _,RiseI.zero⟩ ?_
 rintro ⟨i,out⟩ ⟨h2,h3⟩;simp only at h2 h3 ⊢;have hol:=h3.len ordP.irr;rcases u3r i l.length with hi|hi
 ·conv=>whnf
  repeat' (first|(refine iM fun _=>?_;conv=>whnf)|(apply bD<;>intro _<;>first|omega|conv=>whnf))
  refine LoopK.inv QX (fun x:Nat×Option Int=>⟨[(0,.p (QR l)),(3,.hd 0 0 out.length),(4,.p (.int .i64 (x.2.getD 0))),(5,.p (.bool x.2.isSome)),(9,.p (.int .i64 (l.map (AV.int .i64)).length)),(10,.p (.int .i64 i)),(12,.p (QR l)),(13,.p (.int .i64 (l.map (AV.int .i64)).length)),(14,.p (.int .i64 x.1))],[(0,.own 3 1 (out.map (.int .i64)))]⟩) (fun x=>x.1<=l.length∧LeastI ordP l out x.1 x.2) (fun x=>l.length-x.1) (0,none) (Le.mk [] (by simp) (by simp) (by simp) (.cons (.refl _) (.cons (.refl _) (.cons (.refl _) (.cons (.p (Sub.ff rfl)) (.cons (.refl _) (.cons (.refl _) (.cons (.refl _) (.cons (.refl _) (.cons (.refl _) .nil))))))))) (.cons rfl (.refl _) .nil)) ⟨u3l _,LeastI.zero⟩ ?_;rintro ⟨k,o⟩ ⟨h4,h5⟩;simp only at h4 h5 ⊢;rcases u3r k l.length with hk|hk
  ·have hin:JS out l[k]=true->l[k]∈out:=ZI.1;have hno:JS out l[k]=false->l[k]∉out:=fun h hm=>by rw [ZI.2 hm] at h;cases h
   cases o with
   | none =>
     simp only [u7o,u7r];conv=>whnf
     repeat' (first|((first|(refine iA fun _=>?_)|refine wI ?_|(refine QD (XG out (l[k]'hk)) (.cons (.hd rfl (by simp)) (.cons (.p (Sub.refl _)) .nil)) (by rintro _ rfl;rfl) ?_;rintro _ rfl));conv=>whnf)|(apply bD<;>intro _<;>first|omega|conv=>whnf)|(apply bN<;>intro _<;>conv=>whnf))
     all_goals first
      | (exfalso;simp_all;done)
      | exact ⟨(k+1,none),⟨by simp only;omega,h5.old hk (hin (by assumption))⟩,by simp only;omega,Le.of_eq rfl⟩
      | exact ⟨(k+1,some l[k]),⟨by simp only;omega,h5.first hk (hno (by assumption))⟩,by simp only;omega,(Le.mk [] (by simp) (by simp) (by simp) (.cons (.refl _) (.cons (.refl _) (.cons (.refl _) (.cons (.p (Sub.tt rfl)) (.cons (.refl _) (.cons (.refl _) (.cons (.refl _) (.cons (.refl _) (.cons (.refl _) .nil))))))))) (.cons rfl (.refl _) .nil))⟩
   | some m =>
     simp only [u6v,u8w];conv=>whnf
     repeat' (first|((first|(refine iA fun _=>?_)|refine wI ?_|(refine QD (XG out (l[k]'hk)) (.cons (.hd rfl (by simp)) (.cons (.p (Sub.refl _)) .nil)) (by rintro _ rfl;rfl) ?_;rintro _ rfl)|refine cP (GN (l[k]'hk) m) ?_);conv=>whnf)|(apply bD<;>intro _<;>first|omega|conv=>whnf)|(apply bN<;>intro _<;>conv=>whnf)|(apply bB<;>intro _<;>conv=>whnf))
     all_goals first
      | (exfalso;simp_all;done)
      | exact ⟨(k+1,some m),⟨by simp only;omega,h5.old hk (hin (by assumption))⟩,by simp only;omega,Le.of_eq rfl⟩
      | exact ⟨(k+1,some l[k]),⟨by simp only;omega,h5.less ordP.trans hk (hno (by assumption)) (by assumption)⟩,by simp only;omega,(Le.mk [] (by simp) (by simp) (by simp) (.cons (.refl _) (.cons (.refl _) (.cons (.refl _) (.cons (.p (Sub.tt rfl)) (.cons (.refl _) (.cons (.refl _) (.cons (.refl _) (.cons (.refl _) (.cons (.refl _) .nil))))))))) (.cons rfl (.refl _) .nil))⟩
      | (have hb:v0k l[k] m=false:=by assumption
         exact ⟨(k+1,some m),⟨by simp only;omega,h5.more ordP.total hk (fun h=>by unfold ordP at h;rw [hb] at h;cases h)⟩,by simp only;omega,Le.of_eq rfl⟩)
  ·obtain rfl:k=l.length:=by omega
   cases o with
   | none =>
     simp only [u7o,u7r];conv=>whnf
     repeat' (first|((first|refine u3d rfl ?_|refine aD ?_|refine bP ?_|refine wI ?_);conv=>whnf)|(apply bD<;>intro _<;>first|omega|conv=>whnf)|(apply bB<;>intro _<;>conv=>whnf))
     all_goals first
      | (exfalso;simp_all;done)
      | exact ⟨(i+1,out),⟨by simp only;omega,h3.stay h5⟩,by simp only;omega,Le.of_eq rfl⟩
   | some m =>
     simp only [u6v,u8w];conv=>whnf
     repeat' (first|((first|refine u3d rfl ?_|refine aD ?_|refine bP ?_|refine wI ?_|refine ZZ (by simp) (by simp;omega) ?_);conv=>whnf)|(apply bD<;>intro _<;>first|omega|conv=>whnf)|(apply bB<;>intro _<;>conv=>whnf))
     all_goals first
      | (exfalso;simp_all;done)
      | exact ⟨(i+1,out++[m]),⟨by simp only;omega,h3.snoc h5⟩,by simp only;omega,Le.of_eq (by simp only [u3f,u3t];rfl)⟩
 ·obtain ⟨h6,h7⟩:=h3.all ordP.irr (by omega);conv=>whnf
  repeat' (apply bD<;>intro _<;>first|omega|conv=>whnf)
  exact ⟨_,.hd rfl (by simp),out,rfl,h6,h7⟩
theorem q5z (p:Pg) (hf:Fit p) (n:Str):SpecP prog 79 [.agg p.cells,.str n] (fun r=>r=QR (WJ p n)):=by
 refine sB MA func79 rfl call79 ?_;conv=>whnf
 have hR:=q5w p hf n;have hol:=v4p p n;have hF:=YP (ofR p n) 0 [] (by omega);obtain ⟨hlo,hlm⟩:=z8g p n;generalize WJ p n=Q at *
 repeat' ((first|(refine iM fun _=>?_)|refine cP hR ?_|(refine CallK.pure hF (.cons (Sub.refl _) (.cons (Sub.refl _) (.cons Sub.nils .nil))) ?_;rintro _ ⟨es,rfl,hes,hnd⟩));conv=>whnf)
 have hel:=z1i hes hnd;have hml:(es.map (AV.int .i64)).length=es.length:=u3k _;refine LoopK.inv QX (fun x:Nat×List Int=>⟨[(5,.hd 0 0 x.2.length),(11,.p (QR es)),(12,.p (.int .i64 (es.map (AV.int .i64)).length)),(13,.p (.int .i64 x.1))],[(0,.own 3 1 (x.2.map (.int .i64)))]⟩) (fun x=>x.1<=es.length∧x.2=(es.take x.1).filter (fun y=>decide (0<y))∧x.2.length<=x.1) (fun x=>es.length-x.1) (0,[])
  (Le.mk [(0,.own 3 1 [])] (by simp [Chunk.new0];rfl) (by simp) (by simp) (.cons (.nil u3g) (.cons (.refl _) (.cons (.refl _) (.cons (.refl _) .nil)))) (.new u3g .nil)) ⟨u3l _,by simp,by simp⟩ ?_
 rintro ⟨j,acc⟩ ⟨h2,h3,h4⟩;simp only at h2 h3 h4 ⊢;rcases u3r j es.length with hj|hj
 ·have h6:=u3a hj;conv=>whnf
  repeat' (first|((first|refine u3d rfl ?_|refine aD ?_|refine bP ?_|(refine iA fun _=>?_)|refine wI ?_|refine ZZ (by simp) (by simp;omega) ?_);conv=>whnf)|(apply bD<;>intro _<;>first|omega|conv=>whnf))
  all_goals first
   | exact ⟨(j+1,acc++[es[j]]),⟨by simp only;omega,by simp only;rw [h6,u4a,<- h3,u5u (by simp;omega)];rfl,by simp;omega⟩,by simp only;omega,Le.of_eq (by simp only [u3f,u3t];rfl)⟩
   | exact ⟨(j+1,acc),⟨by simp only;omega,by simp only;rw [h6,u4a,<- h3,u5v (by simp;omega)];simp,by simp only;omega⟩,by simp only;omega,Le.of_eq rfl⟩
 ·rw [u3o hj] at h3;conv=>whnf
  repeat' (first|(refine ZB (KK acc (by omega)) (.cons (.hd rfl (by simp)) .nil) ?_;rintro _ ⟨m,rfl,hm1,hm2⟩;conv=>whnf)|(apply bD<;>intro _<;>first|omega|conv=>whnf))
  all_goals exact RetK.p (by
   have:m=Q:=z6q hm1 hlo fun s=>by
    rw [hm2,h3,u4i,hes,q6y,hlm,u4b,and_comm]
   rw [this])
end Go.Ab
