/- LAW: a procedure's traps, told by what they are. -/
import Derived.Test.YtlhblcpmfnkjpaaGreatDomA15
import Derived.Test.YtlhblcpmfnkjpaaGreatDomA16
import Derived.Test.YtlhblcpmfnkjpaaGreatDomA17
import Derived.Test.YtlhblcpmfnkjpaaGreatDomA20
import Derived.Test.YtlhblcpmfnkjpaaGreatDomA21
set_option linter.unusedSimpArgs false
set_option linter.unusedVariables false
set_option maxRecDepth 100000
set_option maxHeartbeats 16000000
open List (Nodup append_nil length length_append length_map length_take mem_cons_of_mem mem_cons_self pairwise_map take_of_length_le take_succ_eq_append_getElem)
open Nat (zero_le)
namespace Go.Ab
open Go.Proofs
def befR (a b:List Int):Prop := ∃ x∈a,∀ y∈b,ordP x y
theorem befR.irr (a:List Int) : ¬befR a a:=fun ⟨x,hx,h⟩=>ordP.irr x (h x hx)
theorem befR.trans (a b c:List Int) (h1:befR a b) (h2:befR b c):befR a c:=by
 obtain ⟨x,hx,h⟩:=h1;obtain ⟨y,hy,h'⟩:=h2;exact ⟨x,hx,fun z hz=>ordP.trans _ _ _ (h y hy) (h' z hz)⟩
def tlsP (p:Pg) (j:Nat) (f:Pr) (l:List Int):Prop:=l.Pairwise ordP ∧ ∃ r,TrapP p j f l r
def trpX (p:Pg) (j:Nat) (f:Pr) (x:Int):Prop := ¬Rch (wR p j f) x (-1) ∧ ∀ y,Rch (wR p j f) x y->Rch (wR p j f) y x
section
variable {p:Pg} {j:Nat} {f:Pr}
theorem w3p {l m:List Int} (hl:tlsP p j f l) (hm:tlsP p j f m) {x:Int} (h1:x∈l) (h2:x∈m):l=m:=by
 obtain ⟨h3,r,h4⟩:=hl;obtain ⟨h5,s,h6⟩:=hm;have h7:=((h4.mem x).1 h1).2;have h8:=((h6.mem x).1 h2).2;refine w0y h3 h5 fun b => ?_;rw [h4.mem,h6.mem];exact and_congr Iff.rfl ⟨fun h=>(h8.trans h7.symm).trans h,fun h=>(h7.trans h8.symm).trans h⟩
theorem q7a {i k:Int} (hi:0<=i∧i<k) (hk:k<(QV f.body+2:Nat)):ordP (QN p j (QV f.body+2:Nat) i) (QN p j (QV f.body+2:Nat) k):=by
 rw [FR];unfold QN loI
 (repeat' split)<;>omega
theorem w2v {part:List Int} {i:Nat}:(FQ (QN p j (QV f.body+2:Nat)) part i (QV f.body+2)).Pairwise ordP:=by
 unfold FQ;rw [pairwise_map];have h1:((List.range (QV f.body+2)).filter fun j=>part.getD j 0==(i:Int)).Pairwise fun a b=>a<b:=List.Pairwise.sublist List.filter_sublist List.pairwise_lt_range;refine h1.imp_of_mem fun {a b} ha hb hab => ?_;have h2:=List.mem_range.1 (List.mem_filter.1 hb).1;exact q7a (by omega) (by omega)
theorem x9e (h:XG p=true) (hj:p.procs[j]? = some f) {l:List Int} (hl:l∈trapsW (QQ p j f) f):l.Pairwise ordP:=by
 obtain ⟨i,_,_,_,rfl⟩:=q2a.1 hl;exact w2v
theorem w1y (h:XG p=true) (hj:p.procs[j]? = some f):(trapsW (QQ p j f) f).Pairwise befR ∧ ∀ l,l∈trapsW (QQ p j f) f↔tlsP p j f l:=by
 constructor
 ·have e:trapsW (QQ p j f) f=((List.range (QV f.body+2)).filter (q2y (WP (QQ p j f) f) (q6u (QV f.body+2) (WP (QQ p j f) f) (prsW (QQ p j f) f)))).map fun i=>FQ (QN p j (QV f.body+2:Nat)) (WP (QQ p j f) f) i (QV f.body+2):=by
   unfold trapsW LR;rw [q7h];rfl
  rw [e,pairwise_map];have h1:((List.range (QV f.body+2)).filter (q2y (WP (QQ p j f) f) (q6u (QV f.body+2) (WP (QQ p j f) f) (prsW (QQ p j f) f)))).Pairwise fun a b=>a<b:=List.Pairwise.sublist List.filter_sublist List.pairwise_lt_range;refine h1.imp_of_mem fun {a b} ha hb hab => ?_;obtain ⟨h2,h3⟩:=List.mem_filter.1 ha;have h2:=List.mem_range.1 h2;unfold q2y at h3;rw [Bool.and_eq_true,beq_iff_eq] at h3;refine ⟨QN p j (QV f.body+2:Nat) a,q8b.2 ⟨a,h2,h3.1,rfl⟩,fun y hy => ?_⟩;obtain ⟨k,hk,hpk,rfl⟩:=q8b.1 hy;have h4:=(q1a (p:=p) (j:=j) (f:=f) (i:=(k:Int)) (by omega)).le _ (.refl _);rw [<- q1n,hpk] at h4;exact q7a (by omega) (by omega)
 ·intro l;constructor
  ·intro hl;exact ⟨x9e h hj hl,x7b h hj hl⟩
  ·rintro ⟨h1,r,h2⟩;obtain ⟨l',h3,h4⟩:=w1u h hj h2.pl h2.cl h2.n0 h2.nx;have:l=l':=w0y h1 (x9e h hj h3) fun b=>by rw [h2.mem,h4]
   rw [this];exact h3
theorem v2j (h:XG p=true) (hj:p.procs[j]? = some f) {a b:Int} (hr:wR p j f a b):b≠0:=by
 obtain ⟨s,hs,_,rfl⟩:=hr;have h1:=((PT h hj).2.1 s (((VI h hj).2 s).1 hs)).2;unfold okI at h1;omega
theorem v2g (h:XG p=true) (hj:p.procs[j]? = some f) {a b:Int} (ha:a≠0) (hr:Rch (wR p j f) a b):b≠0:=by
 cases hr with
 | refl=>exact ha
 | tail _ h2=>exact v2j h hj h2
theorem v0b (h:XG p=true) (hj:p.procs[j]? = some f) {x:Int} (hx:plP p j f x) (h0:x≠0) (ht:trpX p j f x) {m:List Int} (hm1:m.Pairwise ordP) (hm2 : ∀ s,s∈m↔Rch (wR p j f) x s):tlsP p j f m:=by
 obtain ⟨h1,h2⟩:=ht;refine ⟨hm1,x,hx,fun b => ?_,fun b c hb hbc => ?_,fun hs => ?_,fun hs=>h1 hs.1⟩
 ·rw [hm2];exact ⟨fun h3=>⟨w2h h hj hx h3,h3,h2 b h3⟩,fun h3=>h3.2.1⟩
 ·have h3:Rch (wR p j f) x c := .tail hb.1 hbc;exact ⟨h3,h2 c h3⟩
 ·exact v2g h hj h0 hs.1 rfl
theorem w1l (h:XG p=true) (hj:p.procs[j]? = some f) {l:List Int} (hl:tlsP p j f l) {x:Int} (hx:x∈l):trpX p j f x∧(QR p.procs j:Int)+1<=x∧x<=(QR p.procs j+QV f.body:Nat):=by
 obtain ⟨_,r,ht⟩:=hl;obtain ⟨hpl,hs⟩:=(ht.mem x).1 hx;have hcl : ∀ y,Rch (wR p j f) x y->sccP (wR p j f) r y:=fun y hy=>hy.closed (S:=fun y=>sccP (wR p j f) r y) (fun a b ha hab=>ht.cl a b ha hab) hs;refine ⟨⟨fun hr=>ht.nx (hcl _ hr),fun y hy=>((hcl y hy).symm.trans hs).1⟩,?_⟩;rcases hpl with rfl|rfl|h1
 ·exact absurd hs ht.n0
 ·exact absurd hs ht.nx
 ·exact h1
structure TrI (p:Pg) (j:Nat) (f:Pr) (k:Nat) (out:List (List Int)):Prop where
 ok : ∀ l∈out,tlsP p j f l ∧ ∃ x∈((flatU f).take k).map (fun y=>y.s.id),x∈l
 has : ∀ x∈((flatU f).take k).map (fun y=>y.s.id),trpX p j f x -> ∃ l∈out,x∈l
 ord:out.Pairwise befR
theorem TrI.zero:TrI p j f 0 []:=⟨fun _ h=>(by cases h),fun x h=>(by simp at h),.nil⟩
theorem x4f (h:XG p=true) (hj:p.procs[j]? = some f) {k:Nat} (hk:k<(flatU f).length):(flatU f)[k].s.id=(QR p.procs j:Int)+1+k:=by
 have h1:=q1x (QF h).1 hj;have h2:=congrArg (fun l=>l[k]?) h1;simp only [List.getElem?_map,List.getElem?_eq_getElem hk,Option.map_some] at h2;have hc:(flatU f).length=QV f.body:=by
  have:=congrArg length h1;unfold YR at this;simpa using this
 unfold YR at h2;rw [List.getElem?_map,List.getElem?_range' (by omega)] at h2;simp only [Option.map_some,Option.some.injEq] at h2;rw [h2];omega
theorem w9r (h:XG p=true) (hj:p.procs[j]? = some f) {k:Nat} {x:Int} (hx:x∈((flatU f).take k).map (fun y=>y.s.id)):(QR p.procs j:Int)+1<=x∧x<=(QR p.procs j:Int)+k:=by
 obtain ⟨y,hy,rfl⟩:=List.mem_map.1 hx;obtain ⟨i,hi,rfl⟩:=List.mem_iff_getElem.1 hy;rw [length_take] at hi;rw [List.getElem_take,x4f h hj (by omega)];omega
theorem w2l (h:XG p=true) (hj:p.procs[j]? = some f) {k:Nat} {x:Int} (hk:k<=(flatU f).length) (h1:(QR p.procs j:Int)+1<=x) (h2:x<=(QR p.procs j:Int)+k):x∈((flatU f).take k).map (fun y=>y.s.id):=by
 refine List.mem_map.2 ⟨(flatU f)[(x-QR p.procs j-1).toNat],List.mem_iff_getElem.2 ⟨(x-QR p.procs j-1).toNat,by rw [length_take];omega,by rw [List.getElem_take]⟩,?_⟩;rw [x4f h hj];omega
theorem TrI.same {k:Nat} {out:List (List Int)} (hk:k<(flatU f).length) (hI:TrI p j f k out) (hx:trpX p j f (flatU f)[k].s.id -> ∃ l∈out,(flatU f)[k].s.id∈l):TrI p j f (k+1) out:=by
 have e:((flatU f).take (k+1)).map (fun y=>y.s.id)=((flatU f).take k).map (fun y=>y.s.id)++[(flatU f)[k].s.id]:=by rw [take_succ_eq_append_getElem hk,List.map_append];rfl
 refine ⟨fun l hl => ?_,fun x h1 h2 => ?_,hI.ord⟩
 ·obtain ⟨h1,x,h2,h3⟩:=hI.ok l hl;exact ⟨h1,x,by rw [e];exact List.mem_append.2 (.inl h2),h3⟩
 ·rw [e] at h1;rcases List.mem_append.1 h1 with h1|h1
  ·exact hI.has x h1 h2
  ·rw [List.mem_singleton.1 h1] at h2 ⊢;exact hx h2
theorem TrI.more (h:XG p=true) (hj:p.procs[j]? = some f) {k:Nat} {out:List (List Int)} (hk:k<(flatU f).length) (hI:TrI p j f k out) (ht:trpX p j f (flatU f)[k].s.id) (hn : ∀ l∈out,(flatU f)[k].s.id∉l) {m:List Int} (hm1:m.Pairwise ordP) (hm2 : ∀ s,s∈m↔Rch (wR p j f) (flatU f)[k].s.id s):TrI p j f (k+1) (out++[m]):=by
 have e:((flatU f).take (k+1)).map (fun y=>y.s.id)=((flatU f).take k).map (fun y=>y.s.id)++[(flatU f)[k].s.id]:=by rw [take_succ_eq_append_getElem hk,List.map_append];rfl
 have hid:=x4f h hj hk;have hlen:(flatU f).length=QV f.body:=ZR 1 0 false f.body;have hT:tlsP p j f m:=v0b h hj (.inr (.inr ⟨by omega,by omega⟩)) (by omega) ht hm1 hm2;have hxm:(flatU f)[k].s.id∈m:=(hm2 _).2 .refl;refine ⟨fun l hl => ?_,fun x h1 h2 => ?_,?_⟩
 ·rcases List.mem_append.1 hl with hl|hl
  ·obtain ⟨h1,x,h2,h3⟩:=hI.ok l hl;exact ⟨h1,x,by rw [e];exact List.mem_append.2 (.inl h2),h3⟩
  ·rw [List.mem_singleton.1 hl];exact ⟨hT,_,by rw [e];exact List.mem_append.2 (.inr (List.mem_singleton.2 rfl)),hxm⟩
 ·rw [e] at h1;rcases List.mem_append.1 h1 with h1|h1
  ·obtain ⟨l,h3,h4⟩:=hI.has x h1 h2;exact ⟨l,List.mem_append.2 (.inl h3),h4⟩
  ·rw [List.mem_singleton.1 h1];exact ⟨m,List.mem_append.2 (.inr (List.mem_singleton.2 rfl)),hxm⟩
 ·rw [List.pairwise_append];refine ⟨hI.ord,List.pairwise_singleton _ _,fun a ha b hb => ?_⟩;rw [List.mem_singleton.1 hb];obtain ⟨_,x,h2,h3⟩:=hI.ok a ha;refine ⟨x,h3,fun z hz => ?_⟩;obtain ⟨h4,h5,h6⟩:=w1l h hj hT hz;have h7:=w9r h hj h2;rw [FR];refine .inr ⟨by omega,by omega,?_⟩;rcases Int.lt_or_le (QR p.procs j+k:Int) z with h8|h8
  ·omega
  ·obtain ⟨l,h9,h10⟩:=hI.has z (w2l h hj (by omega) h5 h8) h4;have h11:=w3p (hI.ok l h9).1 hT h10 hz;exact absurd (by rw [h11];exact hxm) (hn l h9)
theorem TrI.all (h:XG p=true) (hj:p.procs[j]? = some f) {k:Nat} {out:List (List Int)} (hk:k=(flatU f).length) (hI:TrI p j f k out):out=trapsW (QQ p j f) f:=by
 obtain ⟨h1,h2⟩:=w1y h hj;have hlen:(flatU f).length=QV f.body:=ZR 1 0 false f.body;refine q6c befR.irr befR.trans hI.ord h1 fun l => ?_;rw [h2];constructor
 ·exact fun hl=>(hI.ok l hl).1
 ·intro hl;obtain ⟨_,r,ht⟩:=id hl;have hr:r∈l:=(ht.mem r).2 ⟨ht.pl,.refl _⟩;obtain ⟨h3,h4,h5⟩:=w1l h hj hl hr;obtain ⟨l',h6,h7⟩:=hI.has r (w2l h hj (by omega) h4 (by omega)) h3;rw [w3p hl (hI.ok l' h6).1 hr h7];exact h6
theorem TrI.len (h:XG p=true) (hj:p.procs[j]? = some f) {k:Nat} {out:List (List Int)} (hk:k<=(flatU f).length) (hI:TrI p j f k out):out.length<=k:=by
 have hnd:out.Nodup:=by
  unfold Nodup;refine hI.ord.imp fun {a b} hab e => ?_;subst e;exact befR.irr _ hab
 classical
 let g:List Int->Int:=fun l=>if hl:l∈out then Classical.choose (hI.ok l hl).2 else 0;have hg : ∀ l∈out,g l∈((flatU f).take k).map (fun y=>y.s.id)∧g l∈l:=fun l hl=>by
  have e:g l=Classical.choose (hI.ok l hl).2:=dif_pos hl;rw [e];exact Classical.choose_spec (hI.ok l hl).2
 have h1:(out.map g).Nodup:=by
  unfold Nodup;rw [pairwise_map];refine hnd.imp_of_mem fun {a b} ha hb hab e=>hab ?_;exact w3p (hI.ok a ha).1 (hI.ok b hb).1 (hg a ha).2 (by rw [e];exact (hg b hb).2)
 have:=ZE h1 (m:=((flatU f).take k).map (fun y=>y.s.id)) fun s hs=>by
  obtain ⟨l,hl,rfl⟩:=List.mem_map.1 hs;exact (hg l hl).1
 rw [length_map,length_map,length_take] at this;omega
end
theorem z1g {l m:List Step} (hok : ∀ s∈l,okSt s) (h : ∀ s,s∈l↔s∈m):ZL l=ZL m:=by
 obtain ⟨h1,h2,h3⟩:=GI (l:=m) fun s hs=>hok s ((h s).2 hs);exact q6i hok h1 (fun s hs=>(h s).2 (h2 s hs)) fun s hs=>h3 s ((h s).1 hs)
theorem HM (p:Pg) (j:Nat) (f:Pr) (h:XG p=true) (hj:p.procs[j]? = some f):SpecP Tryz.prog 288 [z0m f,QO (QQ p j f).real] (fun r=>r=x1z (trapsW (QQ p j f) f)):=by
 refine sB KP Tryz.func288 rfl Tryz.call288 ?_;conv=>whnf
 refine iM fun _=>?_;have hm:=(QF h).1;have hlU:=UW hm hj;have hLl:=WK (flatU f);have hrl:=w0s h hj;have hFr:=fun a=>GX (QQ p j f).real a [] (by omega);have hlen:(flatU f).length=QV f.body:=ZR 1 0 false f.body;conv=>whnf
 refine LoopK.inv QX (fun x:Nat×List (List Int)=>⟨[(1,.p (QO (QQ p j f).real)),(5,.hd 0 0 x.2.length),(16,.p (KW (flatU f))),(17,.p (.int .i64 ((flatU f).map fun i=>AV.agg i.cells).length)),(18,.p (.int .i64 x.1))],[(0,.own 60 1 (x.2.map QD))]⟩) (fun x=>x.1<=(flatU f).length∧TrI p j f x.1 x.2) (fun x=>(flatU f).length-x.1) (0,[])
  (Le.mk [(0,.own 60 1 [])] (by simp [Chunk.new0];rfl) (by simp) (by simp) (.cons (.refl _) (.cons (.nil mem_cons_self) (.cons (.refl _) (.cons (.refl _) (.cons (.refl _) .nil))))) (.new mem_cons_self .nil)) ⟨zero_le _,TrI.zero⟩ ?_
 rintro ⟨k,out⟩ ⟨h2,hI⟩;simp only at h2 hI ⊢;have hol:=hI.len h hj h2;rcases Nat.lt_or_ge k (flatU f).length with hk|hk;rotate_left 1
 ·have:=hI.all h hj (by omega);subst this;conv=>whnf
  repeat' (apply bD<;>intro _<;>first|omega|conv=>whnf)
  exact ⟨_,.hd rfl (by simp),by unfold x1z avI;rw [List.map_map];rfl⟩
 have hid:=x4f h hj hk;have hpl:plP p j f (flatU f)[k].s.id := .inr (.inr ⟨by omega,by omega⟩);have hF1:=hFr (flatU f)[k].s.id;conv=>whnf
 repeat' (first|((first|(refine iM fun _=>?_)|refine And.intro rfl ?_|(refine iA fun _=>?_)|(refine CallK.pure hF1 (.cons (Sub.refl _) (.cons (Sub.refl _) (.cons Sub.nils .nil))) ?_;rintro _ ⟨es,rfl,hes,hnd⟩)|refine cP (XQ _ (-1)) ?_);conv=>whnf)|(apply bD<;>intro _<;>first|omega|conv=>whnf))
 have hel:=w0q hes hnd;have hml:(es.map (AV.int .i64)).length=es.length:=length_map _;refine LoopK.inv QX (fun x:Nat×Bool=>⟨[(1,.p (QO (QQ p j f).real)),(5,.hd 0 0 out.length),(7,.p (.ip (flatU f)[k].cells)),(8,.p (QD es)),(9,.p (.bool x.2)),(16,.p (KW (flatU f))),(17,.p (.int .i64 ((flatU f).map fun i=>AV.agg i.cells).length)),(18,.p (.int .i64 k)),(30,.p (QD es)),(31,.p (.int .i64 (es.map (AV.int .i64)).length)),(32,.p (.int .i64 x.1))],[(0,.own 60 1 (out.map QD))]⟩) (fun x=>x.1<=es.length∧(x.2=true↔UO es (-1)=false ∧ ∀ y∈es.take x.1,Rch (wR p j f) y (flatU f)[k].s.id)) (fun x=>es.length-x.1) (0,!UO es (-1)) (Le.of_eq rfl) ⟨zero_le _,by simp⟩ ?_;rintro ⟨q,b⟩ ⟨h3,h4⟩;simp only at h3 h4 ⊢;rcases Nat.lt_or_ge q es.length with hq|hq
 ·have htk : ∀ s,s∈es.take (q+1)↔s∈es.take q∨s=es[q]:=fun s=>QC hq;have hF2:=hFr es[q];cases b with
  | true =>
    have h4:=h4.1 rfl;conv=>whnf
    repeat' (first|((first|refine dA ?_|(refine iA fun _=>?_)|refine wI ?_|(refine CallK.pure hF2 (.cons (Sub.refl _) (.cons (Sub.refl _) (.cons Sub.nils .nil))) ?_;rintro _ ⟨ey,rfl,hey,hnd2⟩)|refine cP (XQ _ _) ?_);conv=>whnf)|(apply bD<;>intro _<;>first|omega|conv=>whnf)|(apply bB<;>intro _<;>conv=>whnf))
    all_goals first
     | contradiction
     | exact ⟨(q+1,UO ey (flatU f)[k].s.id),⟨by simp only;omega,by
        simp only;rw [XD,hey,q8j];constructor
        ·exact fun h5=>⟨h4.1,fun y hy=>((htk y).1 hy).elim (h4.2 y) fun e=>e▸h5⟩
        ·exact fun h5=>h5.2 _ ((htk _).2 (.inr rfl))⟩,by simp only;omega,Le.of_eq rfl⟩
     | trace_state
  | false =>
    conv=>whnf
    repeat' (first|((first|refine dA ?_|(refine iA fun _=>?_)|refine wI ?_);conv=>whnf)|(apply bD<;>intro _<;>first|omega|conv=>whnf)|(apply bB<;>intro _<;>conv=>whnf))
    all_goals first|contradiction|exact ⟨(q+1,false),⟨by simp only;omega,by
      simp only;refine ⟨fun h5=>(by cases h5),fun h5 => ?_⟩;exact h4.2 ⟨h5.1,fun y hy=>h5.2 y ((htk y).2 (.inl hy))⟩⟩,by simp only;omega,(Le.mk [] (by simp) (by simp) (by simp) (by repeat' (first|exact .nil|refine .cons ?_ ?_|exact .refl _|exact .p (Sub.ff rfl)|exact .p (Sub.tt rfl))) (.cons rfl (.refl _) .nil))⟩
 ·rw [take_of_length_le hq] at h4;have htr:b=true↔trpX p j f (flatU f)[k].s.id:=by
   rw [h4];unfold trpX;have e1:UO es (-1)=false ↔ ¬Rch (wR p j f) (flatU f)[k].s.id (-1):=by
    have h5:=(XD (l:=es) (x := -1)).trans ((hes (-1)).trans q8j);rw [<- show Rch (stR (QQ p j f).real) (flatU f)[k].s.id (-1)↔Rch (wR p j f) (flatU f)[k].s.id (-1) from Iff.rfl,<- h5];cases UO es (-1)<;>simp
   rw [e1];refine and_congr Iff.rfl ⟨fun h5 y hy=>h5 y ((hes y).2 (q8j.2 hy)),fun h5 y hy=>h5 y (q8j.1 ((hes y).1 hy))⟩
  conv=>whnf
  repeat' (first|(refine iM fun _=>?_;conv=>whnf)|(apply bD<;>intro _<;>first|omega|conv=>whnf))
  have hom:(out.map QD).length=out.length:=length_map _;refine LoopK.inv QX (fun x:Nat×Bool=>⟨[(1,.p (QO (QQ p j f).real)),(5,.hd 0 0 out.length),(7,.p (.ip (flatU f)[k].cells)),(8,.p (QD es)),(9,.p (.bool b)),(12,.p (.bool x.2)),(16,.p (KW (flatU f))),(17,.p (.int .i64 ((flatU f).map fun i=>AV.agg i.cells).length)),(18,.p (.int .i64 k)),(47,.hd 0 0 out.length),(48,.p (.int .i64 out.length)),(49,.p (.int .i64 x.1))],[(0,.own 60 1 (out.map QD))]⟩) (fun x=>x.1<=out.length∧x.2=(out.take x.1).any fun l=>UO l (flatU f)[k].s.id) (fun x=>out.length-x.1) (0,false)
   (Le.mk [] (by simp) (by simp) (by simp) (by repeat' (first|exact .nil|refine .cons ?_ ?_|exact .refl _|exact .p (Sub.ff rfl)|exact .p (Sub.tt rfl))) (.cons rfl (.refl _) .nil)) ⟨zero_le _,by simp⟩ ?_
  rintro ⟨i,o⟩ ⟨h5,h6⟩;simp only at h5 h6 ⊢;rcases Nat.lt_or_ge i out.length with hi|hi
  ·have g:(out.map QD)[i]? = some (QD out[i]):=by simp [hi]
   have h7:((out.take (i+1)).any fun l=>UO l (flatU f)[k].s.id)=(o||UO out[i] (flatU f)[k].s.id):=by rw [take_succ_eq_append_getElem hi,List.any_append,<- h6];simp
   cases o with
   | true =>
     conv=>whnf
     repeat' (first|((first|refine And.intro rfl ?_|refine wI ?_|refine IdxL.mk i rfl hi ?_|refine LdOwn.mk i 0 _ (by show (0+i)*1+0=i*1+0;omega) g ?_);conv=>whnf)|(apply bD<;>intro _<;>first|omega|conv=>whnf)|(apply bB<;>intro _<;>conv=>whnf))
     all_goals first|contradiction|exact ⟨(i+1,true),⟨by simp only;omega,by simp only;rw [h7];rfl⟩,by simp only;omega,(Le.mk [] (by simp) (by simp) (by simp) (by repeat' (first|exact .nil|refine .cons ?_ ?_|exact .refl _|exact .p (Sub.ff rfl)|exact .p (Sub.tt rfl))) (.cons rfl (.refl _) .nil))⟩
   | false =>
     conv=>whnf
     repeat' (first|((first|refine And.intro rfl ?_|refine wI ?_|refine IdxL.mk i rfl hi ?_|refine LdOwn.mk i 0 _ (by show (0+i)*1+0=i*1+0;omega) g ?_|refine cP (XQ out[i] _) ?_);conv=>whnf)|(apply bD<;>intro _<;>first|omega|conv=>whnf)|(apply bB<;>intro _<;>conv=>whnf))
     all_goals first|contradiction|exact ⟨(i+1,UO out[i] (flatU f)[k].s.id),⟨by simp only;omega,by simp only;rw [h7,Bool.false_or]⟩,by simp only;omega,Le.of_eq rfl⟩
  ·rw [take_of_length_le hi] at h6;have hold:o=true ↔ ∃ l∈out,(flatU f)[k].s.id∈l:=by
    rw [h6,List.any_eq_true];exact ⟨fun ⟨l,h7,h8⟩=>⟨l,h7,XD.1 h8⟩,fun ⟨l,h7,h8⟩=>⟨l,h7,XD.2 h8⟩⟩
   have hsame:(¬b=true∨o=true)->TrI p j f (k+1) out:=fun h7=>hI.same hk fun h8=>h7.elim (fun h9=>absurd (htr.2 h8) h9) fun h9=>hold.1 h9;have hR:=MY es (by omega);cases b<;>cases o <;>
   (conv=>whnf
    repeat' (first|((first|refine And.intro rfl ?_|refine aD ?_|refine bP ?_|refine wI ?_|(refine CallK.pure hR (.cons (Sub.refl _) .nil) ?_;rintro _ ⟨m,rfl,hm1,hm2⟩)|refine AppK.mk (n:=out.length) (es:=out.map QD) (by omega) rfl (by show (out.length+1)*24<=140737488355328;omega) (by show out.length+1<=9223372036854775807;omega) (fun x hx=>by rcases List.mem_singleton.1 hx with rfl;exact ⟨rfl,rfl⟩) ?_);conv=>whnf)|(apply bD<;>intro _<;>first|omega|conv=>whnf)|(apply bN<;>intro _<;>conv=>whnf)|(apply bB<;>intro _<;>conv=>whnf))
    all_goals first
     | contradiction
     | exact ⟨(k+1,out++[m]),⟨by simp only;omega,hI.more h hj hk (htr.1 rfl) (fun l h7 h8=>by have:=hold.2 ⟨l,h7,h8⟩;cases this) hm1 fun s=>by rw [hm2,hes,q8j];exact Iff.rfl⟩,by simp only;omega,Le.of_eq (by simp only [length_append,List.map_append];rfl)⟩
     | exact ⟨(k+1,out),⟨by simp only;omega,hsame (by simp)⟩,by simp only;omega,Le.of_eq rfl⟩
     | trace_state)
def vrL (L:List RI) (l:List Int):List Step:=(L.filter fun x=>decide (x.s.kind=10)&&UO l x.s.id).map fun x=>⟨x.s.id,-1,3⟩
def vrT (L:List RI) (T:List (List Int)):List Step:=T.flatMap (vrL L)
theorem z9h (L:List RI) (l:List Int):(vrL L l).length<=L.length:=by
 unfold vrL;rw [length_map];exact List.length_filter_le _ _
theorem x4k (L:List RI) : ∀ T:List (List Int),(vrT L T).length<=T.length*L.length
 | []=>by unfold vrT;simp
 | a::r=>by
   have h1:=x4k L r;have h2:=z9h L a;have e:vrT L (a::r)=vrL L a++vrT L r:=by unfold vrT;rw [List.flatMap_cons]
   rw [e,length_append,List.length_cons,Nat.add_mul];omega
theorem w4k {L:List RI} {l:List Int} {k:Nat} (hk:k<L.length):vrL (L.take (k+1)) l=vrL (L.take k) l++(if L[k].s.kind=10∧UO l L[k].s.id=true then [⟨L[k].s.id,-1,3⟩] else []):=by
 unfold vrL;rw [take_succ_eq_append_getElem hk,List.filter_append,List.map_append];congr 1;by_cases h:L[k].s.kind=10∧UO l L[k].s.id=true
 ·rw [if_pos h,List.filter_cons_of_pos (by simpa using h)];rfl
 ·rw [if_neg h,List.filter_cons_of_neg (by simpa using h)];rfl
section
variable {p:Pg} {j:Nat} {f:Pr}
theorem v0p (h:XG p=true) (hj:p.procs[j]? = some f) {t u:S} (ht:t∈flL f.body) (hu:u∈flL f.body) (he:t.id=u.id):t=u :=
 q1t (f:=S.id) (by rw [x3t (QF h).1 hj];exact HR _ _) t ht u hu he
theorem w0a {x:RI} (hx:x∈flatU f):x.s∈flL f.body:=by
 rw [<- show (flatU f).map RI.s=flL f.body from NA 1 0 false f.body];exact List.mem_map.2 ⟨x,hx,rfl⟩
theorem z2n (h:XG p=true) (hj:p.procs[j]? = some f) (s:Step):s∈vrT (flatU f) (trapsW (QQ p j f) f)↔s∈WM (QQ p j f) f:=by
 have e:WM (QQ p j f) f=(trapsW (QQ p j f) f).flatMap fun l=>l.flatMap (vOf p):=rfl;rw [e];unfold vrT;rw [List.mem_flatMap,List.mem_flatMap];refine exists_congr fun l=>and_congr_right fun hl => ?_;have hr:=(x4a h hj hl).2;unfold vrL;rw [List.mem_map,List.mem_flatMap];constructor
 ·rintro ⟨x,hx,rfl⟩;obtain ⟨h1,h2⟩:=List.mem_filter.1 hx;rw [Bool.and_eq_true,decide_eq_true_eq,XD] at h2;refine ⟨x.s.id,h2.2,?_⟩;obtain ⟨h3,h4⟩:=hr _ h2.2;obtain ⟨t,ht,h5,h6⟩:=NY h hj h3 h4;have:t=x.s:=v0p h hj ht (w0a h1) h6;unfold vOf;rw [h5,this];simp only;rw [if_pos h2.1];exact List.mem_singleton.2 rfl
 ·rintro ⟨id,h1,h2⟩;obtain ⟨h3,h4⟩:=hr _ h1;obtain ⟨t,ht,h5,h6⟩:=NY h hj h3 h4;unfold vOf at h2;rw [h5] at h2;simp only at h2;split at h2
  ·rename_i h7;obtain ⟨x,hx,rfl⟩:=x4c ht;rw [List.mem_singleton.1 h2,<- h6];exact ⟨x,List.mem_filter.2 ⟨hx,by rw [Bool.and_eq_true,decide_eq_true_eq,XD];exact ⟨h7,by rw [h6];exact h1⟩⟩,rfl⟩
  ·cases h2
theorem w9n (h:XG p=true) (hj:p.procs[j]? = some f) : ∀ s∈WM (QQ p j f) f,leSt s:=fun s hs=>by
 rw [<- z2n h hj] at hs;unfold vrT vrL at hs;obtain ⟨l,hl,hs⟩:=List.mem_flatMap.1 hs;obtain ⟨x,hx,rfl⟩:=List.mem_map.1 hs;have hb:=YT (QF h).1 hj (w0a (List.mem_filter.1 hx).1);have hc:=FO _ _ (List.mem_of_getElem? hj);have hcn:=(KU h).2.2;obtain ⟨_,_,_,_,hsp⟩:=QJ p;have:=(hsp j f hj).2.2.1;unfold leSt;simp only;omega
theorem w9z (h:XG p=true) (hj:p.procs[j]? = some f) : ∀ s∈(QQ p j f).real,leSt s:=fun s hs=>w7o h hj s (((VI h hj).2 s).1 hs)
theorem v0k (h:XG p=true) (hj:p.procs[j]? = some f) : ∀ it∈itsOf p j f,∀ s∈fOf it,leSt s:=fun it hi s hs=>by
 have hb:=YT (QF h).1 hj (LO hi);have hcn:=(KU h).2.2;obtain ⟨_,_,_,_,hsp⟩:=QJ p;have:=(hsp j f hj).2.2.1;have h1:=(BH hi).1;unfold okI at h1;unfold fOf at hs;split at hs
 ·rw [List.mem_singleton.1 hs];unfold leSt;simp only;omega
 ·cases hs
def x1q (p:Pg) (j:Nat) (f:Pr) (k:Nat):List Step:=(QQ p j f).real++[⟨0,-1,2⟩]++((itsOf p j f).take k).flatMap fOf
theorem w3v (h:XG p=true) (hj:p.procs[j]? = some f) {k:Nat} : ∀ s∈x1q p j f k++vrT (flatU f) (trapsW (QQ p j f) f),leSt s:=fun s hs=>by
 rcases List.mem_append.1 hs with hs|hs
 ·unfold x1q at hs;rcases List.mem_append.1 hs with hs|hs
  ·rcases List.mem_append.1 hs with hs|hs
   ·exact w9z h hj s hs
   ·rw [List.mem_singleton.1 hs];unfold leSt;simp only;omega
  ·obtain ⟨it,hi,hs⟩:=List.mem_flatMap.1 hs;exact v0k h hj it (List.mem_of_mem_take hi) s hs
 ·exact w9n h hj s ((z2n h hj s).1 hs)
theorem v0r (h:XG p=true) (hj:p.procs[j]? = some f) {k:Nat} (hk:(itsOf p j f).length<=k):ZL (x1q p j f k++vrT (flatU f) (trapsW (QQ p j f) f))=MX (QQ p j f) f:=by
 refine z1g (fun s hs=>(w3v h hj s hs).ok) fun s => ?_;have e:DP (QQ p j f) f=WM (QQ p j f) f++(QQ p j f).real++[⟨0,-1,2⟩]++(itsOf p j f).flatMap fOf:=rfl;rw [e];unfold x1q;rw [take_of_length_le hk];simp only [List.mem_append,z2n h hj];constructor
 ·rintro (((h1|h1)|h1)|h1)
  ·exact .inl (.inl (.inr h1))
  ·exact .inl (.inr h1)
  ·exact .inr h1
  ·exact .inl (.inl (.inl h1))
 ·rintro (((h1|h1)|h1)|h1)
  ·exact .inr h1
  ·exact .inl (.inl (.inl h1))
  ·exact .inl (.inl (.inr h1))
  ·exact .inl (.inr h1)
theorem x8n {k:Nat} (hk:k<(itsOf p j f).length):x1q p j f (k+1)=x1q p j f k++fOf (itsOf p j f)[k]:=by
 unfold x1q;rw [take_succ_eq_append_getElem hk,List.flatMap_append,List.append_assoc,List.append_assoc,List.append_assoc];simp
theorem z5k : ∀ k,(x1q p j f k).length<=(QQ p j f).real.length+1+k
 | 0=>by unfold x1q;simp
 | k+1=>by
   have h1:=z5k k;rcases Nat.lt_or_ge k (itsOf p j f).length with hk|hk
   ·rw [x8n hk,length_append];have:=w2t (itsOf p j f)[k];omega
   ·have e:x1q p j f (k+1)=x1q p j f k:=by
     unfold x1q;rw [take_of_length_le hk,take_of_length_le (by omega)]
    rw [e];omega
theorem x1t:(trapsW (QQ p j f) f).length<=QV f.body+2:=by
 unfold trapsW LR;rw [length_map,q7h];exact Nat.le_trans (List.length_filter_le _ _) (by simp)
end
theorem KB (p:Pg) (j:Nat) (f:Pr) (h:XG p=true) (hj:p.procs[j]? = some f):SpecP Tryz.prog 188 [z0m f,QO (QQ p j f).real] (fun r=>r=QO (vrT (flatU f) (trapsW (QQ p j f) f))):=by
 refine sB JJ Tryz.func188 rfl Tryz.call188 ?_;conv=>whnf
 have hm:=(QF h).1;have hlU:=UW hm hj;have hT:=HM p j f h hj;have hTl:(trapsW (QQ p j f) f).length<=202:=by
  have h1:=x1t (p:=p) (j:=j) (f:=f);have h2:(flatU f).length=QV f.body:=ZR 1 0 false f.body;omega
 unfold z0m at hT;generalize (QQ p j f).real=R at *
 generalize trapsW (QQ p j f) f=T at *
 generalize flatU f=L at *
 have hLl:=WK L;have hvl:=x4k L T;have hTm:((avI T).map AV.sl).length=T.length:=by unfold avI;simp
 have hmul:T.length*L.length<=202*200:=Nat.mul_le_mul hTl hlU;repeat' ((first|(refine iM fun _=>?_)|refine cP hT ?_);conv=>whnf)
 refine LoopK.inv QX (fun x:Nat=>⟨[(2,.p (.ip [KW L,QM f.fin])),(5,.hd 0 0 (vrT L (T.take x)).length),(12,.p (x1z T)),(13,.p (.int .i64 ((avI T).map AV.sl).length)),(14,.p (.int .i64 x))],[(0,.own 156 3 ((vrT L (T.take x)).map fun s => .agg s.cells))]⟩) (fun x=>x<=T.length) (fun x=>T.length-x) 0
  (Le.mk [(0,.own 156 3 [])] (by simp [Chunk.new0];rfl) (by simp) (by simp) (.cons (.refl _) (.cons (.nil mem_cons_self) (.cons (.refl _) (.cons (.refl _) (.cons (.refl _) .nil))))) (.new mem_cons_self .nil)) (zero_le _) ?_
 intro i hi;rcases Nat.lt_or_ge i T.length with hi2|hi2;rotate_left 1
 ·rw [take_of_length_le hi2];conv=>whnf
  repeat' (apply bD<;>intro _<;>first|omega|conv=>whnf)
  exact ⟨_,.hd rfl (by simp),rfl⟩
 have g:((avI T).map AV.sl)[i]? = some (QD T[i]):=by unfold avI;simp [hi2,QD]
 have hs:vrT L (T.take (i+1))=vrT L (T.take i)++vrL L T[i]:=by unfold vrT;rw [take_succ_eq_append_getElem hi2,List.flatMap_append];simp
 have hb:(vrT L (T.take i)).length<=202*200:=by
  have h1:=x4k L (T.take i);have h2:(T.take i).length*L.length<=202*200:=Nat.mul_le_mul (by rw [length_take];omega) hlU;omega
 have hgi : ∀ hx,AV.sl ((avI T)[i]'hx)=QD T[i]:=fun _=>by simp [avI,QD]
 generalize vrT L (T.take i)=A at *
 conv=>whnf
 repeat' (first|((first|(refine iM fun _=>?_)|(refine iA fun _=>?_));conv=>whnf)|(apply bD<;>intro _<;>first|omega|conv=>whnf))
 refine LoopK.inv QX (fun x:Nat=>⟨[(2,.p (.ip [KW L,QM f.fin])),(5,.hd 0 0 (A++vrL (L.take x) T[i]).length),(7,.p (QD T[i])),(12,.p (x1z T)),(13,.p (.int .i64 ((avI T).map AV.sl).length)),(14,.p (.int .i64 i)),(19,.p (KW L)),(20,.p (.int .i64 (L.map fun i=>AV.agg i.cells).length)),(21,.p (.int .i64 x))],[(0,.own 156 3 ((A++vrL (L.take x) T[i]).map fun s => .agg s.cells))]⟩) (fun x=>x<=L.length) (fun x=>L.length-x) 0 (Le.of_eq (by simp only [hgi];rw [show vrL (L.take 0) T[i]=[] by unfold vrL;simp,append_nil];rfl)) (zero_le _) ?_;intro q hq;rcases Nat.lt_or_ge q L.length with hq2|hq2
 ·have hst:=w4k (l:=T[i]) hq2;have hql:(A++vrL (L.take q) T[i]).length<=202*200+200:=by
   rw [length_append];have:=z9h (L.take q) T[i];rw [length_take] at this;omega
  have hst:A++vrL (L.take (q+1)) T[i]=(A++vrL (L.take q) T[i])++(if L[q].s.kind=10∧UO T[i] L[q].s.id=true then [⟨L[q].s.id,-1,3⟩] else []):=by rw [hst,List.append_assoc]
  generalize A++vrL (L.take q) T[i]=B at *
  have hBl:=DY B;conv=>whnf
  repeat' (first|((first|refine And.intro rfl ?_|refine aD ?_|refine bP ?_|(refine iA fun _=>?_)|refine wI ?_|refine cP (XQ T[i] _) ?_|refine AppK.mk (n:=B.length) (by omega) rfl (by show (B.length+1)*24<=140737488355328;omega) (by show B.length+1<=9223372036854775807;omega) (fun x hx=>by rcases List.mem_singleton.1 hx with rfl;exact ⟨rfl,rfl⟩) ?_);conv=>whnf)|(apply bD<;>intro _<;>first|omega|conv=>whnf)|(apply bB<;>intro _<;>conv=>whnf))
  all_goals first
   | exact ⟨q+1,by omega,by omega,Le.of_eq (by rw [hst,if_pos (show L[q].s.kind=10∧UO T[i] L[q].s.id=true from ⟨by assumption,by assumption⟩)];simp only [length_append,List.map_append];rfl)⟩
   | exact ⟨q+1,by omega,by omega,Le.of_eq (by rw [hst,if_neg (show ¬(L[q].s.kind=10∧UO T[i] L[q].s.id=true) from fun hh=>absurd hh.1 (by assumption)),append_nil];rfl)⟩
   | exact ⟨q+1,by omega,by omega,Le.of_eq (by rw [hst,if_neg (show ¬(L[q].s.kind=10∧UO T[i] L[q].s.id=true) from fun hh=>by have h9:=hh.2;rw [show UO T[i] L[q].s.id=false by assumption] at h9;cases h9),append_nil];rfl)⟩
   | trace_state
 ·rw [take_of_length_le hq2,<- hs];conv=>whnf
  repeat' (first|(refine wI ?_;conv=>whnf)|(apply bD<;>intro _<;>first|omega|conv=>whnf))
  all_goals exact ⟨i+1,by omega,by omega,Le.of_eq rfl⟩
theorem z3b : ∀ l:List Pr,l.length<=w8w l
 | []=>zero_le _
 | f::r=>by have:=z3b r;simp only [List.length_cons,w8w,wPr];omega
theorem z6d {p:Pg} (h:Fit p):p.procs.length<=20000:=by
 have:=z3b p.procs;unfold Fit wPg at h;omega
theorem w7f:Sub (.bool true) .tt:=fun _ _ hr=>by cases hr;exact .tt
theorem HH (p:Pg) (hf:Fit p) (n:Str):SpecP Tryz.prog 114 [.agg p.cells,.str n] (fun r=>r=QO (v2v p n)):=by
 refine sB LU Tryz.func114 rfl Tryz.call114 ?_;conv=>whnf
 cases hw:DR p n with
 | none =>
   rw [x7y hw];have hW:=HL p hf n hw;repeat' (first|((first|refine And.intro rfl ?_|refine cP hW ?_);conv=>whnf)|(apply bN<;>intro _<;>conv=>whnf))
   all_goals first
    | contradiction
    | exact ⟨_,.p Sub.nils,rfl⟩
 | some w =>
   obtain ⟨k,f,hk,rfl,hc,_⟩:=KD hw;rw [x0q hw hk];have hm:=(QF hc).1;have hW:=HA p hf n k f hw hk;have hR:=FA p k f hc hk;have hV:=KB p k f hc hk;have hrl:=w0s hc hk;have hlU:=UW hm hk;have hLl:=WK (flatU f);obtain ⟨hil,hat⟩:=w7y hm hk;have hvl:(vrT (flatU f) (trapsW (QQ p k f) f)).length<=202*200:=by
    have h1:=x1t (p:=p) (j:=k) (f:=f);have h2:(flatU f).length=QV f.body:=ZR 1 0 false f.body;exact Nat.le_trans (x4k _ _) (Nat.mul_le_mul (by omega) hlU)
   have hq0:x1q p k f 0=(QQ p k f).real++[⟨0,-1,2⟩]:=by unfold x1q;simp
   have hRm:=DY (QQ p k f).real;unfold z0m at hW hR hV;repeat' (first|((first|(refine iM fun _=>?_)|refine And.intro rfl ?_|refine aD ?_|refine cP hW ?_|refine cP hR ?_|refine BsK.own (es:=[]) (fun x hx=>(by cases hx)) rfl ?_|refine BsK.pureL rfl rfl ?_|(refine AppK.mk (es:=[]) (by rfl) rfl (by show (0+((QQ p k f).real.map fun s=>AV.agg s.cells).length)*24<=140737488355328;omega) (by show 0+((QQ p k f).real.map fun s=>AV.agg s.cells).length<=9223372036854775807;omega) (fun x hx=>by obtain ⟨s,_,rfl⟩:=List.mem_map.1 hx;exact ⟨rfl,rfl⟩) ?_)|(refine AppK.mk (es:=[]++(QQ p k f).real.map fun s=>AV.agg s.cells) (by simp) rfl (by show (0+((QQ p k f).real.map fun s=>AV.agg s.cells).length+1)*24<=140737488355328;omega) (by show 0+((QQ p k f).real.map fun s=>AV.agg s.cells).length+1<=9223372036854775807;omega) (fun x hx=>by rcases List.mem_singleton.1 hx with rfl;exact ⟨rfl,rfl⟩) ?_));conv=>whnf)|(apply bN<;>intro _<;>conv=>whnf))
   all_goals first
    | contradiction
    | skip
   refine LoopK.inv QX (fun x:Nat=>⟨[(5,.p (.ip [KW (flatU f),QM f.fin])),(7,.p (QO (QQ p k f).real)),(8,.hd 0 0 (x1q p k f x).length),(28,.p (KW (flatU f))),(29,.p (.int .i64 ((flatU f).map fun i=>AV.agg i.cells).length)),(30,.p (.int .i64 x))],[(0,.own 156 3 ((x1q p k f x).map fun s => .agg s.cells))]⟩) (fun x=>x<=(flatU f).length) (fun x=>(flatU f).length-x) 0 (Le.of_eq (by rw [hq0];simp only [length_append,List.map_append,length_map,Nat.zero_add,List.nil_append];rfl)) (zero_le _) ?_;intro q hq;have hql:=z5k (p:=p) (j:=k) (f:=f) q;rcases Nat.lt_or_ge q (flatU f).length with hq2|hq2
   ·have hqi:q<(itsOf p k f).length:=by omega
    have hst:=x8n hqi;have hsk:=hat q hq2 hqi;have hB:=PZ (by omega) (x5h hm hk (List.getElem_mem hqi));have h1:=z5j hc hk (w0a (List.getElem_mem hq2));have hfo:fOf (itsOf p k f)[q]=if (flatU f)[q].s.kind=7∨(flatU f)[q].s.kind=8∨(flatU f)[q].s.kind=9∨(flatU f)[q].s.kind=10 then [⟨(flatU f)[q].s.id,(itsOf p k f)[q].next,2⟩] else []:=by
     unfold fOf;rw [hsk]
    rw [hsk] at hB;rw [hfo] at hst;have hhi:=h1.hi;generalize x1q p k f q=A at *
    have hAm:=DY A;conv=>whnf
    repeat' (first|((first|refine dA ?_|refine And.intro rfl ?_|refine aD ?_|refine bP ?_|(refine iA fun _=>?_)|refine wI ?_|refine cP hB ?_|refine AppK.mk (n:=A.length) (by omega) rfl (by show (A.length+1)*24<=140737488355328;omega) (by show A.length+1<=9223372036854775807;omega) (fun x hx=>by rcases List.mem_singleton.1 hx with rfl;exact ⟨rfl,rfl⟩) ?_);conv=>whnf)|(apply bD<;>intro _<;>first|omega|conv=>whnf))
    all_goals first
     | exact ⟨q+1,by omega,by omega,Le.of_eq (by rw [hst,if_pos (by omega)];simp only [length_append,List.map_append];rfl)⟩
     | exact ⟨q+1,by omega,by omega,Le.of_eq (by rw [hst,if_neg (by omega),append_nil];rfl)⟩
     | trace_state
   ·have hS:=KG (x1q p k f q++vrT (flatU f) (trapsW (QQ p k f) f)) (by rw [length_append];omega) (w3v hc hk);rw [v0r hc hk (by omega)] at hS;rw [show QO (x1q p k f q++vrT (flatU f) (trapsW (QQ p k f) f)) = .sl ((x1q p k f q).map (fun s=>AV.agg s.cells)++(vrT (flatU f) (trapsW (QQ p k f) f)).map fun s=>AV.agg s.cells) by simp [QO]] at hS;generalize vrT (flatU f) (trapsW (QQ p k f) f)=V at *
    generalize x1q p k f q=A at *
    have hAm:=DY A;have hVm:=DY V;conv=>whnf
    repeat' (first|((first|refine aD ?_|refine cP hV ?_|refine AppK.mk (n:=A.length) (by omega) rfl (by show (A.length+(V.map fun s=>AV.agg s.cells).length)*24<=140737488355328;omega) (by show A.length+(V.map fun s=>AV.agg s.cells).length<=9223372036854775807;omega) (fun x hx=>by obtain ⟨s,_,rfl⟩:=List.mem_map.1 hx;exact ⟨rfl,rfl⟩) ?_|(refine FW hS (.cons (.hd rfl (by simp)) .nil) ?_;rintro _ rfl));conv=>whnf)|(apply bD<;>intro _<;>first|omega|conv=>whnf))
    all_goals first
     | exact RetK.p rfl
     | trace_state
section
variable {p:Pg} {j:Nat} {f:Pr}
theorem v0v (h:XG p=true) (hj:p.procs[j]? = some f):(q6y f).Pairwise ordP:=by
 rw [List.pairwise_iff_getElem];intro a b ha hb hab;have hl:=q6l f;have hm:=(QF h).1;have h1:=z1u hm hj (x:=a) (by omega);have h2:=z1u hm hj (x:=b) (by omega);rw [List.getElem?_eq_getElem ha] at h1;rw [List.getElem?_eq_getElem hb] at h2;rw [Option.some.inj h1,Option.some.inj h2];exact q7a (by omega) (by omega)
theorem GV (a b:Int):z8f (MX (QQ p j f) f) a b=true↔folP p j f a b:=by
 rw [z5b];unfold folP;constructor
 ·rintro (rfl|rfl|h1) h2
  ·cases h2 with
   | exit h3=>exact h3 rfl
   | step h3 _ _=>exact h3 rfl
  ·have : ∀ {x},AvdP (z0t p j f) (-1) x->False:=fun {x} hx=>by
    induction hx with
    | exit h3=>exact h3 rfl
    | step _ _ _ ih=>exact ih
   exact this h2
  ·by_cases hab:a=b
   ·subst hab;cases h2 with
    | exit h3=>exact h3 rfl
    | step h3 _ _=>exact h3 rfl
   ·by_cases hb:b = -1
    ·subst hb;have : ∀ {x},AvdP (z0t p j f) (-1) x->False:=fun {x} hx=>by
      induction hx with
      | exit h3=>exact h3 rfl
      | step _ _ _ ih=>exact ih
     exact this h2
    ·exact h1 ((z3i hab hb).2 h2)
 ·intro h1;by_cases hab:a=b
  ·exact .inl hab
  ·by_cases hb:b = -1
   ·exact .inr (.inl hb)
   ·exact .inr (.inr fun h2=>h1 ((z3i hab hb).1 h2))
end
structure FolH (F:Int->Int->Bool) (P:List Int) (a:Int):Prop where
 nd:P.Nodup
 mem:a∈P
 self : ∀ x∈P,F x x=true
 tr : ∀ x∈P,∀ y∈P,∀ z∈P,F x y=true->F y z=true->F x z=true
 tot : ∀ y∈P,∀ z∈P,F a y=true->F a z=true->F y z=true∨F z y=true
structure FoI (F:Int->Int->Bool) (P:List Int) (a:Int) (r:Nat) (out:List Int):Prop where
 nd:out.Nodup
 sub : ∀ y∈out,y∈P∧F a y=true
 ch:out.Pairwise fun x y=>F x y=true
 seg : ∀ z∈P,F a z=true->z∉out -> ∀ y∈out,F y z=true
 cnt:r<out.length ∨ ∀ z∈P,F a z=true->z∈out
def cnB (F:Int->Int->Bool) (a:Int) (out:List Int) (b c:Int):Bool:=UO out c||(!F a c||F b c)
def mnB (F:Int->Int->Bool) (P:List Int) (a:Int) (out:List Int) (b:Int):Bool:=(!UO out b&&F a b)&&P.all (cnB F a out b)
section
variable {F:Int->Int->Bool} {P out:List Int} {a:Int} {r:Nat}
theorem FoI.zero (h:FolH F P a):FoI F P a 0 [a]:=by
 refine ⟨by simp,fun y hy => ?_,by simp,fun z _ h2 _ y hy => ?_,.inl (by simp)⟩
 ·rw [List.mem_singleton.1 hy];exact ⟨h.mem,h.self a h.mem⟩
 ·rw [List.mem_singleton.1 hy];exact h2
theorem FoI.more (h:FolH F P a) (hI:FoI F P a r out) {b:Int} (hb:b∈P) (hm:mnB F P a out b=true):FoI F P a (r+1) (out++[b]):=by
 unfold mnB at hm;rw [Bool.and_eq_true,Bool.and_eq_true,Bool.not_eq_true',List.all_eq_true] at hm;obtain ⟨⟨h1,h2⟩,h3⟩:=hm;have hn:b∉out:=fun h=>by rw [XD.2 h] at h1;cases h1
 refine ⟨?_,fun y hy => ?_,?_,fun z hz h4 h5 y hy => ?_,?_⟩
 ·exact List.nodup_append.2 ⟨hI.nd,by simp,fun x hx y hy e=>by rw [List.mem_singleton.1 hy] at e;exact hn (e▸hx)⟩
 ·rcases List.mem_append.1 hy with hy|hy
  ·exact hI.sub y hy
  ·rw [List.mem_singleton.1 hy];exact ⟨hb,h2⟩
 ·rw [List.pairwise_append];refine ⟨hI.ch,List.pairwise_singleton _ _,fun x hx y hy => ?_⟩;rw [List.mem_singleton.1 hy];exact hI.seg b hb h2 hn x hx
 ·rw [List.mem_append,not_or,List.mem_singleton] at h5;rcases List.mem_append.1 hy with hy|hy
  ·exact hI.seg z hz h4 h5.1 y hy
  ·rw [List.mem_singleton.1 hy];have h6:=h3 z hz;unfold cnB at h6;rw [Bool.or_eq_true,Bool.or_eq_true,XD,h4] at h6;rcases h6 with h6|h6|h6
   ·exact absurd h6 h5.1
   ·cases h6
   ·exact h6
 ·rcases hI.cnt with h4|h4
  ·exact .inl (by rw [length_append];simp;omega)
  ·exact .inr fun z hz h5=>List.mem_append.2 (.inl (h4 z hz h5))
theorem z3r {R:Int->Int->Bool} : ∀ {l:List Int},l≠[]->(∀ x∈l,R x x=true)->(∀ x∈l,∀ y∈l,∀ z∈l,R x y=true->R y z=true->R x z=true)->(∀ x∈l,∀ y∈l,R x y=true∨R y x=true) -> ∃ b∈l,∀ c∈l,R b c=true
 | [],h,_,_,_=>absurd rfl h
 | [x],_,h1,_,_=>⟨x,mem_cons_self,fun c hc=>by rw [List.mem_singleton.1 hc];exact h1 x mem_cons_self⟩
 | x::y::l,_,h1,h2,h3=>by
   obtain ⟨b,hb,hbl⟩:=z3r (l:=y::l) (by simp) (fun u hu=>h1 u (mem_cons_of_mem _ hu)) (fun u hu v hv w hw=>h2 u (mem_cons_of_mem _ hu) v (mem_cons_of_mem _ hv) w (mem_cons_of_mem _ hw)) fun u hu v hv=>h3 u (mem_cons_of_mem _ hu) v (mem_cons_of_mem _ hv);have hbm:b∈x::y::l:=mem_cons_of_mem _ hb;have hxm:x∈x::y::l:=mem_cons_self;rcases h3 b hbm x hxm with h4|h4
   ·refine ⟨b,hbm,fun c hc => ?_⟩;rcases List.mem_cons.1 hc with rfl|hc
    ·exact h4
    ·exact hbl c hc
   ·refine ⟨x,hxm,fun c hc => ?_⟩;rcases List.mem_cons.1 hc with rfl|hc
    ·exact h1 c hxm
    ·exact h2 x hxm b hbm c (mem_cons_of_mem _ hc) h4 (hbl c hc)
theorem FoI.none (h:FolH F P a) (hI:FoI F P a r out) (hm : ∀ z∈P,mnB F P a out z=false):FoI F P a (r+1) out:=by
 refine ⟨hI.nd,hI.sub,hI.ch,hI.seg,.inr fun z hz h1=>Classical.byContradiction fun h2 => ?_⟩;have hmem : ∀ x,x∈P.filter (fun x => !UO out x&&F a x)↔x∈P∧x∉out∧F a x=true:=fun x=>by
  rw [List.mem_filter,Bool.and_eq_true,Bool.not_eq_true'];refine and_congr Iff.rfl (and_congr ?_ Iff.rfl);rw [<- XD];simp
 obtain ⟨b,hb,hbl⟩:=z3r (R:=F) (l:=P.filter fun x => !UO out x&&F a x) (fun e=>by have:=(hmem z).2 ⟨hz,h2,h1⟩;rw [e] at this;cases this) (fun x hx=>h.self x ((hmem x).1 hx).1) (fun x hx y hy w hw=>h.tr x ((hmem x).1 hx).1 y ((hmem y).1 hy).1 w ((hmem w).1 hw).1) fun x hx y hy=>h.tot x ((hmem x).1 hx).1 y ((hmem y).1 hy).1 ((hmem x).1 hx).2.2 ((hmem y).1 hy).2.2;obtain ⟨h3,h4,h5⟩:=(hmem b).1 hb;have h6:=hm b h3;have h7:mnB F P a out b=true:=by
  unfold mnB;rw [Bool.and_eq_true,Bool.and_eq_true,Bool.not_eq_true',List.all_eq_true];refine ⟨⟨?_,h5⟩,fun c hc => ?_⟩
  ·cases h8:UO out b with
   | false=>rfl
   | true=>exact absurd (XD.1 h8) h4
  ·unfold cnB;cases h8:UO out c with
   | true=>rfl
   | false =>
     cases h9:F a c with
     | false=>rfl
     | true =>
       rw [hbl c ((hmem c).2 ⟨hc,(fun h10=>by rw [XD.2 h10] at h8;cases h8),h9⟩)];rfl
 rw [h7] at h6;cases h6
theorem FoI.len (hI:FoI F P a r out):out.length<=P.length:=ZE hI.nd fun s hs=>(hI.sub s hs).1
theorem FoI.all (hI:FoI F P a r out) (hr:P.length<=r) : ∀ y,y∈out↔y∈P∧F a y=true:=fun y=>by
 refine ⟨hI.sub y,fun h1 => ?_⟩;rcases hI.cnt with h2|h2
 ·have:=hI.len;omega
 ·exact h2 y h1.1 h1.2
def tkR (P out:List Int):List AV:=P.map fun y=>bv (UO out y)
theorem w1v (hP:P.Nodup) {b:Nat} (hb:b<P.length):(tkR P out).set b .tt=tkR P (out++[P[b]]):=by
 unfold tkR;refine List.ext_getElem? fun i => ?_;rw [List.getElem?_set,List.getElem?_map,List.getElem?_map];by_cases hi:b=i
 ·subst hi;rw [if_pos rfl,if_pos (by simpa using hb),List.getElem?_eq_getElem hb];have:UO (out++[P[b]]) P[b]=true:=XD.2 (List.mem_append.2 (.inr (List.mem_singleton.2 rfl)));simp only [Option.map_some,this];rfl
 ·rw [if_neg hi];rcases Nat.lt_or_ge i P.length with hl|hl
  ·rw [List.getElem?_eq_getElem hl];simp only [Option.map_some];have hne:P[i]≠P[b]:=fun e=>hi ((List.getElem_inj hP).1 e).symm;have:UO (out++[P[b]]) P[i]=UO out P[i]:=by
    rw [Bool.eq_iff_iff,XD,XD,List.mem_append,List.mem_singleton];exact ⟨fun h=>h.elim id fun e=>absurd e hne,.inl⟩
   rw [this]
  ·rw [List.getElem?_eq_none hl];rfl
theorem w9s:tkR P []=List.replicate P.length .ff:=by
 unfold tkR;refine List.ext_getElem? fun i => ?_;rw [List.getElem?_map,List.getElem?_replicate];rcases Nat.lt_or_ge i P.length with hl|hl
 ·rw [List.getElem?_eq_getElem hl,if_pos hl];rfl
 ·rw [List.getElem?_eq_none hl,if_neg (by omega)];rfl
theorem w7k {b:Nat} (hb:b<P.length):(tkR P out)[b]? = some (bv (UO out P[b])):=by
 unfold tkR;rw [List.getElem?_map,List.getElem?_eq_getElem hb];rfl
theorem w9c:(tkR P out).length=P.length:=by unfold tkR;rw [length_map]
end
theorem DV (F:Int->Int->Bool) (P:List Int) (a:Int) (hP:P.length<=1000000) (h:FolH F P a):SpecP Tryz.prog 112 [fmE F P,QD P,.int .i64 a] (fun r => ∃ out,r=QD out∧FoI F P a P.length out):=by
 refine sB GP Tryz.func112 rfl Tryz.call112 ?_;conv=>whnf
 have hPl:(P.map (AV.int .i64)).length=P.length:=length_map _;have hN:=NM P a h.mem;repeat' ((first|(refine iM fun _=>?_)|refine And.intro rfl ?_|refine aD ?_|refine aR ?_|(refine CallK.pure hN (.cons (Sub.refl _) (.cons (Sub.refl _) .nil)) ?_;rintro _ ⟨i0,rfl,hi0⟩)|refine BsK.own (fun x hx=>by rcases List.mem_singleton.1 hx with rfl;rfl) rfl ?_|refine MkK.mk P.length (by omega) (by show 1*_<=140737488355328;omega) (by unfold maxLen;omega) ?_|refine IdxL.mk i0 rfl (List.getElem?_eq_some_iff.1 hi0).1 ?_|refine StOwn.mk i0 0 .ff .tt (by show (0+i0)*1+0=i0*1+0;omega) (by rw [List.getElem?_replicate,if_pos (List.getElem?_eq_some_iff.1 hi0).1];rfl) (by show 0+1<=1;omega) rfl ?_);conv=>whnf)
 obtain ⟨hi1,hi2⟩:=List.getElem?_eq_some_iff.1 hi0;have hset:(List.replicate P.length AV.ff).set i0 .tt=tkR P [a]:=by
  have:=w1v (out:=[]) h.nd hi1;rw [w9s,hi2] at this;exact this
 refine LoopK.inv QX (fun x:Nat×List Int=>⟨[(0,.p (fmE F P)),(1,.p (QD P)),(7,.p (.int .i64 i0)),(8,.hd 0 0 x.2.length),(9,.hd 1 0 P.length),(25,.p (.int .i64 (P.map (AV.int .i64)).length)),(26,.p (.int .i64 x.1))],[(1,.own 4 1 (tkR P x.2)),(0,.own 3 1 (x.2.map (.int .i64)))]⟩) (fun x=>x.1<=P.length∧FoI F P a x.1 x.2) (fun x=>P.length-x.1) (0,[a]) (Le.of_eq (by rw [<- hset];rfl)) ⟨zero_le _,FoI.zero h⟩ ?_;rintro ⟨r,out⟩ ⟨h2,hI⟩;simp only at h2 hI ⊢;have hol:=hI.len;have htl:=w9c (P:=P) (out:=out);rcases Nat.lt_or_ge r P.length with hr|hr;rotate_left 1
 ·obtain rfl:r=P.length:=by omega
  conv=>whnf
  repeat' (apply bD<;>intro _<;>first|omega|conv=>whnf)
  exact ⟨_,.hd rfl (by simp),out,rfl,hI⟩
 conv=>whnf
 repeat' (first|(refine iM fun _=>?_;conv=>whnf)|(apply bD<;>intro _<;>first|omega|conv=>whnf))
 refine LoopK.inv QX (fun b:Nat=>⟨[(0,.p (fmE F P)),(1,.p (QD P)),(7,.p (.int .i64 i0)),(8,.hd 0 0 out.length),(9,.hd 1 0 P.length),(25,.p (.int .i64 (P.map (AV.int .i64)).length)),(26,.p (.int .i64 r)),(29,.p (.int .i64 (P.map (AV.int .i64)).length)),(30,.p (.int .i64 b))],[(1,.own 4 1 (tkR P out)),(0,.own 3 1 (out.map (.int .i64)))]⟩) (fun b=>b<=P.length ∧ ∀ z∈P.take b,mnB F P a out z=false) (fun b=>P.length-b) 0 (Le.of_eq rfl) ⟨zero_le _,fun z hz=>by simp at hz⟩ ?_;rintro b ⟨h3,h4⟩;rcases Nat.lt_or_ge b P.length with hb|hb;rotate_left 1
 ·rw [take_of_length_le hb] at h4;conv=>whnf
  repeat' (first|(refine wI ?_;conv=>whnf)|(apply bD<;>intro _<;>first|omega|conv=>whnf))
  all_goals exact ⟨(r+1,out),⟨by simp only;omega,hI.none h h4⟩,by simp only;omega,Le.of_eq rfl⟩
 have g:=w7k (out:=out) hb;have hm:mnB F P a out P[b]=((!UO out P[b]&&F a P[b])&&P.all (cnB F a out P[b])):=rfl;have hstep:mnB F P a out P[b]=false -> ∀ z∈P.take (b+1),mnB F P a out z=false:=fun h5 z hz=>by
  rcases (QC hb).1 hz with h6|h6
  ·exact h4 z h6
  ·rw [h6];exact h5
 generalize UO out P[b]=v at g hm;cases v;all_goals
  conv=>whnf
  repeat' (first|((first|(refine iM fun _=>?_)|refine And.intro rfl ?_|refine IdxL.mk b rfl hb ?_|refine LdOwn.mk b 0 _ (by show (0+b)*1+0=b*1+0;omega) g ?_|(refine IdxK.at (k:=i0) (e:=fmR F P a) rfl (by rw [List.getElem?_map,hi0];rfl) rfl ?_)|(refine IdxK.at (k:=b) (e := .bool (F a P[b])) rfl (by rw [List.getElem?_map,List.getElem?_eq_getElem hb];rfl) rfl ?_));conv=>whnf)|(apply bD<;>intro _<;>first|omega|conv=>whnf))
 all_goals
  refine LoopK.inv QX (fun x:Nat×Bool=>⟨[(0,.p (fmE F P)),(1,.p (QD P)),(7,.p (.int .i64 i0)),(8,.hd 0 0 out.length),(9,.hd 1 0 P.length),(10,.p (.int .i64 b)),(11,.p (.bool x.2)),(25,.p (.int .i64 (P.map (AV.int .i64)).length)),(26,.p (.int .i64 r)),(29,.p (.int .i64 (P.map (AV.int .i64)).length)),(30,.p (.int .i64 b)),(48,.p (.int .i64 (P.map (AV.int .i64)).length)),(49,.p (.int .i64 x.1))],[(1,.own 4 1 (tkR P out)),(0,.own 3 1 (out.map (.int .i64)))]⟩) (fun x=>x.1<=P.length∧(x.2&&(P.drop x.1).all (cnB F a out P[b]))=mnB F P a out P[b]) (fun x=>P.length-x.1) (0,_) (by first|exact Le.of_eq rfl|exact Le.mk [] (by simp) (by simp) (by simp) (by repeat' (first|exact .nil|refine .cons ?_ ?_|exact .refl _|exact .p (Sub.ff rfl)|exact .p (Sub.tt rfl))) (.cons rfl (.refl _) (.cons rfl (.refl _) .nil))) ⟨zero_le _,by rw [hm];rfl⟩ ?_;rintro ⟨c,fst⟩ ⟨h5,h6⟩;simp only at h5 h6 ⊢;rcases Nat.lt_or_ge c P.length with hc|hc
  ·rw [List.drop_eq_getElem_cons hc,List.all_cons] at h6;have gc:=w7k (out:=out) hc;have hcn:cnB F a out P[b] P[c]=(UO out P[c]||(!F a P[c]||F P[b] P[c])):=rfl;generalize UO out P[c]=w at gc hcn;rw [hcn] at h6;cases fst<;>cases w <;>
   (conv=>whnf
    repeat' (first|((first|refine And.intro rfl ?_|refine wI ?_|refine IdxL.mk c rfl hc ?_|refine LdOwn.mk c 0 _ (by show (0+c)*1+0=c*1+0;omega) gc ?_|(refine IdxK.at (k:=i0) (e:=fmR F P a) rfl (by rw [List.getElem?_map,hi0];rfl) rfl ?_)|(refine IdxK.at (k:=c) (e := .bool (F a P[c])) rfl (by rw [List.getElem?_map,List.getElem?_eq_getElem hc];rfl) rfl ?_)|(refine IdxK.at (k:=b) (e:=fmR F P P[b]) rfl (by rw [List.getElem?_map,List.getElem?_eq_getElem hb];rfl) rfl ?_)|(refine IdxK.at (k:=c) (e := .bool (F P[b] P[c])) rfl (by rw [List.getElem?_map,List.getElem?_eq_getElem hc];rfl) rfl ?_));conv=>whnf)|(apply bD<;>intro _<;>first|omega|conv=>whnf)|(apply bN<;>intro _<;>conv=>whnf)|(apply bB<;>intro _<;>conv=>whnf))
    all_goals first
     | contradiction
     | (have e:(false&&(P.drop (c+1)).all (cnB F a out P[b]))=mnB F P a out P[b]:=by rw [<- h6];rfl
        refine ⟨(c+1,false),⟨hc,e⟩,by simp only;omega,?_⟩;exact Le.mk [] (by simp) (by simp) (by simp) (by repeat' (first|exact .nil|refine .cons ?_ ?_|exact .refl _|exact .p (Sub.ff rfl)|exact .p (Sub.tt rfl))) (.cons rfl (.refl _) (.cons rfl (.refl _) .nil)))
     | (have e:(true&&(P.drop (c+1)).all (cnB F a out P[b]))=mnB F P a out P[b]:=by rw [<- h6];rfl
        refine ⟨(c+1,true),⟨hc,e⟩,by simp only;omega,?_⟩;exact Le.mk [] (by simp) (by simp) (by simp) (by repeat' (first|exact .nil|refine .cons ?_ ?_|exact .refl _|exact .p (Sub.ff rfl)|exact .p (Sub.tt rfl))) (.cons rfl (.refl _) (.cons rfl (.refl _) .nil)))
     | (have h9:F a P[c]=false:=by assumption
        have e:(true&&(P.drop (c+1)).all (cnB F a out P[b]))=mnB F P a out P[b]:=by rw [<- h6,h9];rfl
        refine ⟨(c+1,true),⟨hc,e⟩,by simp only;omega,?_⟩;exact Le.mk [] (by simp) (by simp) (by simp) (by repeat' (first|exact .nil|refine .cons ?_ ?_|exact .refl _|exact .p (Sub.ff rfl)|exact .p (Sub.tt rfl))) (.cons rfl (.refl _) (.cons rfl (.refl _) .nil)))
     | (have h9:F a P[c]=true:=by assumption
        have e:(F P[b] P[c]&&(P.drop (c+1)).all (cnB F a out P[b]))=mnB F P a out P[b]:=by rw [<- h6,h9];rfl
        exact ⟨(c+1,F P[b] P[c]),⟨hc,e⟩,by simp only;omega,Le.of_eq rfl⟩)
     | trace_state)
  ·rw [List.drop_eq_nil_of_le hc,List.all_nil,Bool.and_true] at h6;cases fst
   ·conv=>whnf
    repeat' (first|((first|refine And.intro rfl ?_|refine aD ?_|refine bP ?_|(refine iA fun _=>?_)|refine wI ?_);conv=>whnf)|(apply bD<;>intro _<;>first|omega|conv=>whnf)|(apply bB<;>intro _<;>conv=>whnf))
    all_goals first
     | contradiction
     | exact ⟨b+1,⟨hb,hstep h6.symm⟩,by omega,Le.of_eq rfl⟩
   ·have hset2:=w1v (out:=out) h.nd hb;conv=>whnf
    repeat' (first|((first|refine And.intro rfl ?_|refine aD ?_|refine bP ?_|(refine iA fun _=>?_)|refine wI ?_|refine IdxL.mk b rfl hb ?_|refine StOwn.mk b 0 _ .tt (by show (0+b)*1+0=b*1+0;omega) g (by show 0+1<=1;omega) rfl ?_|refine XO (by simp) (by simp;omega) ?_);conv=>whnf)|(apply bD<;>intro _<;>first|omega|conv=>whnf)|(apply bB<;>intro _<;>conv=>whnf))
    all_goals first
     | contradiction
     | exact ⟨(r+1,out++[P[b]]),⟨by simp only;omega,hI.more h (List.getElem_mem hb) h6.symm⟩,by simp only;omega,Le.of_eq (by rw [<- hset2];simp only [length_append,List.map_append];rfl)⟩
     | trace_state
section
variable {p:Pg} {j:Nat} {f:Pr}
theorem v2i (h:XG p=true) (hj:p.procs[j]? = some f) {a:Int} (ha:plP p j f a):FolH (z8f (MX (QQ p j f) f)) (q6y f) a:=by
 have hm:=(QF h).1;have hpl:=fun {x:Int}=>x5j hm hj (x:=x);refine ⟨?_,hpl.2 ha,fun x _=>(GV x x).2 (folP.self x),fun x _ y _ z _ h1 h2=>(GV x z).2 (((GV x y).1 h1).trans ((GV y z).1 h2)),fun y _ z _ h1 h2 => ?_⟩
 ·unfold Nodup;exact (v0v h hj).imp fun {x y} hxy=>fun (e:x=y)=>by subst e;exact ordP.irr _ hxy
 ·rcases folP.total h hj ha ((GV a y).1 h1) ((GV a z).1 h2) with h3|h3
  ·exact .inl ((GV y z).2 h3)
  ·exact .inr ((GV z y).2 h3)
theorem v1m (h:XG p=true) (hj:p.procs[j]? = some f) {a:Int} {out:List Int} {r:Nat} (hr:(q6y f).length<=r) (hI:FoI (z8f (MX (QQ p j f) f)) (q6y f) a r out):out=q5p p j f a:=by
 have hm:=(QF h).1;refine RowP.eq h hj ⟨fun y => ?_,hI.nd,hI.ch.imp fun {x y} hxy=>(GV x y).1 hxy⟩;rw [hI.all hr,x5j hm hj,GV]
theorem PI (h:XG p=true) (hj:p.procs[j]? = some f) {a:Int} (ha:plP p j f a):SpecP Tryz.prog 112 [fmE (z8f (MX (QQ p j f) f)) (q6y f),QD (q6y f),.int .i64 a] (fun r=>r=QD (q5p p j f a)):=by
 have hl:=q6l f;have h4:=UW (QF h).1 hj;have h7:(flatU f).length=QV f.body:=ZR 1 0 false f.body;refine (DV _ (q6y f) a (by omega) (v2i h hj ha)).mono fun r hr => ?_;obtain ⟨out,rfl,hI⟩:=hr;rw [v1m h hj (Nat.le_refl _) hI]
end
theorem NN (p:Pg) (hf:Fit p) (n:Str) (x:Int):SpecP Tryz.prog 47 [.agg p.cells,.str n,.int .i64 x] (fun r=>r=QD (z0c p n x)):=by
 refine sB BX Tryz.func47 rfl Tryz.call47 ?_;conv=>whnf
 have hG:=HH p hf n;cases hw:DR p n with
 | none =>
   have hP:=VY p hf n hw;have hh:=UI [] x;rw [q8u hw];rw [show UO [] x=false from rfl] at hh;repeat' (first|((first|refine cP hP ?_|refine cP hh ?_);conv=>whnf)|(apply bN<;>intro _<;>conv=>whnf))
   all_goals first
    | contradiction
    | exact ⟨_,.p Sub.nils,rfl⟩
 | some w =>
   obtain ⟨k,f,hk,rfl,hc,_⟩:=KD hw;have hP:=VG p hf n k f hw hk;rw [x0q hw hk] at hG;have hm:=(QF hc).1;have hl:=q6l f;have h4:=UW hm hk;have h7:(flatU f).length=QV f.body:=ZR 1 0 false f.body;have hA:(MX (QQ p k f) f).length<=1000000:=by have:=x6j hc hk;omega
   have hM:=WO _ (q6y f) (z8f (MX (QQ p k f) f)) (by omega) fun a _ b _=>YG _ a b hA;have hh:=UI (q6y f) x;rw [PJ hw hk];have hin:UO (q6y f) x=true↔0<=ixI p k f x:=by rw [XD,x5j hm hk,z5u]
   have hF:=fun hx:0<=ixI p k f x=>PI hc hk (z5u.1 hx);generalize fmE (z8f (MX (QQ p k f) f)) (q6y f)=M at *
   generalize MX (QQ p k f) f=A at *
   generalize q6y f=P at *
   generalize q5p p k f x=Q at *
   by_cases hx:0<=ixI p k f x
   ·rw [if_pos hx];have hF:=hF hx;rw [hin.2 hx] at hh;repeat' (first|((first|refine cP hP ?_|refine cP hh ?_|refine cP hG ?_|refine cP hM ?_|refine cP hF ?_);conv=>whnf)|(apply bN<;>intro _<;>conv=>whnf))
    all_goals first
     | contradiction
     | exact RetK.p rfl
   ·rw [if_neg hx];have e:UO P x=false:=by
     cases h9:UO P x with
     | false=>rfl
     | true=>exact absurd (hin.1 h9) hx
    rw [e] at hh;repeat' (first|((first|refine cP hP ?_|refine cP hh ?_);conv=>whnf)|(apply bN<;>intro _<;>conv=>whnf))
    all_goals first
     | contradiction
     | exact ⟨_,.p Sub.nils,rfl⟩
theorem q2e (p:Pg) (hf:Fit p) (n:Str):SpecP Tryz.prog 53 [.agg p.cells,.str n] (fun r=>r = .sl (avP (z9j p n))):=by
 refine sB MH Tryz.func53 rfl Tryz.call53 ?_;conv=>whnf
 have hG:=HH p hf n;cases hw:DR p n with
 | none =>
   have hP:=VY p hf n hw;have hM:=WO [] [] (z8f []) (by simp) fun a ha=>by cases ha
   rw [x7g hw];rw [x7y hw] at hG;repeat' ((first|(refine iM fun _=>?_)|refine cP hP ?_|refine cP hG ?_|refine cP hM ?_);conv=>whnf)
   refine LoopK.inv QX (fun i:Nat=>⟨[(7,.p .nils),(19,.p (.int .i64 0)),(20,.p (.int .i64 0))],[]⟩) (fun i=>True) (fun i=>i) 0 (lE) trivial ?_;intro i _;conv=>whnf
   repeat' (apply bD<;>intro _<;>first|omega|conv=>whnf)
   all_goals first
    | contradiction
    | exact ⟨_,.p Sub.nils,rfl⟩
    | (exfalso;omega)
    | trace_state
 | some w =>
   obtain ⟨k,f,hk,rfl,hc,_⟩:=KD hw;have hP:=VG p hf n k f hw hk;rw [x0q hw hk] at hG;have hm:=(QF hc).1;have hl:=q6l f;have h4:=UW hm hk;have h7:(flatU f).length=QV f.body:=ZR 1 0 false f.body;have hA:(MX (QQ p k f) f).length<=1000000:=by have:=x6j hc hk;omega
   have hM:=WO _ (q6y f) (z8f (MX (QQ p k f) f)) (by omega) fun a _ b _=>YG _ a b hA;have hat:=fun i (hi:i<QV f.body+2)=>z1u hm hk (x:=i) hi;have hF:=fun {a:Int} (ha:plP p k f a)=>PI hc hk ha;rw [q9j hw hk];have hPm:((q6y f).map (AV.int .i64)).length=(q6y f).length:=length_map _;generalize fmE (z8f (MX (QQ p k f) f)) (q6y f)=M at *
   generalize MX (QQ p k f) f=A at *
   generalize q6y f=P at *
   repeat' ((first|(refine iM fun _=>?_)|refine cP hP ?_|refine cP hG ?_|(refine CallK.pure hM (.cons (Sub.refl _) (.cons (Sub.refl _) .nil)) ?_;rintro M rfl));conv=>whnf)
   refine LoopK.inv QX (fun x:Nat×List (Int×Int)=>⟨[(5,.p (QD P)),(6,.p M),(7,.hd 0 0 x.2.length),(18,.p (QD P)),(19,.p (.int .i64 (P.map (AV.int .i64)).length)),(20,.p (.int .i64 x.1))],[(0,.own 150 2 (avP x.2))]⟩) (fun x=>x.1<=P.length∧x.2=z8e p k f (min x.1 (QV f.body+1))) (fun x=>P.length-x.1) (0,[])
    (Le.mk [(0,.own 150 2 [])] (by simp [Chunk.new0];rfl) (by simp) (by simp) (.cons (.refl _) (.cons (.refl _) (.cons (.nil mem_cons_self) (.cons (.refl _) (.cons (.refl _) (.cons (.refl _) .nil)))))) (.new mem_cons_self .nil)) ⟨zero_le _,by simp [z8e]⟩ ?_
   rintro ⟨i,acc⟩ ⟨hi,hac⟩;simp only at hi hac ⊢;have hal:=congrArg length hac;rw [x6x] at hal;have ham:(avP acc).length=acc.length:=by unfold avP;rw [length_map]
   rcases Nat.lt_or_ge i P.length with hi2|hi2;rotate_left 1
   ·rw [show min i (QV f.body+1)=QV f.body+1 by omega] at hac;subst hac;conv=>whnf
    repeat' (apply bD<;>intro _<;>first|omega|conv=>whnf)
    exact ⟨_,.hd rfl (by simp [avP]),rfl⟩
   have hpi:=hat i (by omega);rw [List.getElem?_eq_getElem hi2] at hpi;have hpi:=Option.some.inj hpi;have hpl:plP p k f P[i]:=by rw [hpi];exact (JU (p:=p) (j:=k) (f:=f) (i:=(i:Int)) (by omega)).1
   by_cases hx:P[i] = -1
   ·have hil:i=QV f.body+1:=by
     rw [hpi] at hx;unfold QN loI at hx
     (repeat' split at hx)<;>omega
    conv=>whnf
    repeat' (first|((first|(refine iA fun _=>?_)|refine wI ?_);conv=>whnf)|(apply bD<;>intro _<;>first|omega|conv=>whnf)|(apply bE<;>intro _<;>first|omega|conv=>whnf))
    all_goals first
     | contradiction
     | exact ⟨(i+1,acc),⟨hi2,by simp only;rw [hac,show min i (QV f.body+1)=min (i+1) (QV f.body+1) by omega]⟩,by simp only;omega,Le.of_eq rfl⟩
     | (exfalso;omega)
   ·have hil:i<QV f.body+1:=by
     rcases Nat.lt_or_ge i (QV f.body+1) with h|h
     ·exact h
     ·exfalso;refine hx ?_;rw [hpi];unfold QN;rw [if_neg (by omega),if_pos (by omega)]
    have hFi:=hF hpl;have h2:=z3e hc hk hpl hx;have hst:=x9w p k f i;rw [<- hpi] at hst;have hg:((q5p p k f P[i]).map (AV.int .i64))[1]? = some (.int .i64 ((q5p p k f P[i]).getD 1 0)):=UM (by omega);rw [show min i (QV f.body+1)=i by omega] at hac;generalize (q5p p k f P[i]).getD 1 0=y at *
    generalize q5p p k f P[i]=Q at *
    conv=>whnf
    repeat' (first|((first|refine And.intro rfl ?_|refine aD ?_|refine bP ?_|(refine iA fun _=>?_)|refine wI ?_|refine cP hFi ?_|(refine IdxK.at (k:=1) rfl hg rfl ?_)|refine AppK.mk (n:=acc.length) (by omega) rfl (by show (acc.length+1)*16<=140737488355328;omega) (by show acc.length+1<=9223372036854775807;omega) (fun x hx=>by rcases List.mem_singleton.1 hx with rfl;exact ⟨rfl,rfl⟩) ?_);conv=>whnf)|(apply bD<;>intro _<;>first|omega|conv=>whnf)|(apply bE<;>intro _<;>first|omega|conv=>whnf))
    all_goals first
     | contradiction
     | exact ⟨(i+1,acc++[(P[i],y)]),⟨hi2,by simp only;rw [show min (i+1) (QV f.body+1)=i+1 by omega,hst,hac]⟩,by simp only;omega,Le.of_eq (by simp only [avP,length_append,List.map_append];rfl)⟩
     | trace_state
theorem BL (l m:List (Int×Int)):SpecP Tryz.prog 51 [.sl (avP l),.sl (avP m)] (fun r=>r = .bool (decide (l=m))):=by
 refine sB FC Tryz.func51 rfl Tryz.call51 ?_;conv=>whnf
 have h1:(avP l).length=l.length:=by unfold avP;rw [length_map]
 have h2:(avP m).length=m.length:=by unfold avP;rw [length_map]
 repeat' (first|(refine iM fun _=>?_;conv=>whnf)|(apply bE<;>intro _<;>first|omega|conv=>whnf))
 all_goals first
  | exact RetK.ff (decide_eq_false fun h=>by subst h;omega)
  | skip
 have hlen:l.length=m.length:=by omega
 refine LoopK.inv QX (fun j:Nat=>⟨[(0,.p (.sl (avP l))),(1,.p (.sl (avP m))),(12,.p (.int .i64 (avP l).length)),(13,.p (.int .i64 j))],[]⟩) (fun j=>j<=l.length∧l.take j=m.take j) (fun j=>l.length-j) 0 (Le.of_eq rfl) ⟨zero_le _,rfl⟩ ?_;rintro j ⟨h3,h4⟩;rcases Nat.lt_or_ge j l.length with hj|hj
 ·have e1:(avP l)[j]? = some (.agg [.int .i64 l[j].1,.int .i64 l[j].2]):=by simp [avP,hj]
  have e2:(avP m)[j]? = some (.agg [.int .i64 (m[j]'(by omega)).1,.int .i64 (m[j]'(by omega)).2]):=by simp [avP,show j<m.length by omega]
  have hst:=fun (he:l[j]=(m[j]'(by omega)))=>q7r h4 hj (by omega) he;have hno:l[j]≠(m[j]'(by omega)) -> ¬l=m:=fun hne he=>hne (by subst he;rfl);generalize l[j]=u at e1 hst hno;generalize (m[j]'(by omega))=v at e2 hst hno;conv=>whnf
  repeat' (first|((first|refine dA ?_|refine wI ?_|(refine IdxK.at (k:=j) rfl e1 rfl ?_)|(refine IdxK.at (k:=j) rfl e2 rfl ?_)|refine z3w rfl rfl rfl ?_);conv=>whnf)|(apply bD<;>intro _<;>first|omega|conv=>whnf)|(apply bE<;>intro _<;>first|omega|conv=>whnf))
  all_goals first
   | exact RetK.ff (decide_eq_false (hno (by simp_all)))
   | exact ⟨j+1,⟨by omega,hst (by simp_all)⟩,by omega,Le.of_eq rfl⟩
   | skip
 ·conv=>whnf
  repeat' (apply bD<;>intro _<;>first|omega|conv=>whnf)
  exact RetK.tt (decide_eq_true (x5q h4 hj (by omega)))
theorem NR (p:Pg) (n x:Int):SpecP Tryz.prog 7 [.agg p.cells,.int .i64 n,.int .i64 x] (fun r=>r = .tt):=by
 refine sB DO Tryz.func7 rfl Tryz.call7 ?_;conv=>whnf
 cases hfb:w7t p with
 | false =>
   have hno : ¬gPg p<=20000:=by unfold w7t at hfb;simpa using hfb
   repeat' (first|((first|refine cP (US _) ?_|refine cP ZA ?_);conv=>whnf)|(apply bE<;>intro _<;>first|omega|conv=>whnf))
   all_goals first
    | exact ⟨_,.p (Sub.refl _),rfl⟩
    | (exfalso;simp_all;done)
 | true =>
   have hf:Fit p:=v1p hfb;have hfit:gPg p<=20000:=by unfold w7t at hfb;simpa using hfb
   have hM:=q2k p hf;have hPA:=q0b p n (z6d hf);have hC:(w3a p).1=0->SpecP Tryz.prog 18 [.agg p.cells] (fun r=>r = .int .i64 (cntP p.procs)):=fun hA=>z6m p (by have:=(KU (show XG p=true by unfold XG;simpa using hA)).2.2;omega);have hF:=NN p hf (WA p n) x;have hN:=z3m p hf (WA p n) x;have hO:=w0g p hf (WA p n) x;have hT1:=z3o p hf (WA p n);have hT2:=q2e p hf (WA p n);have hlen:=w5g p (WA p n) x;have hQ1:=NC (z0c p (WA p n) x) (z0c p (WA p n) x);have hQ2:=BL (z9j p (WA p n)) (z9j p (WA p n));simp only [eq_self,decide_true] at hQ1 hQ2;unfold z6l at hN;generalize z0c p (WA p n) x=Q at *
   generalize z9j p (WA p n)=L at *
   generalize WA p n=pn at *
   have hQm:(Q.map (AV.int .i64)).length=Q.length:=length_map _;by_cases hl:Q.length<2
   ·rw [if_pos hl] at hN;repeat' (first|((first|(refine iM fun _=>?_)|refine cP (US _) ?_|refine dA ?_|refine cP ZA ?_|refine cP hM ?_|(refine CallK.pure (hC (by assumption)) (.cons (Sub.refl _) .nil) ?_;rintro _ rfl)|refine cP hPA ?_|refine cP hF ?_|refine cP hN ?_|refine WN QX rfl rfl rfl rfl rfl ?_|refine cP hO ?_|refine cP hQ1 ?_|refine cP hT1 ?_|refine cP hT2 ?_|refine cP hQ2 ?_);conv=>whnf)|(apply bD<;>intro _<;>first|omega|conv=>whnf)|(apply bE<;>intro _<;>first|omega|conv=>whnf)|(apply bN<;>intro _<;>conv=>whnf)|(apply bB<;>intro _<;>conv=>whnf))
    all_goals first
     | contradiction
     | (exfalso;omega)
     | exact ⟨_,.p (Sub.refl _),rfl⟩
     | exact ⟨_,.p w7f,rfl⟩
     | (exfalso;simp_all;omega)
     | (exfalso;simp_all;done)
     | trace_state
   ·rw [if_neg hl] at hN;have hg:(Q.map (AV.int .i64))[1]? = some (.int .i64 (Q.getD 1 0)):=UM (by omega);generalize Q.getD 1 0=y at *
    repeat' (first|((first|(refine iM fun _=>?_)|refine cP (US _) ?_|refine dA ?_|refine cP ZA ?_|refine cP hM ?_|(refine CallK.pure (hC (by assumption)) (.cons (Sub.refl _) .nil) ?_;rintro _ rfl)|refine cP hPA ?_|refine cP hF ?_|refine cP hN ?_|refine WN QX rfl rfl rfl rfl rfl ?_|(refine IdxK.at (k:=1) rfl hg rfl ?_)|refine cP hO ?_|refine cP hQ1 ?_|refine cP hT1 ?_|refine cP hT2 ?_|refine cP hQ2 ?_);conv=>whnf)|(apply bD<;>intro _<;>first|omega|conv=>whnf)|(apply bE<;>intro _<;>first|omega|conv=>whnf)|(apply bN<;>intro _<;>conv=>whnf)|(apply bB<;>intro _<;>conv=>whnf))
    all_goals first
     | contradiction
     | (exfalso;omega)
     | exact ⟨_,.p (Sub.refl _),rfl⟩
     | exact ⟨_,.p w7f,rfl⟩
     | (exfalso;simp_all;omega)
     | (exfalso;simp_all;done)
     | trace_state
end Go.Ab
