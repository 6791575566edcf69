/- LAW: a procedure's traps, told by what they are. -/
import Derived.Test.YtneccajakpeodaaGreatAugA16
import Derived.Test.YtneccajakpeodaaGreatAugA18
import Derived.Test.YtneccajakpeodaaGreatAugA19
set_option linter.unusedSimpArgs false
set_option linter.unusedVariables false
set_option maxRecDepth 100000
set_option maxHeartbeats 16000000
namespace Go.Ab
open Go.Proofs
def befR (a b:List Int):Prop := ∃ x∈a,∀ y∈b,ordP x y
theorem befR.irr (a:List Int) : ¬befR a a:=fun ⟨x,hx,h⟩=>ordP.irr x (h x hx)
theorem befR.trans (a b c:List Int) (h1:befR a b) (h2:befR b c):befR a c:=by
 obtain ⟨x,hx,h⟩:=h1
 obtain ⟨y,hy,h'⟩:=h2
 exact ⟨x,hx,fun z hz=>ordP.trans _ _ _ (h y hy) (h' z hz)⟩
def tlsP (p:Pg) (j:Nat) (f:Pr) (l:List Int):Prop:=l.Pairwise ordP ∧ ∃ r,TrapP p j f l r
def trpX (p:Pg) (j:Nat) (f:Pr) (x:Int):Prop := ¬Rch (wR p j f) x (-1) ∧ ∀ y,Rch (wR p j f) x y→Rch (wR p j f) y x
section
variable {p:Pg} {j:Nat} {f:Pr}
theorem z3x {l m:List Int} (hl:tlsP p j f l) (hm:tlsP p j f m) {x:Int} (h1:x∈l) (h2:x∈m):l=m:=by
 obtain ⟨h3,r,h4⟩:=hl
 obtain ⟨h5,s,h6⟩:=hm
 have h7:=((h4.mem x).1 h1).2
 have h8:=((h6.mem x).1 h2).2
 refine z2g h3 h5 fun b => ?_
 rw [h4.mem,h6.mem]
 exact and_congr Iff.rfl ⟨fun h=>(h8.trans h7.symm).trans h,fun h=>(h7.trans h8.symm).trans h⟩
theorem x2u {i k:Int} (hi:0≤i∧i<k) (hk:k<(QY f.body+2:Nat)):ordP (XH p j (QY f.body+2:Nat) i) (XH p j (QY f.body+2:Nat) k):=by
 rw [GD]
 unfold XH loI
 (repeat' split)<;>omega
theorem z4m {part:List Int} {i:Nat}:(GW (XH p j (QY f.body+2:Nat)) part i (QY f.body+2)).Pairwise ordP:=by
 unfold GW
 rw [List.pairwise_map]
 have h1:((List.range (QY f.body+2)).filter fun j=>part.getD j 0==(i:Int)).Pairwise fun a b=>a<b:=List.Pairwise.sublist List.filter_sublist List.pairwise_lt_range
 refine h1.imp_of_mem fun {a b} ha hb hab => ?_
 have h2:=List.mem_range.1 (List.mem_filter.1 hb).1
 exact x2u (by omega) (by omega)
theorem x5x (h:ZB p=true) (hj:p.procs[j]? = some f) {l:List Int} (hl:l∈trapsW (QX p j f) f):l.Pairwise ordP:=by
 obtain ⟨i,_,_,_,rfl⟩:=LW.1 hl
 exact z4m
theorem z5w (h:ZB p=true) (hj:p.procs[j]? = some f):(trapsW (QX p j f) f).Pairwise befR ∧ ∀ l,l∈trapsW (QX p j f) f↔tlsP p j f l:=by
 constructor
 ·have e:trapsW (QX p j f) f=((List.range (QY f.body+2)).filter (LQ (ZA (QX p j f) f) (q3x (QY f.body+2) (ZA (QX p j f) f) (prsW (QX p j f) f)))).map fun i=>GW (XH p j (QY f.body+2:Nat)) (ZA (QX p j f) f) i (QY f.body+2):=by
   unfold trapsW NX
   rw [q3s]
   rfl
  rw [e,List.pairwise_map]
  have h1:((List.range (QY f.body+2)).filter (LQ (ZA (QX p j f) f) (q3x (QY f.body+2) (ZA (QX p j f) f) (prsW (QX p j f) f)))).Pairwise fun a b=>a<b:=List.Pairwise.sublist List.filter_sublist List.pairwise_lt_range
  refine h1.imp_of_mem fun {a b} ha hb hab => ?_
  obtain ⟨h2,h3⟩:=List.mem_filter.1 ha
  have h2:=List.mem_range.1 h2
  unfold LQ at h3
  rw [Bool.and_eq_true,beq_iff_eq] at h3
  refine ⟨XH p j (QY f.body+2:Nat) a,q5x.2 ⟨a,h2,h3.1,rfl⟩,fun y hy => ?_⟩
  obtain ⟨k,hk,hpk,rfl⟩:=q5x.1 hy
  have h4:=(MH (p:=p) (j:=j) (f:=f) (i:=(k:Int)) (by omega)).le _ (.refl _)
  rw [← LP,hpk] at h4
  exact x2u (by omega) (by omega)
 ·intro l
  constructor
  ·intro hl
   exact ⟨x5x h hj hl,x3m h hj hl⟩
  ·rintro ⟨h1,r,h2⟩
   obtain ⟨l',h3,h4⟩:=w0i h hj h2.pl h2.cl h2.n0 h2.nx
   have:l=l':=z2g h1 (x5x h hj h3) fun b=>by rw [h2.mem,h4]
   rw [this]
   exact h3
theorem w2k (h:ZB p=true) (hj:p.procs[j]? = some f) {a b:Int} (hr:wR p j f a b):b≠0:=by
 obtain ⟨s,hs,_,rfl⟩:=hr
 have h1:=((NQ h hj).2.1 s (((FE h hj).2 s).1 hs)).2
 unfold okI at h1
 omega
theorem w2c (h:ZB p=true) (hj:p.procs[j]? = some f) {a b:Int} (ha:a≠0) (hr:Rch (wR p j f) a b):b≠0:=by
 cases hr with
 | refl=>exact ha
 | tail _ h2=>exact w2k h hj h2
theorem w0j (h:ZB p=true) (hj:p.procs[j]? = some f) {x:Int} (hx:plP p j f x) (h0:x≠0) (ht:trpX p j f x) {m:List Int} (hm1:m.Pairwise ordP) (hm2 : ∀ s,s∈m↔Rch (wR p j f) x s):tlsP p j f m:=by
 obtain ⟨h1,h2⟩:=ht
 refine ⟨hm1,x,hx,fun b => ?_,fun b c hb hbc => ?_,fun hs => ?_,fun hs=>h1 hs.1⟩
 ·rw [hm2]
  exact ⟨fun h3=>⟨w2p h hj hx h3,h3,h2 b h3⟩,fun h3=>h3.2.1⟩
 ·have h3:Rch (wR p j f) x c := .tail hb.1 hbc
  exact ⟨h3,h2 c h3⟩
 ·exact w2c h hj h0 hs.1 rfl
theorem z3i (h:ZB p=true) (hj:p.procs[j]? = some f) {l:List Int} (hl:tlsP p j f l) {x:Int} (hx:x∈l):trpX p j f x∧(QR p.procs j:Int)+1≤x∧x≤(QR p.procs j+QY f.body:Nat):=by
 obtain ⟨_,r,ht⟩:=hl
 obtain ⟨hpl,hs⟩:=(ht.mem x).1 hx
 have hcl : ∀ y,Rch (wR p j f) x y→sccP (wR p j f) r y:=fun y hy=>hy.closed (S:=fun y=>sccP (wR p j f) r y) (fun a b ha hab=>ht.cl a b ha hab) hs
 refine ⟨⟨fun hr=>ht.nx (hcl _ hr),fun y hy=>((hcl y hy).symm.trans hs).1⟩,?_⟩
 rcases hpl with rfl|rfl|h1
 ·exact absurd hs ht.n0
 ·exact absurd hs ht.nx
 ·exact h1
structure TrI (p:Pg) (j:Nat) (f:Pr) (k:Nat) (out:List (List Int)):Prop where
 ok : ∀ l∈out,tlsP p j f l ∧ ∃ x∈((flatU f).take k).map (fun y=>y.s.id),x∈l
 has : ∀ x∈((flatU f).take k).map (fun y=>y.s.id),trpX p j f x → ∃ l∈out,x∈l
 ord:out.Pairwise befR
theorem TrI.zero:TrI p j f 0 []:=⟨fun _ h=>(by cases h),fun x h=>(by simp at h),.nil⟩
theorem q9f (h:ZB p=true) (hj:p.procs[j]? = some f) {k:Nat} (hk:k<(flatU f).length):(flatU f)[k].s.id=(QR p.procs j:Int)+1+k:=by
 have h1:=x0g (QE h).1 hj
 have h2:=congrArg (fun l=>l[k]?) h1
 simp only [List.getElem?_map,List.getElem?_eq_getElem hk,Option.map_some] at h2
 have hc:(flatU f).length=QY f.body:=by
  have:=congrArg List.length h1
  unfold JC at this
  simpa using this
 unfold JC at h2
 rw [List.getElem?_map,List.getElem?_range' (by omega)] at h2
 simp only [Option.map_some,Option.some.injEq] at h2
 rw [h2]
 omega
theorem w0k (h:ZB p=true) (hj:p.procs[j]? = some f) {k:Nat} {x:Int} (hx:x∈((flatU f).take k).map (fun y=>y.s.id)):(QR p.procs j:Int)+1≤x∧x≤(QR p.procs j:Int)+k:=by
 obtain ⟨y,hy,rfl⟩:=List.mem_map.1 hx
 obtain ⟨i,hi,rfl⟩:=List.mem_iff_getElem.1 hy
 rw [List.length_take] at hi
 rw [List.getElem_take,q9f h hj (by omega)]
 omega
theorem z5v (h:ZB p=true) (hj:p.procs[j]? = some f) {k:Nat} {x:Int} (hk:k≤(flatU f).length) (h1:(QR p.procs j:Int)+1≤x) (h2:x≤(QR p.procs j:Int)+k):x∈((flatU f).take k).map (fun y=>y.s.id):=by
 refine List.mem_map.2 ⟨(flatU f)[(x-QR p.procs j-1).toNat],List.mem_iff_getElem.2 ⟨(x-QR p.procs j-1).toNat,by rw [List.length_take];omega,by rw [List.getElem_take]⟩,?_⟩
 rw [q9f h hj]
 omega
theorem TrI.same {k:Nat} {out:List (List Int)} (hk:k<(flatU f).length) (hI:TrI p j f k out) (hx:trpX p j f (flatU f)[k].s.id → ∃ l∈out,(flatU f)[k].s.id∈l):TrI p j f (k+1) out:=by
 have e:((flatU f).take (k+1)).map (fun y=>y.s.id)=((flatU f).take k).map (fun y=>y.s.id)++[(flatU f)[k].s.id]:=by rw [List.take_succ_eq_append_getElem hk,List.map_append];rfl
 refine ⟨fun l hl => ?_,fun x h1 h2 => ?_,hI.ord⟩
 ·obtain ⟨h1,x,h2,h3⟩:=hI.ok l hl
  exact ⟨h1,x,by rw [e];exact List.mem_append.2 (.inl h2),h3⟩
 ·rw [e] at h1
  rcases List.mem_append.1 h1 with h1|h1
  ·exact hI.has x h1 h2
  ·rw [List.mem_singleton.1 h1] at h2 ⊢
   exact hx h2
theorem TrI.more (h:ZB p=true) (hj:p.procs[j]? = some f) {k:Nat} {out:List (List Int)} (hk:k<(flatU f).length) (hI:TrI p j f k out) (ht:trpX p j f (flatU f)[k].s.id) (hn : ∀ l∈out,(flatU f)[k].s.id∉l) {m:List Int} (hm1:m.Pairwise ordP) (hm2 : ∀ s,s∈m↔Rch (wR p j f) (flatU f)[k].s.id s):TrI p j f (k+1) (out++[m]):=by
 have e:((flatU f).take (k+1)).map (fun y=>y.s.id)=((flatU f).take k).map (fun y=>y.s.id)++[(flatU f)[k].s.id]:=by rw [List.take_succ_eq_append_getElem hk,List.map_append];rfl
 have hid:=q9f h hj hk
 have hlen:(flatU f).length=QY f.body:=WB 1 0 false f.body
 have hT:tlsP p j f m:=w0j h hj (.inr (.inr ⟨by omega,by omega⟩)) (by omega) ht hm1 hm2
 have hxm:(flatU f)[k].s.id∈m:=(hm2 _).2 .refl
 refine ⟨fun l hl => ?_,fun x h1 h2 => ?_,?_⟩
 ·rcases List.mem_append.1 hl with hl|hl
  ·obtain ⟨h1,x,h2,h3⟩:=hI.ok l hl
   exact ⟨h1,x,by rw [e];exact List.mem_append.2 (.inl h2),h3⟩
  ·rw [List.mem_singleton.1 hl]
   exact ⟨hT,_,by rw [e];exact List.mem_append.2 (.inr (List.mem_singleton.2 rfl)),hxm⟩
 ·rw [e] at h1
  rcases List.mem_append.1 h1 with h1|h1
  ·obtain ⟨l,h3,h4⟩:=hI.has x h1 h2
   exact ⟨l,List.mem_append.2 (.inl h3),h4⟩
  ·rw [List.mem_singleton.1 h1]
   exact ⟨m,List.mem_append.2 (.inr (List.mem_singleton.2 rfl)),hxm⟩
 ·rw [List.pairwise_append]
  refine ⟨hI.ord,List.pairwise_singleton _ _,fun a ha b hb => ?_⟩
  rw [List.mem_singleton.1 hb]
  obtain ⟨_,x,h2,h3⟩:=hI.ok a ha
  refine ⟨x,h3,fun z hz => ?_⟩
  obtain ⟨h4,h5,h6⟩:=z3i h hj hT hz
  have h7:=w0k h hj h2
  rw [GD]
  refine .inr ⟨by omega,by omega,?_⟩
  rcases Int.lt_or_le (QR p.procs j+k:Int) z with h8|h8
  ·omega
  ·obtain ⟨l,h9,h10⟩:=hI.has z (z5v h hj (by omega) h5 h8) h4
   have h11:=z3x (hI.ok l h9).1 hT h10 hz
   exact absurd (by rw [h11];exact hxm) (hn l h9)
theorem TrI.all (h:ZB p=true) (hj:p.procs[j]? = some f) {k:Nat} {out:List (List Int)} (hk:k=(flatU f).length) (hI:TrI p j f k out):out=trapsW (QX p j f) f:=by
 obtain ⟨h1,h2⟩:=z5w h hj
 have hlen:(flatU f).length=QY f.body:=WB 1 0 false f.body
 refine q3t befR.irr befR.trans hI.ord h1 fun l => ?_
 rw [h2]
 constructor
 ·exact fun hl=>(hI.ok l hl).1
 ·intro hl
  obtain ⟨_,r,ht⟩:=id hl
  have hr:r∈l:=(ht.mem r).2 ⟨ht.pl,.refl _⟩
  obtain ⟨h3,h4,h5⟩:=z3i h hj hl hr
  obtain ⟨l',h6,h7⟩:=hI.has r (z5v h hj (by omega) h4 (by omega)) h3
  rw [z3x hl (hI.ok l' h6).1 hr h7]
  exact h6
theorem TrI.len (h:ZB p=true) (hj:p.procs[j]? = some f) {k:Nat} {out:List (List Int)} (hk:k≤(flatU f).length) (hI:TrI p j f k out):out.length≤k:=by
 have hnd:out.Nodup:=by
  unfold List.Nodup
  refine hI.ord.imp fun {a b} hab e => ?_
  subst e
  exact befR.irr _ hab
 classical
 let g:List Int→Int:=fun l=>if hl:l∈out then Classical.choose (hI.ok l hl).2 else 0
 have hg : ∀ l∈out,g l∈((flatU f).take k).map (fun y=>y.s.id)∧g l∈l:=fun l hl=>by
  have e:g l=Classical.choose (hI.ok l hl).2:=dif_pos hl
  rw [e]
  exact Classical.choose_spec (hI.ok l hl).2
 have h1:(out.map g).Nodup:=by
  unfold List.Nodup
  rw [List.pairwise_map]
  refine hnd.imp_of_mem fun {a b} ha hb hab e=>hab ?_
  exact z3x (hI.ok a ha).1 (hI.ok b hb).1 (hg a ha).2 (by rw [e];exact (hg b hb).2)
 have:=VK h1 (m:=((flatU f).take k).map (fun y=>y.s.id)) fun s hs=>by
  obtain ⟨l,hl,rfl⟩:=List.mem_map.1 hs
  exact (hg l hl).1
 rw [List.length_map,List.length_map,List.length_take] at this
 omega
end
theorem q6h {l m:List Step} (hok : ∀ s∈l,okSt s) (h : ∀ s,s∈l↔s∈m):ZY l=ZY m:=by
 obtain ⟨h1,h2,h3⟩:=x2w (l:=m) fun s hs=>hok s ((h s).2 hs)
 exact NR hok h1 (fun s hs=>(h s).2 (h2 s hs)) fun s hs=>h3 s ((h s).1 hs)
open Go.Proofs
theorem BU (l:List Int) (hl:l.length≤1000000000):SpecP Tryz.prog 92 [QS l] (fun r=>w6f l r):=by
 refine SpecP.body HD QQ Tryz.func92 rfl Tryz.call92 (by show 1≤_;decide) ?_
 conv=>whnf
 intro (_:_≤9223372036854775807)
 have hll:(l.map (AV.int .i64)).length=l.length:=List.length_map _
 conv=>whnf
 refine LoopK.inv QQ (fun x:Nat×List Int=>⟨[(0,.p (QS l)),(3,.hd 0 0 x.2.length),(9,.p (.int .i64 (l.map (AV.int .i64)).length)),(10,.p (.int .i64 x.1))],[(0,.own 3 1 (x.2.map (.int .i64)))]⟩) (fun x=>x.1≤l.length∧RiseI ordP l x.2 x.1) (fun x=>l.length-x.1) (0,[])
  (Le.mk [(0,.own 3 1 [])] (by simp [Chunk.new0];rfl) (by simp) (by simp) (.cons (.refl _) (.cons (.nil List.mem_cons_self) (.cons (.refl _) (.cons (.refl _) .nil)))) (.new List.mem_cons_self .nil)) ⟨Nat.zero_le _,RiseI.zero⟩ ?_
 rintro ⟨i,out⟩ ⟨h2,h3⟩
 simp only at h2 h3 ⊢
 have hol:=h3.len ordP.irr
 rcases Nat.lt_or_ge i l.length with hi|hi
 ·conv=>whnf
  repeat' (first|(intro (_:_≤9223372036854775807);conv=>whnf)|(refine Br.dec (fun _=>?_) (fun _=>?_)<;>first|(exfalso;omega)|conv=>whnf))
  refine LoopK.inv QQ (fun x:Nat×Option Int=>⟨[(0,.p (QS l)),(3,.hd 0 0 out.length),(4,.p (.int .i64 (x.2.getD 0))),(5,.p (.bool x.2.isSome)),(9,.p (.int .i64 (l.map (AV.int .i64)).length)),(10,.p (.int .i64 i)),(12,.p (QS l)),(13,.p (.int .i64 (l.map (AV.int .i64)).length)),(14,.p (.int .i64 x.1))],[(0,.own 3 1 (out.map (.int .i64)))]⟩) (fun x=>x.1≤l.length∧LeastI ordP l out x.1 x.2) (fun x=>l.length-x.1) (0,none) (Le.mk [] (by simp) (by simp) (by simp) (.cons (.refl _) (.cons (.refl _) (.cons (.refl _) (.cons (.p (Sub.ff rfl)) (.cons (.refl _) (.cons (.refl _) (.cons (.refl _) (.cons (.refl _) (.cons (.refl _) .nil))))))))) (.cons rfl (.refl _) .nil)) ⟨Nat.zero_le _,LeastI.zero⟩ ?_
  rintro ⟨k,o⟩ ⟨h4,h5⟩
  simp only at h4 h5 ⊢
  rcases Nat.lt_or_ge k l.length with hk|hk
  ·have hin:q0u out l[k]=true→l[k]∈out:=UV.1
   have hno:q0u out l[k]=false→l[k]∉out:=fun h hm=>by rw [UV.2 hm] at h;cases h
   cases o with
   | none =>
     simp only [Option.getD_none,Option.isSome_none]
     conv=>whnf
     repeat' (first|((first|refine IdxK.map (by omega) (fun _=>rfl) ?_|refine Wr.i64 (by omega) (by omega) ?_|(refine CallK.borrow (QA out (l[k]'hk)) (.cons (.hd rfl (by simp)) (.cons (.p (Sub.refl _)) .nil)) (by rintro _ rfl;rfl) ?_;rintro _ rfl));conv=>whnf)|(refine Br.dec (fun _=>?_) (fun _=>?_)<;>first|(exfalso;omega)|conv=>whnf)|(refine Br.n (fun _=>?_) (fun _=>?_)<;>conv=>whnf))
     all_goals first
      | (exfalso;simp_all;done)
      | exact ⟨(k+1,none),⟨by simp only;omega,h5.old hk (hin (by assumption))⟩,by simp only;omega,Le.of_eq rfl⟩
      | exact ⟨(k+1,some l[k]),⟨by simp only;omega,h5.first hk (hno (by assumption))⟩,by simp only;omega,(Le.mk [] (by simp) (by simp) (by simp) (.cons (.refl _) (.cons (.refl _) (.cons (.refl _) (.cons (.p (Sub.tt rfl)) (.cons (.refl _) (.cons (.refl _) (.cons (.refl _) (.cons (.refl _) (.cons (.refl _) .nil))))))))) (.cons rfl (.refl _) .nil))⟩
   | some m =>
     simp only [Option.getD_some,Option.isSome_some]
     conv=>whnf
     repeat' (first|((first|refine IdxK.map (by omega) (fun _=>rfl) ?_|refine Wr.i64 (by omega) (by omega) ?_|(refine CallK.borrow (QA out (l[k]'hk)) (.cons (.hd rfl (by simp)) (.cons (.p (Sub.refl _)) .nil)) (by rintro _ rfl;rfl) ?_;rintro _ rfl)|(refine CallK.pure (JX (l[k]'hk) m) (.cons (Sub.refl _) (.cons (Sub.refl _) .nil)) ?_;rintro _ rfl));conv=>whnf)|(refine Br.dec (fun _=>?_) (fun _=>?_)<;>first|(exfalso;omega)|conv=>whnf)|(refine Br.n (fun _=>?_) (fun _=>?_)<;>conv=>whnf)|(refine Br.b (fun _=>?_) (fun _=>?_)<;>conv=>whnf))
     all_goals first
      | (exfalso;simp_all;done)
      | exact ⟨(k+1,some m),⟨by simp only;omega,h5.old hk (hin (by assumption))⟩,by simp only;omega,Le.of_eq rfl⟩
      | exact ⟨(k+1,some l[k]),⟨by simp only;omega,h5.less ordP.trans hk (hno (by assumption)) (by assumption)⟩,by simp only;omega,(Le.mk [] (by simp) (by simp) (by simp) (.cons (.refl _) (.cons (.refl _) (.cons (.refl _) (.cons (.p (Sub.tt rfl)) (.cons (.refl _) (.cons (.refl _) (.cons (.refl _) (.cons (.refl _) (.cons (.refl _) .nil))))))))) (.cons rfl (.refl _) .nil))⟩
      | (have hb:z8p l[k] m=false:=by assumption
         exact ⟨(k+1,some m),⟨by simp only;omega,h5.more ordP.total hk (fun h=>by unfold ordP at h;rw [hb] at h;cases h)⟩,by simp only;omega,Le.of_eq rfl⟩)
  ·obtain rfl:k=l.length:=by omega
   cases o with
   | none =>
     simp only [Option.getD_none,Option.isSome_none]
     conv=>whnf
     repeat' (first|((first|refine And.intro rfl ?_|(refine And.intro ⟨by decide,by decide⟩ ?_)|refine BsK.pure (fun x hx=>by rcases List.mem_singleton.1 hx with rfl;rfl) rfl ?_|refine Wr.i64 (by omega) (by omega) ?_);conv=>whnf)|(refine Br.dec (fun _=>?_) (fun _=>?_)<;>first|(exfalso;omega)|conv=>whnf)|(refine Br.b (fun _=>?_) (fun _=>?_)<;>conv=>whnf))
     all_goals first
      | (exfalso;simp_all;done)
      | exact ⟨(i+1,out),⟨by simp only;omega,h3.stay h5⟩,by simp only;omega,Le.of_eq rfl⟩
   | some m =>
     simp only [Option.getD_some,Option.isSome_some]
     conv=>whnf
     repeat' (first|((first|refine And.intro rfl ?_|(refine And.intro ⟨by decide,by decide⟩ ?_)|refine BsK.pure (fun x hx=>by rcases List.mem_singleton.1 hx with rfl;rfl) rfl ?_|refine Wr.i64 (by omega) (by omega) ?_|refine AppK.int1 (by simp) (by simp;omega) ?_);conv=>whnf)|(refine Br.dec (fun _=>?_) (fun _=>?_)<;>first|(exfalso;omega)|conv=>whnf)|(refine Br.b (fun _=>?_) (fun _=>?_)<;>conv=>whnf))
     all_goals first
      | (exfalso;simp_all;done)
      | exact ⟨(i+1,out++[m]),⟨by simp only;omega,h3.snoc h5⟩,by simp only;omega,Le.of_eq (by simp only [List.length_append,List.map_append];rfl)⟩
 ·obtain ⟨h6,h7⟩:=h3.all ordP.irr (by omega)
  conv=>whnf
  repeat' (refine Br.dec (fun _=>?_) (fun _=>?_)<;>first|(exfalso;omega)|conv=>whnf)
  exact ⟨_,.hd rfl (by simp),out,rfl,h6,h7⟩
open Go.Proofs
theorem VV (p:Pg) (j:Nat) (f:Pr) (h:ZB p=true) (hj:p.procs[j]? = some f):SpecP Tryz.prog 101 [x2l f,QL (QX p j f).real] (fun r=>r=q7e (trapsW (QX p j f) f)):=by
 refine SpecP.body JW QQ Tryz.func101 rfl Tryz.call101 (by show 2≤_;decide) ?_
 conv=>whnf
 intro (_:_≤9223372036854775807)
 have hm:=(QE h).1
 have hlU:=KT hm hj
 have hLl:=WJ (flatU f)
 have hrl:=x5m h hj
 have hFr:=fun a=>LZ (QX p j f).real a [] (by omega)
 have hlen:(flatU f).length=QY f.body:=WB 1 0 false f.body
 conv=>whnf
 refine LoopK.inv QQ (fun x:Nat×List (List Int)=>⟨[(1,.p (QL (QX p j f).real)),(5,.hd 0 0 x.2.length),(16,.p (JF (flatU f))),(17,.p (.int .i64 ((flatU f).map fun i=>AV.agg i.cells).length)),(18,.p (.int .i64 x.1))],[(0,.own 36 1 (x.2.map QS))]⟩) (fun x=>x.1≤(flatU f).length∧TrI p j f x.1 x.2) (fun x=>(flatU f).length-x.1) (0,[])
  (Le.mk [(0,.own 36 1 [])] (by simp [Chunk.new0];rfl) (by simp) (by simp) (.cons (.refl _) (.cons (.nil List.mem_cons_self) (.cons (.refl _) (.cons (.refl _) (.cons (.refl _) .nil))))) (.new List.mem_cons_self .nil)) ⟨Nat.zero_le _,TrI.zero⟩ ?_
 rintro ⟨k,out⟩ ⟨h2,hI⟩
 simp only at h2 hI ⊢
 have hol:=hI.len h hj h2
 rcases Nat.lt_or_ge k (flatU f).length with hk|hk
 rotate_left 1
 ·have:=hI.all h hj (by omega)
  subst this
  conv=>whnf
  repeat' (refine Br.dec (fun _=>?_) (fun _=>?_)<;>first|(exfalso;omega)|conv=>whnf)
  exact ⟨_,.hd rfl (by simp),by unfold q7e avI;rw [List.map_map];rfl⟩
 have hid:=q9f h hj hk
 have hpl:plP p j f (flatU f)[k].s.id := .inr (.inr ⟨by omega,by omega⟩)
 have hF1:=hFr (flatU f)[k].s.id
 conv=>whnf
 repeat' (first|((first|intro (_:_≤9223372036854775807)|refine And.intro rfl ?_|refine IdxK.map (by omega) (fun _=>rfl) ?_|(refine CallK.pure hF1 (.cons (Sub.refl _) (.cons (Sub.refl _) (.cons Sub.nils .nil))) ?_;rintro _ ⟨es,rfl,hes,hnd⟩)|(refine CallK.pure (QA _ (-1)) (.cons (Sub.refl _) (.cons (Sub.refl _) .nil)) ?_;rintro _ rfl));conv=>whnf)|(refine Br.dec (fun _=>?_) (fun _=>?_)<;>first|(exfalso;omega)|conv=>whnf))
 have hel:=z3w hes hnd
 have hml:(es.map (AV.int .i64)).length=es.length:=List.length_map _
 refine LoopK.inv QQ (fun x:Nat×Bool=>⟨[(1,.p (QL (QX p j f).real)),(5,.hd 0 0 out.length),(7,.p (.ip (flatU f)[k].cells)),(8,.p (QS es)),(9,.p (.bool x.2)),(16,.p (JF (flatU f))),(17,.p (.int .i64 ((flatU f).map fun i=>AV.agg i.cells).length)),(18,.p (.int .i64 k)),(30,.p (QS es)),(31,.p (.int .i64 (es.map (AV.int .i64)).length)),(32,.p (.int .i64 x.1))],[(0,.own 36 1 (out.map QS))]⟩) (fun x=>x.1≤es.length∧(x.2=true↔q0u es (-1)=false ∧ ∀ y∈es.take x.1,Rch (wR p j f) y (flatU f)[k].s.id)) (fun x=>es.length-x.1) (0,!q0u es (-1)) (Le.of_eq rfl) ⟨Nat.zero_le _,by simp⟩ ?_
 rintro ⟨q,b⟩ ⟨h3,h4⟩
 simp only at h3 h4 ⊢
 rcases Nat.lt_or_ge q es.length with hq|hq
 ·have htk : ∀ s,s∈es.take (q+1)↔s∈es.take q∨s=es[q]:=fun s=>QC hq
  have hF2:=hFr es[q]
  cases b with
  | true =>
    have h4:=h4.1 rfl
    conv=>whnf
    repeat' (first|((first|refine DrawK.auto QQ mixed (by kernel_rfl) ?_|refine IdxK.map (by omega) (fun _=>rfl) ?_|refine Wr.i64 (by omega) (by omega) ?_|(refine CallK.pure hF2 (.cons (Sub.refl _) (.cons (Sub.refl _) (.cons Sub.nils .nil))) ?_;rintro _ ⟨ey,rfl,hey,hnd2⟩)|(refine CallK.pure (QA _ _) (.cons (Sub.refl _) (.cons (Sub.refl _) .nil)) ?_;rintro _ rfl));conv=>whnf)|(refine Br.dec (fun _=>?_) (fun _=>?_)<;>first|(exfalso;omega)|conv=>whnf)|(refine Br.b (fun _=>?_) (fun _=>?_)<;>conv=>whnf))
    all_goals first
     | contradiction
     | exact ⟨(q+1,q0u ey (flatU f)[k].s.id),⟨by simp only;omega,by
        simp only
        rw [UV,hey,q4d]
        constructor
        ·exact fun h5=>⟨h4.1,fun y hy=>((htk y).1 hy).elim (h4.2 y) fun e=>e▸h5⟩
        ·exact fun h5=>h5.2 _ ((htk _).2 (.inr rfl))⟩,by simp only;omega,Le.of_eq rfl⟩
     | trace_state
  | false =>
    conv=>whnf
    repeat' (first|((first|refine DrawK.auto QQ mixed (by kernel_rfl) ?_|refine IdxK.map (by omega) (fun _=>rfl) ?_|refine Wr.i64 (by omega) (by omega) ?_);conv=>whnf)|(refine Br.dec (fun _=>?_) (fun _=>?_)<;>first|(exfalso;omega)|conv=>whnf)|(refine Br.b (fun _=>?_) (fun _=>?_)<;>conv=>whnf))
    all_goals first|contradiction|exact ⟨(q+1,false),⟨by simp only;omega,by
      simp only
      refine ⟨fun h5=>(by cases h5),fun h5 => ?_⟩
      exact h4.2 ⟨h5.1,fun y hy=>h5.2 y ((htk y).2 (.inl hy))⟩⟩,by simp only;omega,(Le.mk [] (by simp) (by simp) (by simp) (by repeat' (first|exact .nil|refine .cons ?_ ?_|exact .refl _|exact .p (Sub.ff rfl)|exact .p (Sub.tt rfl))) (.cons rfl (.refl _) .nil))⟩
 ·rw [List.take_of_length_le hq] at h4
  have htr:b=true↔trpX p j f (flatU f)[k].s.id:=by
   rw [h4]
   unfold trpX
   have e1:q0u es (-1)=false ↔ ¬Rch (wR p j f) (flatU f)[k].s.id (-1):=by
    have h5:=(UV (l:=es) (x := -1)).trans ((hes (-1)).trans q4d)
    rw [← show Rch (stR (QX p j f).real) (flatU f)[k].s.id (-1)↔Rch (wR p j f) (flatU f)[k].s.id (-1) from Iff.rfl,← h5]
    cases q0u es (-1)<;>simp
   rw [e1]
   refine and_congr Iff.rfl ⟨fun h5 y hy=>h5 y ((hes y).2 (q4d.2 hy)),fun h5 y hy=>h5 y (q4d.1 ((hes y).1 hy))⟩
  conv=>whnf
  repeat' (first|(intro (_:_≤9223372036854775807);conv=>whnf)|(refine Br.dec (fun _=>?_) (fun _=>?_)<;>first|(exfalso;omega)|conv=>whnf))
  have hom:(out.map QS).length=out.length:=List.length_map _
  refine LoopK.inv QQ (fun x:Nat×Bool=>⟨[(1,.p (QL (QX p j f).real)),(5,.hd 0 0 out.length),(7,.p (.ip (flatU f)[k].cells)),(8,.p (QS es)),(9,.p (.bool b)),(12,.p (.bool x.2)),(16,.p (JF (flatU f))),(17,.p (.int .i64 ((flatU f).map fun i=>AV.agg i.cells).length)),(18,.p (.int .i64 k)),(47,.hd 0 0 out.length),(48,.p (.int .i64 out.length)),(49,.p (.int .i64 x.1))],[(0,.own 36 1 (out.map QS))]⟩) (fun x=>x.1≤out.length∧x.2=(out.take x.1).any fun l=>q0u l (flatU f)[k].s.id) (fun x=>out.length-x.1) (0,false)
   (Le.mk [] (by simp) (by simp) (by simp) (by repeat' (first|exact .nil|refine .cons ?_ ?_|exact .refl _|exact .p (Sub.ff rfl)|exact .p (Sub.tt rfl))) (.cons rfl (.refl _) .nil)) ⟨Nat.zero_le _,by simp⟩ ?_
  rintro ⟨i,o⟩ ⟨h5,h6⟩
  simp only at h5 h6 ⊢
  rcases Nat.lt_or_ge i out.length with hi|hi
  ·have g:(out.map QS)[i]? = some (QS out[i]):=by simp [hi]
   have h7:((out.take (i+1)).any fun l=>q0u l (flatU f)[k].s.id)=(o||q0u out[i] (flatU f)[k].s.id):=by rw [List.take_succ_eq_append_getElem hi,List.any_append,← h6];simp
   cases o with
   | true =>
     conv=>whnf
     repeat' (first|((first|refine And.intro rfl ?_|refine Wr.i64 (by omega) (by omega) ?_|refine IdxL.mk i rfl hi ?_|refine LdOwn.mk i 0 _ (by show (0+i)*1+0=i*1+0;omega) g ?_);conv=>whnf)|(refine Br.dec (fun _=>?_) (fun _=>?_)<;>first|(exfalso;omega)|conv=>whnf)|(refine Br.b (fun _=>?_) (fun _=>?_)<;>conv=>whnf))
     all_goals first|contradiction|exact ⟨(i+1,true),⟨by simp only;omega,by simp only;rw [h7];rfl⟩,by simp only;omega,(Le.mk [] (by simp) (by simp) (by simp) (by repeat' (first|exact .nil|refine .cons ?_ ?_|exact .refl _|exact .p (Sub.ff rfl)|exact .p (Sub.tt rfl))) (.cons rfl (.refl _) .nil))⟩
   | false =>
     conv=>whnf
     repeat' (first|((first|refine And.intro rfl ?_|refine Wr.i64 (by omega) (by omega) ?_|refine IdxL.mk i rfl hi ?_|refine LdOwn.mk i 0 _ (by show (0+i)*1+0=i*1+0;omega) g ?_|(refine CallK.pure (QA out[i] _) (.cons (Sub.refl _) (.cons (Sub.refl _) .nil)) ?_;rintro _ rfl));conv=>whnf)|(refine Br.dec (fun _=>?_) (fun _=>?_)<;>first|(exfalso;omega)|conv=>whnf)|(refine Br.b (fun _=>?_) (fun _=>?_)<;>conv=>whnf))
     all_goals first|contradiction|exact ⟨(i+1,q0u out[i] (flatU f)[k].s.id),⟨by simp only;omega,by simp only;rw [h7,Bool.false_or]⟩,by simp only;omega,Le.of_eq rfl⟩
  ·rw [List.take_of_length_le hi] at h6
   have hold:o=true ↔ ∃ l∈out,(flatU f)[k].s.id∈l:=by
    rw [h6,List.any_eq_true]
    exact ⟨fun ⟨l,h7,h8⟩=>⟨l,h7,UV.1 h8⟩,fun ⟨l,h7,h8⟩=>⟨l,h7,UV.2 h8⟩⟩
   have hsame:(¬b=true∨o=true)→TrI p j f (k+1) out:=fun h7=>hI.same hk fun h8=>h7.elim (fun h9=>absurd (htr.2 h8) h9) fun h9=>hold.1 h9
   have hR:=BU es (by omega)
   cases b<;>cases o <;>
   (conv=>whnf
    repeat' (first|((first|refine And.intro rfl ?_|(refine And.intro ⟨by decide,by decide⟩ ?_)|refine BsK.pure (fun x hx=>by rcases List.mem_singleton.1 hx with rfl;rfl) rfl ?_|refine Wr.i64 (by omega) (by omega) ?_|(refine CallK.pure hR (.cons (Sub.refl _) .nil) ?_;rintro _ ⟨m,rfl,hm1,hm2⟩)|refine AppK.mk (n:=out.length) (es:=out.map QS) (by omega) rfl (by show (out.length+1)*24≤140737488355328;omega) (by show out.length+1≤9223372036854775807;omega) (fun x hx=>by rcases List.mem_singleton.1 hx with rfl;exact ⟨rfl,rfl⟩) ?_);conv=>whnf)|(refine Br.dec (fun _=>?_) (fun _=>?_)<;>first|(exfalso;omega)|conv=>whnf)|(refine Br.n (fun _=>?_) (fun _=>?_)<;>conv=>whnf)|(refine Br.b (fun _=>?_) (fun _=>?_)<;>conv=>whnf))
    all_goals first
     | contradiction
     | exact ⟨(k+1,out++[m]),⟨by simp only;omega,hI.more h hj hk (htr.1 rfl) (fun l h7 h8=>by have:=hold.2 ⟨l,h7,h8⟩;cases this) hm1 fun s=>by rw [hm2,hes,q4d];exact Iff.rfl⟩,by simp only;omega,Le.of_eq (by simp only [List.length_append,List.map_append];rfl)⟩
     | exact ⟨(k+1,out),⟨by simp only;omega,hsame (by simp)⟩,by simp only;omega,Le.of_eq rfl⟩
     | trace_state)
open Go.Proofs
def vrL (L:List RI) (l:List Int):List Step:=(L.filter fun x=>decide (x.s.kind=10)&&q0u l x.s.id).map fun x=>⟨x.s.id,-1,3⟩
def vrT (L:List RI) (T:List (List Int)):List Step:=T.flatMap (vrL L)
theorem z5d (L:List RI) (l:List Int):(vrL L l).length≤L.length:=by
 unfold vrL
 rw [List.length_map]
 exact List.length_filter_le _ _
theorem q4s (L:List RI) : ∀ T:List (List Int),(vrT L T).length≤T.length*L.length
 | []=>by unfold vrT;simp
 | a::r=>by
   have h1:=q4s L r
   have h2:=z5d L a
   have e:vrT L (a::r)=vrL L a++vrT L r:=by unfold vrT;rw [List.flatMap_cons]
   rw [e,List.length_append,List.length_cons,Nat.add_mul]
   omega
theorem z7g {L:List RI} {l:List Int} {k:Nat} (hk:k<L.length):vrL (L.take (k+1)) l=vrL (L.take k) l++(if L[k].s.kind=10∧q0u l L[k].s.id=true then [⟨L[k].s.id,-1,3⟩] else []):=by
 unfold vrL
 rw [List.take_succ_eq_append_getElem hk,List.filter_append,List.map_append]
 congr 1
 by_cases h:L[k].s.kind=10∧q0u l L[k].s.id=true
 ·rw [if_pos h,List.filter_cons_of_pos (by simpa using h)]
  rfl
 ·rw [if_neg h,List.filter_cons_of_neg (by simpa using h)]
  rfl
section
variable {p:Pg} {j:Nat} {f:Pr}
theorem w0x (h:ZB p=true) (hj:p.procs[j]? = some f) {t u:S} (ht:t∈flL f.body) (hu:u∈flL f.body) (he:t.id=u.id):t=u :=
 NC (f:=S.id) (by rw [q9d (QE h).1 hj];exact q0i _ _) t ht u hu he
theorem z4p {x:RI} (hx:x∈flatU f):x.s∈flL f.body:=by
 rw [← show (flatU f).map RI.s=flL f.body from BH 1 0 false f.body]
 exact List.mem_map.2 ⟨x,hx,rfl⟩
theorem q5h (h:ZB p=true) (hj:p.procs[j]? = some f) (s:Step):s∈vrT (flatU f) (trapsW (QX p j f) f)↔s∈ZN (QX p j f) f:=by
 have e:ZN (QX p j f) f=(trapsW (QX p j f) f).flatMap fun l=>l.flatMap (vOf p):=rfl
 rw [e]
 unfold vrT
 rw [List.mem_flatMap,List.mem_flatMap]
 refine exists_congr fun l=>and_congr_right fun hl => ?_
 have hr:=(x8l h hj hl).2
 unfold vrL
 rw [List.mem_map,List.mem_flatMap]
 constructor
 ·rintro ⟨x,hx,rfl⟩
  obtain ⟨h1,h2⟩:=List.mem_filter.1 hx
  rw [Bool.and_eq_true,decide_eq_true_eq,UV] at h2
  refine ⟨x.s.id,h2.2,?_⟩
  obtain ⟨h3,h4⟩:=hr _ h2.2
  obtain ⟨t,ht,h5,h6⟩:=q9i h hj h3 h4
  have:t=x.s:=w0x h hj ht (z4p h1) h6
  unfold vOf
  rw [h5,this]
  simp only
  rw [if_pos h2.1]
  exact List.mem_singleton.2 rfl
 ·rintro ⟨id,h1,h2⟩
  obtain ⟨h3,h4⟩:=hr _ h1
  obtain ⟨t,ht,h5,h6⟩:=q9i h hj h3 h4
  unfold vOf at h2
  rw [h5] at h2
  simp only at h2
  split at h2
  ·rename_i h7
   obtain ⟨x,hx,rfl⟩:=x1r ht
   rw [List.mem_singleton.1 h2,← h6]
   exact ⟨x,List.mem_filter.2 ⟨hx,by rw [Bool.and_eq_true,decide_eq_true_eq,UV];exact ⟨h7,by rw [h6];exact h1⟩⟩,rfl⟩
  ·cases h2
theorem z4s (h:ZB p=true) (hj:p.procs[j]? = some f) : ∀ s∈ZN (QX p j f) f,leSt s:=fun s hs=>by
 rw [← q5h h hj] at hs
 unfold vrT vrL at hs
 obtain ⟨l,hl,hs⟩:=List.mem_flatMap.1 hs
 obtain ⟨x,hx,rfl⟩:=List.mem_map.1 hs
 have hb:=FL (QE h).1 hj (z4p (List.mem_filter.1 hx).1)
 have hc:=GF _ _ (List.mem_of_getElem? hj)
 have hcn:=(HE h).2.2
 obtain ⟨_,_,_,_,hsp⟩:=QG p
 have:=(hsp j f hj).2.2.1
 unfold leSt
 simp only
 omega
theorem z4i (h:ZB p=true) (hj:p.procs[j]? = some f) : ∀ s∈(QX p j f).real,leSt s:=fun s hs=>z9n h hj s (((FE h hj).2 s).1 hs)
theorem w0w (h:ZB p=true) (hj:p.procs[j]? = some f) : ∀ it∈itsOf p j f,∀ s∈fOf it,leSt s:=fun it hi s hs=>by
 have hb:=FL (QE h).1 hj (q7z hi)
 have hcn:=(HE h).2.2
 obtain ⟨_,_,_,_,hsp⟩:=QG p
 have:=(hsp j f hj).2.2.1
 have h1:=(q0p hi).1
 unfold okI at h1
 unfold fOf at hs
 split at hs
 ·rw [List.mem_singleton.1 hs]
  unfold leSt
  simp only
  omega
 ·cases hs
def z1s (p:Pg) (j:Nat) (f:Pr):List Step:=(QX p j f).real++vrT (flatU f) (trapsW (QX p j f) f)
def q6i (p:Pg) (j:Nat) (f:Pr) (k:Nat):List Step:=(QX p j f).real++[⟨0,-1,2⟩]++((itsOf p j f).take k).flatMap fOf
theorem x7d (h:ZB p=true) (hj:p.procs[j]? = some f) : ∀ s∈z1s p j f,leSt s:=fun s hs=>by
 rcases List.mem_append.1 hs with hs|hs
 ·exact z4i h hj s hs
 ·exact z4s h hj s ((q5h h hj s).1 hs)
theorem z8g (h:ZB p=true) (hj:p.procs[j]? = some f):ZY (z1s p j f)=x1i (QX p j f) f:=by
 refine q6h (fun s hs=>(x7d h hj s hs).ok) fun s => ?_
 unfold z1s
 rw [List.mem_append,List.mem_append,q5h h hj,or_comm]
theorem z3f (h:ZB p=true) (hj:p.procs[j]? = some f) {k:Nat} : ∀ s∈q6i p j f k++vrT (flatU f) (trapsW (QX p j f) f),leSt s:=fun s hs=>by
 rcases List.mem_append.1 hs with hs|hs
 ·unfold q6i at hs
  rcases List.mem_append.1 hs with hs|hs
  ·rcases List.mem_append.1 hs with hs|hs
   ·exact z4i h hj s hs
   ·rw [List.mem_singleton.1 hs]
    unfold leSt
    simp only
    omega
  ·obtain ⟨it,hi,hs⟩:=List.mem_flatMap.1 hs
   exact w0w h hj it (List.mem_of_mem_take hi) s hs
 ·exact z4s h hj s ((q5h h hj s).1 hs)
theorem z9e (h:ZB p=true) (hj:p.procs[j]? = some f) {k:Nat} (hk:(itsOf p j f).length≤k):ZY (q6i p j f k++vrT (flatU f) (trapsW (QX p j f) f))=z8v (QX p j f) f:=by
 refine q6h (fun s hs=>(z3f h hj s hs).ok) fun s => ?_
 have e:q6n (QX p j f) f=ZN (QX p j f) f++(QX p j f).real++[⟨0,-1,2⟩]++(itsOf p j f).flatMap fOf:=rfl
 rw [e]
 unfold q6i
 rw [List.take_of_length_le hk]
 simp only [List.mem_append,q5h h hj]
 constructor
 ·rintro (((h1|h1)|h1)|h1)
  ·exact .inl (.inl (.inr h1))
  ·exact .inl (.inr h1)
  ·exact .inr h1
  ·exact .inl (.inl (.inl h1))
 ·rintro (((h1|h1)|h1)|h1)
  ·exact .inr h1
  ·exact .inl (.inl (.inl h1))
  ·exact .inl (.inl (.inr h1))
  ·exact .inl (.inr h1)
theorem x2f {k:Nat} (hk:k<(itsOf p j f).length):q6i p j f (k+1)=q6i p j f k++fOf (itsOf p j f)[k]:=by
 unfold q6i
 rw [List.take_succ_eq_append_getElem hk,List.flatMap_append,List.append_assoc,List.append_assoc,List.append_assoc]
 simp
theorem x8j : ∀ k,(q6i p j f k).length≤(QX p j f).real.length+1+k
 | 0=>by unfold q6i;simp
 | k+1=>by
   have h1:=x8j k
   rcases Nat.lt_or_ge k (itsOf p j f).length with hk|hk
   ·rw [x2f hk,List.length_append]
    have:=w0b (itsOf p j f)[k]
    omega
   ·have e:q6i p j f (k+1)=q6i p j f k:=by
     unfold q6i
     rw [List.take_of_length_le hk,List.take_of_length_le (by omega)]
    rw [e]
    omega
theorem q0q:(trapsW (QX p j f) f).length≤QY f.body+2:=by
 unfold trapsW NX
 rw [List.length_map,q3s]
 exact Nat.le_trans (List.length_filter_le _ _) (by simp)
end
open Go.Proofs
theorem WG (p:Pg) (j:Nat) (f:Pr) (h:ZB p=true) (hj:p.procs[j]? = some f):SpecP Tryz.prog 104 [x2l f,QL (QX p j f).real] (fun r=>r=QL (vrT (flatU f) (trapsW (QX p j f) f))):=by
 refine SpecP.body YZ QQ Tryz.func104 rfl Tryz.call104 (by show 2≤_;decide) ?_
 conv=>whnf
 have hm:=(QE h).1
 have hlU:=KT hm hj
 have hT:=VV p j f h hj
 have hTl:(trapsW (QX p j f) f).length≤202:=by
  have h1:=q0q (p:=p) (j:=j) (f:=f)
  have h2:(flatU f).length=QY f.body:=WB 1 0 false f.body
  omega
 unfold x2l at hT
 generalize (QX p j f).real=R at *
 generalize trapsW (QX p j f) f=T at *
 generalize flatU f=L at *
 have hLl:=WJ L
 have hvl:=q4s L T
 have hTm:((avI T).map AV.sl).length=T.length:=by unfold avI;simp
 have hmul:T.length*L.length≤202*200:=Nat.mul_le_mul hTl hlU
 repeat' ((first|intro (_:_≤9223372036854775807)|(refine CallK.pure hT (.cons (Sub.refl _) (.cons (Sub.refl _) .nil)) ?_;rintro _ rfl));conv=>whnf)
 refine LoopK.inv QQ (fun x:Nat=>⟨[(2,.p (.ip [JF L,QH f.fin])),(5,.hd 0 0 (vrT L (T.take x)).length),(12,.p (q7e T)),(13,.p (.int .i64 ((avI T).map AV.sl).length)),(14,.p (.int .i64 x))],[(0,.own 79 3 ((vrT L (T.take x)).map fun s => .agg s.cells))]⟩) (fun x=>x≤T.length) (fun x=>T.length-x) 0
  (Le.mk [(0,.own 79 3 [])] (by simp [Chunk.new0];rfl) (by simp) (by simp) (.cons (.refl _) (.cons (.nil List.mem_cons_self) (.cons (.refl _) (.cons (.refl _) (.cons (.refl _) .nil))))) (.new List.mem_cons_self .nil)) (Nat.zero_le _) ?_
 intro i hi
 rcases Nat.lt_or_ge i T.length with hi2|hi2
 rotate_left 1
 ·rw [List.take_of_length_le hi2]
  conv=>whnf
  repeat' (refine Br.dec (fun _=>?_) (fun _=>?_)<;>first|(exfalso;omega)|conv=>whnf)
  exact ⟨_,.hd rfl (by simp),rfl⟩
 have g:((avI T).map AV.sl)[i]? = some (QS T[i]):=by unfold avI;simp [hi2,QS]
 have hs:vrT L (T.take (i+1))=vrT L (T.take i)++vrL L T[i]:=by unfold vrT;rw [List.take_succ_eq_append_getElem hi2,List.flatMap_append];simp
 have hb:(vrT L (T.take i)).length≤202*200:=by
  have h1:=q4s L (T.take i)
  have h2:(T.take i).length*L.length≤202*200:=Nat.mul_le_mul (by rw [List.length_take];omega) hlU
  omega
 have hgi : ∀ hx,AV.sl ((avI T)[i]'hx)=QS T[i]:=fun _=>by simp [avI,QS]
 generalize vrT L (T.take i)=A at *
 conv=>whnf
 repeat' (first|((first|intro (_:_≤9223372036854775807)|refine IdxK.map (by omega) (fun _=>rfl) ?_);conv=>whnf)|(refine Br.dec (fun _=>?_) (fun _=>?_)<;>first|(exfalso;omega)|conv=>whnf))
 refine LoopK.inv QQ (fun x:Nat=>⟨[(2,.p (.ip [JF L,QH f.fin])),(5,.hd 0 0 (A++vrL (L.take x) T[i]).length),(7,.p (QS T[i])),(12,.p (q7e T)),(13,.p (.int .i64 ((avI T).map AV.sl).length)),(14,.p (.int .i64 i)),(19,.p (JF L)),(20,.p (.int .i64 (L.map fun i=>AV.agg i.cells).length)),(21,.p (.int .i64 x))],[(0,.own 79 3 ((A++vrL (L.take x) T[i]).map fun s => .agg s.cells))]⟩) (fun x=>x≤L.length) (fun x=>L.length-x) 0 (Le.of_eq (by simp only [hgi];rw [show vrL (L.take 0) T[i]=[] by unfold vrL;simp,List.append_nil];rfl)) (Nat.zero_le _) ?_
 intro q hq
 rcases Nat.lt_or_ge q L.length with hq2|hq2
 ·have hst:=z7g (l:=T[i]) hq2
  have hql:(A++vrL (L.take q) T[i]).length≤202*200+200:=by
   rw [List.length_append]
   have:=z5d (L.take q) T[i]
   rw [List.length_take] at this
   omega
  have hst:A++vrL (L.take (q+1)) T[i]=(A++vrL (L.take q) T[i])++(if L[q].s.kind=10∧q0u T[i] L[q].s.id=true then [⟨L[q].s.id,-1,3⟩] else []):=by rw [hst,List.append_assoc]
  generalize A++vrL (L.take q) T[i]=B at *
  have hBl:=YR B
  conv=>whnf
  repeat' (first|((first|refine And.intro rfl ?_|(refine And.intro ⟨by decide,by decide⟩ ?_)|refine BsK.pure (fun x hx=>by rcases List.mem_singleton.1 hx with rfl;rfl) rfl ?_|refine IdxK.map (by omega) (fun _=>rfl) ?_|refine Wr.i64 (by omega) (by omega) ?_|(refine CallK.pure (QA T[i] _) (.cons (Sub.refl _) (.cons (Sub.refl _) .nil)) ?_;rintro _ rfl)|refine AppK.mk (n:=B.length) (by omega) rfl (by show (B.length+1)*24≤140737488355328;omega) (by show B.length+1≤9223372036854775807;omega) (fun x hx=>by rcases List.mem_singleton.1 hx with rfl;exact ⟨rfl,rfl⟩) ?_);conv=>whnf)|(refine Br.dec (fun _=>?_) (fun _=>?_)<;>first|(exfalso;omega)|conv=>whnf)|(refine Br.b (fun _=>?_) (fun _=>?_)<;>conv=>whnf))
  all_goals first
   | exact ⟨q+1,by omega,by omega,Le.of_eq (by rw [hst,if_pos (show L[q].s.kind=10∧q0u T[i] L[q].s.id=true from ⟨by assumption,by assumption⟩)];simp only [List.length_append,List.map_append];rfl)⟩
   | exact ⟨q+1,by omega,by omega,Le.of_eq (by rw [hst,if_neg (show ¬(L[q].s.kind=10∧q0u T[i] L[q].s.id=true) from fun hh=>absurd hh.1 (by assumption)),List.append_nil];rfl)⟩
   | exact ⟨q+1,by omega,by omega,Le.of_eq (by rw [hst,if_neg (show ¬(L[q].s.kind=10∧q0u T[i] L[q].s.id=true) from fun hh=>by have h9:=hh.2;rw [show q0u T[i] L[q].s.id=false by assumption] at h9;cases h9),List.append_nil];rfl)⟩
   | trace_state
 ·rw [List.take_of_length_le hq2,← hs]
  conv=>whnf
  repeat' (first|(refine Wr.i64 (by omega) (by omega) ?_;conv=>whnf)|(refine Br.dec (fun _=>?_) (fun _=>?_)<;>first|(exfalso;omega)|conv=>whnf))
  all_goals exact ⟨i+1,by omega,by omega,Le.of_eq rfl⟩
theorem GR (p:Pg) (j:Nat) (f:Pr) (h:ZB p=true) (hj:p.procs[j]? = some f):SpecP Tryz.prog 106 [x2l f] (fun r=>r=QL (x1i (QX p j f) f)):=by
 refine SpecP.body JT QQ Tryz.func106 rfl Tryz.call106 (by show 1≤_;decide) ?_
 conv=>whnf
 have hR:=ZK p j f h hj
 have hV:=WG p j f h hj
 have hrl:=x5m h hj
 have hvl:(vrT (flatU f) (trapsW (QX p j f) f)).length≤202*200:=by
  have h1:=q0q (p:=p) (j:=j) (f:=f)
  have h2:(flatU f).length=QY f.body:=WB 1 0 false f.body
  have h3:=KT (QE h).1 hj
  exact Nat.le_trans (q4s _ _) (Nat.mul_le_mul (by omega) h3)
 have hS:=WA (z1s p j f) (by unfold z1s;rw [List.length_append];omega) (x7d h hj)
 rw [z8g h hj] at hS
 unfold z1s at hS
 rw [show QL ((QX p j f).real++vrT (flatU f) (trapsW (QX p j f) f)) = .sl (([]++(QX p j f).real.map fun s=>AV.agg s.cells)++(vrT (flatU f) (trapsW (QX p j f) f)).map fun s=>AV.agg s.cells) by simp [QL]] at hS
 generalize x1i (QX p j f) f=D at *
 generalize (QX p j f).real=R at *
 generalize vrT (flatU f) (trapsW (QX p j f) f)=V at *
 have hRm:=YR R
 have hVm:=YR V
 repeat' ((first|refine DrawK.auto QQ mixed (by kernel_rfl) ?_|refine And.intro rfl ?_|(refine And.intro ⟨by decide,by decide⟩ ?_)|(refine CallK.pure hR (.cons (Sub.refl _) .nil) ?_;rintro _ rfl)|refine BsK.own (fun x hx=>(by cases hx)) rfl ?_|refine AppK.mk (es:=[]) (by rfl) rfl (by show (0+(R.map fun s=>AV.agg s.cells).length)*24≤140737488355328;omega) (by show 0+(R.map fun s=>AV.agg s.cells).length≤9223372036854775807;omega) (fun x hx=>by obtain ⟨s,_,rfl⟩:=List.mem_map.1 hx;exact ⟨rfl,rfl⟩) ?_|(refine CallK.pure hV (.cons (Sub.refl _) (.cons (Sub.refl _) .nil)) ?_;rintro _ rfl)|refine AppK.mk (es:=[]++R.map fun s=>AV.agg s.cells) (by simp) rfl (by show (0+(R.map fun s=>AV.agg s.cells).length+(V.map fun s=>AV.agg s.cells).length)*24≤140737488355328;omega) (by show 0+(R.map fun s=>AV.agg s.cells).length+(V.map fun s=>AV.agg s.cells).length≤9223372036854775807;omega) (fun x hx=>by obtain ⟨s,_,rfl⟩:=List.mem_map.1 hx;exact ⟨rfl,rfl⟩) ?_|(refine CallK.give hS (.cons (.hd rfl (by simp)) .nil) ?_;rintro _ rfl));conv=>whnf)
 all_goals first
  | exact RetK.p rfl
  | trace_state
open Go.Proofs
open Go.Proofs
open Go.Proofs
open Go.Proofs
open Go.Proofs
theorem x9z : ∀ l:List Pr,l.length≤z9v l
 | []=>Nat.zero_le _
 | f::r=>by have:=x9z r;simp only [List.length_cons,z9v,wPr];omega
theorem z1j {p:Pg} (h:Fit p):p.procs.length≤20000:=by
 have:=x9z p.procs
 unfold Fit wPg at h
 omega
theorem z9k:Sub (.bool true) .tt:=fun _ _ hr=>by cases hr;exact .tt
open Go.Proofs
theorem PW (p:Pg) (hf:Fit p) (n:Str):SpecP Tryz.prog 34 [.agg p.cells,.str n] (fun r=>r=q7e (q2m p n)):=by
 refine SpecP.body FW QQ Tryz.func34 rfl Tryz.call34 (by show 2≤_;decide) ?_
 conv=>whnf
 cases hw:DK p n with
 | none =>
   rw [q4l hw]
   have hW:=ZZ p hf n hw
   repeat' (first|((first|refine DrawK.auto QQ mixed (by kernel_rfl) ?_|refine And.intro rfl ?_|(refine CallK.pure hW (.cons (Sub.refl _) (.cons (Sub.refl _) .nil)) ?_;rintro _ rfl));conv=>whnf)|(refine Br.n (fun _=>?_) (fun _=>?_)<;>conv=>whnf))
   all_goals first
    | contradiction
    | exact ⟨_,.p Sub.nils,rfl⟩
 | some w =>
   obtain ⟨k,f,hk,rfl,hc,_⟩:=YI hw
   rw [q6q hw hk]
   have hW:=ZX p hf n k f hw hk
   have hB:=ZK p k f hc hk
   have hT:=VV p k f hc hk
   repeat' (first|((first|refine DrawK.auto QQ mixed (by kernel_rfl) ?_|refine And.intro rfl ?_|(refine CallK.pure hW (.cons (Sub.refl _) (.cons (Sub.refl _) .nil)) ?_;rintro _ rfl)|(refine CallK.pure hB (.cons (Sub.refl _) .nil) ?_;rintro _ rfl)|(refine CallK.pure hT (.cons (Sub.refl _) (.cons (Sub.refl _) .nil)) ?_;rintro _ rfl));conv=>whnf)|(refine Br.n (fun _=>?_) (fun _=>?_)<;>conv=>whnf))
   all_goals first
    | contradiction
    | exact RetK.p rfl
theorem LM (p:Pg) (hf:Fit p) (n:Str):SpecP Tryz.prog 38 [.agg p.cells,.str n] (fun r=>r=QL (x0h p n)):=by
 refine SpecP.body DM QQ Tryz.func38 rfl Tryz.call38 (by show 2≤_;decide) ?_
 conv=>whnf
 cases hw:DK p n with
 | none =>
   rw [q9z hw]
   have hW:=ZZ p hf n hw
   repeat' (first|((first|refine And.intro rfl ?_|(refine CallK.pure hW (.cons (Sub.refl _) (.cons (Sub.refl _) .nil)) ?_;rintro _ rfl));conv=>whnf)|(refine Br.n (fun _=>?_) (fun _=>?_)<;>conv=>whnf))
   all_goals first
    | contradiction
    | exact ⟨_,.p Sub.nils,rfl⟩
 | some w =>
   obtain ⟨k,f,hk,rfl,hc,_⟩:=YI hw
   rw [q1h hw hk]
   have hW:=ZX p hf n k f hw hk
   have hB:=GR p k f hc hk
   repeat' (first|((first|refine And.intro rfl ?_|(refine CallK.pure hW (.cons (Sub.refl _) (.cons (Sub.refl _) .nil)) ?_;rintro _ rfl)|(refine CallK.pure hB (.cons (Sub.refl _) .nil) ?_;rintro _ rfl));conv=>whnf)|(refine Br.n (fun _=>?_) (fun _=>?_)<;>conv=>whnf))
   all_goals first
    | contradiction
    | exact RetK.p rfl
theorem q0c (p:Pg) (hf:Fit p) (n:Str):SpecP Tryz.prog 36 [.agg p.cells,.str n] (fun r=>r=QL (z8u p n)):=by
 refine SpecP.body PC QQ Tryz.func36 rfl Tryz.call36 (by show 2≤_;decide) ?_
 conv=>whnf
 cases hw:DK p n with
 | none =>
   rw [x4h hw]
   have hW:=ZZ p hf n hw
   repeat' (first|((first|refine And.intro rfl ?_|(refine CallK.pure hW (.cons (Sub.refl _) (.cons (Sub.refl _) .nil)) ?_;rintro _ rfl));conv=>whnf)|(refine Br.n (fun _=>?_) (fun _=>?_)<;>conv=>whnf))
   all_goals first
    | contradiction
    | exact ⟨_,.p Sub.nils,rfl⟩
 | some w =>
   obtain ⟨k,f,hk,rfl,hc,_⟩:=YI hw
   rw [MM hw hk]
   have hm:=(QE hc).1
   have hW:=ZX p hf n k f hw hk
   have hR:=ZK p k f hc hk
   have hV:=WG p k f hc hk
   have hrl:=x5m hc hk
   have hlU:=KT hm hk
   have hLl:=WJ (flatU f)
   obtain ⟨hil,hat⟩:=z9s hm hk
   have hvl:(vrT (flatU f) (trapsW (QX p k f) f)).length≤202*200:=by
    have h1:=q0q (p:=p) (j:=k) (f:=f)
    have h2:(flatU f).length=QY f.body:=WB 1 0 false f.body
    exact Nat.le_trans (q4s _ _) (Nat.mul_le_mul (by omega) hlU)
   have hq0:q6i p k f 0=(QX p k f).real++[⟨0,-1,2⟩]:=by unfold q6i;simp
   have hRm:=YR (QX p k f).real
   unfold x2l at hW hR hV
   repeat' (first|((first|intro (_:_≤9223372036854775807)|refine And.intro rfl ?_|(refine And.intro ⟨by decide,by decide⟩ ?_)|(refine CallK.pure hW (.cons (Sub.refl _) (.cons (Sub.refl _) .nil)) ?_;rintro _ rfl)|(refine CallK.pure hR (.cons (Sub.refl _) .nil) ?_;rintro _ rfl)|refine BsK.own (es:=[]) (fun x hx=>(by cases hx)) rfl ?_|refine BsK.pureL rfl rfl ?_|(refine AppK.mk (es:=[]) (by rfl) rfl (by show (0+((QX p k f).real.map fun s=>AV.agg s.cells).length)*24≤140737488355328;omega) (by show 0+((QX p k f).real.map fun s=>AV.agg s.cells).length≤9223372036854775807;omega) (fun x hx=>by obtain ⟨s,_,rfl⟩:=List.mem_map.1 hx;exact ⟨rfl,rfl⟩) ?_)|(refine AppK.mk (es:=[]++(QX p k f).real.map fun s=>AV.agg s.cells) (by simp) rfl (by show (0+((QX p k f).real.map fun s=>AV.agg s.cells).length+1)*24≤140737488355328;omega) (by show 0+((QX p k f).real.map fun s=>AV.agg s.cells).length+1≤9223372036854775807;omega) (fun x hx=>by rcases List.mem_singleton.1 hx with rfl;exact ⟨rfl,rfl⟩) ?_));conv=>whnf)|(refine Br.n (fun _=>?_) (fun _=>?_)<;>conv=>whnf))
   all_goals first
    | contradiction
    | skip
   refine LoopK.inv QQ (fun x:Nat=>⟨[(5,.p (.ip [JF (flatU f),QH f.fin])),(7,.p (QL (QX p k f).real)),(8,.hd 0 0 (q6i p k f x).length),(28,.p (JF (flatU f))),(29,.p (.int .i64 ((flatU f).map fun i=>AV.agg i.cells).length)),(30,.p (.int .i64 x))],[(0,.own 79 3 ((q6i p k f x).map fun s => .agg s.cells))]⟩) (fun x=>x≤(flatU f).length) (fun x=>(flatU f).length-x) 0 (Le.of_eq (by rw [hq0];simp only [List.length_append,List.map_append,List.length_map,Nat.zero_add,List.nil_append];rfl)) (Nat.zero_le _) ?_
   intro q hq
   have hql:=x8j (p:=p) (j:=k) (f:=f) q
   rcases Nat.lt_or_ge q (flatU f).length with hq2|hq2
   ·have hqi:q<(itsOf p k f).length:=by omega
    have hst:=x2f hqi
    have hsk:=hat q hq2 hqi
    have hB:=FK (by omega) (x1y hm hk (List.getElem_mem hqi))
    have h1:=z7q hc hk (z4p (List.getElem_mem hq2))
    have hfo:fOf (itsOf p k f)[q]=if (flatU f)[q].s.kind=7∨(flatU f)[q].s.kind=8∨(flatU f)[q].s.kind=9∨(flatU f)[q].s.kind=10 then [⟨(flatU f)[q].s.id,(itsOf p k f)[q].next,2⟩] else []:=by
     unfold fOf
     rw [hsk]
    rw [hsk] at hB
    rw [hfo] at hst
    have hhi:=h1.hi
    generalize q6i p k f q=A at *
    have hAm:=YR A
    conv=>whnf
    repeat' (first|((first|refine DrawK.auto QQ mixed (by kernel_rfl) ?_|refine And.intro rfl ?_|(refine And.intro ⟨by decide,by decide⟩ ?_)|refine BsK.pure (fun x hx=>by rcases List.mem_singleton.1 hx with rfl;rfl) rfl ?_|refine IdxK.map (by omega) (fun _=>rfl) ?_|refine Wr.i64 (by omega) (by omega) ?_|(refine CallK.pure hB (.cons (Sub.refl _) (.cons (Sub.refl _) .nil)) ?_;rintro _ rfl)|refine AppK.mk (n:=A.length) (by omega) rfl (by show (A.length+1)*24≤140737488355328;omega) (by show A.length+1≤9223372036854775807;omega) (fun x hx=>by rcases List.mem_singleton.1 hx with rfl;exact ⟨rfl,rfl⟩) ?_);conv=>whnf)|(refine Br.dec (fun _=>?_) (fun _=>?_)<;>first|(exfalso;omega)|conv=>whnf))
    all_goals first
     | exact ⟨q+1,by omega,by omega,Le.of_eq (by rw [hst,if_pos (by omega)];simp only [List.length_append,List.map_append];rfl)⟩
     | exact ⟨q+1,by omega,by omega,Le.of_eq (by rw [hst,if_neg (by omega),List.append_nil];rfl)⟩
     | trace_state
   ·have hS:=WA (q6i p k f q++vrT (flatU f) (trapsW (QX p k f) f)) (by rw [List.length_append];omega) (z3f hc hk)
    rw [z9e hc hk (by omega)] at hS
    rw [show QL (q6i p k f q++vrT (flatU f) (trapsW (QX p k f) f)) = .sl ((q6i p k f q).map (fun s=>AV.agg s.cells)++(vrT (flatU f) (trapsW (QX p k f) f)).map fun s=>AV.agg s.cells) by simp [QL]] at hS
    generalize vrT (flatU f) (trapsW (QX p k f) f)=V at *
    generalize q6i p k f q=A at *
    have hAm:=YR A
    have hVm:=YR V
    conv=>whnf
    repeat' (first|((first|(refine And.intro ⟨by decide,by decide⟩ ?_)|(refine CallK.pure hV (.cons (Sub.refl _) (.cons (Sub.refl _) .nil)) ?_;rintro _ rfl)|refine AppK.mk (n:=A.length) (by omega) rfl (by show (A.length+(V.map fun s=>AV.agg s.cells).length)*24≤140737488355328;omega) (by show A.length+(V.map fun s=>AV.agg s.cells).length≤9223372036854775807;omega) (fun x hx=>by obtain ⟨s,_,rfl⟩:=List.mem_map.1 hx;exact ⟨rfl,rfl⟩) ?_|(refine CallK.give hS (.cons (.hd rfl (by simp)) .nil) ?_;rintro _ rfl));conv=>whnf)|(refine Br.dec (fun _=>?_) (fun _=>?_)<;>first|(exfalso;omega)|conv=>whnf))
    all_goals first
     | exact RetK.p rfl
     | trace_state
theorem JV (m:List (List Int)):SpecP Tryz.prog 32 [.sl (m.map QS),.sl (m.map QS)] (fun r=>r = .tt):=by
 refine SpecP.body GG QQ Tryz.func32 rfl Tryz.call32 (by show 2≤_;decide) ?_
 conv=>whnf
 have hmm:(m.map QS).length=m.length:=List.length_map _
 repeat' (first|(intro (_:_≤9223372036854775807);conv=>whnf)|(refine Br.dec2 (fun _=>?_) (fun _=>?_)<;>first|(exfalso;omega)|conv=>whnf))
 all_goals first
  | (exfalso;omega)
  | skip
 refine LoopK.inv QQ (fun x:Nat=>⟨[(0,.p (.sl (m.map QS))),(1,.p (.sl (m.map QS))),(13,.p (.int .i64 (m.map QS).length)),(14,.p (.int .i64 x))],[]⟩) (fun x=>x≤m.length) (fun x=>m.length-x) 0 (Le.of_eq rfl) (Nat.zero_le _) ?_
 intro i hi
 rcases Nat.lt_or_ge i m.length with hi2|hi2
 ·have hml:(m[i].map (AV.int .i64)).length=m[i].length:=List.length_map _
  conv=>whnf
  repeat' (first|((first|intro (_:_≤9223372036854775807)|refine DrawK.auto QQ mixed (by kernel_rfl) ?_|refine IdxK.map (by omega) (fun _=>rfl) ?_);conv=>whnf)|(refine Br.dec (fun _=>?_) (fun _=>?_)<;>first|(exfalso;omega)|conv=>whnf)|(refine Br.dec2 (fun _=>?_) (fun _=>?_)<;>first|(exfalso;omega)|conv=>whnf))
  all_goals first
   | (exfalso;omega)
   | skip
  all_goals refine LoopK.inv QQ (fun x:Nat=>⟨[(0,.p (.sl (m.map QS))),(1,.p (.sl (m.map QS))),(5,.p (.int .i64 i)),(13,.p (.int .i64 (m.map QS).length)),(14,.p (.int .i64 i)),(32,.p (.int .i64 (m[i].map (AV.int .i64)).length)),(33,.p (.int .i64 x))],[]⟩) (fun x=>x≤m[i].length) (fun x=>m[i].length-x) 0 (Le.of_eq rfl) (Nat.zero_le _) ?_
  all_goals
   intro q hq
   rcases Nat.lt_or_ge q m[i].length with hq2|hq2
   ·conv=>whnf
    repeat' (first|((first|refine DrawK.auto QQ mixed (by kernel_rfl) ?_|refine IdxK.map (by omega) (fun _=>rfl) ?_|refine Wr.i64 (by omega) (by omega) ?_);conv=>whnf)|(refine Br.dec (fun _=>?_) (fun _=>?_)<;>first|(exfalso;omega)|conv=>whnf)|(refine Br.dec2 (fun _=>?_) (fun _=>?_)<;>first|(exfalso;omega)|conv=>whnf))
    all_goals first
     | (exfalso;omega)
     | exact ⟨q+1,by omega,by omega,Le.of_eq rfl⟩
     | (exfalso;simp_all;done)
     | trace_state
   ·conv=>whnf
    repeat' (first|(refine Wr.i64 (by omega) (by omega) ?_;conv=>whnf)|(refine Br.dec (fun _=>?_) (fun _=>?_)<;>first|(exfalso;omega)|conv=>whnf))
    all_goals exact ⟨i+1,by omega,by omega,Le.of_eq rfl⟩
 ·conv=>whnf
  repeat' (refine Br.dec (fun _=>?_) (fun _=>?_)<;>first|(exfalso;omega)|conv=>whnf)
  all_goals exact ⟨_,.p (Sub.refl _),rfl⟩
theorem w1x (m:List (List Int)):q7e m = .sl (m.map QS):=by
 unfold q7e avI
 rw [List.map_map]
 rfl
theorem BF (p:Pg) (n:Int):SpecP Tryz.prog 4 [.agg p.cells,.int .i64 n] (fun r=>r = .tt):=by
 refine SpecP.body HF QQ Tryz.func4 rfl Tryz.call4 (by show 2≤_;decide) ?_
 conv=>whnf
 cases hfb:z9h p with
 | false =>
   have hno : ¬gPg p≤20000:=by unfold z9h at hfb;simpa using hfb
   repeat' (first|((first|(refine CallK.pure (UW _) (by repeat' (first|exact ArgP.nil|refine ArgP.cons ?_ ?_|exact Sub.refl _|exact Sub.tt rfl|exact Sub.ff rfl)) ?_;rintro _ rfl)|(refine CallK.pure VG .nil ?_;rintro _ rfl));conv=>whnf)|(refine Br.dec2 (fun _=>?_) (fun _=>?_)<;>first|(exfalso;omega)|conv=>whnf))
   all_goals first
    | exact ⟨_,.p (Sub.refl _),rfl⟩
    | (exfalso;simp_all;done)
 | true =>
   have hf:Fit p:=w3x hfb
   have hfit:gPg p≤20000:=by unfold z9h at hfb;simpa using hfb
   have hM:=MR p hf
   have hPA:=NG p n (z1j hf)
   have hT1:=z2m p hf (ZL p n)
   have hT2:=PW p hf (ZL p n)
   have hO1:=z2d p hf (ZL p n)
   have hO2:=q0c p hf (ZL p n)
   have hD1:=x7s p hf (ZL p n)
   have hD2:=LM p hf (ZL p n)
   have hQ1:=UG (z8u p (ZL p n)) (z8u p (ZL p n))
   have hQ2:=UG (x0h p (ZL p n)) (x0h p (ZL p n))
   have hQ3:=JV (q2m p (ZL p n))
   simp only [eq_self,decide_true] at hQ1 hQ2
   rw [← w1x] at hQ3
   generalize z8u p (ZL p n)=q1 at *
   generalize x0h p (ZL p n)=q2 at *
   generalize q2m p (ZL p n)=q3 at *
   generalize ZL p n=pn at *
   cases hc:ZB p with
   | false =>
     rw [hc] at hM
     repeat' (first|((first|(refine CallK.pure (UW _) (by repeat' (first|exact ArgP.nil|refine ArgP.cons ?_ ?_|exact Sub.refl _|exact Sub.tt rfl|exact Sub.ff rfl)) ?_;rintro _ rfl)|refine DrawK.auto QQ mixed (by kernel_rfl) ?_|(refine CallK.pure VG .nil ?_;rintro _ rfl)|(refine CallK.pure hM (.cons (Sub.refl _) .nil) ?_;rintro _ rfl)|(refine CallK.pure hPA (.cons (Sub.refl _) (.cons (Sub.refl _) .nil)) ?_;rintro _ rfl)|(refine CallK.pure hT1 (.cons (Sub.refl _) (.cons (Sub.refl _) .nil)) ?_;rintro _ rfl)|(refine CallK.pure hT2 (.cons (Sub.refl _) (.cons (Sub.refl _) .nil)) ?_;rintro _ rfl)|(refine CallK.pure hO1 (.cons (Sub.refl _) (.cons (Sub.refl _) .nil)) ?_;rintro _ rfl)|(refine CallK.pure hO2 (.cons (Sub.refl _) (.cons (Sub.refl _) .nil)) ?_;rintro _ rfl)|(refine CallK.pure hD1 (.cons (Sub.refl _) (.cons (Sub.refl _) .nil)) ?_;rintro _ rfl)|(refine CallK.pure hD2 (.cons (Sub.refl _) (.cons (Sub.refl _) .nil)) ?_;rintro _ rfl)|(refine CallK.pure hQ1 (.cons (Sub.refl _) (.cons (Sub.refl _) .nil)) ?_;rintro _ rfl)|(refine CallK.pure hQ2 (.cons (Sub.refl _) (.cons (Sub.refl _) .nil)) ?_;rintro _ rfl)|(refine CallK.pure hQ3 (.cons (Sub.refl _) (.cons (Sub.refl _) .nil)) ?_;rintro _ rfl));conv=>whnf)|(refine Br.dec2 (fun _=>?_) (fun _=>?_)<;>first|(exfalso;omega)|conv=>whnf)|(refine Br.b (fun _=>?_) (fun _=>?_)<;>conv=>whnf))
     all_goals first
      | contradiction
      | exact ⟨_,.p (Sub.refl _),rfl⟩
      | exact ⟨_,.p z9k,rfl⟩
      | (exfalso;simp_all;done)
      | trace_state
   | true =>
     rw [hc] at hM
     have hcn:=(HE hc).2.2
     have hC:=x9l p (by omega)
     repeat' (first|((first|(refine CallK.pure (UW _) (by repeat' (first|exact ArgP.nil|refine ArgP.cons ?_ ?_|exact Sub.refl _|exact Sub.tt rfl|exact Sub.ff rfl)) ?_;rintro _ rfl)|refine DrawK.auto QQ mixed (by kernel_rfl) ?_|(refine CallK.pure VG .nil ?_;rintro _ rfl)|(refine CallK.pure hM (.cons (Sub.refl _) .nil) ?_;rintro _ rfl)|(refine CallK.pure hC (.cons (Sub.refl _) .nil) ?_;rintro _ rfl)|(refine CallK.pure hPA (.cons (Sub.refl _) (.cons (Sub.refl _) .nil)) ?_;rintro _ rfl)|(refine CallK.pure hT1 (.cons (Sub.refl _) (.cons (Sub.refl _) .nil)) ?_;rintro _ rfl)|(refine CallK.pure hT2 (.cons (Sub.refl _) (.cons (Sub.refl _) .nil)) ?_;rintro _ rfl)|(refine CallK.pure hO1 (.cons (Sub.refl _) (.cons (Sub.refl _) .nil)) ?_;rintro _ rfl)|(refine CallK.pure hO2 (.cons (Sub.refl _) (.cons (Sub.refl _) .nil)) ?_;rintro _ rfl)|(refine CallK.pure hD1 (.cons (Sub.refl _) (.cons (Sub.refl _) .nil)) ?_;rintro _ rfl)|(refine CallK.pure hD2 (.cons (Sub.refl _) (.cons (Sub.refl _) .nil)) ?_;rintro _ rfl)|(refine CallK.pure hQ1 (.cons (Sub.refl _) (.cons (Sub.refl _) .nil)) ?_;rintro _ rfl)|(refine CallK.pure hQ2 (.cons (Sub.refl _) (.cons (Sub.refl _) .nil)) ?_;rintro _ rfl)|(refine CallK.pure hQ3 (.cons (Sub.refl _) (.cons (Sub.refl _) .nil)) ?_;rintro _ rfl));conv=>whnf)|(refine Br.dec (fun _=>?_) (fun _=>?_)<;>first|(exfalso;omega)|conv=>whnf)|(refine Br.dec2 (fun _=>?_) (fun _=>?_)<;>first|(exfalso;omega)|conv=>whnf)|(refine Br.b (fun _=>?_) (fun _=>?_)<;>conv=>whnf))
     all_goals first
      | contradiction
      | exact ⟨_,.p (Sub.refl _),rfl⟩
      | exact ⟨_,.p z9k,rfl⟩
      | (exfalso;simp_all;done)
      | trace_state
end Go.Ab
