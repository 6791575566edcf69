/- The reference's bodies: where a statement goes on, a procedure's steps. -/
import Derived.Test.YtneccajakpeodaaGreatCfgA15
import Derived.Test.YtneccajakpeodaaGreatCfgA16
import Derived.Test.YtneccajakpeodaaGreatCfgA17
import Derived.Test.YtneccajakpeodaaGreatCfgA19
set_option linter.unusedSimpArgs false
set_option linter.unusedVariables false
set_option maxRecDepth 100000
set_option maxHeartbeats 16000000
namespace Go.Ab
open Go.Proofs
theorem z2i (f:Pr) (n:Str):BT (flatU f) f.fin n=atB f n:=by
 unfold BT atB
 rw [← show (flatU f).map RI.s=flL f.body from HG 1 0 false f.body,List.find?_map]
 have hq:(fun t:S=>t.labels.any fun s=>n==s)∘RI.s=fun x:RI=>inS x.s.labels n:=by
  funext x
  exact (BN _ _).symm
 rw [hq]
 cases (flatU f).find? fun x=>inS x.s.labels n with
 | some x=>rfl
 | none =>
   simp only [Option.map_none]
   rw [BN]
   cases f.fin.any fun s=>n==s<;>rfl
theorem MJ {p:Pg} (hm:WM p=true) {j:Nat} {f:Pr} (hj:p.procs[j]? = some f):(flatU f).length≤200:=by
 rw [show flatU f=fuL 1 0 false f.body from rfl,JR]
 have:=DJ _ _ (List.mem_of_getElem? hj)
 have:=XS hm
 omega
def x9w (f:Pr):AV := .agg [KT (flatU f),QH f.fin]
theorem GY (p:Pg) (j:Nat) (f:Pr) (h:VV p=true) (hj:p.procs[j]? = some f) (it:Item) (hi:it∈QS p j f):SpecP Tryz.prog 146 [x9w f,.agg it.s.cells] (fun r=>r=ZQ (ZR (QX p) f it)):=by
 refine SpecP.body JB QQ Tryz.func146 rfl Tryz.call146 (by show 2≤_;decide) ?_
 conv=>whnf
 have hm:=(QE h).1
 have hlU:=MJ hm hj
 have hLl:=WP (flatU f)
 have hB:=FQ (by omega) (x0h hm hj hi)
 have hI1:=ZJ (flatU f) it.s.id false it.next
 rw [q0t hm hj (q9i hi),cond_false] at hI1
 have hI2:=ZJ (flatU f) it.s.id true it.next
 rw [q0t hm hj (q9i hi),cond_true] at hI2
 have hI3:=ZJ (flatU f) it.s.id false it.s.id
 rw [q0t hm hj (q9i hi),cond_false] at hI3
 have hA:=YJ (flatU f) it.s.id
 rw [q5f hm hj hi] at hA
 have hBe:=LP (flatU f) f.fin it.s.name
 rw [z2i] at hBe
 have hx:it.s.kind=7 → ∃ u,(QX p).l[(it.loop-1).toNat]? = some u∧SpecP Tryz.prog 87 [KT (flatU f),.int .i64 it.loop] (fun r=>r = .int .i64 u.next):=fun hk=>by
  have h1:=(NK h hj).1 it hi hk
  have h2:=(q9l hi).2
  obtain ⟨u,hu,hui⟩:=FN hj (k:=(it.loop-1).toNat) (by omega) (by omega)
  have h3:=x6l h hj (by omega) (by omega) hu
  have h4:=FQ (l:=flatU f) (by omega) (x0h hm hj hui)
  rw [show u.s.id=it.loop by omega] at h4
  exact ⟨u,hu,h4⟩
 generalize flatU f=L at *
 repeat' (first|((first|intro (_:_≤9223372036854775807)|refine DrawK.auto QQ mixed (by kernel_rfl) ?_|refine And.intro rfl ?_|(refine And.intro ⟨by decide,by decide⟩ ?_)|(refine And.intro ⟨rfl,rfl,by decide⟩ ?_)|refine BsK.pure (fun x hx=>by rcases List.mem_singleton.1 hx with rfl;rfl) rfl ?_|refine IdxK.map (by omega) (fun _=>rfl) ?_|refine IdxK.xs (by omega) ?_|refine IdxK.ss (by omega) ?_|(refine ByteK.at (by omega) ?_)|refine Wr.i64 (by omega) (by omega) ?_|(refine CallK.pure hB (.cons (Sub.refl _) (.cons (Sub.refl _) .nil)) ?_;rintro _ rfl)|(refine CallK.pure hI1 (.cons (Sub.refl _) (.cons (Sub.refl _) (.cons (Sub.ff rfl) (.cons (Sub.refl _) .nil)))) ?_;rintro _ rfl)|(refine CallK.pure hI2 (.cons (Sub.refl _) (.cons (Sub.refl _) (.cons (Sub.tt rfl) (.cons (Sub.refl _) .nil)))) ?_;rintro _ rfl)|(refine CallK.pure hI3 (.cons (Sub.refl _) (.cons (Sub.refl _) (.cons (Sub.ff rfl) (.cons (Sub.refl _) .nil)))) ?_;rintro _ rfl)|(refine CallK.pure hA (.cons (Sub.refl _) (.cons (Sub.refl _) .nil)) ?_;rintro _ rfl)|(refine CallK.pure hBe (.cons (Sub.refl _) (.cons (Sub.refl _) (.cons (Sub.refl _) .nil))) ?_;rintro _ rfl)|refine BsK.pureL rfl rfl ?_|(obtain ⟨u,hu1,hu2⟩:=hx (by assumption);refine CallK.pure hu2 (.cons (Sub.refl _) (.cons (Sub.refl _) .nil)) ?_;rintro _ rfl));conv=>whnf)|(refine Br.dec (fun _=>?_) (fun _=>?_)<;>first|(exfalso;omega)|conv=>whnf)|(refine Br.dec2 (fun _=>?_) (fun _=>?_)<;>first|(exfalso;omega)|conv=>whnf)|(refine Br.n (fun _=>?_) (fun _=>?_)<;>conv=>whnf)|(refine Br.b (fun _=>?_) (fun _=>?_)<;>conv=>whnf))
 all_goals first
  | (exfalso;omega)
  | exact RetK.p (by unfold ZR;rw [if_neg (by omega),if_neg (by omega),if_pos (by omega),hu1];rfl)
  | exact RetK.p (by unfold ZR;rw [if_pos (by omega)];rfl)
  | exact RetK.p (by unfold ZR;rw [if_neg (by omega),if_pos (by omega)];rfl)
  | exact RetK.p (by unfold ZR;rw [if_neg (by omega),if_neg (by omega),if_neg (by omega),if_pos (by omega)];rfl)
  | exact RetK.p (by unfold ZR;rw [if_neg (by omega),if_neg (by omega),if_neg (by omega),if_neg (by omega),if_pos (by omega)];rfl)
  | exact RetK.p (by unfold ZR;rw [if_neg (by omega),if_neg (by omega),if_neg (by omega),if_neg (by omega),if_neg (by omega),if_pos (by omega)];rfl)
  | exact RetK.p (by unfold ZR;rw [if_neg (by omega),if_neg (by omega),if_neg (by omega),if_neg (by omega),if_neg (by omega),if_neg (by omega)];rfl)
  | trace_state
theorem z9u {p:Pg} (h:WM p=true) {j:Nat} {f:Pr} (hj:p.procs[j]? = some f):(QS p j f).length=(flatU f).length ∧ ∀ (k:Nat) (hk:k<(flatU f).length) (hk':k<(QS p j f).length),(QS p j f)[k].s=(flatU f)[k].s:=by
 obtain ⟨m,hr⟩:=q0o h hj
 have hpar:=z9d (j:Nat) 1 0 false f.body (-1) 0 (QT p.procs j) hr
 have hlen:(QS p j f).length=(flatU f).length:=by simpa [QS,flatU] using congrArg List.length hpar
 refine ⟨hlen,fun k hk hk' => ?_⟩
 have h1:=congrArg (fun l=>l[k]?) hpar
 have e1:itL (j:Nat) 0 (-1) 0 (QT p.procs j) f.body=QS p j f:=rfl
 have e2:fuL 1 0 false f.body=flatU f:=rfl
 rw [e1,e2] at h1
 simp only [List.getElem?_map,List.getElem?_eq_getElem hk,List.getElem?_eq_getElem hk',Option.map_some] at h1
 exact congrArg Prod.fst (Option.some.inj h1)
theorem z9p {p:Pg} (h:VV p=true) {j:Nat} {f:Pr} (hj:p.procs[j]? = some f) : ∀ s∈QK p j f,leSt s:=fun s hs=>by
 obtain ⟨h1,h2⟩:=(NK h hj).2.1 s hs
 obtain ⟨_,_,hcn⟩:=HO h
 obtain ⟨_,_,_,hlen,hsp⟩:=QG p
 obtain ⟨_,_,hle,_⟩:=hsp j f hj
 unfold okI at h2
 unfold leSt
 omega
def z2p (p:Pg) (j:Nat) (f:Pr) (k:Nat):List Step:=⟨0,z9e p j f,1⟩::((QS p j f).take k).flatMap fun it=>(ZR (QX p) f it).map (Step.mk it.s.id · 1)
theorem x3x {p:Pg} {j:Nat} {f:Pr} {k:Nat} (hk:k<(QS p j f).length):z2p p j f (k+1)=z2p p j f k++(ZR (QX p) f (QS p j f)[k]).map (Step.mk (QS p j f)[k].s.id · 1):=by
 unfold z2p
 rw [List.take_succ_eq_append_getElem hk,List.flatMap_append,List.cons_append]
 simp
theorem q2a {p:Pg} {j:Nat} {f:Pr} {k:Nat} (hk:(QS p j f).length≤k):z2p p j f k=QK p j f:=by
 unfold z2p
 rw [List.take_of_length_le hk]
 rfl
theorem q2e (p:Pg) (j:Nat) (f:Pr) : ∀ k,(z2p p j f k).length≤1+2*k
 | 0=>by unfold z2p;simp
 | k+1=>by
   rcases Nat.lt_or_ge k (QS p j f).length with hk|hk
   ·have:=q2e p j f k
    have h2:=(x3v (QX p) f (QS p j f)[k]).2.1
    rw [x3x hk,List.length_append,List.length_map]
    omega
   ·have:=q2e p j f k
    rw [q2a (by omega)]
    rw [q2a hk] at this
    omega
theorem VY (p:Pg) (j:Nat) (f:Pr) (h:VV p=true) (hj:p.procs[j]? = some f):SpecP Tryz.prog 90 [x9w f] (fun r=>r=QO (QF p j f).real):=by
 refine SpecP.body JG QQ Tryz.func90 rfl Tryz.call90 (by show 1≤_;decide) ?_
 conv=>whnf
 have hm:=(QE h).1
 have hlU:=MJ hm hj
 have hLl:=WP (flatU f)
 obtain ⟨hil,hat⟩:=z9u hm hj
 have hI:=ZJ (flatU f) 0 false (-1)
 rw [x3e hm hj,← z5b h hj] at hI
 have hG:=fun it hi=>GY p j f h hj it hi
 have hreal:(QF p j f).real=ZD (QK p j f):=rfl
 have hle:=z9p h hj
 have hrl:(QK p j f).length≤1000:=by
  rw [← q2a (Nat.le_refl _)]
  have:=q2e p j f (QS p j f).length
  omega
 have hS:=NH (QK p j f) (by omega) hle
 rw [hreal]
 repeat' (first|((first|intro (_:_≤9223372036854775807)|refine DrawK.auto QQ mixed (by kernel_rfl) ?_|refine And.intro rfl ?_|(refine And.intro ⟨by decide,by decide⟩ ?_)|(refine And.intro ⟨rfl,rfl,by decide⟩ ?_)|refine IdxK.map (by omega) (fun _=>rfl) ?_|refine IdxK.xs (by omega) ?_|refine IdxK.ss (by omega) ?_|(refine ByteK.at (by omega) ?_)|refine Wr.i64 (by omega) (by omega) ?_|(refine CallK.pure hI (.cons (Sub.refl _) (.cons (Sub.refl _) (.cons (Sub.ff rfl) (.cons (Sub.refl _) .nil)))) ?_;rintro _ rfl)|refine BsK.own (fun x hx=>by rcases List.mem_singleton.1 hx with rfl;rfl) rfl ?_);conv=>whnf)|(refine Br.dec (fun _=>?_) (fun _=>?_)<;>first|(exfalso;omega)|conv=>whnf)|(refine Br.dec2 (fun _=>?_) (fun _=>?_)<;>first|(exfalso;omega)|conv=>whnf)|(refine Br.n (fun _=>?_) (fun _=>?_)<;>conv=>whnf)|(refine Br.b (fun _=>?_) (fun _=>?_)<;>conv=>whnf))
 refine LoopK.inv QQ (fun x:Nat=>⟨[(1,.p (.ip [KT (flatU f),QH f.fin])),(3,.hd 0 0 (z2p p j f x).length),(14,.p (KT (flatU f))),(15,.p (.int .i64 ((flatU f).map fun i=>AV.agg i.cells).length)),(16,.p (.int .i64 x))],[(0,.own 79 3 ((z2p p j f x).map fun s => .agg s.cells))]⟩) (fun x=>x≤(flatU f).length) (fun x=>(flatU f).length-x) 0 (Le.of_eq rfl) (Nat.zero_le _) ?_
 intro k hk
 have htl:=q2e p j f k
 rcases Nat.lt_or_ge k (flatU f).length with hk2|hk2
 ·have hki:k<(QS p j f).length:=by omega
  have hst:=x3x hki
  have hGk:=hG _ (List.getElem_mem hki)
  have hsk:=hat k hk2 hki
  have hgc:=(x3v (QX p) f (QS p j f)[k]).2.1
  have hid:(QS p j f)[k].s.id=(flatU f)[k].s.id:=by rw [hsk]
  rw [hsk] at hGk
  rw [hid] at hst
  generalize ZR (QX p) f (QS p j f)[k]=gs at *
  have hgl:(gs.map (AV.int .i64)).length=gs.length:=List.length_map _
  generalize z2p p j f k=acc at *
  have hst2:(z2p p j f (k+1)).length=acc.length+gs.length:=by rw [hst,List.length_append,List.length_map]
  conv=>whnf
  repeat' (first|((first|intro (_:_≤9223372036854775807)|refine DrawK.auto QQ mixed (by kernel_rfl) ?_|refine And.intro rfl ?_|(refine And.intro ⟨by decide,by decide⟩ ?_)|(refine And.intro ⟨rfl,rfl,by decide⟩ ?_)|refine BsK.pure (fun x hx=>by rcases List.mem_singleton.1 hx with rfl;rfl) rfl ?_|refine IdxK.map (by omega) (fun _=>rfl) ?_|refine IdxK.xs (by omega) ?_|refine IdxK.ss (by omega) ?_|(refine ByteK.at (by omega) ?_)|refine Wr.i64 (by omega) (by omega) ?_|(refine CallK.pure hGk (.cons (Sub.refl _) (.cons (Sub.refl _) .nil)) ?_;rintro _ rfl));conv=>whnf)|(refine Br.dec (fun _=>?_) (fun _=>?_)<;>first|(exfalso;omega)|conv=>whnf)|(refine Br.dec2 (fun _=>?_) (fun _=>?_)<;>first|(exfalso;omega)|conv=>whnf)|(refine Br.n (fun _=>?_) (fun _=>?_)<;>conv=>whnf)|(refine Br.b (fun _=>?_) (fun _=>?_)<;>conv=>whnf))
  refine LoopK.inv QQ (fun q:Nat=>⟨[(1,.p (.ip [KT (flatU f),QH f.fin])),(3,.hd 0 0 (acc.length+q)),(5,.p (.ip (flatU f)[k].cells)),(14,.p (KT (flatU f))),(15,.p (.int .i64 ((flatU f).map fun i=>AV.agg i.cells).length)),(16,.p (.int .i64 k)),(23,.p (ZQ gs)),(24,.p (.int .i64 (gs.map (AV.int .i64)).length)),(25,.p (.int .i64 q))],[(0,.own 79 3 ((acc++(gs.take q).map (Step.mk (flatU f)[k].s.id · 1)).map fun s => .agg s.cells))]⟩) (fun q=>q≤gs.length) (fun q=>gs.length-q) 0 (Le.of_eq (by rw [List.take_zero,List.map_nil,List.append_nil];rfl)) (Nat.zero_le _) ?_
  intro q hq
  rcases Nat.lt_or_ge q gs.length with hq2|hq2
  ·have e1:acc++(gs.take (q+1)).map (Step.mk (flatU f)[k].s.id · 1)=(acc++(gs.take q).map (Step.mk (flatU f)[k].s.id · 1))++[⟨(flatU f)[k].s.id,gs[q],1⟩]:=by rw [List.take_succ_eq_append_getElem hq2,List.map_append,← List.append_assoc];rfl
   have e2:(acc++(gs.take q).map (Step.mk (flatU f)[k].s.id · 1)).length=acc.length+q:=by rw [List.length_append,List.length_map,List.length_take];omega
   generalize acc++(gs.take q).map (Step.mk (flatU f)[k].s.id · 1)=row at *
   have hrw:=q8g row
   conv=>whnf
   repeat' (first|((first|intro (_:_≤9223372036854775807)|refine DrawK.auto QQ mixed (by kernel_rfl) ?_|refine And.intro rfl ?_|(refine And.intro ⟨by decide,by decide⟩ ?_)|(refine And.intro ⟨rfl,rfl,by decide⟩ ?_)|refine BsK.pure (fun x hx=>by rcases List.mem_singleton.1 hx with rfl;rfl) rfl ?_|refine IdxK.map (by omega) (fun _=>rfl) ?_|refine IdxK.xs (by omega) ?_|refine IdxK.ss (by omega) ?_|(refine ByteK.at (by omega) ?_)|refine Wr.i64 (by omega) (by omega) ?_|refine AppK.mk (by omega) rfl (by show (acc.length+q+1)*24≤140737488355328;omega) (by show acc.length+q+1≤9223372036854775807;omega) (fun x hx=>by rcases List.mem_singleton.1 hx with rfl;exact ⟨rfl,rfl⟩) ?_);conv=>whnf)|(refine Br.dec (fun _=>?_) (fun _=>?_)<;>first|(exfalso;omega)|conv=>whnf)|(refine Br.dec2 (fun _=>?_) (fun _=>?_)<;>first|(exfalso;omega)|conv=>whnf)|(refine Br.n (fun _=>?_) (fun _=>?_)<;>conv=>whnf)|(refine Br.b (fun _=>?_) (fun _=>?_)<;>conv=>whnf))
   all_goals exact ⟨q+1,by omega,by omega,Le.of_eq (by rw [e1,List.map_append];rfl)⟩
  ·obtain rfl:q=gs.length:=by omega
   rw [List.take_length]
   conv=>whnf
   repeat' (first|((first|intro (_:_≤9223372036854775807)|refine DrawK.auto QQ mixed (by kernel_rfl) ?_|refine And.intro rfl ?_|(refine And.intro ⟨by decide,by decide⟩ ?_)|(refine And.intro ⟨rfl,rfl,by decide⟩ ?_)|refine BsK.pure (fun x hx=>by rcases List.mem_singleton.1 hx with rfl;rfl) rfl ?_|refine IdxK.map (by omega) (fun _=>rfl) ?_|refine IdxK.xs (by omega) ?_|refine IdxK.ss (by omega) ?_|(refine ByteK.at (by omega) ?_)|refine Wr.i64 (by omega) (by omega) ?_);conv=>whnf)|(refine Br.dec (fun _=>?_) (fun _=>?_)<;>first|(exfalso;omega)|conv=>whnf)|(refine Br.dec2 (fun _=>?_) (fun _=>?_)<;>first|(exfalso;omega)|conv=>whnf)|(refine Br.n (fun _=>?_) (fun _=>?_)<;>conv=>whnf)|(refine Br.b (fun _=>?_) (fun _=>?_)<;>conv=>whnf))
   all_goals exact ⟨k+1,by omega,by omega,Le.of_eq (by rw [hst2,hst];rfl)⟩
 ·rw [q2a (by omega)]
  conv=>whnf
  repeat' (first|((first|intro (_:_≤9223372036854775807)|refine DrawK.auto QQ mixed (by kernel_rfl) ?_|refine And.intro rfl ?_|(refine And.intro ⟨by decide,by decide⟩ ?_)|(refine And.intro ⟨rfl,rfl,by decide⟩ ?_)|refine BsK.pure (fun x hx=>by rcases List.mem_singleton.1 hx with rfl;rfl) rfl ?_|refine IdxK.map (by omega) (fun _=>rfl) ?_|refine IdxK.xs (by omega) ?_|refine IdxK.ss (by omega) ?_|(refine ByteK.at (by omega) ?_)|refine Wr.i64 (by omega) (by omega) ?_|(refine CallK.give hS (.cons (.hd rfl (by simp)) .nil) ?_;rintro _ rfl));conv=>whnf)|(refine Br.dec (fun _=>?_) (fun _=>?_)<;>first|(exfalso;omega)|conv=>whnf)|(refine Br.dec2 (fun _=>?_) (fun _=>?_)<;>first|(exfalso;omega)|conv=>whnf)|(refine Br.n (fun _=>?_) (fun _=>?_)<;>conv=>whnf)|(refine Br.b (fun _=>?_) (fun _=>?_)<;>conv=>whnf))
  all_goals exact RetK.p rfl
open Go.Proofs
open Go.Proofs
open Go.Proofs
def w2p (l:List Int) (i:Nat):Int:=l.getD i 0
def srt (K:Int→Int) (l:List Int) (a b:Nat):Prop := ∀ i k,a≤i→i<k→k<b→K (w2p l k)≤K (w2p l i)
def hi0 (a m b:Nat):Nat:=if (a+b) / 2<m then (a+b) / 2 else m
open Go.Proofs
open Go.Proofs
open Go.Proofs
def blk (K:Int→Int) (l:List Int) (bs n:Nat):Prop := ∀ q,srt K l (q*bs) (min (q*bs+bs) n)
open Go.Proofs
open Go.Proofs
open Go.Proofs
open Go.Proofs
open Go.Proofs
open Go.Proofs
open Go.Proofs
open Go.Proofs
section
variable {p:Pg} {j:Nat} {f:Pr}
end
open Go.Proofs
section
variable {p:Pg} {j:Nat} {f:Pr}
end
open Go.Proofs
open Go.Proofs
open Go.Proofs
theorem x2d {p:Pg} {n:Str} {k:Nat} {f:Pr} (hw:HS p n=some (QF p k f)) (hk:p.procs[k]? = some f):VV p=true∧q0n p n=(f,true):=by
 obtain ⟨k',f',hk',he,hc,_,hfi⟩:=YD hw
 have hk2:(QF p k f).j=(QF p k' f').j:=by rw [he]
 have hk3:k=k':=hk2
 subst hk3
 rw [hk] at hk'
 obtain rfl:=Option.some.inj hk'
 refine ⟨hc,?_⟩
 unfold q0n VF
 rw [(QE hc).1,hfi]
 rfl
theorem x9s {p:Pg} {n:Str} (hw:HS p n=none):VV p=false∨q0n p n=(Pr0,false):=by
 cases hc:VV p with
 | false=>exact .inl rfl
 | true =>
   refine .inr ?_
   unfold q0n
   rw [(QE hc).1,x9f hw hc]
   rfl
theorem GK (p:Pg) (hf:Fit p) (n:Str) (k:Nat) (f:Pr) (hw:HS p n=some (QF p k f)) (hk:p.procs[k]? = some f):SpecP Tryz.prog 86 [.agg p.cells,.str n] (fun r=>r = .tup [KT (flatU f),.bool true]):=by
 refine SpecP.body BJ QQ Tryz.func86 rfl Tryz.call86 (by show 2≤_;decide) ?_
 conv=>whnf
 obtain ⟨hc,hM⟩:=x2d hw hk
 have hP:=WU p n
 rw [hM] at hP
 have hR:=XT p hf
 rw [hc] at hR
 have hF:=QN f
 rw [ZU (QE hc).1 (List.mem_of_getElem? hk)] at hF
 repeat' (first|((first|intro (_:_≤9223372036854775807)|refine DrawK.auto QQ mixed (by kernel_rfl) ?_|refine And.intro rfl ?_|(refine And.intro ⟨by decide,by decide⟩ ?_)|(refine And.intro ⟨rfl,rfl,by decide⟩ ?_)|refine BsK.pure (fun x hx=>by rcases List.mem_singleton.1 hx with rfl;rfl) rfl ?_|refine IdxK.map (by omega) (fun _=>rfl) ?_|refine IdxK.xs (by omega) ?_|refine IdxK.ss (by omega) ?_|(refine ByteK.at (by omega) ?_)|refine Wr.i64 (by omega) (by omega) ?_|(refine CallK.pure hP (.cons (Sub.refl _) (.cons (Sub.refl _) .nil)) ?_;rintro _ rfl)|(refine CallK.pure hR (.cons (Sub.refl _) .nil) ?_;rintro _ rfl)|(refine CallK.pure hF (.cons (Sub.refl _) .nil) ?_;rintro _ rfl));conv=>whnf)|(refine Br.dec (fun _=>?_) (fun _=>?_)<;>first|(exfalso;omega)|conv=>whnf)|(refine Br.dec2 (fun _=>?_) (fun _=>?_)<;>first|(exfalso;omega)|conv=>whnf)|(refine Br.n (fun _=>?_) (fun _=>?_)<;>conv=>whnf)|(refine Br.b (fun _=>?_) (fun _=>?_)<;>conv=>whnf))
 all_goals first
  | contradiction
  | exact ⟨_,.p (Sub.tup (.cons (Sub.refl _) (.cons (Sub.tt rfl) .nil))),rfl⟩
theorem KK (p:Pg) (hf:Fit p) (n:Str) (k:Nat) (f:Pr) (hw:HS p n=some (QF p k f)) (hk:p.procs[k]? = some f):SpecP Tryz.prog 89 [.agg p.cells,.str n] (fun r=>r = .tup [x9w f,.bool true]):=by
 refine SpecP.body UW QQ Tryz.func89 rfl Tryz.call89 (by show 2≤_;decide) ?_
 conv=>whnf
 obtain ⟨hc,hM⟩:=x2d hw hk
 have hP:=WU p n
 rw [hM] at hP
 have hR:=XT p hf
 rw [hc] at hR
 have hF:=QN f
 rw [ZU (QE hc).1 (List.mem_of_getElem? hk)] at hF
 repeat' (first|((first|intro (_:_≤9223372036854775807)|refine DrawK.auto QQ mixed (by kernel_rfl) ?_|refine And.intro rfl ?_|(refine And.intro ⟨by decide,by decide⟩ ?_)|(refine And.intro ⟨rfl,rfl,by decide⟩ ?_)|refine BsK.pure (fun x hx=>by rcases List.mem_singleton.1 hx with rfl;rfl) rfl ?_|refine IdxK.map (by omega) (fun _=>rfl) ?_|refine IdxK.xs (by omega) ?_|refine IdxK.ss (by omega) ?_|(refine ByteK.at (by omega) ?_)|refine Wr.i64 (by omega) (by omega) ?_|(refine CallK.pure hP (.cons (Sub.refl _) (.cons (Sub.refl _) .nil)) ?_;rintro _ rfl)|(refine CallK.pure hR (.cons (Sub.refl _) .nil) ?_;rintro _ rfl)|(refine CallK.pure hF (.cons (Sub.refl _) .nil) ?_;rintro _ rfl));conv=>whnf)|(refine Br.dec (fun _=>?_) (fun _=>?_)<;>first|(exfalso;omega)|conv=>whnf)|(refine Br.dec2 (fun _=>?_) (fun _=>?_)<;>first|(exfalso;omega)|conv=>whnf)|(refine Br.n (fun _=>?_) (fun _=>?_)<;>conv=>whnf)|(refine Br.b (fun _=>?_) (fun _=>?_)<;>conv=>whnf))
 all_goals first
  | contradiction
  | exact ⟨_,.p (Sub.tup (.cons (Sub.refl _) (.cons (Sub.tt rfl) .nil))),rfl⟩
theorem KD (p:Pg) (hf:Fit p) (n:Str) (hw:HS p n=none):SpecP Tryz.prog 89 [.agg p.cells,.str n] (fun r=>r = .tup [.agg [KT [],QH []],.bool false]):=by
 refine SpecP.body UW QQ Tryz.func89 rfl Tryz.call89 (by show 2≤_;decide) ?_
 conv=>whnf
 have hP:=WU p n
 have hR:=XT p hf
 have hN:=x9s hw
 generalize (q0n p n).1=q at *
 have hN:VV p=false∨(q0n p n).2=false:=hN.imp id fun h=>by rw [h]
 generalize (q0n p n).2=ok at *
 generalize VV p=ch at *
 repeat' (first|((first|intro (_:_≤9223372036854775807)|refine DrawK.auto QQ mixed (by kernel_rfl) ?_|refine And.intro rfl ?_|(refine And.intro ⟨by decide,by decide⟩ ?_)|(refine And.intro ⟨rfl,rfl,by decide⟩ ?_)|refine BsK.pure (fun x hx=>by rcases List.mem_singleton.1 hx with rfl;rfl) rfl ?_|refine IdxK.map (by omega) (fun _=>rfl) ?_|refine IdxK.xs (by omega) ?_|refine IdxK.ss (by omega) ?_|(refine ByteK.at (by omega) ?_)|refine Wr.i64 (by omega) (by omega) ?_|(refine CallK.pure hP (.cons (Sub.refl _) (.cons (Sub.refl _) .nil)) ?_;rintro _ rfl)|(refine CallK.pure hR (.cons (Sub.refl _) .nil) ?_;rintro _ rfl));conv=>whnf)|(refine Br.dec (fun _=>?_) (fun _=>?_)<;>first|(exfalso;omega)|conv=>whnf)|(refine Br.dec2 (fun _=>?_) (fun _=>?_)<;>first|(exfalso;omega)|conv=>whnf)|(refine Br.n (fun _=>?_) (fun _=>?_)<;>conv=>whnf)|(refine Br.b (fun _=>?_) (fun _=>?_)<;>conv=>whnf))
 all_goals first
  | exact ⟨_,.p (Sub.tup (.cons (Sub.agg (.cons Sub.nils (.cons Sub.nils .nil))) (.cons (Sub.ff rfl) .nil))),rfl⟩
  | (exfalso;simp_all;done)
open Go.Proofs
section
variable {p:Pg} {j:Nat} {f:Pr} {n:Str}
end
theorem z4l {p:Pg} (h:VV p=true) {f:Pr} (hf:f∈p.procs) : ∃ k,p.procs[k]? = some f∧HS p f.name=some (QF p k f):=by
 cases hw:HS p f.name with
 | none =>
   exfalso
   unfold HS at hw
   rw [h,cond_true] at hw
   cases hq:p.procs.find? (fun g=>g.name==f.name) with
   | none =>
     have:=List.find?_eq_none.1 hq _ hf
     simp at this
   | some g=>rw [hq] at hw;cases hw
 | some w =>
   obtain ⟨k,g,hkj,rfl,_,hgn,_⟩:=YD hw
   have he:g=f:=HE (x4i h) g (List.mem_of_getElem? hkj) f hf hgn
   subst he
   exact ⟨k,hkj,rfl⟩
theorem z5h {p:Pg} (h:VV p=true) {id:Int} (hid:id∈w0x p 0) : ∃ k f t,p.procs[k]? = some f∧t∈flL f.body∧t.id=id∧HS p (HJ p id).2.1=some (QF p k f):=by
 have hm:=(QE h).1
 unfold w0x at hid
 obtain ⟨x,hx,rfl⟩:=List.mem_map.1 hid
 have hx:=(List.mem_filter.1 hx).1
 rw [LO hm] at hx
 obtain ⟨g,hg,hxg⟩:=List.mem_flatMap.1 hx
 rw [← ZU hm hg] at hxg
 unfold HJ
 cases hr:q9e p x.s.id with
 | none =>
   exfalso
   unfold q9e at hr
   have h1:=List.findSome?_eq_none_iff.1 hr g hg
   unfold x3n at h1
   rw [Option.map_eq_none_iff,List.find?_eq_none] at h1
   exact h1 x hxg (by simp)
 | some y =>
   obtain ⟨y,nm⟩:=y
   unfold q9e at hr
   obtain ⟨f,hf,h1⟩:=List.exists_of_findSome?_eq_some hr
   unfold x3n at h1
   rw [Option.map_eq_some_iff] at h1
   obtain ⟨z,h2,h3⟩:=h1
   obtain rfl:z=y:=congrArg Prod.fst h3
   have hnm:f.name=nm:=congrArg Prod.snd h3
   obtain ⟨k,hk,hw⟩:=z4l h hf
   refine ⟨k,f,z.s,hk,z0j h hk (List.mem_of_find?_eq_some h2),by simpa using List.find?_some h2,?_⟩
   show HS p nm=_
   rw [← hnm]
   exact hw
open Go.Proofs
theorem z2s {p:Pg} (h:VV p=true) {id:Int} (h1:1≤id) (h2:id≤(QX p).l.length) : ∃ k f it,p.procs[k]? = some f∧it∈QS p k f∧it.s.id=id∧HS p (HJ p id).2.1=some (QF p k f)∧(HJ p id).2.2=true∧x0q p id=(it.next,true):=by
 obtain ⟨_,_,_,hlen,_⟩:=QG p
 obtain ⟨j,f,hj,h3,h4⟩:=x7p p.procs (id-1).toNat (by omega)
 obtain ⟨it,h5,h6⟩:=FN hj h3 h4
 have h7:=x6l h hj h3 h4 h5
 have h8:it.s.id=id:=by omega
 have hm:=(QE h).1
 obtain ⟨x,hx,hxs⟩:=q9z (q9i h6)
 have hid:id∈w0x p 0:=by
  unfold w0x
  refine List.mem_map.2 ⟨x,List.mem_filter.2 ⟨?_,rfl⟩,by rw [hxs,h8]⟩
  rw [LO hm]
  exact List.mem_flatMap.2 ⟨f,List.mem_of_getElem? hj,hx⟩
 obtain ⟨k,g,t,hk,ht,hti,hw⟩:=z5h h hid
 have hb:=PF hm hk ht
 have hbl:QT p.procs k+QY g.body≤(QX p).l.length:=by
  obtain ⟨_,_,_,_,hsp⟩:=QG p
  have:=(hsp k g hk).2.2.1
  omega
 obtain ⟨it2,h9,h10⟩:=FN hk (k:=(id-1).toNat) (by omega) (by omega)
 rw [h5] at h9
 obtain rfl:=Option.some.inj h9
 refine ⟨k,g,it,hk,h10,h8,hw,?_,?_⟩
 ·cases ho:(HJ p id).2.2 with
  | true=>rfl
  | false =>
    exfalso
    unfold HJ at ho
    cases hr:q9e p id with
    | some y=>rw [hr] at ho;cases ho
    | none =>
      unfold q9e at hr
      have h11:=List.findSome?_eq_none_iff.1 hr f (List.mem_of_getElem? hj)
      unfold x3n at h11
      rw [Option.map_eq_none_iff,List.find?_eq_none] at h11
      rw [ZU hm (List.mem_of_getElem? hj)] at h11
      exact h11 x hx (by rw [hxs,h8];simp)
 ·unfold x0q
  rw [h,h5,decide_eq_true h1,decide_eq_true h2]
  rfl
theorem z1w {p:Pg} (h:VV p=true) {id:Int} (h1 : ¬(1≤id∧id≤(QX p).l.length)):(HJ p id).2.2=false∧x0q p id=(0,false):=by
 have hm:=(QE h).1
 constructor
 ·unfold HJ
  cases hr:q9e p id with
  | none=>rfl
  | some y =>
    exfalso
    unfold q9e at hr
    obtain ⟨f,hf,h2⟩:=List.exists_of_findSome?_eq_some hr
    unfold x3n at h2
    rw [Option.map_eq_some_iff] at h2
    obtain ⟨z,h3,_⟩:=h2
    obtain ⟨k,hk,rfl⟩:=List.mem_iff_getElem.1 hf
    have hk':p.procs[k]? = some p.procs[k]:=List.getElem?_eq_getElem hk
    have hb:=PF hm hk' (z0j h hk' (List.mem_of_find?_eq_some h3))
    have hz:z.s.id=id:=by simpa using List.find?_some h3
    obtain ⟨_,_,_,hlen,hsp⟩:=QG p
    have:=(hsp k _ hk').2.2.1
    omega
 ·unfold x0q
  have e:(decide (1≤id)&&decide (id≤(QX p).l.length))=false:=by
   rw [Bool.eq_false_iff]
   intro e
   rw [Bool.and_eq_true,decide_eq_true_eq,decide_eq_true_eq] at e
   exact h1 e
  rw [h,e]
  rfl
theorem z7d {p:Pg} (h:VV p=false) (id:Int):x0q p id=(0,false):=by
 unfold x0q
 rw [h]
 rfl
theorem x0p {p:Pg} {n:Str} {w:Way} (h:HS p n=some w):ofR p n=w.real:=by
 unfold ofR
 rw [h]
theorem q9d {p:Pg} {n:Str} (h:HS p n=none):ofR p n=[]:=by
 unfold ofR
 rw [h]
theorem z7h (p:Pg) (n:Str):(ofR p n).length≤100000:=by
 cases hw:HS p n with
 | none=>rw [q9d hw];exact Nat.zero_le _
 | some w =>
   obtain ⟨k,f,hk,he,hc,_⟩:=YD hw
   rw [x0p hw,he]
   exact z3b hc hk
theorem z7v {F:List Step} {a b x:Int}:Rch (frR F a []) b x↔Rch (stR F) b x:=by
 have e:frR F a []=stR F:=by
  funext u v
  exact propext ⟨fun h=>h.2,fun h=>⟨.inr rfl,h⟩⟩
 rw [e]
theorem z2o {steps:List Step} {at_:Int} {but es:List Int} (h : ∀ x,x∈es↔Rch (frR steps at_ but) at_ x) (hd:es.Nodup):es.length≤steps.length+1:=by
 have:=YG hd (m:=at_::steps.map Step.dst) fun s hs=>by
  have h1:=(h s).1 hs
  cases h1 with
  | refl=>exact List.mem_cons_self
  | tail _ h2 =>
    obtain ⟨_,t,ht,_,rfl⟩:=h2
    exact List.mem_cons_of_mem _ (List.mem_map.2 ⟨t,ht,rfl⟩)
 simpa using this
theorem z5a {p:Pg} (h:VV p=true) {j:Nat} {f:Pr} (hj:p.procs[j]? = some f) {y:Int}:y∈x0d (QF p j f)↔0<y∧Rch (wR p j f) 0 y:=by
 have hn:(QF p j f).n=(QY f.body+2:Nat):=rfl
 have hpl : ∀ i:Nat,1≤i→i≤QY f.body→JV p j (QY f.body+2:Nat) i=QT p.procs j+i:=fun i h1 h2=>by
  unfold JV loI
  rw [if_neg (by omega),if_neg (by omega)]
  omega
 have hix : ∀ i:Nat,1≤i→i≤QY f.body→(ixI p j f (QT p.procs j+i)).toNat=i:=fun i h1 h2=>by
  unfold ixI GS loI hiI
  (repeat' split)<;>omega
 unfold x0d
 rw [List.mem_map]
 constructor
 ·rintro ⟨i,hi,rfl⟩
  obtain ⟨h1,h2⟩:=List.mem_filter.1 hi
  rw [hn] at h1
  have h3:=List.mem_range'_1.1 h1
  have e1:=hpl i (by omega) (by omega)
  have e2:=hix i (by omega) (by omega)
  show 0<JV p j (QY f.body+2:Nat) i∧Rch (wR p j f) 0 (JV p j (QY f.body+2:Nat) i)
  rw [e1]
  refine ⟨by omega,(x7f h hj (.inr (.inr ⟨by omega,by omega⟩))).1 ?_⟩
  rw [e2]
  exact h2
 ·rintro ⟨h0,h1⟩
  have hp:plP p j f y:=by
   cases h1 with
   | refl=>exact .inl rfl
   | tail _ h2 =>
     obtain ⟨t,ht,_,rfl⟩:=h2
     exact (NX h hj t ht).2
  have h2:=(x7f h hj hp).2 h1
  rcases hp with hp|hp|⟨h3,h4⟩
  ·omega
  ·omega
  obtain ⟨i,hi⟩ : ∃ i:Nat,y=QT p.procs j+i:=⟨(y-QT p.procs j).toNat,by omega⟩
  subst hi
  rw [hix i (by omega) (by omega)] at h2
  refine ⟨i,List.mem_filter.2 ⟨List.mem_range'_1.2 ⟨by omega,?_⟩,h2⟩,hpl i (by omega) (by omega)⟩
  rw [hn]
  omega
theorem z5t {p:Pg} {j:Nat} {f:Pr}:(x0d (QF p j f)).Pairwise ordP:=by
 have hn:(QF p j f).n=(QY f.body+2:Nat):=rfl
 unfold x0d
 rw [List.pairwise_map]
 have h1:((List.range' 1 ((QF p j f).n-2).toNat).filter fun i=>(QF p j f).live.getD i false).Pairwise fun a b=>a<b:=List.Pairwise.sublist List.filter_sublist List.pairwise_lt_range'
 refine h1.imp_of_mem fun {a b} ha hb hab => ?_
 have h2:=List.mem_range'_1.1 (List.mem_filter.1 ha).1
 have h3:=List.mem_range'_1.1 (List.mem_filter.1 hb).1
 rw [hn] at h2 h3
 rw [DW]
 right
 show JV p j (QY f.body+2:Nat) a ≠ -1∧JV p j (QY f.body+2:Nat) b ≠ -1∧JV p j (QY f.body+2:Nat) a<JV p j (QY f.body+2:Nat) b
 unfold JV loI
 (repeat' split)<;>omega
theorem z4j (p:Pg) (n:Str):(BO p n).Pairwise ordP ∧ ∀ y,y∈BO p n↔0<y∧Rch (stR (ofR p n)) 0 y:=by
 cases hw:HS p n with
 | none =>
   have e:BO p n=[]:=by unfold BO;rw [hw]
   rw [e,q9d hw]
   refine ⟨.nil,fun y=>⟨fun h=>(by cases h),fun ⟨h0,h1⟩ => ?_⟩⟩
   cases h1 with
   | refl=>omega
   | tail _ h2=>obtain ⟨t,ht,_⟩:=h2;cases ht
 | some w =>
   obtain ⟨k,f,hk,rfl,hc,_⟩:=YD hw
   have e:BO p n=x0d (QF p k f):=by unfold BO;rw [hw]
   rw [e,x0p hw]
   exact ⟨z5t,fun y=>z5a hc hk⟩
def w3f (l:List Int) (r:AV):Prop := ∃ m,r=ZQ m∧m.Pairwise ordP ∧ ∀ s,s∈m↔s∈l
open Go.Proofs
theorem YI (p:Pg) (hf:Fit p) (n:Str):SpecP Tryz.prog 24 [.agg p.cells,.str n] (fun r=>r=QO (ofR p n)):=by
 refine SpecP.body DR QQ Tryz.func24 rfl Tryz.call24 (by show 2≤_;decide) ?_
 conv=>whnf
 cases hw:HS p n with
 | none =>
   rw [q9d hw]
   have hW:=KD p hf n hw
   repeat' (first|((first|intro (_:_≤9223372036854775807)|refine DrawK.auto QQ mixed (by kernel_rfl) ?_|refine And.intro rfl ?_|(refine And.intro ⟨by decide,by decide⟩ ?_)|(refine And.intro ⟨rfl,rfl,by decide⟩ ?_)|refine BsK.pure (fun x hx=>by rcases List.mem_singleton.1 hx with rfl;rfl) rfl ?_|refine IdxK.map (by omega) (fun _=>rfl) ?_|refine IdxK.xs (by omega) ?_|refine IdxK.ss (by omega) ?_|(refine ByteK.at (by omega) ?_)|refine Wr.i64 (by omega) (by omega) ?_|(refine CallK.pure hW (.cons (Sub.refl _) (.cons (Sub.refl _) .nil)) ?_;rintro _ rfl));conv=>whnf)|(refine Br.dec (fun _=>?_) (fun _=>?_)<;>first|(exfalso;omega)|conv=>whnf)|(refine Br.dec2 (fun _=>?_) (fun _=>?_)<;>first|(exfalso;omega)|conv=>whnf)|(refine Br.n (fun _=>?_) (fun _=>?_)<;>conv=>whnf)|(refine Br.b (fun _=>?_) (fun _=>?_)<;>conv=>whnf))
   all_goals first
    | contradiction
    | exact ⟨_,.p Sub.nils,rfl⟩
 | some w =>
   obtain ⟨k,f,hk,rfl,hc,_⟩:=YD hw
   rw [x0p hw]
   have hW:=KK p hf n k f hw hk
   have hB:=VY p k f hc hk
   repeat' (first|((first|intro (_:_≤9223372036854775807)|refine DrawK.auto QQ mixed (by kernel_rfl) ?_|refine And.intro rfl ?_|(refine And.intro ⟨by decide,by decide⟩ ?_)|(refine And.intro ⟨rfl,rfl,by decide⟩ ?_)|refine BsK.pure (fun x hx=>by rcases List.mem_singleton.1 hx with rfl;rfl) rfl ?_|refine IdxK.map (by omega) (fun _=>rfl) ?_|refine IdxK.xs (by omega) ?_|refine IdxK.ss (by omega) ?_|(refine ByteK.at (by omega) ?_)|refine Wr.i64 (by omega) (by omega) ?_|(refine CallK.pure hW (.cons (Sub.refl _) (.cons (Sub.refl _) .nil)) ?_;rintro _ rfl)|(refine CallK.pure hB (.cons (Sub.refl _) .nil) ?_;rintro _ rfl));conv=>whnf)|(refine Br.dec (fun _=>?_) (fun _=>?_)<;>first|(exfalso;omega)|conv=>whnf)|(refine Br.dec2 (fun _=>?_) (fun _=>?_)<;>first|(exfalso;omega)|conv=>whnf)|(refine Br.n (fun _=>?_) (fun _=>?_)<;>conv=>whnf)|(refine Br.b (fun _=>?_) (fun _=>?_)<;>conv=>whnf))
   all_goals first
    | contradiction
    | exact RetK.p rfl
theorem DE (p:Pg) (hf:Fit p) (id:Int):SpecP Tryz.prog 21 [.agg p.cells,.int .i64 id] (fun r=>r = .tup [.int .i64 (x0q p id).1,.bool (x0q p id).2]):=by
 refine SpecP.body HU QQ Tryz.func21 rfl Tryz.call21 (by show 2≤_;decide) ?_
 conv=>whnf
 have hF:=q0a p id
 have hR:=XT p hf
 cases hc:VV p with
 | false =>
   rw [hc] at hR
   rw [z7d hc]
   generalize (HJ p id).2.2=ok at *
   repeat' (first|((first|intro (_:_≤9223372036854775807)|refine DrawK.auto QQ mixed (by kernel_rfl) ?_|refine And.intro rfl ?_|(refine And.intro ⟨by decide,by decide⟩ ?_)|(refine And.intro ⟨rfl,rfl,by decide⟩ ?_)|refine BsK.pure (fun x hx=>by rcases List.mem_singleton.1 hx with rfl;rfl) rfl ?_|refine IdxK.map (by omega) (fun _=>rfl) ?_|refine IdxK.xs (by omega) ?_|refine IdxK.ss (by omega) ?_|(refine ByteK.at (by omega) ?_)|refine Wr.i64 (by omega) (by omega) ?_|(refine CallK.pure hF (.cons (Sub.refl _) (.cons (Sub.refl _) .nil)) ?_;rintro _ rfl)|(refine CallK.pure hR (.cons (Sub.refl _) .nil) ?_;rintro _ rfl));conv=>whnf)|(refine Br.dec (fun _=>?_) (fun _=>?_)<;>first|(exfalso;omega)|conv=>whnf)|(refine Br.dec2 (fun _=>?_) (fun _=>?_)<;>first|(exfalso;omega)|conv=>whnf)|(refine Br.n (fun _=>?_) (fun _=>?_)<;>conv=>whnf)|(refine Br.b (fun _=>?_) (fun _=>?_)<;>conv=>whnf))
   all_goals first
    | contradiction
    | exact RetK.tup2 rfl (Sub.ff rfl)
 | true =>
   rw [hc] at hR
   by_cases hin:1≤id∧id≤(QX p).l.length
   ·obtain ⟨k,f,it,hk,hi,hid,hw,ho,hb⟩:=z2s hc hin.1 hin.2
    have hW:=GK p hf _ k f hw hk
    have hm:=(QE hc).1
    have hB:=FQ (by have:=MJ hm hk;omega) (x0h hm hk hi)
    rw [hid] at hB
    rw [ho] at hF
    rw [hb]
    generalize (HJ p id).2.1=nm at *
    generalize (HJ p id).1=x0 at *
    repeat' (first|((first|intro (_:_≤9223372036854775807)|refine DrawK.auto QQ mixed (by kernel_rfl) ?_|refine And.intro rfl ?_|(refine And.intro ⟨by decide,by decide⟩ ?_)|(refine And.intro ⟨rfl,rfl,by decide⟩ ?_)|refine BsK.pure (fun x hx=>by rcases List.mem_singleton.1 hx with rfl;rfl) rfl ?_|refine IdxK.map (by omega) (fun _=>rfl) ?_|refine IdxK.xs (by omega) ?_|refine IdxK.ss (by omega) ?_|(refine ByteK.at (by omega) ?_)|refine Wr.i64 (by omega) (by omega) ?_|(refine CallK.pure hF (.cons (Sub.refl _) (.cons (Sub.refl _) .nil)) ?_;rintro _ rfl)|(refine CallK.pure hR (.cons (Sub.refl _) .nil) ?_;rintro _ rfl)|(refine CallK.pure hW (.cons (Sub.refl _) (.cons (Sub.refl _) .nil)) ?_;rintro _ rfl)|(refine CallK.pure hB (.cons (Sub.refl _) (.cons (Sub.refl _) .nil)) ?_;rintro _ rfl));conv=>whnf)|(refine Br.dec (fun _=>?_) (fun _=>?_)<;>first|(exfalso;omega)|conv=>whnf)|(refine Br.dec2 (fun _=>?_) (fun _=>?_)<;>first|(exfalso;omega)|conv=>whnf)|(refine Br.n (fun _=>?_) (fun _=>?_)<;>conv=>whnf)|(refine Br.b (fun _=>?_) (fun _=>?_)<;>conv=>whnf))
    all_goals first
     | contradiction
     | exact RetK.tup2 rfl (Sub.tt rfl)
   ·obtain ⟨ho,hb⟩:=z1w hc hin
    rw [ho] at hF
    rw [hb]
    repeat' (first|((first|intro (_:_≤9223372036854775807)|refine DrawK.auto QQ mixed (by kernel_rfl) ?_|refine And.intro rfl ?_|(refine And.intro ⟨by decide,by decide⟩ ?_)|(refine And.intro ⟨rfl,rfl,by decide⟩ ?_)|refine BsK.pure (fun x hx=>by rcases List.mem_singleton.1 hx with rfl;rfl) rfl ?_|refine IdxK.map (by omega) (fun _=>rfl) ?_|refine IdxK.xs (by omega) ?_|refine IdxK.ss (by omega) ?_|(refine ByteK.at (by omega) ?_)|refine Wr.i64 (by omega) (by omega) ?_|(refine CallK.pure hF (.cons (Sub.refl _) (.cons (Sub.refl _) .nil)) ?_;rintro _ rfl)|(refine CallK.pure hR (.cons (Sub.refl _) .nil) ?_;rintro _ rfl));conv=>whnf)|(refine Br.dec (fun _=>?_) (fun _=>?_)<;>first|(exfalso;omega)|conv=>whnf)|(refine Br.dec2 (fun _=>?_) (fun _=>?_)<;>first|(exfalso;omega)|conv=>whnf)|(refine Br.n (fun _=>?_) (fun _=>?_)<;>conv=>whnf)|(refine Br.b (fun _=>?_) (fun _=>?_)<;>conv=>whnf))
    all_goals first
     | contradiction
     | exact RetK.tup2 rfl (Sub.ff rfl)
theorem DF (l:List Int) (hl:l.length≤1000000000):SpecP Tryz.prog 92 [ZQ l] (fun r=>w3f l r):=by
 refine SpecP.body HW QQ Tryz.func92 rfl Tryz.call92 (by show 1≤_;decide) ?_
 conv=>whnf
 intro (_:_≤9223372036854775807)
 have hll:(l.map (AV.int .i64)).length=l.length:=List.length_map _
 conv=>whnf
 refine LoopK.inv QQ (fun x:Nat×List Int=>⟨[(0,.p (ZQ l)),(3,.hd 0 0 x.2.length),(9,.p (.int .i64 (l.map (AV.int .i64)).length)),(10,.p (.int .i64 x.1))],[(0,.own 3 1 (x.2.map (.int .i64)))]⟩) (fun x=>x.1≤l.length∧RiseI ordP l x.2 x.1) (fun x=>l.length-x.1) (0,[])
  (Le.mk [(0,.own 3 1 [])] (by simp [Chunk.new0];rfl) (by simp) (by simp) (.cons (.refl _) (.cons (.nil List.mem_cons_self) (.cons (.refl _) (.cons (.refl _) .nil)))) (.new List.mem_cons_self .nil)) ⟨Nat.zero_le _,RiseI.zero⟩ ?_
 rintro ⟨i,out⟩ ⟨h2,h3⟩
 simp only at h2 h3 ⊢
 have hol:=h3.len ordP.irr
 rcases Nat.lt_or_ge i l.length with hi|hi
 ·conv=>whnf
  repeat' (first|((first|intro (_:_≤9223372036854775807)|refine DrawK.auto QQ mixed (by kernel_rfl) ?_|refine And.intro rfl ?_|(refine And.intro ⟨by decide,by decide⟩ ?_)|(refine And.intro ⟨rfl,rfl,by decide⟩ ?_)|refine BsK.pure (fun x hx=>by rcases List.mem_singleton.1 hx with rfl;rfl) rfl ?_|refine IdxK.map (by omega) (fun _=>rfl) ?_|refine IdxK.xs (by omega) ?_|refine IdxK.ss (by omega) ?_|(refine ByteK.at (by omega) ?_)|refine Wr.i64 (by omega) (by omega) ?_);conv=>whnf)|(refine Br.dec (fun _=>?_) (fun _=>?_)<;>first|(exfalso;omega)|conv=>whnf)|(refine Br.dec2 (fun _=>?_) (fun _=>?_)<;>first|(exfalso;omega)|conv=>whnf)|(refine Br.n (fun _=>?_) (fun _=>?_)<;>conv=>whnf)|(refine Br.b (fun _=>?_) (fun _=>?_)<;>conv=>whnf))
  refine LoopK.inv QQ (fun x:Nat×Option Int=>⟨[(0,.p (ZQ l)),(3,.hd 0 0 out.length),(4,.p (.int .i64 (x.2.getD 0))),(5,.p (.bool x.2.isSome)),(9,.p (.int .i64 (l.map (AV.int .i64)).length)),(10,.p (.int .i64 i)),(12,.p (ZQ l)),(13,.p (.int .i64 (l.map (AV.int .i64)).length)),(14,.p (.int .i64 x.1))],[(0,.own 3 1 (out.map (.int .i64)))]⟩) (fun x=>x.1≤l.length∧LeastI ordP l out x.1 x.2) (fun x=>l.length-x.1) (0,none) (Le.mk [] (by simp) (by simp) (by simp) (.cons (.refl _) (.cons (.refl _) (.cons (.refl _) (.cons (.p (Sub.ff rfl)) (.cons (.refl _) (.cons (.refl _) (.cons (.refl _) (.cons (.refl _) (.cons (.refl _) .nil))))))))) (.cons rfl (.refl _) .nil)) ⟨Nat.zero_le _,LeastI.zero⟩ ?_
  rintro ⟨k,o⟩ ⟨h4,h5⟩
  simp only at h4 h5 ⊢
  rcases Nat.lt_or_ge k l.length with hk|hk
  ·have hin:x3j out l[k]=true→l[k]∈out:=DK.1
   have hno:x3j out l[k]=false→l[k]∉out:=fun h hm=>by rw [DK.2 hm] at h;cases h
   cases o with
   | none =>
     simp only [Option.getD_none,Option.isSome_none]
     conv=>whnf
     repeat' (first|((first|intro (_:_≤9223372036854775807)|refine DrawK.auto QQ mixed (by kernel_rfl) ?_|refine And.intro rfl ?_|(refine And.intro ⟨by decide,by decide⟩ ?_)|(refine And.intro ⟨rfl,rfl,by decide⟩ ?_)|refine BsK.pure (fun x hx=>by rcases List.mem_singleton.1 hx with rfl;rfl) rfl ?_|refine IdxK.map (by omega) (fun _=>rfl) ?_|refine IdxK.xs (by omega) ?_|refine IdxK.ss (by omega) ?_|(refine ByteK.at (by omega) ?_)|refine Wr.i64 (by omega) (by omega) ?_|(refine CallK.borrow (XO out (l[k]'hk)) (.cons (.hd rfl (by simp)) (.cons (.p (Sub.refl _)) .nil)) (by rintro _ rfl;rfl) ?_;rintro _ rfl));conv=>whnf)|(refine Br.dec (fun _=>?_) (fun _=>?_)<;>first|(exfalso;omega)|conv=>whnf)|(refine Br.dec2 (fun _=>?_) (fun _=>?_)<;>first|(exfalso;omega)|conv=>whnf)|(refine Br.n (fun _=>?_) (fun _=>?_)<;>conv=>whnf)|(refine Br.b (fun _=>?_) (fun _=>?_)<;>conv=>whnf))
     all_goals first
      | (exfalso;simp_all;done)
      | exact ⟨(k+1,none),⟨by simp only;omega,h5.old hk (hin (by assumption))⟩,by simp only;omega,Le.of_eq rfl⟩
      | exact ⟨(k+1,some l[k]),⟨by simp only;omega,h5.first hk (hno (by assumption))⟩,by simp only;omega,(Le.mk [] (by simp) (by simp) (by simp) (.cons (.refl _) (.cons (.refl _) (.cons (.refl _) (.cons (.p (Sub.tt rfl)) (.cons (.refl _) (.cons (.refl _) (.cons (.refl _) (.cons (.refl _) (.cons (.refl _) .nil))))))))) (.cons rfl (.refl _) .nil))⟩
   | some m =>
     simp only [Option.getD_some,Option.isSome_some]
     conv=>whnf
     repeat' (first|((first|intro (_:_≤9223372036854775807)|refine DrawK.auto QQ mixed (by kernel_rfl) ?_|refine And.intro rfl ?_|(refine And.intro ⟨by decide,by decide⟩ ?_)|(refine And.intro ⟨rfl,rfl,by decide⟩ ?_)|refine BsK.pure (fun x hx=>by rcases List.mem_singleton.1 hx with rfl;rfl) rfl ?_|refine IdxK.map (by omega) (fun _=>rfl) ?_|refine IdxK.xs (by omega) ?_|refine IdxK.ss (by omega) ?_|(refine ByteK.at (by omega) ?_)|refine Wr.i64 (by omega) (by omega) ?_|(refine CallK.borrow (XO out (l[k]'hk)) (.cons (.hd rfl (by simp)) (.cons (.p (Sub.refl _)) .nil)) (by rintro _ rfl;rfl) ?_;rintro _ rfl)|(refine CallK.pure (YN (l[k]'hk) m) (.cons (Sub.refl _) (.cons (Sub.refl _) .nil)) ?_;rintro _ rfl));conv=>whnf)|(refine Br.dec (fun _=>?_) (fun _=>?_)<;>first|(exfalso;omega)|conv=>whnf)|(refine Br.dec2 (fun _=>?_) (fun _=>?_)<;>first|(exfalso;omega)|conv=>whnf)|(refine Br.n (fun _=>?_) (fun _=>?_)<;>conv=>whnf)|(refine Br.b (fun _=>?_) (fun _=>?_)<;>conv=>whnf))
     all_goals first
      | (exfalso;simp_all;done)
      | exact ⟨(k+1,some m),⟨by simp only;omega,h5.old hk (hin (by assumption))⟩,by simp only;omega,Le.of_eq rfl⟩
      | exact ⟨(k+1,some l[k]),⟨by simp only;omega,h5.less ordP.trans hk (hno (by assumption)) (by assumption)⟩,by simp only;omega,(Le.mk [] (by simp) (by simp) (by simp) (.cons (.refl _) (.cons (.refl _) (.cons (.refl _) (.cons (.p (Sub.tt rfl)) (.cons (.refl _) (.cons (.refl _) (.cons (.refl _) (.cons (.refl _) (.cons (.refl _) .nil))))))))) (.cons rfl (.refl _) .nil))⟩
      | (have hb:z4b l[k] m=false:=by assumption
         exact ⟨(k+1,some m),⟨by simp only;omega,h5.more ordP.total hk (fun h=>by unfold ordP at h;rw [hb] at h;cases h)⟩,by simp only;omega,Le.of_eq rfl⟩)
  ·obtain rfl:k=l.length:=by omega
   cases o with
   | none =>
     simp only [Option.getD_none,Option.isSome_none]
     conv=>whnf
     repeat' (first|((first|intro (_:_≤9223372036854775807)|refine DrawK.auto QQ mixed (by kernel_rfl) ?_|refine And.intro rfl ?_|(refine And.intro ⟨by decide,by decide⟩ ?_)|(refine And.intro ⟨rfl,rfl,by decide⟩ ?_)|refine BsK.pure (fun x hx=>by rcases List.mem_singleton.1 hx with rfl;rfl) rfl ?_|refine IdxK.map (by omega) (fun _=>rfl) ?_|refine IdxK.xs (by omega) ?_|refine IdxK.ss (by omega) ?_|(refine ByteK.at (by omega) ?_)|refine Wr.i64 (by omega) (by omega) ?_);conv=>whnf)|(refine Br.dec (fun _=>?_) (fun _=>?_)<;>first|(exfalso;omega)|conv=>whnf)|(refine Br.dec2 (fun _=>?_) (fun _=>?_)<;>first|(exfalso;omega)|conv=>whnf)|(refine Br.n (fun _=>?_) (fun _=>?_)<;>conv=>whnf)|(refine Br.b (fun _=>?_) (fun _=>?_)<;>conv=>whnf))
     all_goals first
      | (exfalso;simp_all;done)
      | exact ⟨(i+1,out),⟨by simp only;omega,h3.stay h5⟩,by simp only;omega,Le.of_eq rfl⟩
   | some m =>
     simp only [Option.getD_some,Option.isSome_some]
     conv=>whnf
     repeat' (first|((first|intro (_:_≤9223372036854775807)|refine DrawK.auto QQ mixed (by kernel_rfl) ?_|refine And.intro rfl ?_|(refine And.intro ⟨by decide,by decide⟩ ?_)|(refine And.intro ⟨rfl,rfl,by decide⟩ ?_)|refine BsK.pure (fun x hx=>by rcases List.mem_singleton.1 hx with rfl;rfl) rfl ?_|refine IdxK.map (by omega) (fun _=>rfl) ?_|refine IdxK.xs (by omega) ?_|refine IdxK.ss (by omega) ?_|(refine ByteK.at (by omega) ?_)|refine Wr.i64 (by omega) (by omega) ?_|refine AppK.int1 (by simp) (by simp;omega) ?_);conv=>whnf)|(refine Br.dec (fun _=>?_) (fun _=>?_)<;>first|(exfalso;omega)|conv=>whnf)|(refine Br.dec2 (fun _=>?_) (fun _=>?_)<;>first|(exfalso;omega)|conv=>whnf)|(refine Br.n (fun _=>?_) (fun _=>?_)<;>conv=>whnf)|(refine Br.b (fun _=>?_) (fun _=>?_)<;>conv=>whnf))
     all_goals first
      | (exfalso;simp_all;done)
      | exact ⟨(i+1,out++[m]),⟨by simp only;omega,h3.snoc h5⟩,by simp only;omega,Le.of_eq (by simp only [List.length_append,List.map_append];rfl)⟩
 ·obtain ⟨h6,h7⟩:=h3.all ordP.irr (by omega)
  conv=>whnf
  repeat' (first|((first|intro (_:_≤9223372036854775807)|refine DrawK.auto QQ mixed (by kernel_rfl) ?_|refine And.intro rfl ?_|(refine And.intro ⟨by decide,by decide⟩ ?_)|(refine And.intro ⟨rfl,rfl,by decide⟩ ?_)|refine BsK.pure (fun x hx=>by rcases List.mem_singleton.1 hx with rfl;rfl) rfl ?_|refine IdxK.map (by omega) (fun _=>rfl) ?_|refine IdxK.xs (by omega) ?_|refine IdxK.ss (by omega) ?_|(refine ByteK.at (by omega) ?_)|refine Wr.i64 (by omega) (by omega) ?_);conv=>whnf)|(refine Br.dec (fun _=>?_) (fun _=>?_)<;>first|(exfalso;omega)|conv=>whnf)|(refine Br.dec2 (fun _=>?_) (fun _=>?_)<;>first|(exfalso;omega)|conv=>whnf)|(refine Br.n (fun _=>?_) (fun _=>?_)<;>conv=>whnf)|(refine Br.b (fun _=>?_) (fun _=>?_)<;>conv=>whnf))
  exact ⟨_,.hd rfl (by simp),out,rfl,h6,h7⟩
theorem NE (p:Pg) (hf:Fit p) (n:Str):SpecP Tryz.prog 27 [.agg p.cells,.str n] (fun r=>r=ZQ (BO p n)):=by
 refine SpecP.body DP QQ Tryz.func27 rfl Tryz.call27 (by show 2≤_;decide) ?_
 conv=>whnf
 have hR:=YI p hf n
 have hol:=z7h p n
 have hF:=JZ (ofR p n) 0 [] (by omega)
 obtain ⟨hlo,hlm⟩:=z4j p n
 generalize BO p n=Q at *
 repeat' (first|((first|intro (_:_≤9223372036854775807)|refine DrawK.auto QQ mixed (by kernel_rfl) ?_|refine And.intro rfl ?_|(refine And.intro ⟨by decide,by decide⟩ ?_)|(refine And.intro ⟨rfl,rfl,by decide⟩ ?_)|refine BsK.pure (fun x hx=>by rcases List.mem_singleton.1 hx with rfl;rfl) rfl ?_|refine IdxK.map (by omega) (fun _=>rfl) ?_|refine IdxK.xs (by omega) ?_|refine IdxK.ss (by omega) ?_|(refine ByteK.at (by omega) ?_)|refine Wr.i64 (by omega) (by omega) ?_|(refine CallK.pure hR (.cons (Sub.refl _) (.cons (Sub.refl _) .nil)) ?_;rintro _ rfl)|(refine CallK.pure hF (.cons (Sub.refl _) (.cons (Sub.refl _) (.cons Sub.nils .nil))) ?_;rintro _ ⟨es,rfl,hes,hnd⟩));conv=>whnf)|(refine Br.dec (fun _=>?_) (fun _=>?_)<;>first|(exfalso;omega)|conv=>whnf)|(refine Br.dec2 (fun _=>?_) (fun _=>?_)<;>first|(exfalso;omega)|conv=>whnf)|(refine Br.n (fun _=>?_) (fun _=>?_)<;>conv=>whnf)|(refine Br.b (fun _=>?_) (fun _=>?_)<;>conv=>whnf))
 have hel:=z2o hes hnd
 have hml:(es.map (AV.int .i64)).length=es.length:=List.length_map _
 refine LoopK.inv QQ (fun x:Nat×List Int=>⟨[(5,.hd 0 0 x.2.length),(11,.p (ZQ es)),(12,.p (.int .i64 (es.map (AV.int .i64)).length)),(13,.p (.int .i64 x.1))],[(0,.own 3 1 (x.2.map (.int .i64)))]⟩) (fun x=>x.1≤es.length∧x.2=(es.take x.1).filter (fun y=>decide (0<y))∧x.2.length≤x.1) (fun x=>es.length-x.1) (0,[])
  (Le.mk [(0,.own 3 1 [])] (by simp [Chunk.new0];rfl) (by simp) (by simp) (.cons (.nil List.mem_cons_self) (.cons (.refl _) (.cons (.refl _) (.cons (.refl _) .nil)))) (.new List.mem_cons_self .nil)) ⟨Nat.zero_le _,by simp,by simp⟩ ?_
 rintro ⟨j,acc⟩ ⟨h2,h3,h4⟩
 simp only at h2 h3 h4 ⊢
 rcases Nat.lt_or_ge j es.length with hj|hj
 ·have h6:=List.take_succ_eq_append_getElem hj
  conv=>whnf
  repeat' (first|((first|intro (_:_≤9223372036854775807)|refine DrawK.auto QQ mixed (by kernel_rfl) ?_|refine And.intro rfl ?_|(refine And.intro ⟨by decide,by decide⟩ ?_)|(refine And.intro ⟨rfl,rfl,by decide⟩ ?_)|refine BsK.pure (fun x hx=>by rcases List.mem_singleton.1 hx with rfl;rfl) rfl ?_|refine IdxK.map (by omega) (fun _=>rfl) ?_|refine IdxK.xs (by omega) ?_|refine IdxK.ss (by omega) ?_|(refine ByteK.at (by omega) ?_)|refine Wr.i64 (by omega) (by omega) ?_|refine AppK.int1 (by simp) (by simp;omega) ?_);conv=>whnf)|(refine Br.dec (fun _=>?_) (fun _=>?_)<;>first|(exfalso;omega)|conv=>whnf)|(refine Br.dec2 (fun _=>?_) (fun _=>?_)<;>first|(exfalso;omega)|conv=>whnf)|(refine Br.n (fun _=>?_) (fun _=>?_)<;>conv=>whnf)|(refine Br.b (fun _=>?_) (fun _=>?_)<;>conv=>whnf))
  all_goals first
   | exact ⟨(j+1,acc++[es[j]]),⟨by simp only;omega,by simp only;rw [h6,List.filter_append,← h3,List.filter_cons_of_pos (by simp;omega)];rfl,by simp;omega⟩,by simp only;omega,Le.of_eq (by simp only [List.length_append,List.map_append];rfl)⟩
   | exact ⟨(j+1,acc),⟨by simp only;omega,by simp only;rw [h6,List.filter_append,← h3,List.filter_cons_of_neg (by simp;omega)];simp,by simp only;omega⟩,by simp only;omega,Le.of_eq rfl⟩
 ·rw [List.take_of_length_le hj] at h3
  conv=>whnf
  repeat' (first|((first|intro (_:_≤9223372036854775807)|refine DrawK.auto QQ mixed (by kernel_rfl) ?_|refine And.intro rfl ?_|(refine And.intro ⟨by decide,by decide⟩ ?_)|(refine And.intro ⟨rfl,rfl,by decide⟩ ?_)|refine BsK.pure (fun x hx=>by rcases List.mem_singleton.1 hx with rfl;rfl) rfl ?_|refine IdxK.map (by omega) (fun _=>rfl) ?_|refine IdxK.xs (by omega) ?_|refine IdxK.ss (by omega) ?_|(refine ByteK.at (by omega) ?_)|refine Wr.i64 (by omega) (by omega) ?_|(refine CallK.give (DF acc (by omega)) (.cons (.hd rfl (by simp)) .nil) ?_;rintro _ ⟨m,rfl,hm1,hm2⟩));conv=>whnf)|(refine Br.dec (fun _=>?_) (fun _=>?_)<;>first|(exfalso;omega)|conv=>whnf)|(refine Br.dec2 (fun _=>?_) (fun _=>?_)<;>first|(exfalso;omega)|conv=>whnf)|(refine Br.n (fun _=>?_) (fun _=>?_)<;>conv=>whnf)|(refine Br.b (fun _=>?_) (fun _=>?_)<;>conv=>whnf))
  all_goals exact RetK.p (by
   have:m=Q:=z7s hm1 hlo fun s=>by
    rw [hm2,h3,List.mem_filter,hes,z7v,hlm,decide_eq_true_eq,and_comm]
   rw [this])
open Go.Proofs
theorem z0i {p:Pg} (h:VV p=true) {j:Nat} {f:Pr} (hj:p.procs[j]? = some f) (E:List Str) {es:List Int} (hes : ∀ x,x∈es↔Rch (frR (QF p j f).real 0 (VN E (flatU f))) 0 x):x3j es (-1)=HN (QF p j f) f E:=by
 rw [Bool.eq_iff_iff,DK,hes,z0p h hj]
 unfold w1i
 have e:frR (QF p j f).real 0 (VN E (flatU f))=stR ((QF p j f).real.filter (q2k p E)):=by
  rw [← ZU (QE h).1 (List.mem_of_getElem? hj)]
  funext a b
  refine propext ⟨fun ⟨h1,s,hs,h2,h3⟩=>⟨s,List.mem_filter.2 ⟨hs,(x6m h hj E hs).2 (by rw [h2];exact h1)⟩,h2,h3⟩,fun ⟨s,hs,h2,h3⟩ => ?_⟩
  obtain ⟨h4,h5⟩:=List.mem_filter.1 hs
  have h6:=(x6m h hj E h4).1 h5
  rw [h2] at h6
  exact ⟨h6,s,h4,h2,h3⟩
 rw [e]
def rwB (p:Pg) (k:Nat):List AV:=(List.range k).map fun j=>x9w (p.procs.getD j Pr0)
def rwT (p:Pg) (k:Nat):List AV:=(List.range k).map fun j=>QO (QF p j (p.procs.getD j Pr0)).real
theorem z6w (p:Pg) (k:Nat):rwB p (k+1)=rwB p k++[x9w (p.procs.getD k Pr0)]:=by
 unfold rwB
 rw [List.range_succ,List.map_append]
 rfl
theorem z3e (p:Pg) (k:Nat):rwT p (k+1)=rwT p k++[QO (QF p k (p.procs.getD k Pr0)).real]:=by
 unfold rwT
 rw [List.range_succ,List.map_append]
 rfl
theorem z8t (p:Pg) (k:Nat):(rwB p k).length=k:=by unfold rwB;rw [List.length_map,List.length_range]
theorem z8h (p:Pg) (k:Nat):(rwT p k).length=k:=by unfold rwT;rw [List.length_map,List.length_range]
theorem z9f {p:Pg} {k m:Nat} (h:m<k):(rwB p k)[m]? = some (x9w (p.procs.getD m Pr0)):=by unfold rwB;simp [h]
theorem z9j {p:Pg} {k m:Nat} (h:m<k):(rwT p k)[m]? = some (QO (QF p m (p.procs.getD m Pr0)).real):=by unfold rwT;simp [h]
def enS (p:Pg) (n m:Nat) (f:Pr) (out:List Str) (b:Bool) (L:List RI) (j:Nat) (acc:List Int):St:=⟨[(1,.p (.ip p.cells)),(3,.hd 2 0 out.length),(4,.hd 0 0 n),(5,.hd 1 0 n),(9,.p (bv b)),(10,.p (.int .i64 m)),(11,.p (.ip f.cells)),(12,.hd 3 0 acc.length),(42,.p (.sl (p.procs.map fun f => .agg f.cells))),(43,.p (.int .i64 (p.procs.map fun f=>AV.agg f.cells).length)),(44,.p (.int .i64 m)),(53,.p (KT L)),(54,.p (.int .i64 (L.map fun i=>AV.agg i.cells).length)),(55,.p (.int .i64 j))],[(0,.own 116 2 (rwB p n)),(1,.own 33 1 (rwT p n)),(2,.own 9 1 (out.map .str)),(3,.own 3 1 (acc.map (.int .i64)))]⟩
def enF (p:Pg) (n m:Nat) (f:Pr) (out:List Str) (b:Bool) (L:List RI) (j:Nat) (acc:List Int):St:=⟨[(1,.p (.ip p.cells)),(3,.hd 2 0 out.length),(4,.hd 0 0 n),(5,.hd 1 0 n),(9,.p (bv b)),(10,.p (.int .i64 m)),(11,.p (.ip f.cells)),(12,.p (ZQ acc)),(42,.p (.sl (p.procs.map fun f => .agg f.cells))),(43,.p (.int .i64 (p.procs.map fun f=>AV.agg f.cells).length)),(44,.p (.int .i64 m)),(53,.p (KT L)),(54,.p (.int .i64 (L.map fun i=>AV.agg i.cells).length)),(55,.p (.int .i64 j))],[(0,.own 116 2 (rwB p n)),(1,.own 33 1 (rwT p n)),(2,.own 9 1 (out.map .str))]⟩
theorem w0i {N:Nat} (p:Pg) (n m:Nat) (f:Pr) (out:List Str) (b:Bool) (L:List RI) (j:Nat) (acc:List Int):Le N (enS p n m f out b L j acc) (enF p n m f out b L j acc):=by
 obtain ⟨s',h1,hle⟩:=Le.row (N:=N) (s:=enS p n m f out b L j acc) (k:=3) (e:=3) (sz:=1) (es:=acc.map (.int .i64)) (set:=[12]) rfl (K:=fun s'=>s'=enF p n m f out b L j acc) (by
  cases b<;>exact ⟨(List.length_map _).symm,rfl⟩)
 rw [h1] at hle
 exact hle
open Go.Proofs
theorem MP (p:Pg) (hf:Fit p):SpecP Tryz.prog 30 [.agg p.cells] (fun r=>r=QH (PG p)):=by
 refine SpecP.body DL QQ Tryz.func30 rfl Tryz.call30 (by show 1≤_;decide) ?_
 conv=>whnf
 have hR:=XT p hf
 cases hc:VV p with
 | false =>
   have e:PG p=[]:=by unfold PG;rw [hc];rfl
   rw [hc] at hR
   rw [e]
   repeat' (first|((first|intro (_:_≤9223372036854775807)|refine DrawK.auto QQ mixed (by kernel_rfl) ?_|refine And.intro rfl ?_|(refine And.intro ⟨by decide,by decide⟩ ?_)|(refine And.intro ⟨rfl,rfl,by decide⟩ ?_)|refine BsK.pure (fun x hx=>by rcases List.mem_singleton.1 hx with rfl;rfl) rfl ?_|refine IdxK.map (by omega) (fun _=>rfl) ?_|refine IdxK.xs (by omega) ?_|refine IdxK.ss (by omega) ?_|(refine ByteK.at (by omega) ?_)|refine Wr.i64 (by omega) (by omega) ?_|(refine CallK.pure hR (.cons (Sub.refl _) .nil) ?_;rintro _ rfl));conv=>whnf)|(refine Br.dec (fun _=>?_) (fun _=>?_)<;>first|(exfalso;omega)|conv=>whnf)|(refine Br.dec2 (fun _=>?_) (fun _=>?_)<;>first|(exfalso;omega)|conv=>whnf)|(refine Br.n (fun _=>?_) (fun _=>?_)<;>conv=>whnf)|(refine Br.b (fun _=>?_) (fun _=>?_)<;>conv=>whnf))
   all_goals first
    | contradiction
    | exact ⟨_,.p Sub.nils,rfl⟩
 | true =>
   obtain ⟨hg,hpl,hcn⟩:=HO hc
   have hm:=(QE hc).1
   have e:PG p=VB (FP p (p.procs.length+1) []):=by unfold PG;rw [hc];rfl
   rw [e]
   rw [hc] at hR
   have hl:(p.procs.map fun f=>AV.agg f.cells).length=p.procs.length:=List.length_map _
   have hl0:YX p []≤p.procs.length:=List.countP_le_length
   repeat' (first|((first|intro (_:_≤9223372036854775807)|refine DrawK.auto QQ mixed (by kernel_rfl) ?_|refine And.intro rfl ?_|(refine And.intro ⟨by decide,by decide⟩ ?_)|(refine And.intro ⟨rfl,rfl,by decide⟩ ?_)|refine BsK.pure (fun x hx=>by rcases List.mem_singleton.1 hx with rfl;rfl) rfl ?_|refine IdxK.map (by omega) (fun _=>rfl) ?_|refine IdxK.xs (by omega) ?_|refine IdxK.ss (by omega) ?_|(refine ByteK.at (by omega) ?_)|refine Wr.i64 (by omega) (by omega) ?_|(refine CallK.pure hR (.cons (Sub.refl _) .nil) ?_;rintro _ rfl));conv=>whnf)|(refine Br.dec (fun _=>?_) (fun _=>?_)<;>first|(exfalso;omega)|conv=>whnf)|(refine Br.dec2 (fun _=>?_) (fun _=>?_)<;>first|(exfalso;omega)|conv=>whnf)|(refine Br.n (fun _=>?_) (fun _=>?_)<;>conv=>whnf)|(refine Br.b (fun _=>?_) (fun _=>?_)<;>conv=>whnf))
   all_goals first
    | contradiction
    | skip
   refine LoopK.inv QQ (fun x:Nat=>⟨[(1,.p (.ip p.cells)),(3,.p .nils),(4,.hd 0 0 x),(5,.hd 1 0 x),(19,.p (.sl (p.procs.map fun f => .agg f.cells))),(20,.p (.int .i64 (p.procs.map fun f=>AV.agg f.cells).length)),(21,.p (.int .i64 x))],[(0,.own 116 2 (rwB p x)),(1,.own 33 1 (rwT p x))]⟩) (fun x=>x≤p.procs.length) (fun x=>p.procs.length-x) 0
    (Le.mk [(0,.own 116 2 []),(1,.own 33 1 [])] (by intro c hc;rcases List.mem_cons.1 hc with rfl|hc;exact ⟨rfl,rfl⟩;rcases List.mem_singleton.1 hc with rfl;exact ⟨rfl,rfl⟩) (by simp) (by simp) (.cons (.refl _) (.cons (.refl _) (.cons (.nil List.mem_cons_self) (.cons (.nil (List.mem_cons_of_mem _ List.mem_cons_self)) (.cons (.refl _) (.cons (.refl _) (.cons (.refl _) .nil))))))) (.new List.mem_cons_self (.new (List.mem_cons_of_mem _ List.mem_cons_self) .nil))) (Nat.zero_le _) ?_
   intro k hk
   rcases Nat.lt_or_ge k p.procs.length with hk2|hk2
   ·have hkj:p.procs[k]? = some p.procs[k]:=by simp
    have hgd:p.procs.getD k Pr0=p.procs[k]:=by rw [List.getD_eq_getElem?_getD,hkj];rfl
    have hFl:=QN p.procs[k]
    rw [ZU hm (List.getElem_mem hk2)] at hFl
    have hB:=VY p k p.procs[k] hc hkj
    have e1:=z6w p k
    have e2:=z3e p k
    have l1:=z8t p k
    have l2:=z8h p k
    rw [hgd] at e1 e2
    generalize rwB p k=RB at *
    generalize rwT p k=RT at *
    conv=>whnf
    repeat' (first|((first|intro (_:_≤9223372036854775807)|refine DrawK.auto QQ mixed (by kernel_rfl) ?_|refine And.intro rfl ?_|(refine And.intro ⟨by decide,by decide⟩ ?_)|(refine And.intro ⟨rfl,rfl,by decide⟩ ?_)|refine BsK.pure (fun x hx=>by rcases List.mem_singleton.1 hx with rfl;rfl) rfl ?_|refine IdxK.map (by omega) (fun _=>rfl) ?_|refine IdxK.xs (by omega) ?_|refine IdxK.ss (by omega) ?_|(refine ByteK.at (by omega) ?_)|refine Wr.i64 (by omega) (by omega) ?_|(refine CallK.pure hFl (.cons (Sub.refl _) .nil) ?_;rintro _ rfl)|(refine CallK.pure hB (.cons (Sub.refl _) .nil) ?_;rintro _ rfl)|refine AppK.mk (n:=k) (es:=RB) (by omega) rfl (by show (k+1)*48≤140737488355328;omega) (by show k+1≤9223372036854775807;omega) (fun x hx=>by rcases List.mem_singleton.1 hx with rfl;exact ⟨rfl,rfl⟩) ?_|refine AppK.mk (n:=k) (es:=RT) (by omega) rfl (by show (k+1)*24≤140737488355328;omega) (by show k+1≤9223372036854775807;omega) (fun x hx=>by rcases List.mem_singleton.1 hx with rfl;exact ⟨rfl,rfl⟩) ?_);conv=>whnf)|(refine Br.dec (fun _=>?_) (fun _=>?_)<;>first|(exfalso;omega)|conv=>whnf)|(refine Br.dec2 (fun _=>?_) (fun _=>?_)<;>first|(exfalso;omega)|conv=>whnf)|(refine Br.n (fun _=>?_) (fun _=>?_)<;>conv=>whnf)|(refine Br.b (fun _=>?_) (fun _=>?_)<;>conv=>whnf)|(refine And.intro ?_ ?_<;>conv=>whnf))
    all_goals exact ⟨k+1,by omega,by omega,Le.of_eq (by rw [e1,e2];rfl)⟩
   ·obtain rfl:k=p.procs.length:=by omega
    clear hk2 hk
    conv=>whnf
    repeat' (first|((first|intro (_:_≤9223372036854775807)|refine DrawK.auto QQ mixed (by kernel_rfl) ?_|refine And.intro rfl ?_|(refine And.intro ⟨by decide,by decide⟩ ?_)|(refine And.intro ⟨rfl,rfl,by decide⟩ ?_)|refine BsK.pure (fun x hx=>by rcases List.mem_singleton.1 hx with rfl;rfl) rfl ?_|refine IdxK.map (by omega) (fun _=>rfl) ?_|refine IdxK.xs (by omega) ?_|refine IdxK.ss (by omega) ?_|(refine ByteK.at (by omega) ?_)|refine Wr.i64 (by omega) (by omega) ?_);conv=>whnf)|(refine Br.dec (fun _=>?_) (fun _=>?_)<;>first|(exfalso;omega)|conv=>whnf)|(refine Br.dec2 (fun _=>?_) (fun _=>?_)<;>first|(exfalso;omega)|conv=>whnf)|(refine Br.n (fun _=>?_) (fun _=>?_)<;>conv=>whnf)|(refine Br.b (fun _=>?_) (fun _=>?_)<;>conv=>whnf))
    refine LoopK.inv QQ (fun x:List Str×Bool=>⟨[(1,.p (.ip p.cells)),(3,.hd 2 0 x.1.length),(4,.hd 0 0 p.procs.length),(5,.hd 1 0 p.procs.length),(9,.p (bv x.2))],[(0,.own 116 2 (rwB p p.procs.length)),(1,.own 33 1 (rwT p p.procs.length)),(2,.own 9 1 (x.1.map .str))]⟩)
     (fun x=>x.1.Nodup∧x.1.length+YX p x.1≤p.procs.length∧(x.2=true → ∃ k,YX p x.1<k∧FP p k x.1=FP p (p.procs.length+1) [])∧(x.2=false→x.1=FP p (p.procs.length+1) [])) (fun x=>2*YX p x.1+x.2.toNat) ([],true)
     (Le.mk [(2,.own 9 1 [])] (by simp [Chunk.new0];rfl) (by simp) (by simp) (.cons (.refl _) (.cons (.nil List.mem_cons_self) (.cons (.refl _) (.cons (.refl _) (.cons (.refl _) .nil))))) (.cons rfl (.refl _) (.cons rfl (.refl _) (.new List.mem_cons_self .nil))))
     ⟨.nil,by simpa using hl0,fun _=>⟨p.procs.length+1,by show YX p []<_;omega,rfl⟩,by simp⟩ ?_
    rintro ⟨out,more⟩ ⟨h0,h1,h2,h3⟩
    simp only at h0 h1 h2 h3 ⊢
    cases more with
    | false =>
      have h3:=h3 rfl
      rw [← h3,q4g h0]
      conv=>whnf
      repeat' (first|((first|intro (_:_≤9223372036854775807)|refine DrawK.auto QQ mixed (by kernel_rfl) ?_|refine And.intro rfl ?_|(refine And.intro ⟨by decide,by decide⟩ ?_)|(refine And.intro ⟨rfl,rfl,by decide⟩ ?_)|refine BsK.pure (fun x hx=>by rcases List.mem_singleton.1 hx with rfl;rfl) rfl ?_|refine IdxK.map (by omega) (fun _=>rfl) ?_|refine IdxK.xs (by omega) ?_|refine IdxK.ss (by omega) ?_|(refine ByteK.at (by omega) ?_)|refine Wr.i64 (by omega) (by omega) ?_|(refine CallK.give (ZK out (by omega)) (.cons (.hd rfl (by simp)) .nil) ?_;rintro _ rfl));conv=>whnf)|(refine Br.dec (fun _=>?_) (fun _=>?_)<;>first|(exfalso;omega)|conv=>whnf)|(refine Br.dec2 (fun _=>?_) (fun _=>?_)<;>first|(exfalso;omega)|conv=>whnf)|(refine Br.n (fun _=>?_) (fun _=>?_)<;>conv=>whnf)|(refine Br.b (fun _=>?_) (fun _=>?_)<;>conv=>whnf))
      all_goals exact RetK.p rfl
    | true =>
      obtain ⟨k,hk1,hk2⟩:=h2 rfl
      clear h2 h3
      conv=>whnf
      repeat' (first|((first|intro (_:_≤9223372036854775807)|refine DrawK.auto QQ mixed (by kernel_rfl) ?_|refine And.intro rfl ?_|(refine And.intro ⟨by decide,by decide⟩ ?_)|(refine And.intro ⟨rfl,rfl,by decide⟩ ?_)|refine BsK.pure (fun x hx=>by rcases List.mem_singleton.1 hx with rfl;rfl) rfl ?_|refine IdxK.map (by omega) (fun _=>rfl) ?_|refine IdxK.xs (by omega) ?_|refine IdxK.ss (by omega) ?_|(refine ByteK.at (by omega) ?_)|refine Wr.i64 (by omega) (by omega) ?_);conv=>whnf)|(refine Br.dec (fun _=>?_) (fun _=>?_)<;>first|(exfalso;omega)|conv=>whnf)|(refine Br.dec2 (fun _=>?_) (fun _=>?_)<;>first|(exfalso;omega)|conv=>whnf)|(refine Br.n (fun _=>?_) (fun _=>?_)<;>conv=>whnf)|(refine Br.b (fun _=>?_) (fun _=>?_)<;>conv=>whnf))
      refine LoopK.inv QQ (fun x:Nat×List Str×Bool=>⟨[(1,.p (.ip p.cells)),(3,.hd 2 0 x.2.1.length),(4,.hd 0 0 p.procs.length),(5,.hd 1 0 p.procs.length),(9,.p (bv x.2.2)),(42,.p (.sl (p.procs.map fun f => .agg f.cells))),(43,.p (.int .i64 (p.procs.map fun f=>AV.agg f.cells).length)),(44,.p (.int .i64 x.1))],[(0,.own 116 2 (rwB p p.procs.length)),(1,.own 33 1 (rwT p p.procs.length)),(2,.own 9 1 (x.2.1.map .str))]⟩)
       (fun x=>x.1≤p.procs.length∧((List.range p.procs.length).drop x.1).foldl (x3o p) x.2=q1l p out∧x.2.1.length+YX p x.2.1≤p.procs.length∧YX p x.2.1+x.2.2.toNat≤YX p out∧(x.2.2=false→x.2.1=out)∧x.2.1.Nodup) (fun x=>p.procs.length-x.1) (0,out,false) (Le.of_eq rfl) ⟨Nat.zero_le _,rfl,h1,Nat.le_refl _,fun _=>rfl,h0⟩ ?_
      rintro ⟨m,o,b⟩ ⟨h4,h5,h6,h7,h8,h9⟩
      simp only at h4 h5 h6 h7 h8 h9 ⊢
      rcases Nat.lt_or_ge m p.procs.length with hmm|hmm
      rotate_left 1
      ·rw [List.drop_eq_nil_of_le (by simpa using hmm),List.foldl_nil] at h5
       obtain ⟨k',rfl⟩ : ∃ k',k=k'+1:=⟨k-1,by omega⟩
       rw [FP,← h5] at hk2
       conv=>whnf
       repeat' (first|((first|intro (_:_≤9223372036854775807)|refine DrawK.auto QQ mixed (by kernel_rfl) ?_|refine And.intro rfl ?_|(refine And.intro ⟨by decide,by decide⟩ ?_)|(refine And.intro ⟨rfl,rfl,by decide⟩ ?_)|refine BsK.pure (fun x hx=>by rcases List.mem_singleton.1 hx with rfl;rfl) rfl ?_|refine IdxK.map (by omega) (fun _=>rfl) ?_|refine IdxK.xs (by omega) ?_|refine IdxK.ss (by omega) ?_|(refine ByteK.at (by omega) ?_)|refine Wr.i64 (by omega) (by omega) ?_);conv=>whnf)|(refine Br.dec (fun _=>?_) (fun _=>?_)<;>first|(exfalso;omega)|conv=>whnf)|(refine Br.dec2 (fun _=>?_) (fun _=>?_)<;>first|(exfalso;omega)|conv=>whnf)|(refine Br.n (fun _=>?_) (fun _=>?_)<;>conv=>whnf)|(refine Br.b (fun _=>?_) (fun _=>?_)<;>conv=>whnf))
       cases b with
       | true=>exact ⟨(o,true),⟨h9,h6,fun _=>⟨k',by show YX p o<k';simp only [Bool.toNat_true] at h7;omega,hk2⟩,by simp⟩,by simp only [Bool.toNat_true] at h7 ⊢;omega,Le.mk [] (by simp) (by simp) (by simp) (.cons (.refl _) (.cons (.refl _) (.cons (.refl _) (.cons (.refl _) (.cons (.refl _) .nil))))) (.cons rfl (.refl _) (.cons rfl (.refl _) (.cons rfl (.refl _) .nil)))⟩
       | false=>exact ⟨(o,false),⟨h9,h6,by simp,fun _=>hk2⟩,by simp only [Bool.toNat_true,Bool.toNat_false] at h7 ⊢;omega,Le.mk [] (by simp) (by simp) (by simp) (.cons (.refl _) (.cons (.refl _) (.cons (.refl _) (.cons (.refl _) (.cons (.refl _) .nil))))) (.cons rfl (.refl _) (.cons rfl (.refl _) (.cons rfl (.refl _) .nil)))⟩
      have hmr:m<(List.range p.procs.length).length:=by simpa using hmm
      rw [List.drop_eq_getElem_cons hmr,List.foldl_cons,List.getElem_range] at h5
      have hkj:p.procs[m]? = some p.procs[m]:=by simp
      have hgd:p.procs.getD m Pr0=p.procs[m]:=by rw [List.getD_eq_getElem?_getD,hkj];rfl
      have g1:=z9f (p:=p) hmm
      have g2:=z9j (p:=p) hmm
      rw [hgd] at g1 g2
      have hst:x3o p (o,b) m=bif !(o.any fun s=>p.procs[m].name==s)&&HN (QF p m p.procs[m]) p.procs[m] o then (o++[p.procs[m].name],true) else (o,b):=by unfold x3o;rw [hkj]
      rw [hst,← BN] at h5
      have hFr:=JZ (QF p m p.procs[m]).real 0 (VN o (flatU p.procs[m])) (by have:=z3b hc hkj;omega)
      have hfe:=fun {es:List Int}=>z0i (es:=es) hc hkj o
      have hLU:=MJ hm hkj
      have hll:=WP (flatU p.procs[m])
      generalize HN (QF p m p.procs[m]) p.procs[m] o=ew at *
      conv=>whnf
      repeat' (first|((first|intro (_:_≤9223372036854775807)|refine DrawK.auto QQ mixed (by kernel_rfl) ?_|refine And.intro rfl ?_|(refine And.intro ⟨by decide,by decide⟩ ?_)|(refine And.intro ⟨rfl,rfl,by decide⟩ ?_)|refine BsK.pure (fun x hx=>by rcases List.mem_singleton.1 hx with rfl;rfl) rfl ?_|refine IdxK.map (by omega) (fun _=>rfl) ?_|refine IdxK.xs (by omega) ?_|refine IdxK.ss (by omega) ?_|(refine ByteK.at (by omega) ?_)|refine Wr.i64 (by omega) (by omega) ?_|refine IdxL.mk m rfl hmm ?_|refine LdOwn.mk m 0 _ (by show (0+m)*2+0=m*2+0;omega) g1 ?_);conv=>whnf)|(refine Br.dec (fun _=>?_) (fun _=>?_)<;>first|(exfalso;omega)|conv=>whnf)|(refine Br.dec2 (fun _=>?_) (fun _=>?_)<;>first|(exfalso;omega)|conv=>whnf)|(refine Br.n (fun _=>?_) (fun _=>?_)<;>conv=>whnf)|(refine Br.b (fun _=>?_) (fun _=>?_)<;>conv=>whnf))
      all_goals skip
      refine LoopK.inv QQ (fun x:Nat×Bool=>bif x.2 then enF p p.procs.length m p.procs[m] o b (flatU p.procs[m]) x.1 (VN o ((flatU p.procs[m]).take x.1)) else enS p p.procs.length m p.procs[m] o b (flatU p.procs[m]) x.1 (VN o ((flatU p.procs[m]).take x.1))) (fun x=>x.1≤(flatU p.procs[m]).length∧(x.2=true↔x.1=(flatU p.procs[m]).length)) (fun x=>(flatU p.procs[m]).length-x.1) (0,decide (0=(flatU p.procs[m]).length)) ?_ ⟨Nat.zero_le _,decide_eq_true_iff⟩ ?_
      ·by_cases hz:0=(flatU p.procs[m]).length
       ·rw [decide_eq_true hz]
        exact Le.mk [] (by simp) (by simp) (by simp) (.cons (.refl _) (.cons (.refl _) (.cons (.refl _) (.cons (.refl _) (.cons (.refl _) (.cons (.refl _) (.cons (.refl _) (.cons (.p Sub.nils) (.cons (.refl _) (.cons (.refl _) (.cons (.refl _) (.cons (.refl _) (.cons (.refl _) (.cons (.refl _) .nil)))))))))))))) (.cons rfl (.refl _) (.cons rfl (.refl _) (.cons rfl (.refl _) .nil)))
       ·rw [decide_eq_false hz]
        exact Le.mk [(3,.own 3 1 [])] (by simp [Chunk.new0];rfl) (by simp) (by simp) (.cons (.refl _) (.cons (.refl _) (.cons (.refl _) (.cons (.refl _) (.cons (.refl _) (.cons (.refl _) (.cons (.refl _) (.cons (.nil List.mem_cons_self) (.cons (.refl _) (.cons (.refl _) (.cons (.refl _) (.cons (.refl _) (.cons (.refl _) (.cons (.refl _) .nil)))))))))))))) (.cons rfl (.refl _) (.cons rfl (.refl _) (.cons rfl (.refl _) (.new List.mem_cons_self .nil))))
      rintro ⟨j,fz⟩ ⟨h10,h11⟩
      simp only at h10 h11 ⊢
      cases fz with
      | false =>
        have hj:j<(flatU p.procs[m]).length:=by
         rcases Nat.lt_or_ge j (flatU p.procs[m]).length with h|h
         ·exact h
         ·have:=h11.2 (by omega)
          cases this
        have hn1:VN o ((flatU p.procs[m]).take (j+1))=VN o ((flatU p.procs[m]).take j)++(bif q7e o (flatU p.procs[m])[j] then [(flatU p.procs[m])[j].s.id] else []):=by
         unfold VN
         rw [List.take_succ_eq_append_getElem hj,List.filter_append,List.map_append]
         cases hq:q7e o (flatU p.procs[m])[j]<;>simp [List.filter_cons,hq]
        have hsl:(VN o ((flatU p.procs[m]).take j)).length≤j:=by
         unfold VN
         rw [List.length_map]
         exact Nat.le_trans (List.length_filter_le _ _) (by rw [List.length_take];omega)
        have hbk:q7e o (flatU p.procs[m])[j]=(decide ((flatU p.procs[m])[j].s.kind=4) && !(inS o (flatU p.procs[m])[j].s.proc)):=rfl
        have fin : ∀ acc,acc=VN o ((flatU p.procs[m]).take (j+1)) → ∃ x:Nat×Bool,(x.1≤(flatU p.procs[m]).length∧(x.2=true↔x.1=(flatU p.procs[m]).length))∧(flatU p.procs[m]).length-x.1<(flatU p.procs[m]).length-j∧Le Tryz.f30.ntmps (enS p p.procs.length m p.procs[m] o b (flatU p.procs[m]) (j+1) acc) (bif x.2 then enF p p.procs.length m p.procs[m] o b (flatU p.procs[m]) x.1 (VN o ((flatU p.procs[m]).take x.1)) else enS p p.procs.length m p.procs[m] o b (flatU p.procs[m]) x.1 (VN o ((flatU p.procs[m]).take x.1))):=by
         rintro _ rfl
         rcases Nat.lt_or_ge (j+1) (flatU p.procs[m]).length with h|h
         ·exact ⟨(j+1,false),⟨by simp only;omega,⟨fun h=>(by cases h),fun h'=>by simp only at h';omega⟩⟩,by simp only;omega,Le.refl _⟩
         ·exact ⟨(j+1,true),⟨by simp only;omega,⟨fun _=>by simp only;omega,fun _=>rfl⟩⟩,by simp only;omega,w0i p p.procs.length m p.procs[m] o b (flatU p.procs[m]) (j+1) _⟩
        generalize VN o ((flatU p.procs[m]).take (j+1))=acc2 at *
        generalize VN o ((flatU p.procs[m]).take j)=acc at *
        conv=>whnf
        repeat' (first|((first|intro (_:_≤9223372036854775807)|refine DrawK.auto QQ mixed (by kernel_rfl) ?_|refine And.intro rfl ?_|(refine And.intro ⟨by decide,by decide⟩ ?_)|(refine And.intro ⟨rfl,rfl,by decide⟩ ?_)|refine BsK.pure (fun x hx=>by rcases List.mem_singleton.1 hx with rfl;rfl) rfl ?_|refine IdxK.map (by omega) (fun _=>rfl) ?_|refine IdxK.xs (by omega) ?_|refine IdxK.ss (by omega) ?_|(refine ByteK.at (by omega) ?_)|refine Wr.i64 (by omega) (by omega) ?_|(refine CallK.borrow (QB o ((flatU p.procs[m])[j]'hj).s.proc) (.cons (.hd rfl (by simp)) (.cons (.p (Sub.refl _)) .nil)) (by rintro _ rfl;rfl) ?_;rintro _ rfl)|refine AppK.int1 (by simp) (by simp;omega) ?_);conv=>whnf)|(refine Br.dec (fun _=>?_) (fun _=>?_)<;>first|(exfalso;omega)|conv=>whnf)|(refine Br.dec2 (fun _=>?_) (fun _=>?_)<;>first|(exfalso;omega)|conv=>whnf)|(refine Br.n (fun _=>?_) (fun _=>?_)<;>conv=>whnf)|(refine Br.b (fun _=>?_) (fun _=>?_)<;>conv=>whnf))
        all_goals first
         | (have e2:q7e o (flatU p.procs[m])[j]=true:=by rw [hbk];simp [*];done
            obtain ⟨x,hx,hμ,hle⟩:=fin (acc++[(flatU p.procs[m])[j].s.id]) (by rw [hn1,e2];rfl)
            exact ⟨x,hx,hμ,Le.trans (Le.of_eq (by simp only [enS,List.length_append,List.map_append];rfl)) hle⟩)
         | (have e2:q7e o (flatU p.procs[m])[j]=false:=by rw [hbk];simp [*];done
            obtain ⟨x,hx,hμ,hle⟩:=fin acc (by rw [hn1,e2];exact (List.append_nil _).symm)
            exact ⟨x,hx,hμ,Le.trans (Le.of_eq rfl) hle⟩)
         | trace_state
      | true =>
        obtain rfl:j=(flatU p.procs[m]).length:=h11.1 rfl
        rw [List.take_length]
        have hnm:p.procs[m].name=p.procs[m].name:=rfl
        conv=>whnf
        repeat' (first|((first|intro (_:_≤9223372036854775807)|refine DrawK.auto QQ mixed (by kernel_rfl) ?_|refine And.intro rfl ?_|(refine And.intro ⟨by decide,by decide⟩ ?_)|(refine And.intro ⟨rfl,rfl,by decide⟩ ?_)|refine BsK.pure (fun x hx=>by rcases List.mem_singleton.1 hx with rfl;rfl) rfl ?_|refine IdxK.map (by omega) (fun _=>rfl) ?_|refine IdxK.xs (by omega) ?_|refine IdxK.ss (by omega) ?_|(refine ByteK.at (by omega) ?_)|refine Wr.i64 (by omega) (by omega) ?_|(refine CallK.borrow (QB o p.procs[m].name) (.cons (.hd rfl (by simp)) (.cons (.p (Sub.refl _)) .nil)) (by rintro _ rfl;rfl) ?_;rintro _ rfl)|refine IdxL.mk m rfl hmm ?_|refine LdOwn.mk m 0 _ (by show (0+m)*1+0=m*1+0;omega) g2 ?_|(refine CallK.pure hFr (.cons (Sub.refl _) (.cons (Sub.refl _) (.cons (Sub.refl _) .nil))) ?_;rintro _ ⟨es,rfl,hes,hnd⟩;have hfe':=hfe hes;clear hfe;subst hfe')|(refine CallK.pure (XO _ _) (.cons (Sub.refl _) (.cons (Sub.refl _) .nil)) ?_;rintro _ rfl)|refine AppK.str1 (by simp) (by rw [List.length_map];omega) ?_);conv=>whnf)|(refine Br.dec (fun _=>?_) (fun _=>?_)<;>first|(exfalso;omega)|conv=>whnf)|(refine Br.dec2 (fun _=>?_) (fun _=>?_)<;>first|(exfalso;omega)|conv=>whnf)|(refine Br.n (fun _=>?_) (fun _=>?_)<;>conv=>whnf)|(refine Br.b (fun _=>?_) (fun _=>?_)<;>conv=>whnf))
        all_goals first
         | (have e1:(!(inS o p.procs[m].name)&&x3j es (-1))=true:=by (rw [show inS o p.procs[m].name=false by assumption,show x3j es (-1)=true by assumption];rfl)
            rw [e1,cond_true] at h5
            have hno:inS o p.procs[m].name=false:=by assumption
            have h12:=x2e (p:=p) (out:=o) (f:=p.procs[m]) (List.getElem_mem hmm) (by rw [← BN];exact hno)
            exact ⟨(m+1,o++[p.procs[m].name],true),⟨by simp only;omega,h5,by simp;omega,by show YX p (o++[p.procs[m].name])+1≤_;omega,by simp,List.nodup_append.2 ⟨h9,by simp,fun a ha b hb=>by rintro rfl;rw [List.mem_singleton.1 hb] at ha;rw [q4o.2 ha] at hno;cases hno⟩⟩,by simp only;omega,Le.of_eq (by simp only [List.length_append,List.map_append];rfl)⟩)
         | (rw [show inS o p.procs[m].name=true by assumption,Bool.not_true,Bool.false_and,cond_false] at h5
            exact ⟨(m+1,o,b),⟨by simp only;omega,h5,h6,h7,h8,h9⟩,by simp only;omega,Le.of_eq rfl⟩)
         | (rw [show x3j es (-1)=false by assumption,Bool.and_false,cond_false] at h5
            exact ⟨(m+1,o,b),⟨by simp only;omega,h5,h6,h7,h8,h9⟩,by simp only;omega,Le.of_eq rfl⟩)
         | trace_state
open Go.Proofs
open Go.Proofs
open Go.Proofs
theorem x5l : ∀ l:List Pr,l.length≤z6o l
 | []=>Nat.zero_le _
 | f::r=>by have:=x5l r;simp only [List.length_cons,z6o,wPr];omega
theorem x8q {p:Pg} (h:Fit p):p.procs.length≤20000:=by
 have:=x5l p.procs
 unfold Fit wPg at h
 omega
theorem z6i:Sub (.bool true) .tt:=fun _ _ hr=>by cases hr;exact .tt
theorem BW (p:Pg) (n id:Int):SpecP Tryz.prog 3 [.agg p.cells,.int .i64 n,.int .i64 id] (fun r=>r = .tt):=by
 refine SpecP.body HX QQ Tryz.func3 rfl Tryz.call3 (by show 3≤_;decide) ?_
 conv=>whnf
 cases hfb:z6l p with
 | false =>
   have hno : ¬gPg p≤20000:=by unfold z6l at hfb;simpa using hfb
   repeat' (first|((first|intro (_:_≤9223372036854775807)|(refine CallK.pure (VI _) (by repeat' (first|exact ArgP.nil|refine ArgP.cons ?_ ?_|exact Sub.refl _|exact Sub.tt rfl|exact Sub.ff rfl)) ?_;rintro _ rfl)|refine DrawK.auto QQ mixed (by kernel_rfl) ?_|refine And.intro rfl ?_|(refine And.intro ⟨by decide,by decide⟩ ?_)|(refine And.intro ⟨rfl,rfl,by decide⟩ ?_)|refine BsK.pure (fun x hx=>by rcases List.mem_singleton.1 hx with rfl;rfl) rfl ?_|refine IdxK.map (by omega) (fun _=>rfl) ?_|refine IdxK.xs (by omega) ?_|refine IdxK.ss (by omega) ?_|(refine ByteK.at (by omega) ?_)|refine Wr.i64 (by omega) (by omega) ?_|(refine CallK.pure ZS .nil ?_;rintro _ rfl));conv=>whnf)|(refine Br.dec (fun _=>?_) (fun _=>?_)<;>first|(exfalso;omega)|conv=>whnf)|(refine Br.dec2 (fun _=>?_) (fun _=>?_)<;>first|(exfalso;omega)|conv=>whnf)|(refine Br.n (fun _=>?_) (fun _=>?_)<;>conv=>whnf)|(refine Br.b (fun _=>?_) (fun _=>?_)<;>conv=>whnf))
   all_goals first
    | exact ⟨_,.p (Sub.refl _),rfl⟩
    | (exfalso;simp_all;done)
 | true =>
   have hf:Fit p:=z9w hfb
   have hfit:gPg p≤20000:=by unfold z6l at hfb;simpa using hfb
   have hM:=VG p hf
   have hPA:=NG p n (x8q hf)
   have hB1:=q6c p hf id
   have hB2:=DE p hf id
   have hO1:=z6n p hf (VJ p n)
   have hO2:=YI p hf (VJ p n)
   have hL1:=x5e p hf (VJ p n)
   have hL2:=NE p hf (VJ p n)
   have hE1:=x7u p hf
   have hE2:=MP p hf
   have hQ1:=FW (ofR p (VJ p n)) (ofR p (VJ p n))
   have hQ2:=DA (BO p (VJ p n)) (BO p (VJ p n))
   have hQ3:=BX (PG p) (PG p)
   simp only [eq_self,decide_true] at hQ1 hQ2 hQ3
   generalize ofR p (VJ p n)=q1 at *
   generalize BO p (VJ p n)=q2 at *
   generalize PG p=q3 at *
   generalize VJ p n=pn at *
   generalize (x0q p id).1=b1 at *
   generalize (x0q p id).2=b2 at *
   cases hc:VV p with
   | false =>
     rw [hc] at hM
     repeat' (first|((first|intro (_:_≤9223372036854775807)|(refine CallK.pure (VI _) (by repeat' (first|exact ArgP.nil|refine ArgP.cons ?_ ?_|exact Sub.refl _|exact Sub.tt rfl|exact Sub.ff rfl)) ?_;rintro _ rfl)|refine DrawK.auto QQ mixed (by kernel_rfl) ?_|refine And.intro rfl ?_|(refine And.intro ⟨by decide,by decide⟩ ?_)|(refine And.intro ⟨rfl,rfl,by decide⟩ ?_)|refine BsK.pure (fun x hx=>by rcases List.mem_singleton.1 hx with rfl;rfl) rfl ?_|refine IdxK.map (by omega) (fun _=>rfl) ?_|refine IdxK.xs (by omega) ?_|refine IdxK.ss (by omega) ?_|(refine ByteK.at (by omega) ?_)|refine Wr.i64 (by omega) (by omega) ?_|(refine CallK.pure ZS .nil ?_;rintro _ rfl)|(refine CallK.pure hM (.cons (Sub.refl _) .nil) ?_;rintro _ rfl)|(refine CallK.pure hPA (.cons (Sub.refl _) (.cons (Sub.refl _) .nil)) ?_;rintro _ rfl)|(refine CallK.pure hB1 (.cons (Sub.refl _) (.cons (Sub.refl _) .nil)) ?_;rintro _ rfl)|(refine CallK.pure hB2 (.cons (Sub.refl _) (.cons (Sub.refl _) .nil)) ?_;rintro _ rfl)|refine ValO.boolEql QQ rfl rfl rfl rfl rfl ?_|(refine CallK.pure hO1 (.cons (Sub.refl _) (.cons (Sub.refl _) .nil)) ?_;rintro _ rfl)|(refine CallK.pure hO2 (.cons (Sub.refl _) (.cons (Sub.refl _) .nil)) ?_;rintro _ rfl)|(refine CallK.pure hQ1 (.cons (Sub.refl _) (.cons (Sub.refl _) .nil)) ?_;rintro _ rfl)|(refine CallK.pure hL1 (.cons (Sub.refl _) (.cons (Sub.refl _) .nil)) ?_;rintro _ rfl)|(refine CallK.pure hL2 (.cons (Sub.refl _) (.cons (Sub.refl _) .nil)) ?_;rintro _ rfl)|(refine CallK.pure hQ2 (.cons (Sub.refl _) (.cons (Sub.refl _) .nil)) ?_;rintro _ rfl)|(refine CallK.pure hE1 (.cons (Sub.refl _) .nil) ?_;rintro _ rfl)|(refine CallK.pure hE2 (.cons (Sub.refl _) .nil) ?_;rintro _ rfl)|(refine CallK.pure hQ3 (.cons (Sub.refl _) (.cons (Sub.refl _) .nil)) ?_;rintro _ rfl));conv=>whnf)|(refine Br.dec (fun _=>?_) (fun _=>?_)<;>first|(exfalso;omega)|conv=>whnf)|(refine Br.dec2 (fun _=>?_) (fun _=>?_)<;>first|(exfalso;omega)|conv=>whnf)|(refine Br.n (fun _=>?_) (fun _=>?_)<;>conv=>whnf)|(refine Br.b (fun _=>?_) (fun _=>?_)<;>conv=>whnf)|(refine And.intro ?_ ?_<;>conv=>whnf))
     all_goals first
      | contradiction
      | exact ⟨_,.p (Sub.refl _),rfl⟩
      | exact ⟨_,.p z6i,rfl⟩
      | (exfalso;simp_all;done)
      | trace_state
   | true =>
     rw [hc] at hM
     have hcn:=(HO hc).2.2
     have hC:=x7r p (by omega)
     repeat' (first|((first|intro (_:_≤9223372036854775807)|(refine CallK.pure (VI _) (by repeat' (first|exact ArgP.nil|refine ArgP.cons ?_ ?_|exact Sub.refl _|exact Sub.tt rfl|exact Sub.ff rfl)) ?_;rintro _ rfl)|refine DrawK.auto QQ mixed (by kernel_rfl) ?_|refine And.intro rfl ?_|(refine And.intro ⟨by decide,by decide⟩ ?_)|(refine And.intro ⟨rfl,rfl,by decide⟩ ?_)|refine BsK.pure (fun x hx=>by rcases List.mem_singleton.1 hx with rfl;rfl) rfl ?_|refine IdxK.map (by omega) (fun _=>rfl) ?_|refine IdxK.xs (by omega) ?_|refine IdxK.ss (by omega) ?_|(refine ByteK.at (by omega) ?_)|refine Wr.i64 (by omega) (by omega) ?_|(refine CallK.pure ZS .nil ?_;rintro _ rfl)|(refine CallK.pure hM (.cons (Sub.refl _) .nil) ?_;rintro _ rfl)|(refine CallK.pure hC (.cons (Sub.refl _) .nil) ?_;rintro _ rfl)|(refine CallK.pure hPA (.cons (Sub.refl _) (.cons (Sub.refl _) .nil)) ?_;rintro _ rfl)|(refine CallK.pure hB1 (.cons (Sub.refl _) (.cons (Sub.refl _) .nil)) ?_;rintro _ rfl)|(refine CallK.pure hB2 (.cons (Sub.refl _) (.cons (Sub.refl _) .nil)) ?_;rintro _ rfl)|refine ValO.boolEql QQ rfl rfl rfl rfl rfl ?_|(refine CallK.pure hO1 (.cons (Sub.refl _) (.cons (Sub.refl _) .nil)) ?_;rintro _ rfl)|(refine CallK.pure hO2 (.cons (Sub.refl _) (.cons (Sub.refl _) .nil)) ?_;rintro _ rfl)|(refine CallK.pure hQ1 (.cons (Sub.refl _) (.cons (Sub.refl _) .nil)) ?_;rintro _ rfl)|(refine CallK.pure hL1 (.cons (Sub.refl _) (.cons (Sub.refl _) .nil)) ?_;rintro _ rfl)|(refine CallK.pure hL2 (.cons (Sub.refl _) (.cons (Sub.refl _) .nil)) ?_;rintro _ rfl)|(refine CallK.pure hQ2 (.cons (Sub.refl _) (.cons (Sub.refl _) .nil)) ?_;rintro _ rfl)|(refine CallK.pure hE1 (.cons (Sub.refl _) .nil) ?_;rintro _ rfl)|(refine CallK.pure hE2 (.cons (Sub.refl _) .nil) ?_;rintro _ rfl)|(refine CallK.pure hQ3 (.cons (Sub.refl _) (.cons (Sub.refl _) .nil)) ?_;rintro _ rfl));conv=>whnf)|(refine Br.dec (fun _=>?_) (fun _=>?_)<;>first|(exfalso;omega)|conv=>whnf)|(refine Br.dec2 (fun _=>?_) (fun _=>?_)<;>first|(exfalso;omega)|conv=>whnf)|(refine Br.n (fun _=>?_) (fun _=>?_)<;>conv=>whnf)|(refine Br.b (fun _=>?_) (fun _=>?_)<;>conv=>whnf)|(refine And.intro ?_ ?_<;>conv=>whnf))
     all_goals first
      | contradiction
      | exact ⟨_,.p (Sub.refl _),rfl⟩
      | exact ⟨_,.p z6i,rfl⟩
      | (exfalso;simp_all;done)
      | trace_state
end Go.Ab
