/- LAW: run goes from place to place; what a machine is on its way. -/
import Derived.Test.YtiaikoimoonlmaaGreatDomR12
import Derived.Test.YtiaikoimoonlmaaGreatDomR13
import Derived.Test.YtiaikoimoonlmaaGreatDomR16
import Derived.Test.YtiaikoimoonlmaaGreatDomR21
set_option linter.unusedSimpArgs false
set_option linter.unusedVariables false
set_option maxRecDepth 100000
set_option maxHeartbeats 16000000
open List (length_append length_cons length_map length_nil map_cons mem_cons_of_mem mem_cons_self)
open Nat (succ_pos zero_le)
namespace Go.Ab
open Go.Proofs
inductive Cf
 | next (a:Int) (M:Mc)
 | back (gave:Int) (M:Mc)
 | fin (M:Mc)
def XL (M:Mc):Fm:=M.stack.getLast?.getD ⟨0,[],[],0⟩
def z5j (r:Int×Mc):Cf:=if r.2.fin=0 then .next r.1 r.2 else .fin r.2
def q6a (r:Int×Mc):Cf:=if r.2.fin=0 then .back r.1 r.2 else .fin r.2
def ZY (M:Mc):Mc:={ M with steps:=M.steps+1 }
def q1g (p:Pg) (t:S):Nat:=(idxF (fun g=>g.name==t.proc) p.procs).toNat
def stI (p:Pg) (tape watch:List Int) (M:Mc) (it:Item):Cf :=
 if it.s.kind=4 then z5j (GN p watch M (XL M) it.s (q1g p it.s) (prA p (q1g p it.s)))
 else if it.s.kind=9 then q6a (x2v watch M (XL M) it.s)
 else z5j (doM p tape watch M (XL M) (prA p (XL M).proc) it)
def YT (p:Pg) (gave:Int) (M:Mc):Cf :=
 if (XL M).call=0 then .fin (endM (popM M M.stack.dropLast) 1)
 else match (sheetOf p).l[((XL M).call-1).toNat]? with
 | none => .fin M
 | some it => .next it.next (if it.s.name=[] then popM M M.stack.dropLast else setM (popM M M.stack.dropLast) (varM (XL (popM M M.stack.dropLast)) it.s.name) gave)
def goC (p:Pg) (tape watch:List Int) (fuel:Int):Cf->Cf
 | .next a M=>if a = -1 then .back 0 M else if M.steps=fuel then .fin (endM M 2) else match (sheetOf p).l[(a-1).toNat]? with
   | none => .fin M
   | some it=>stI p tape watch (ZY M) it
 | .back g M=>YT p g M
 | .fin M => .fin M
def q0x (p:Pg) (tape watch:List Int) (fuel:Int):Nat->Cf->Cf
 | 0,c=>c
 | n+1,c=>goC p tape watch fuel (q0x p tape watch fuel n c)
structure FrameOk (p:Pg) (M:Mc) (f:Fm):Prop where
 pr : ∃ g,p.procs[f.proc]? = some g∧f.names=varsS p g
 len:f.vars.length=f.names.length
 rng : ∀ v∈f.vars,v<M.mem.length
inductive Chain (p:Pg):List Fm->Prop
 | one {f:Fm} (h:f.call=0):Chain p [f]
 | push {l:List Fm} {g f:Fm} {q:Pr} {it:Item} (hl:Chain p (l++[g])) (h1:1<=f.call) (hle:f.call<=100000) (hit:(sheetOf p).l[(f.call-1).toNat]? = some it) (hk:it.s.kind=4) (hp:p.procs[g.proc]? = some q) (hi:it∈itsOf p g.proc q) (hid:it.s.id=f.call):Chain p (l++[g]++[f])
structure Good (p:Pg) (M:Mc) (b:Int):Prop where
 ch:Chain p M.stack
 fr : ∀ f∈M.stack,FrameOk p M f
 gl:p.globals.length<=M.mem.length
 sl:M.stack.length<=101
 fin:M.fin=0
 r0:0<=M.reads
 rd:M.reads<=b
 tr:(M.trace.length:Int)<=b
 ou:(M.out.length:Int)<=b
def AtOk (p:Pg) (a:Int) (k:Nat):Prop:=a = -1 ∨ ∃ g it,p.procs[k]? = some g∧1<=a∧(sheetOf p).l[(a-1).toNat]? = some it∧it∈itsOf p k g∧it.s.id=a
def PT (p:Pg) (fuel:Int):Cf->Prop
 | .next a M=>Good p M M.steps∧0<=M.steps∧M.steps<=fuel∧AtOk p a (XL M).proc
 | .back _ M=>Good p M M.steps∧0<=M.steps∧M.steps<=fuel
 | .fin _=>True
def cfμ (fuel:Int):Cf->Nat
 | .next _ M=>6*(fuel-M.steps).toNat+2*M.stack.length+2
 | .back _ M=>6*(fuel-M.steps).toNat+2*M.stack.length+1
 | .fin _=>0
theorem Chain.ne {p:Pg} {l:List Fm} (h:Chain p l) : ∃ st f,l=st++[f]:=by
 cases h with
 | one h=>exact ⟨[],_,rfl⟩
 | push=>exact ⟨_,_,rfl⟩
theorem NO {M:Mc} {st:List Fm} {f:Fm} (h:M.stack=st++[f]):XL M=f:=by
 unfold XL;rw [h,List.getLast?_concat];rfl
theorem Good.top {p:Pg} {M:Mc} {b:Int} (h:Good p M b) : ∃ st,M.stack=st++[XL M]:=by
 obtain ⟨st,f,e⟩:=h.ch.ne;exact ⟨st,by rw [NO e];exact e⟩
theorem x5k {M M':Mc} (h:M'.stack=M.stack):XL M'=XL M:=by unfold XL;rw [h]
theorem z5f {p:Pg} (hc:chkB p=true) {k:Nat} {g:Pr} (hk:p.procs[k]? = some g):(varsS p g).length<=100:=by
 have h1:=(WN hc).1;have h2:=(HQ (QH hc).1).pr g (List.mem_of_getElem? hk);unfold varsS MJ;simp only [length_append,length_map];omega
theorem Good.okM {p:Pg} {M:Mc} {b:Int} (hc:chkB p=true) (h:Good p M b) {bs:List Nat} (hb:bs.length=M.mem.length):OkM p bs M :=
 ⟨hb,fun f hf=>⟨(h.fr f hf).len,(h.fr f hf).rng⟩,h.gl,Nat.le_trans h.sl (by decide),fun f hf=>by
   obtain ⟨g,h1,h2⟩:=(h.fr f hf).pr;have:=z5f hc h1;rw [h2];omega⟩
theorem Good.same {p:Pg} {M M':Mc} {b b':Int} (h:Good p M b) (hs:M'.stack=M.stack) (hm:M.mem.length<=M'.mem.length) (hf:M'.fin=0) (h0:0<=M'.reads) (h1:M'.reads<=b') (h2:(M'.trace.length:Int)<=b') (h3:(M'.out.length:Int)<=b'):Good p M' b' :=
 ⟨by rw [hs];exact h.ch,fun f hq=>by
   rw [hs] at hq;exact ⟨(h.fr f hq).pr,(h.fr f hq).len,fun v hv=>Nat.lt_of_lt_of_le ((h.fr f hq).rng v hv) hm⟩,Nat.le_trans h.gl hm,by rw [hs];exact h.sl,hf,h0,h1,h2,h3⟩
theorem VC (w:List Int) (M:Mc) (id:Int) (v:List Int):(QK w M id v).stack=M.stack∧(QK w M id v).mem=M.mem∧(QK w M id v).fin=M.fin∧(QK w M id v).steps=M.steps∧(QK w M id v).reads=M.reads∧(QK w M id v).out=M.out∧(QK w M id v).trace.length<=M.trace.length+1:=by
 refine ⟨x1y,q8b,?_,?_,?_,w5s,w4y⟩<;>(unfold QK;cases w.any fun x=>decide (id=x)<;>rfl)
theorem Good.event {p:Pg} {M:Mc} {b:Int} (h:Good p M b) (w:List Int) (id:Int) (v:List Int):Good p (QK w M id v) (b+1):=by
 obtain ⟨e1,e2,e3,e4,e5,e6,e7⟩:=VC w M id v;have:=h.tr;have:=h.ou;have:=h.rd;exact h.same e1 (by rw [e2];exact Nat.le_refl _) (e3.trans h.fin) (by rw [e5];exact h.r0) (by rw [e5];omega) (by omega) (by rw [e6];omega)
section
variable {p:Pg}
theorem AtOk.of (hc:chkB p=true) {k:Nat} {g:Pr} (hk:p.procs[k]? = some g) {a:Int} (h:okI (QD p.procs k) (QD p.procs k+cntL g.body) a):AtOk p a k:=by
 rcases h with h|⟨h1,h2⟩
 ·exact .inl h
 ·obtain ⟨it,h3,h4⟩:=HY hk (k:=(a-1).toNat) (by omega) (by omega);have h5:=q9a hc hk (by omega) (by omega) h3;exact .inr ⟨g,it,hk,by omega,h3,h4,by omega⟩
theorem x9e (hc:chkB p=true) {k:Nat} {g:Pr} (hk:p.procs[k]? = some g) {t:S} (ht:t∈flL g.body) {n:Str} (hn:n∈ZX t):n∈varsS p g:=by
 have h1:=HS (QH hc).2.1 (List.mem_of_getElem? hk) ht;unfold knownB at h1;rw [Bool.and_eq_true] at h1;have h2:=List.all_eq_true.1 h1.1 n hn;have h3:q1v p g n≠0:=by simpa using h2
 unfold varsS;rcases w3x h3 with h|h
 ·exact List.mem_append_left _ h
 ·exact List.mem_append_right _ h
theorem x8l {l:List Str} {n:Str} (h:n∈l):0<=idxF (fun y=>n==y) l:=by
 unfold idxF;have:l.any (fun y=>n==y)=true:=List.any_eq_true.2 ⟨n,h,by simp⟩;rw [this,cond_true];omega
theorem w6p {t:S} (h1:t.kind≠10) (h2:t.name≠[]):t.name∈ZX t:=by
 unfold ZX GJ;have:(decide (t.kind≠10) && !(t.name==[]))=true:=by simp [h1,h2]
 rw [this];simp
theorem w9b {t:S} {a:Arg} (ha:a∈t.args) (hr:a.ref=true):a.name∈ZX t:=by
 unfold ZX;refine List.mem_append_right _ (List.mem_flatMap.2 ⟨a,ha,?_⟩);unfold JI;rw [hr];simp
theorem w2w {f:Fm} (hl:f.vars.length=f.names.length) {n:Str} (h:n∈f.names):varM f n∈f.vars:=by
 have h1:=q3n (x8l h);unfold varM;rw [List.getD_eq_getElem?_getD,List.getElem?_eq_getElem (by omega)];exact List.getElem_mem _
end
theorem x1c {f:Fm} : ∀ (l:List Arg) (ps:List Nat) (M:Mc),(∀ a∈l,a.ref=true->varM f a.name<M.mem.length)->(∀ v∈ps,v<M.mem.length) ->
  (argsM f l ps M).2.1.stack=M.stack∧M.mem.length<=(argsM f l ps M).2.1.mem.length∧(argsM f l ps M).2.1.steps=M.steps∧(argsM f l ps M).2.1.reads=M.reads∧(argsM f l ps M).2.1.out=M.out∧(argsM f l ps M).2.1.trace=M.trace ∧
  ((argsM f l ps M).2.2=true->(argsM f l ps M).2.1.fin=M.fin∧(argsM f l ps M).1.length=ps.length+l.length ∧ ∀ v∈(argsM f l ps M).1,v<(argsM f l ps M).2.1.mem.length)∧((argsM f l ps M).2.2=false->(argsM f l ps M).2.1.fin=4)
 | [],ps,M,_,hp=>⟨rfl,Nat.le_refl _,rfl,rfl,rfl,rfl,fun _=>⟨rfl,rfl,hp⟩,(fun h=>(by cases h))⟩
 | a::r,ps,M,ha,hp=>by
   rw [argsM];cases hr:a.ref with
   | true =>
     rw [cond_true];obtain ⟨h1,h2,h3,h4,h5,h6,h7,h8⟩:=x1c r (ps++[varM f a.name]) M (fun b hb=>ha b (mem_cons_of_mem _ hb)) fun v hv=>by
      rcases List.mem_append.1 hv with hv|hv
      ·exact hp v hv
      ·rw [List.mem_singleton.1 hv];exact ha a mem_cons_self hr
     refine ⟨h1,h2,h3,h4,h5,h6,fun h => ?_,h8⟩;obtain ⟨g1,g2,g3⟩:=h7 h;exact ⟨g1,by rw [g2,length_append,length_cons,length_cons,length_nil];omega,g3⟩
   | false =>
     rw [cond_false];cases hw:(QS M f a.x).2 with
     | false=>exact ⟨rfl,Nat.le_refl _,rfl,rfl,rfl,rfl,(fun h=>(by cases h)),fun _=>rfl⟩
     | true =>
       rw [cond_true];have hml:({ M with mem:=M.mem++[(QS M f a.x).1] }:Mc).mem.length=M.mem.length+1:=by simp
       obtain ⟨h1,h2,h3,h4,h5,h6,h7,h8⟩:=x1c (f:=f) r (ps++[M.mem.length]) { M with mem:=M.mem++[(QS M f a.x).1] } (fun b hb h=>by
         have:=ha b (mem_cons_of_mem _ hb) h;rw [hml];omega) fun v hv=>by
        rw [hml];rcases List.mem_append.1 hv with hv|hv
        ·have:=hp v hv;omega
        ·rw [List.mem_singleton.1 hv];omega
       rw [hml] at h2;refine ⟨h1,by omega,h3,h4,h5,h6,fun h => ?_,h8⟩;obtain ⟨g1,g2,g3⟩:=h7 h;exact ⟨g1,by rw [g2,length_append,length_cons,length_cons,length_nil];omega,g3⟩
section
variable {p:Pg} (hc:chkB p=true)
include hc
theorem x1r {M:Mc} {b:Int} (hG:Good p M b) {g:Pr} (hk:p.procs[(XL M).proc]? = some g) {t:S} (ht:t∈flL g.body) {n:Str} (hn:n∈ZX t):0<=idxF (fun y=>n==y) (XL M).names∧varM (XL M) n<M.mem.length:=by
 obtain ⟨st,hs⟩:=hG.top;have hF:=hG.fr (XL M) (by rw [hs];exact List.mem_append_right _ (List.mem_singleton.2 rfl));obtain ⟨g',h1,h2⟩:=hF.pr;rw [hk] at h1;cases h1;have h3:=x9e hc hk ht hn;rw [<- h2] at h3;exact ⟨x8l h3,hF.rng _ (w2w hF.len h3)⟩
theorem z7r {k:Nat} {g:Pr} (hk:p.procs[k]? = some g) {t:S} (ht:t∈flL g.body) (h4:t.kind=4):idxF (fun g=>g.name==t.proc) p.procs=(q1g p t:Nat)∧p.procs[q1g p t]? = some (prA p (q1g p t))∧(prA p (q1g p t)).params.length=t.args.length:=by
 obtain ⟨k',h1,h2,_,_,h5⟩:=z2q hc (List.mem_flatMap.2 ⟨g,List.mem_of_getElem? hk,ht⟩) h4;have e:q1g p t=k':=by
  unfold q1g;show (caI p t).toNat=k';rw [h2];rfl
 refine ⟨by rw [e];exact h2,by rw [e];exact w5n h1,?_⟩;rw [e];have:=congrArg List.length h5;simpa using this
theorem z5l {M:Mc} {b:Int} (hfr : ∀ f∈M.stack,FrameOk p M f) (hgl:p.globals.length<=M.mem.length) (hfin:M.fin=0) (hr0:0<=M.reads) (hrd:M.reads<=b) (htr:(M.trace.length:Int)<=b) (hou:(M.out.length:Int)<=b) (hsl:M.stack.length<=100) {k:Nat} {g:Pr} (hk:p.procs[k]? = some g) {ps:List Nat} (hpl:ps.length=g.params.length) (hpr : ∀ v∈ps,v<M.mem.length) {call:Int}
  (hch:Chain p (M.stack++[⟨k,varsS p g,List.range p.globals.length++ps++List.range' M.mem.length g.vars.length,call⟩])):Good p (JE p k g ps call M) b∧AtOk p (q1y p k g) (XL (JE p k g ps call M)).proc∧(JE p k g ps call M).stack.length=M.stack.length+1:=by
 have hml:(JE p k g ps call M).mem.length=M.mem.length+g.vars.length:=by unfold JE;simp
 refine ⟨⟨hch,fun f hf => ?_,by rw [hml];have:=hgl;omega,by unfold JE;simp;omega,hfin,hr0,hrd,htr,hou⟩,?_,by unfold JE;simp⟩
 ·rcases List.mem_append.1 hf with hf|hf
  ·exact ⟨(hfr f hf).pr,(hfr f hf).len,fun v hv=>by have:=(hfr f hf).rng v hv;rw [hml];omega⟩
  ·rw [List.mem_singleton.1 hf];refine ⟨⟨g,hk,rfl⟩,?_,fun v hv => ?_⟩
   ·show (List.range p.globals.length++ps++List.range' M.mem.length g.vars.length).length=(varsS p g).length;unfold varsS MJ;simp only [length_append,List.length_range,List.length_range',length_map];omega
   ·have hv:v∈List.range p.globals.length++ps++List.range' M.mem.length g.vars.length:=hv;rw [hml];rcases List.mem_append.1 hv with hv|hv
    ·rcases List.mem_append.1 hv with hv|hv
     ·have:=List.mem_range.1 hv;have:=hgl;omega
     ·have:=hpr v hv;omega
    ·have:=List.mem_range'_1.1 hv;omega
 ·rw [NO (M:=JE p k g ps call M) (st:=M.stack) rfl];refine AtOk.of hc hk ?_;unfold q1y;split
  ·exact .inr ⟨by omega,by omega⟩
  ·exact .inl rfl
theorem w8k (watch:List Int) {M:Mc} {b:Int} (hG:Good p M b) {g:Pr} (hk:p.procs[(XL M).proc]? = some g) {it:Item} (hi:it∈itsOf p (XL M).proc g) (h4:it.s.kind=4) {r:Int×Mc} (hr:r=GN p watch M (XL M) it.s (q1g p it.s) (prA p (q1g p it.s))) :
  r.2.steps=M.steps∧(r.2.fin=0->Good p r.2 (b+1)∧AtOk p r.1 (XL r.2).proc∧r.2.stack.length=M.stack.length+1):=by
 subst hr;have ht:=YI hi;obtain ⟨_,k1,k2⟩:=z7r hc hk ht h4;obtain ⟨st,hst⟩:=hG.top;obtain ⟨a1,a2,a3,a4,a5,a6,a7,a8⟩:=x1c (f:=XL M) it.s.args [] M (fun a ha hr=>(x1r hc hG hk ht (w9b ha hr)).2) (fun v hv=>by cases hv);unfold GN;generalize argsM (XL M) it.s.args [] M=ar at *
 obtain ⟨ps,M1,ok⟩:=ar;simp only at a1 a2 a3 a4 a5 a6 a7 a8 ⊢;cases ok with
 | false =>
   refine ⟨a3,fun h => ?_⟩;have h:M1.fin=0:=h;have:=a8 rfl;omega
 | true =>
   obtain ⟨b1,b2,b3⟩:=a7 rfl;rw [cond_true];split
   ·refine ⟨a3,fun h => ?_⟩;have h:(5:Int)=0:=h;cases h
   ·rename_i hsl;have hG1:Good p M1 b:=hG.same a1 a2 (b1.trans hG.fin) (by rw [a4];exact hG.r0) (by rw [a4];exact hG.rd) (by rw [a6];exact hG.tr) (by rw [a5];exact hG.ou);have hG2:=hG1.event watch it.s.id [];obtain ⟨e1,e2,e3,e4,e5,e6,e7⟩:=VC watch M1 it.s.id [];have hid:=VD (QH hc).1 hk ht;have hcn:=(WN hc).2.2;have hle:=((QU p).2.2.2.2 _ _ hk).2.2.1;have hop:=z5l hc hG2.fr hG2.gl hG2.fin hG2.r0 hG2.rd hG2.tr hG2.ou (by rw [e1];omega) k1 (ps:=ps) (by rw [b2,k2];simp) (fun v hv=>by rw [e2];exact b3 v hv) (call:=it.s.id) (by
     rw [e1,a1,hst];exact .push (it:=it) (hst▸hG.ch) (by show 1<=it.s.id;omega) (by show it.s.id<=100000;omega) (v0v hc hk hi) h4 hk hi rfl)
    refine ⟨?_,fun _=>⟨hop.1,hop.2.1,?_⟩⟩
    ·show (QK watch M1 it.s.id []).steps=M.steps;rw [e4,a3]
    ·rw [<- a1,<- e1];exact hop.2.2
omit hc in
theorem z6b (watch:List Int) {M:Mc} {b:Int} (hG:Good p M b) (t:S) {r:Int×Mc} (hr:r=x2v watch M (XL M) t):r.2.steps=M.steps∧(r.2.fin=0->Good p r.2 (b+1)∧r.2.stack=M.stack):=by
 subst hr;have he:=fun v=>VC watch M t.id v;unfold x2v;cases t.has with
 | false=>exact ⟨(he []).2.2.2.1,fun _=>⟨hG.event watch t.id [],(he []).1⟩⟩
 | true =>
   rw [cond_true];cases hw:(QS M (XL M) t.x).2 with
   | false =>
     refine ⟨rfl,fun h => ?_⟩;have h:(4:Int)=0:=h;cases h
   | true=>exact ⟨(he _).2.2.2.1,fun _=>⟨hG.event watch t.id _,(he _).1⟩⟩
omit hc in
theorem x8x (tape watch:List Int) {M:Mc} {f:Fm} {g:Pr} {it:Item} (h4:it.s.kind≠4) (h9:it.s.kind≠9) {r:Int×Mc} (hr:r=doM p tape watch M f g it) (h0:r.2.fin=0):r.1∈goesI (sheetOf p) g it:=by
 subst hr;unfold doM at h0 ⊢;unfold goesI;by_cases h7:it.s.kind=7
 ·simp [h7]
 by_cases h8:it.s.kind=8
 ·simp [h8]
 by_cases h10:it.s.kind=10
 ·simp [h10]
 simp only [if_neg h7,if_neg h8,if_neg h10,if_neg h9] at h0 ⊢;by_cases h2:it.s.kind=2
 ·have h5 : ¬it.s.kind=5:=by omega
  have h6 : ¬it.s.kind=6:=by omega
  simp only [if_pos h2,if_neg h5,if_neg h6] at h0 ⊢;split at h0
  ·have h0:(3:Int)=0:=h0;cases h0
  ·rename_i h;rw [if_neg h];exact mem_cons_self
 simp only [if_neg h2] at h0 ⊢;cases hw:(QS M f it.s.x).2 with
 | false =>
   rw [hw] at h0;have h0:(4:Int)=0:=h0;cases h0
 | true =>
   clear h0;simp only [cond_true];by_cases h5:it.s.kind=5
   ·have h1 : ¬it.s.kind=1:=by omega
    have h3 : ¬it.s.kind=3:=by omega
    simp only [if_neg h1,if_neg h3,if_pos h5];split<;>simp
   by_cases h6:it.s.kind=6
   ·have h1 : ¬it.s.kind=1:=by omega
    have h3 : ¬it.s.kind=3:=by omega
    simp only [if_neg h1,if_neg h3,if_neg h5,if_pos h6];split<;>simp
   simp only [if_neg h5,if_neg h6];split
   ·exact mem_cons_self
   split
   ·exact mem_cons_self
   ·exact mem_cons_self
theorem w7b (tape watch:List Int) {M:Mc} {b:Int} (hG:Good p M b) {g:Pr} (hk:p.procs[(XL M).proc]? = some g) {it:Item} (hi:it∈itsOf p (XL M).proc g) (h4:it.s.kind≠4) (h9:it.s.kind≠9) {r:Int×Mc} (hr:r=doM p tape watch M (XL M) g it) :
  r.2.steps=M.steps∧(r.2.fin=0->Good p r.2 (b+1)∧AtOk p r.1 (XL M).proc∧r.2.stack=M.stack):=by
 have hgo:=x8x (p:=p) tape watch (M:=M) (f:=XL M) (g:=g) h4 h9 hr;have hat:r.2.fin=0->AtOk p r.1 (XL M).proc:=fun h0=>AtOk.of hc hk ((DA hc hk).2.1 _ (z0h hi (hgo h0))).2
 suffices h:r.2.steps=M.steps∧(r.2.fin=0->Good p r.2 (b+1)∧r.2.stack=M.stack) from ⟨h.1,fun h0=>⟨(h.2 h0).1,hat h0,(h.2 h0).2⟩⟩
 clear hgo hat;subst hr;have he:=fun v=>VC watch M it.s.id v;have key : ∀ (a:Int) v,(QK watch M it.s.id v).steps=M.steps∧((QK watch M it.s.id v).fin=0->Good p (QK watch M it.s.id v) (b+1)∧(QK watch M it.s.id v).stack=M.stack):=fun _ v=>⟨(he v).2.2.2.1,fun _=>⟨hG.event watch it.s.id v,(he v).1⟩⟩;unfold doM;by_cases h7:it.s.kind=7
 ·rw [if_pos h7];exact key 0 []
 by_cases h8:it.s.kind=8
 ·rw [if_neg h7,if_pos h8];exact key 0 []
 by_cases h10:it.s.kind=10
 ·rw [if_neg h7,if_neg h8,if_pos h10];exact key 0 []
 rw [if_neg h7,if_neg h8,if_neg h10];by_cases h2:it.s.kind=2
 ·rw [if_pos h2];split
  ·refine ⟨rfl,fun h => ?_⟩;have h:(3:Int)=0:=h;cases h
  ·generalize varM (XL M) it.s.name=v;generalize tape.getD M.reads.toNat 0=n;obtain ⟨e1,e2,e3,e4,e5,e6,e7⟩:=VC watch (setM { M with reads:=M.reads+1 } v n) it.s.id [n];refine ⟨e4,fun _=>⟨hG.same e1 (by rw [e2];unfold setM;simp) (e3.trans hG.fin) ?_ ?_ ?_ ?_,e1⟩⟩
   ·rw [e5];have:=hG.r0;show 0<=M.reads+1;omega
   ·rw [e5];have:=hG.rd;show M.reads+1<=b+1;omega
   ·have:=hG.tr;have e7:(QK watch (setM { M with reads:=M.reads+1 } v n) it.s.id [n]).trace.length<=M.trace.length+1:=e7;have e9:((QK watch (setM { M with reads:=M.reads+1 } v n) it.s.id [n]).trace.length:Int)<=b+1:=by omega
    exact e9
   ·rw [e6];have:=hG.ou;show (M.out.length:Int)<=b+1;omega
 rw [if_neg h2];cases hw:(QS M (XL M) it.s.x).2 with
 | false =>
   refine ⟨rfl,fun h => ?_⟩;have h:(4:Int)=0:=h;cases h
 | true =>
   rw [cond_true];generalize (QS M (XL M) it.s.x).1=n;by_cases h1:it.s.kind=1
   ·rw [if_pos h1];obtain ⟨e1,e2,e3,e4,e5,e6,e7⟩:=he [n];have hG1:=hG.event watch it.s.id [n];exact ⟨e4,fun _=>⟨hG1.same rfl (by unfold setM;simp) hG1.fin hG1.r0 hG1.rd hG1.tr hG1.ou,e1⟩⟩
   rw [if_neg h1];by_cases h3:it.s.kind=3
   ·rw [if_pos h3];obtain ⟨e1,e2,e3,e4,e5,e6,e7⟩:=he [n];have hG1:=hG.event watch it.s.id [n];refine ⟨e4,fun _=>⟨hG1.same rfl (Nat.le_refl _) hG1.fin hG1.r0 hG1.rd hG1.tr ?_,e1⟩⟩;show (((QK watch M it.s.id [n]).out++[n]).length:Int)<=b+1;rw [e6,length_append];have:=hG.ou;simp only [length_cons,length_nil];omega
   rw [if_neg h3];by_cases h5:it.s.kind=5
   ·rw [if_pos h5];exact key 0 [n]
   by_cases h6:it.s.kind=6
   ·rw [if_neg h5,if_pos h6];exact key 0 [n]
   rw [if_neg h5,if_neg h6];exact key 0 [n]
theorem z0w {M:Mc} {b:Int} (hG:Good p M b) {st:List Fm} (hs:M.stack=st++[XL M]) (gave:Int):(XL M).call<=100000 ∧
  ((∃ M',YT p gave M = .fin M'∧CloseP p M st (XL M) gave (-1) M'∧M'.fin=1) ∨
  ∃ a M',YT p gave M = .next a M'∧CloseP p M st (XL M) gave a M'∧Good p M' b∧AtOk p a (XL M').proc∧M'.stack.length+1=M.stack.length∧M'.steps=M.steps):=by
 have hst:M.stack.dropLast=st:=by rw [hs,List.dropLast_concat]
 have hch:=hG.ch;rw [hs] at hch;generalize hF:XL M=F at *
 unfold YT;rw [hst,hF];generalize hL:st++[F]=L at hch;cases hch with
 | one h =>
   rename_i f;obtain ⟨rfl,h2⟩:=List.append_inj' (show st++[F]=[]++[f] from hL) rfl;have h2:F=f:=by simpa using h2
   subst h2;rw [if_pos h];exact ⟨by omega,.inl ⟨_,rfl,.done h,rfl⟩⟩
 | push hl h1 hle hit hk hp hi hid =>
   rename_i l g f q it;obtain ⟨rfl,h2⟩:=List.append_inj' hL rfl;have h2:F=f:=by simpa using h2
   subst h2;have hgm:g∈M.stack:=by rw [hs];simp
   have hgF:=hG.fr g hgm;refine ⟨hle,.inr ?_⟩;rw [if_neg (by omega),hit];have htop:XL (popM M (l++[g]))=g:=NO (st:=l) rfl;have hnx:AtOk p it.next g.proc:=AtOk.of hc hp (BW hi).1;have hG1:Good p (popM M (l++[g])) b:=⟨hl,fun f hf=>⟨(hG.fr f (by rw [hs];exact List.mem_append_left _ hf)).pr,(hG.fr f (by rw [hs];exact List.mem_append_left _ hf)).len,(hG.fr f (by rw [hs];exact List.mem_append_left _ hf)).rng⟩,hG.gl,by
    have h:=hG.sl;rw [hs,length_append] at h;show (l++[g]).length<=101;omega,hG.fin,hG.r0,hG.rd,hG.tr,hG.ou⟩
   have hlen:(popM M (l++[g])).stack.length+1=M.stack.length:=by
    rw [hs,length_append];rfl
   by_cases hn:it.s.name=[]
   ·refine ⟨it.next,_,rfl,?_,?_⟩
    ·rw [if_pos hn];exact .drop h1 hit hn
    ·rw [if_pos hn];exact ⟨hG1,by rw [htop];exact hnx,hlen,rfl⟩
   ·obtain ⟨q',u1,u2⟩:=hgF.pr;rw [hp] at u1;cases u1;have hin:=x9e hc hp (YI hi) (w6p (by omega) hn);rw [<- u2] at hin;refine ⟨it.next,_,rfl,?_,?_⟩
    ·rw [if_neg hn,htop];exact .keep h1 hit hn rfl (x8l hin)
    ·rw [if_neg hn];refine ⟨hG1.same rfl (by unfold setM;simp) hG1.fin hG1.r0 hG1.rd hG1.tr hG1.ou,?_,hlen,rfl⟩;have e:XL (setM (popM M (l++[g])) (varM (XL (popM M (l++[g]))) it.s.name) gave)=g:=(x5k (M:=popM M (l++[g])) rfl).trans htop;rw [e];exact hnx
end
def mainN (p:Pg):Nat:=(idxF (fun f=>f.name==mainS) p.procs).toNat
def M00 (p:Pg):Mc:=⟨[],List.replicate p.globals.length 0,0,0,0,[],[]⟩
def GF (p:Pg):Cf := .next (q1y p (mainN p) (prA p (mainN p))) (JE p (mainN p) (prA p (mainN p)) [] 0 (M00 p))
theorem q8z {p:Pg} (hc:chkB p=true):idxF (fun f=>f.name==mainS) p.procs=(mainN p:Nat)∧p.procs[mainN p]? = some (prA p (mainN p))∧(prA p (mainN p)).params=[]:=by
 obtain ⟨k,f,h1,_,h3,h4⟩:=x1o hc;obtain ⟨k',hk',h5,_,_,h6⟩:=q4y (p:=p) (n:=mainS) (List.mem_map.2 ⟨f,List.mem_of_getElem? h1,h3⟩);obtain ⟨rfl,h7⟩:=x1i hc h1 (List.getElem?_eq_getElem hk') (h3.trans h6.symm);have e:mainN p=k:=by unfold mainN;rw [h5];rfl
 rw [e,q0s h1];exact ⟨h5,h1,h4⟩
theorem z0n {p:Pg} (hc:chkB p=true) {fuel:Int} (h0:0<=fuel):PT p fuel (GF p):=by
 obtain ⟨h1,h2,h3⟩:=q8z hc;have h:=z5l hc (M:=M00 p) (b:=0) (fun f hf=>by cases hf) (by simp [M00]) rfl (Int.le_refl _) (Int.le_refl _) (Int.le_refl _) (Int.le_refl _) (zero_le _) h2 (ps:=[]) (by rw [h3];rfl) (fun v hv=>by cases hv) (call:=0) (.one rfl);exact ⟨h.1,Int.le_refl _,h0,h.2.1⟩
theorem KQ (p:Pg) (tape watch:List Int) (fuel:Int) (n:Nat) (c:Cf):q0x p tape watch fuel (n+1) c=goC p tape watch fuel (q0x p tape watch fuel n c):=rfl
def q5r:Info:={ keep:=fun i=>QN [(27,[8,9]),(26,[2,8,10,11,12,13,126]),(25,[2,8,10,11,12,13]),(24,[2,8,10,11,12,13,117]),(20,[2,8,10,11,12,13]),(23,[2,8,10,11,12,13,111]),(22,[2,8,10,11,12,13]),(18,[2,8,10,11,12,13]),(21,[2,8,10,11,12,13,100]),(19,[2,8,10,11,12,13,90,94]),(17,[2,8,10,11,12,13,90]),(16,[2,8,10,11,12,13]),(15,[2,8,10,11,12,13]),(14,[2,8,10,11,12,13]),(13,[2,8,10,11,12,13,63]),(12,[2,8,10,11,12,13]),(11,[2,8,10,11,12,13,56]),(10,[2,8,10,11,12,13]),(9,[2,8,10,11,12]),(8,[2,8,10,11]),(7,[2,8,10,34,35]),(6,[2,8,10,34,35]),(5,[2,8,10,34,35,36]),(4,[2,8,10,34,35]),(3,[2,4,8,10]),(2,[8,9]),(1,[1,2,3,4,8,24]),(0,[1,2,3,4,8])] i,sched:=I_run_Of.sched,frz:=I_run_Of.frz }
def w6h:Code->Code
 | .seq a b=>match a with
   | .scope c=>c
   | _=>w6h b
 | .scope c=>c
 | c=>c
noncomputable def w9e:Code:=w6h (Tryz.f63.body.getD .skip)
noncomputable def z7z (l:Nat):Code:=(findLabel w9e l).getD .skip
theorem w6n {P:Program} {N:Nat} {K:Exit->St->Prop} {s:St} (h:ScopeK P tab N q5r w9e K s):ScopeK P tab N q5r w9e K s:=h
def rO:Chunk := .obj 60 [.p (.int .i64 0),.p (.int .i64 0),.p (.int .i64 0),.p .nils,.p .nils]
def rM (p:Pg) (tape watch:List Int) (v:Nat) (M:Mc):Chunk := .obj 163 [.p (.ip (sheetOf p).cells),.hd 2 0 p.globals.length,.p (QA tape),.p (QA watch),.hd 3 0 M.stack.length,.hd 4 0 v,.p (.int .i64 M.fin),.p (.int .i64 M.steps),.p (.int .i64 M.reads),.hd 5 0 M.out.length,.hd 6 0 M.trace.length]
def rH (p:Pg) (tape watch:List Int) (bs:List Nat) (vs:List Int) (M:Mc) (it:Item):Heap:=[(0,rM p tape watch vs.length M),(2,.own 164 1 (VL bs (List.range p.globals.length))),(3,.own 218 1 (M.stack.map (fmA bs))),(4,.own 2 1 (vs.map (.int .i64))),
 (5,.own 2 1 (M.out.map (.int .i64))),(6,.own 63 2 (M.trace.map evA)),(2500,.ext (.cells 2 (ZJ bs M.mem))),(1,rO),(7,.obj 151 (it.cells.map .p))]
theorem w4m (l r:List (Nat×LV)) (i:Nat):getS l i=getS (l++r) i∨getS l i = .p .any:=by
 induction l with
 | nil=>exact .inr rfl
 | cons x l ih =>
   obtain ⟨j,v⟩:=x;show (bif j==i then v else getS l i)=(bif j==i then v else getS (l++r) i)∨(bif j==i then v else getS l i) = .p .any;cases j==i
   ·exact ih
   ·exact .inl rfl
theorem UN {N:Nat} (l r:List (Nat×LV)) {H:Heap}:Le N ⟨l++r,H⟩ ⟨l,H⟩:=x6z (w4m l r) (List.Sublist.refl _)
def z2v (p:Pg) (tape watch:List Int) (fuel gave at_:Int) (bs:List Nat) (vs:List Int) (M:Mc) (it:Item):St:=⟨[(2,.p (.int .i64 fuel)),(8,.ptr 1 0),(10,.ptr 0 0),(11,.ptr 7 0),(12,.p (.int .i64 gave)),(13,.p (.int .i64 at_))],rH p tape watch bs vs M it⟩
structure RIx where
 c:Cf
 gv:Int
 at_:Int
 bs:List Nat
 vs:List Int
 it:Item
def RIx.st (p:Pg) (tape watch:List Int) (fuel:Int) (i:RIx):St:=match i.c with
 | .next a M=>z2v p tape watch fuel i.gv a i.bs i.vs M i.it
 | .back g M=>z2v p tape watch fuel g i.at_ i.bs i.vs M i.it
 | .fin M=>z2v p tape watch fuel i.gv i.at_ i.bs i.vs M i.it
def RIx.lab (i:RIx):Nat:=match i.c with
 | .next _ _=>1
 | .back _ _=>0
 | .fin _=>2
def RIx.bok (i:RIx):Prop:=match i.c with
 | .next _ M=>i.bs.length=M.mem.length
 | .back _ M=>i.bs.length=M.mem.length
 | .fin _=>True
def Kgo (p:Pg) (tape watch:List Int) (fuel:Int) (c:Cf) (K:Exit->St->Prop):Prop := ∀ (i:RIx) (s':St),i.c=goC p tape watch fuel c->i.bok->Le Tryz.f63.ntmps s' (i.st p tape watch fuel)->K (.goto i.lab) s'
theorem x2g {p:Pg} (hc:chkB p=true) {k:Nat} {g:Pr} (hk:p.procs[k]? = some g):SpecP Tryz.prog 177 [.agg p.cells,.str g.name] (fun r=>r=QP (varsS p g)):=by
 have h1:=(WN hc).1;have h2:=(HQ (QH hc).1).pr g (List.mem_of_getElem? hk);exact z2l p (QH hc).1 k g hk (fun j g' hj he=>(x1i hc hj hk he).1) (by omega) (by omega) (by omega)
theorem v1g {p:Pg} {tape watch:List Int} {M:Mc} {f:Fm} {g:Pr} {it:Item}:(doM p tape watch M f g it).2.mem.length=M.mem.length:=by
 have he : ∀ (M:Mc) v,(QK watch M it.s.id v).mem=M.mem:=fun M v=>q8b;unfold doM;split
 ·show (QK watch M it.s.id []).mem.length=_;rw [he]
 split
 ·show (QK watch M it.s.id []).mem.length=_;rw [he]
 split
 ·show (QK watch M it.s.id []).mem.length=_;rw [he]
 split
 ·split
  ·rfl
  ·show (QK watch _ it.s.id _).mem.length=_;rw [he];simp [setM]
 cases (QS M f it.s.x).2 with
 | false=>rfl
 | true =>
   rw [cond_true];split
   ·show ((QK watch M it.s.id _).mem.set _ _).length=_;rw [List.length_set,he]
   split
   ·show (QK watch M it.s.id _).mem.length=_;rw [he]
   split
   ·show (QK watch M it.s.id _).mem.length=_;rw [he]
   split
   ·show (QK watch M it.s.id _).mem.length=_;rw [he]
   ·show (QK watch M it.s.id _).mem.length=_;rw [he]
theorem x4e (p:Pg) (hc:chkB p=true) (tape watch:List Int) (htp:tape.length<=10000000) (fuel:Int) (hfu:fuel<=1000000) (gv:Int) (bs:List Nat) (vs:List Int) (it0:Item) (a:Int) (M:Mc) (hG:PT p fuel (.next a M)) (hb:bs.length=M.mem.length) (K:Exit->St->Prop) (hK:Kgo p tape watch fuel (.next a M) K) :
  W Tryz.prog tab Tryz.f63.ntmps q5r (z7z 1) K (z2v p tape watch fuel gv a bs vs M it0):=by
 obtain ⟨hGd,hs0,hs1,hat⟩:=hG;have hOk:=hGd.okM hc hb;obtain ⟨st,hst⟩:=hGd.top;have hcn:=(WN hc).2.2;have hgc:=(WN hc).1;have hll:=(QU p).2.2.2.1;have htr:=hGd.tr;have hou:=hGd.ou;have hrd:=hGd.rd;have hr0:=hGd.r0;have hfin:=hGd.fin;have hslk:=hGd.sl;unfold Kgo at hK;simp only [goC] at hK;by_cases ha:a = -1
 ·rw [if_pos ha] at hK;conv=>whnf
  repeat' (first|((first|(refine iM fun _=>?_)|refine dA ?_|refine And.intro rfl ?_|refine aD ?_|refine aR ?_|refine bP ?_|(refine iA fun _=>?_)|refine IdxK.xs (by omega) ?_|refine QB (by omega) ?_|(refine ByteK.at (by omega) ?_)|refine wI ?_);conv=>whnf)|(apply bD<;>intro _<;>first|omega|conv=>whnf)|(apply bE<;>intro _<;>first|omega|conv=>whnf)|(apply bN<;>intro _<;>conv=>whnf)|(apply bB<;>intro _<;>conv=>whnf))
  all_goals first
   | (exfalso;omega)
   | exact hK ⟨.back 0 M,0,a,bs,vs,it0⟩ _ rfl hb (Le.of_eq rfl)
   | exact hK ⟨.back 0 M,0,a,bs,vs,it0⟩ _ rfl hb (UN (RIx.st p tape watch fuel ⟨.back 0 M,0,a,bs,vs,it0⟩).sl [_])
 rw [if_neg ha] at hK;by_cases hst2:M.steps=fuel
 ·rw [if_pos hst2] at hK;conv=>whnf
  repeat' (first|((first|(refine iM fun _=>?_)|refine dA ?_|refine And.intro rfl ?_|refine aD ?_|refine aR ?_|refine bP ?_|(refine iA fun _=>?_)|refine IdxK.xs (by omega) ?_|refine QB (by omega) ?_|(refine ByteK.at (by omega) ?_)|refine wI ?_);conv=>whnf)|(apply bD<;>intro _<;>first|omega|conv=>whnf)|(apply bE<;>intro _<;>first|omega|conv=>whnf)|(apply bN<;>intro _<;>conv=>whnf)|(apply bB<;>intro _<;>conv=>whnf))
  all_goals first
   | (exfalso;omega)
   | exact hK ⟨.fin (endM M 2),gv,a,bs,vs,it0⟩ _ rfl trivial (Le.of_eq rfl)
   | exact hK ⟨.fin (endM M 2),gv,a,bs,vs,it0⟩ _ rfl trivial (UN (RIx.st p tape watch fuel ⟨.fin (endM M 2),gv,a,bs,vs,it0⟩).sl [_])
 rw [if_neg hst2] at hK;rcases hat with h|⟨g,it,hg,h1,hit,hi,hid⟩
 ·exact absurd h ha
 rw [hit] at hK;simp only at hK;have hgl:((sheetOf p).l.map fun i=>AV.agg i.cells)[(a-1).toNat]? = some (.agg it.cells):=by rw [List.getElem?_map,hit];rfl
 have hlt:(a-1).toNat<(sheetOf p).l.length:=(List.getElem?_eq_some_iff.1 hit).1;have hG1:Good p (ZY M) M.steps:=hGd.same rfl (Nat.le_refl _) hfin hr0 hrd htr hou;have hOk1:OkM p bs (ZY M):=hG1.okM hc hb;have hst1:(ZY M).stack=st++[XL (ZY M)]:=hst;have hslk1:(ZY M).stack.length<=101:=hslk;have htr1:(ZY M).trace.length<=10000000:=by show M.trace.length<=_;omega
 have hou1:(ZY M).out.length<=10000000:=by show M.out.length<=_;omega
 have hk1:p.procs[(XL (ZY M)).proc]? = some g:=hg;have ht:=YI hi;have hi1:it∈itsOf p (XL (ZY M)).proc g:=hi;unfold stI at hK;by_cases h4:it.s.kind=4
 ·rw [if_pos h4] at hK;obtain ⟨k1,k2,k3⟩:=z7r hc hg ht h4;have hpar:=z3l hc (q1g p it.s);have hmf:=(HQ (QH hc).1).pr _ (List.mem_of_getElem? k2);have hcall:=q1j p tape watch bs vs (ZY M) st (XL (ZY M)) hst1 hOk1 hslk1 htr1 it.s (by omega) (fun b hb hr=>(x1r hc hG1 hk1 ht (w9b hb hr)).1) (q1g p it.s) (prA p (q1g p it.s)) k2 k1 (x2g hc k2) (by omega) (by omega);generalize hr:GN p watch (ZY M) (XL (ZY M)) it.s (q1g p it.s) (prA p (q1g p it.s))=r at *
  obtain ⟨a',M'⟩:=r;unfold z5j at hK;simp only at hK hcall;by_cases h0:M'.fin=0
  ·rw [if_pos h0] at hK;conv=>whnf
   repeat' (first|((first|(refine iM fun _=>?_)|refine dA ?_|refine And.intro rfl ?_|refine aD ?_|refine aR ?_|refine bP ?_|(refine iA fun _=>?_)|refine IdxK.xs (by omega) ?_|refine QB (by omega) ?_|(refine ByteK.at (by omega) ?_)|refine wI ?_|(refine IdxK.at (k:=(a-1).toNat) (by omega) hgl rfl ?_));conv=>whnf)|(apply bD<;>intro _<;>first|omega|conv=>whnf)|(apply bE<;>intro _<;>first|omega|conv=>whnf)|(apply bN<;>intro _<;>conv=>whnf)|(apply bB<;>intro _<;>conv=>whnf)|(refine CallK.heap [(1000,0),(1001,2),(2001,3),(2002,4),(2003,5),(2004,6),(2500,2500)] 0 (by repeat' (first|exact ArgsH.nil|refine ArgsH.cons ?_ ?_|exact LSub.refl _|exact LSub.p Sub.nils|exact LSub.p (Sub.tt rfl)|exact LSub.p (Sub.ff rfl)|exact LSub.p (Sub.int (by omega)))) (by refine BlksH.cons (j:=0) rfl rfl ?_ ?_;exact CSub.refl _;refine BlksH.cons (j:=2) rfl rfl ?_ ?_;exact CSub.refl _;refine BlksH.cons (j:=3) rfl rfl ?_ ?_;exact CSub.refl _;refine BlksH.cons (j:=4) rfl rfl ?_ ?_;exact CSub.refl _;refine BlksH.cons (j:=5) rfl rfl ?_ ?_;exact CSub.refl _;refine BlksH.cons (j:=6) rfl rfl ?_ ?_;exact CSub.refl _;refine BlksH.cons (j:=2500) rfl rfl ?_ ?_;exact CSub.refl _;exact BlksH.nil) hcall rfl rfl ?_;rintro l' H' ⟨bs',vs',rfl,rfl,hb'⟩;conv=>whnf))
   all_goals first
    | (exfalso;omega)
    | exact hK ⟨.next a' M',gv,0,bs',vs',it⟩ _ rfl (by assumption) (Le.of_eq rfl)
    | exact hK ⟨.next a' M',gv,0,bs',vs',it⟩ _ rfl (by assumption) (UN (RIx.st p tape watch fuel ⟨.next a' M',gv,0,bs',vs',it⟩).sl [_])
  ·rw [if_neg h0] at hK;conv=>whnf
   repeat' (first|((first|(refine iM fun _=>?_)|refine dA ?_|refine And.intro rfl ?_|refine aD ?_|refine aR ?_|refine bP ?_|(refine iA fun _=>?_)|refine IdxK.xs (by omega) ?_|refine QB (by omega) ?_|(refine ByteK.at (by omega) ?_)|refine wI ?_|(refine IdxK.at (k:=(a-1).toNat) (by omega) hgl rfl ?_));conv=>whnf)|(apply bD<;>intro _<;>first|omega|conv=>whnf)|(apply bE<;>intro _<;>first|omega|conv=>whnf)|(apply bN<;>intro _<;>conv=>whnf)|(apply bB<;>intro _<;>conv=>whnf)|(refine CallK.heap [(1000,0),(1001,2),(2001,3),(2002,4),(2003,5),(2004,6),(2500,2500)] 0 (by repeat' (first|exact ArgsH.nil|refine ArgsH.cons ?_ ?_|exact LSub.refl _|exact LSub.p Sub.nils|exact LSub.p (Sub.tt rfl)|exact LSub.p (Sub.ff rfl)|exact LSub.p (Sub.int (by omega)))) (by refine BlksH.cons (j:=0) rfl rfl ?_ ?_;exact CSub.refl _;refine BlksH.cons (j:=2) rfl rfl ?_ ?_;exact CSub.refl _;refine BlksH.cons (j:=3) rfl rfl ?_ ?_;exact CSub.refl _;refine BlksH.cons (j:=4) rfl rfl ?_ ?_;exact CSub.refl _;refine BlksH.cons (j:=5) rfl rfl ?_ ?_;exact CSub.refl _;refine BlksH.cons (j:=6) rfl rfl ?_ ?_;exact CSub.refl _;refine BlksH.cons (j:=2500) rfl rfl ?_ ?_;exact CSub.refl _;exact BlksH.nil) hcall rfl rfl ?_;rintro l' H' ⟨bs',vs',rfl,rfl,hb'⟩;conv=>whnf))
   all_goals first
    | (exfalso;omega)
    | exact hK ⟨.fin M',gv,a',bs',vs',it⟩ _ rfl trivial (Le.of_eq rfl)
    | exact hK ⟨.fin M',gv,a',bs',vs',it⟩ _ rfl trivial (UN (RIx.st p tape watch fuel ⟨.fin M',gv,a',bs',vs',it⟩).sl [_])
 rw [if_neg h4] at hK;by_cases h9:it.s.kind=9
 ·rw [if_pos h9] at hK;have hret:=MG p tape watch bs vs (ZY M) st (XL (ZY M)) hst1 hOk1 htr1 it.s;have hml:(x2v watch (ZY M) (XL (ZY M)) it.s).2.fin=0->(x2v watch (ZY M) (XL (ZY M)) it.s).2.mem=(ZY M).mem:=fun _=>by
   unfold x2v;cases it.s.has with
   | false=>exact q8b
   | true=>cases hw:(QS (ZY M) (XL (ZY M)) it.s.x).2 with
     | false=>rfl
     | true=>exact q8b
  generalize hr:x2v watch (ZY M) (XL (ZY M)) it.s=r at *
  obtain ⟨gv',M'⟩:=r;unfold q6a at hK;simp only at hK hret hml;by_cases h0:M'.fin=0
  ·rw [if_pos h0] at hK;have hb':bs.length=M'.mem.length:=by rw [hml h0];exact hb
   conv=>whnf
   repeat' (first|((first|(refine iM fun _=>?_)|refine dA ?_|refine And.intro rfl ?_|refine aD ?_|refine aR ?_|refine bP ?_|(refine iA fun _=>?_)|refine IdxK.xs (by omega) ?_|refine QB (by omega) ?_|(refine ByteK.at (by omega) ?_)|refine wI ?_|(refine IdxK.at (k:=(a-1).toNat) (by omega) hgl rfl ?_));conv=>whnf)|(apply bD<;>intro _<;>first|omega|conv=>whnf)|(apply bE<;>intro _<;>first|omega|conv=>whnf)|(apply bN<;>intro _<;>conv=>whnf)|(apply bB<;>intro _<;>conv=>whnf)|(refine CallK.heap [(1000,0),(1001,2),(2001,3),(2002,4),(2003,5),(2004,6),(2500,2500)] 0 (by repeat' (first|exact ArgsH.nil|refine ArgsH.cons ?_ ?_|exact LSub.refl _|exact LSub.p Sub.nils|exact LSub.p (Sub.tt rfl)|exact LSub.p (Sub.ff rfl)|exact LSub.p (Sub.int (by omega)))) (by refine BlksH.cons (j:=0) rfl rfl ?_ ?_;exact CSub.refl _;refine BlksH.cons (j:=2) rfl rfl ?_ ?_;exact CSub.refl _;refine BlksH.cons (j:=3) rfl rfl ?_ ?_;exact CSub.refl _;refine BlksH.cons (j:=4) rfl rfl ?_ ?_;exact CSub.refl _;refine BlksH.cons (j:=5) rfl rfl ?_ ?_;exact CSub.refl _;refine BlksH.cons (j:=6) rfl rfl ?_ ?_;exact CSub.refl _;refine BlksH.cons (j:=2500) rfl rfl ?_ ?_;exact CSub.refl _;exact BlksH.nil) hret rfl rfl ?_;rintro l' H' ⟨vs',rfl,rfl⟩;conv=>whnf))
   all_goals first
    | (exfalso;omega)
    | exact hK ⟨.back gv' M',0,a,bs,vs',it⟩ _ rfl hb' (Le.of_eq rfl)
    | exact hK ⟨.back gv' M',0,a,bs,vs',it⟩ _ rfl hb' (UN (RIx.st p tape watch fuel ⟨.back gv' M',0,a,bs,vs',it⟩).sl [_])
  ·rw [if_neg h0] at hK;conv=>whnf
   repeat' (first|((first|(refine iM fun _=>?_)|refine dA ?_|refine And.intro rfl ?_|refine aD ?_|refine aR ?_|refine bP ?_|(refine iA fun _=>?_)|refine IdxK.xs (by omega) ?_|refine QB (by omega) ?_|(refine ByteK.at (by omega) ?_)|refine wI ?_|(refine IdxK.at (k:=(a-1).toNat) (by omega) hgl rfl ?_));conv=>whnf)|(apply bD<;>intro _<;>first|omega|conv=>whnf)|(apply bE<;>intro _<;>first|omega|conv=>whnf)|(apply bN<;>intro _<;>conv=>whnf)|(apply bB<;>intro _<;>conv=>whnf)|(refine CallK.heap [(1000,0),(1001,2),(2001,3),(2002,4),(2003,5),(2004,6),(2500,2500)] 0 (by repeat' (first|exact ArgsH.nil|refine ArgsH.cons ?_ ?_|exact LSub.refl _|exact LSub.p Sub.nils|exact LSub.p (Sub.tt rfl)|exact LSub.p (Sub.ff rfl)|exact LSub.p (Sub.int (by omega)))) (by refine BlksH.cons (j:=0) rfl rfl ?_ ?_;exact CSub.refl _;refine BlksH.cons (j:=2) rfl rfl ?_ ?_;exact CSub.refl _;refine BlksH.cons (j:=3) rfl rfl ?_ ?_;exact CSub.refl _;refine BlksH.cons (j:=4) rfl rfl ?_ ?_;exact CSub.refl _;refine BlksH.cons (j:=5) rfl rfl ?_ ?_;exact CSub.refl _;refine BlksH.cons (j:=6) rfl rfl ?_ ?_;exact CSub.refl _;refine BlksH.cons (j:=2500) rfl rfl ?_ ?_;exact CSub.refl _;exact BlksH.nil) hret rfl rfl ?_;rintro l' H' ⟨vs',rfl,rfl⟩;conv=>whnf))
   all_goals first
    | (exfalso;omega)
    | exact hK ⟨.fin M',gv',a,bs,vs',it⟩ _ rfl trivial (Le.of_eq rfl)
    | exact hK ⟨.fin M',gv',a,bs,vs',it⟩ _ rfl trivial (UN (RIx.st p tape watch fuel ⟨.fin M',gv',a,bs,vs',it⟩).sl [_])
 rw [if_neg h9] at hK;have hpA:=q0s hk1;rw [hpA] at hK;have hDo:DoOk p (XL (ZY M)) g it:=⟨fun h7=>by
   have hl:=(DA hc hk1).1 it hi1 h7;exact ⟨hl.1,by omega,_,List.getElem?_eq_getElem (by omega)⟩,⟨_,DX _ _ _ _ _ _ it hi1,hk1⟩,fun h12=>by
   have hO:=z1q hc hk1 ht;have hn:=z4c (hO.name (by omega));exact (x1r hc hG1 hk1 ht (w6p (by omega) (by simpa using hn))).1⟩
 have hdo:=q6d p (by omega) tape watch htp bs vs (ZY M) st (XL (ZY M)) hst1 hOk1 htr1 hou1 hr0 (by show M.reads<=_;omega) g it hDo;have hml:(doM p tape watch (ZY M) (XL (ZY M)) g it).2.mem.length=(ZY M).mem.length:=v1g;generalize hr:doM p tape watch (ZY M) (XL (ZY M)) g it=r at *
 obtain ⟨a',M'⟩:=r;unfold z5j at hK;simp only at hK hdo hml;by_cases h0:M'.fin=0
 ·rw [if_pos h0] at hK;have hb':bs.length=M'.mem.length:=by rw [hml];exact hb
  conv=>whnf
  repeat' (first|((first|(refine iM fun _=>?_)|refine dA ?_|refine And.intro rfl ?_|refine aD ?_|refine aR ?_|refine bP ?_|(refine iA fun _=>?_)|refine IdxK.xs (by omega) ?_|refine QB (by omega) ?_|(refine ByteK.at (by omega) ?_)|refine wI ?_|(refine IdxK.at (k:=(a-1).toNat) (by omega) hgl rfl ?_));conv=>whnf)|(apply bD<;>intro _<;>first|omega|conv=>whnf)|(apply bE<;>intro _<;>first|omega|conv=>whnf)|(apply bN<;>intro _<;>conv=>whnf)|(apply bB<;>intro _<;>conv=>whnf)|(refine CallK.heap [(1000,0),(1001,2),(2001,3),(2002,4),(2003,5),(2004,6),(2500,2500)] 0 (by repeat' (first|exact ArgsH.nil|refine ArgsH.cons ?_ ?_|exact LSub.refl _|exact LSub.p Sub.nils|exact LSub.p (Sub.tt rfl)|exact LSub.p (Sub.ff rfl)|exact LSub.p (Sub.int (by omega)))) (by refine BlksH.cons (j:=0) rfl rfl ?_ ?_;exact CSub.refl _;refine BlksH.cons (j:=2) rfl rfl ?_ ?_;exact CSub.refl _;refine BlksH.cons (j:=3) rfl rfl ?_ ?_;exact CSub.refl _;refine BlksH.cons (j:=4) rfl rfl ?_ ?_;exact CSub.refl _;refine BlksH.cons (j:=5) rfl rfl ?_ ?_;exact CSub.refl _;refine BlksH.cons (j:=6) rfl rfl ?_ ?_;exact CSub.refl _;refine BlksH.cons (j:=2500) rfl rfl ?_ ?_;exact CSub.refl _;exact BlksH.nil) hdo rfl rfl ?_;rintro l' H' ⟨vs',rfl,rfl⟩;conv=>whnf))
  all_goals first
   | (exfalso;omega)
   | exact hK ⟨.next a' M',gv,0,bs,vs',it⟩ _ rfl hb' (Le.of_eq rfl)
   | exact hK ⟨.next a' M',gv,0,bs,vs',it⟩ _ rfl hb' (UN (RIx.st p tape watch fuel ⟨.next a' M',gv,0,bs,vs',it⟩).sl [_])
 ·rw [if_neg h0] at hK;conv=>whnf
  repeat' (first|((first|(refine iM fun _=>?_)|refine dA ?_|refine And.intro rfl ?_|refine aD ?_|refine aR ?_|refine bP ?_|(refine iA fun _=>?_)|refine IdxK.xs (by omega) ?_|refine QB (by omega) ?_|(refine ByteK.at (by omega) ?_)|refine wI ?_|(refine IdxK.at (k:=(a-1).toNat) (by omega) hgl rfl ?_));conv=>whnf)|(apply bD<;>intro _<;>first|omega|conv=>whnf)|(apply bE<;>intro _<;>first|omega|conv=>whnf)|(apply bN<;>intro _<;>conv=>whnf)|(apply bB<;>intro _<;>conv=>whnf)|(refine CallK.heap [(1000,0),(1001,2),(2001,3),(2002,4),(2003,5),(2004,6),(2500,2500)] 0 (by repeat' (first|exact ArgsH.nil|refine ArgsH.cons ?_ ?_|exact LSub.refl _|exact LSub.p Sub.nils|exact LSub.p (Sub.tt rfl)|exact LSub.p (Sub.ff rfl)|exact LSub.p (Sub.int (by omega)))) (by refine BlksH.cons (j:=0) rfl rfl ?_ ?_;exact CSub.refl _;refine BlksH.cons (j:=2) rfl rfl ?_ ?_;exact CSub.refl _;refine BlksH.cons (j:=3) rfl rfl ?_ ?_;exact CSub.refl _;refine BlksH.cons (j:=4) rfl rfl ?_ ?_;exact CSub.refl _;refine BlksH.cons (j:=5) rfl rfl ?_ ?_;exact CSub.refl _;refine BlksH.cons (j:=6) rfl rfl ?_ ?_;exact CSub.refl _;refine BlksH.cons (j:=2500) rfl rfl ?_ ?_;exact CSub.refl _;exact BlksH.nil) hdo rfl rfl ?_;rintro l' H' ⟨vs',rfl,rfl⟩;conv=>whnf))
  all_goals first
   | (exfalso;omega)
   | exact hK ⟨.fin M',gv,a',bs,vs',it⟩ _ rfl trivial (Le.of_eq rfl)
   | exact hK ⟨.fin M',gv,a',bs,vs',it⟩ _ rfl trivial (UN (RIx.st p tape watch fuel ⟨.fin M',gv,a',bs,vs',it⟩).sl [_])
theorem x0z {p:Pg} (hc:chkB p=true) (tape watch:List Int) {fuel:Int} {c:Cf} (h:PT p fuel c) (hn : ∀ M,c ≠ .fin M):PT p fuel (goC p tape watch fuel c)∧cfμ fuel (goC p tape watch fuel c)<cfμ fuel c:=by
 cases c with
 | fin M=>exact absurd rfl (hn M)
 | back g M =>
   obtain ⟨hG,h0,h1⟩:=h;obtain ⟨st,hst⟩:=hG.top;obtain ⟨_,⟨M',e,_,_⟩|⟨a,M',e,_,hG',hat,hl,hs⟩⟩:=z0w hc hG hst g
   ·show PT p fuel (YT p g M)∧cfμ fuel (YT p g M)<_;rw [e];exact ⟨trivial,succ_pos _⟩
   ·show PT p fuel (YT p g M)∧cfμ fuel (YT p g M)<_;rw [e];refine ⟨⟨by rw [hs];exact hG',by omega,by omega,hat⟩,?_⟩;show 6*(fuel-M'.steps).toNat+2*M'.stack.length+2<6*(fuel-M.steps).toNat+2*M.stack.length+1;rw [hs];omega
 | next a M =>
   obtain ⟨hG,h0,h1,hat⟩:=h;simp only [goC];by_cases ha:a = -1
   ·rw [if_pos ha];exact ⟨⟨hG,h0,h1⟩,by show _+1<_+2;omega⟩
   rw [if_neg ha];by_cases hf:M.steps=fuel
   ·rw [if_pos hf];exact ⟨trivial,succ_pos _⟩
   rw [if_neg hf];rcases hat with h|⟨g,it,hg,_,hit,hi,_⟩
   ·exact absurd h ha
   rw [hit];simp only;have hG1:Good p (ZY M) M.steps:=hG.same rfl (Nat.le_refl _) hG.fin hG.r0 hG.rd hG.tr hG.ou;have key : ∀ (r:Int×Mc),r.2.steps=(ZY M).steps->(r.2.fin=0->Good p r.2 (M.steps+1)∧AtOk p r.1 (XL r.2).proc∧r.2.stack.length<=M.stack.length+1)->PT p fuel (z5j r)∧cfμ fuel (z5j r)<cfμ fuel (.next a M):=fun r hs hr=>by
    have hs:r.2.steps=M.steps+1:=hs;unfold z5j;by_cases h2:r.2.fin=0
    ·rw [if_pos h2];obtain ⟨u1,u2,u3⟩:=hr h2;refine ⟨⟨by rw [hs];exact u1,by omega,by omega,u2⟩,?_⟩;show 6*(fuel-r.2.steps).toNat+2*r.2.stack.length+2<6*(fuel-M.steps).toNat+2*M.stack.length+2;omega
    ·rw [if_neg h2];exact ⟨trivial,succ_pos _⟩
   unfold stI;have hk1:p.procs[(XL (ZY M)).proc]? = some g:=hg;have hi1:it∈itsOf p (XL (ZY M)).proc g:=hi;by_cases h4:it.s.kind=4
   ·rw [if_pos h4];obtain ⟨u1,u2⟩:=w8k hc watch hG1 hk1 hi1 h4 rfl;exact key _ u1 fun hz=>⟨(u2 hz).1,(u2 hz).2.1,Nat.le_of_eq (u2 hz).2.2⟩
   rw [if_neg h4];by_cases h9:it.s.kind=9
   ·rw [if_pos h9];obtain ⟨u1,u2⟩:=z6b watch hG1 it.s rfl;generalize x2v watch (ZY M) (XL (ZY M)) it.s=r at *
    have hs:r.2.steps=M.steps+1:=u1;unfold q6a;by_cases h2:r.2.fin=0
    ·rw [if_pos h2];obtain ⟨v1,v2⟩:=u2 h2;have hl:r.2.stack.length=M.stack.length:=by rw [v2];rfl
     refine ⟨⟨by rw [hs];exact v1,by omega,by omega⟩,?_⟩;show 6*(fuel-r.2.steps).toNat+2*r.2.stack.length+1<6*(fuel-M.steps).toNat+2*M.stack.length+2;omega
    ·rw [if_neg h2];exact ⟨trivial,succ_pos _⟩
   rw [if_neg h9,q0s hk1];obtain ⟨u1,u2⟩:=w7b hc tape watch hG1 hk1 hi1 h4 h9 rfl;refine key _ u1 fun hz=>⟨(u2 hz).1,?_,?_⟩
   ·rw [x5k (u2 hz).2.2];exact (u2 hz).2.1
   ·rw [(u2 hz).2.2];exact Nat.le_succ _
theorem x4m {p:Pg} {M M':Mc} {st:List Fm} {f:Fm} {g a:Int} (h:CloseP p M st f g a M'):M'.stack=st:=by
 cases h<;>rfl
theorem z2f {p:Pg} {M M':Mc} {st:List Fm} {f:Fm} {g a:Int} (h:CloseP p M st f g a M'):M'.mem.length=M.mem.length:=by
 cases h<;>first|rfl|simp [setM,popM]
theorem q7d (p:Pg) (tape watch:List Int) (bs:List Nat) (vs:List Int) (M:Mc) (st:List Fm) (f:Fm) (hs:M.stack=st++[f]) (hM:OkM p bs M) (hfc:f.call<=100000) (gave:Int) (at_:Int) (M':Mc) (hC:CloseP p M st f gave at_ M') :
  SpecH Tryz.prog 114 [.ptr 1000 0,.p (.int .i64 gave)] (mH p tape watch bs vs M) (fun r H=>r = .p (.int .i64 at_)∧H=mH p tape watch bs vs M') :=
 (MO p tape watch bs vs M st f hs hM hfc gave at_ M' hC).post fun l H' ⟨es,he,hl,hH⟩=>⟨mH p tape watch bs vs M',⟨hl,rfl⟩,by
   subst hH;have e:M'.stack=st:=x4m hC;refine Le.cut ?_;show CutH (mHs p tape watch bs vs M' es) (mHs p tape watch bs vs M' (M'.stack.map (fmA bs)));rw [e];exact .same (.same (.cut he (.same (.same (.same (.same .nil))))))⟩
def v1y (bs:List Nat) (M:Mc):St:=⟨[(8,.ptr 1 0),(9,.p (.int .i64 0))],[(5,.own 2 1 (M.out.map (.int .i64))),(6,.own 63 2 (M.trace.map evA)),(2500,.ext (.cells 2 (ZJ bs M.mem))),
 (1,.obj 60 [.p (.int .i64 M.fin),.p (.int .i64 M.steps),.p (.int .i64 M.reads),.hd 5 0 M.out.length,.hd 6 0 M.trace.length])]⟩
def w9a (M:Mc):AV := .agg [.int .i64 M.fin,.int .i64 M.steps,.int .i64 M.reads,QA M.out,.sl (M.trace.map evA)]
def v5r (p:Pg) (tape watch:List Int) (fuel:Int) (r:AV):Prop := ∃ n M,q0x p tape watch fuel n (GF p) = .fin M∧r = .tup [w9a M,.int .i64 0]
theorem z7i (p:Pg) (hc:chkB p=true) (tape watch:List Int) (fuel:Int) (hfu:fuel<=1000000) (g:Int) (bs:List Nat) (vs:List Int) (it0:Item) (at_:Int) (M:Mc) (hG:PT p fuel (.back g M)) (hb:bs.length=M.mem.length) (K:Exit->St->Prop) (hK:Kgo p tape watch fuel (.back g M) K)
  (hR : ∀ (M':Mc),goC p tape watch fuel (.back g M) = .fin M'->K .ret (v1y bs M')) :
  W Tryz.prog tab Tryz.f63.ntmps q5r (z7z 0) K (z2v p tape watch fuel g at_ bs vs M it0):=by
 obtain ⟨hGd,hs0,hs1⟩:=hG;have hOk:=hGd.okM hc hb;obtain ⟨st,hst⟩:=hGd.top;unfold Kgo at hK;simp only [goC] at hK hR;obtain ⟨hfc,⟨M',e,hC,hfin⟩|⟨a,M',e,hC,hG',hat,hl,hs⟩⟩:=z0w hc hGd hst g
 ·have hcl:=q7d p tape watch bs vs M st (XL M) hst hOk hfc g (-1) M' hC;have hR1:=hR M' e;clear hR hK;conv=>whnf
  repeat' (first|((first|(refine iM fun _=>?_)|refine dA ?_|refine And.intro rfl ?_|refine aD ?_|refine aR ?_|refine bP ?_|(refine iA fun _=>?_)|refine IdxK.xs (by omega) ?_|refine QB (by omega) ?_|(refine ByteK.at (by omega) ?_)|refine wI ?_);conv=>whnf)|(apply bD<;>intro _<;>first|omega|conv=>whnf)|(apply bE<;>intro _<;>first|omega|conv=>whnf)|(apply bN<;>intro _<;>conv=>whnf)|(apply bB<;>intro _<;>conv=>whnf)|(refine CallK.heap [(1000,0),(1001,2),(2001,3),(2002,4),(2003,5),(2004,6),(2500,2500)] 0 (by repeat' (first|exact ArgsH.nil|refine ArgsH.cons ?_ ?_|exact LSub.refl _|exact LSub.p Sub.nils|exact LSub.p (Sub.tt rfl)|exact LSub.p (Sub.ff rfl)|exact LSub.p (Sub.int (by omega)))) (by refine BlksH.cons (j:=0) rfl rfl ?_ ?_;exact CSub.refl _;refine BlksH.cons (j:=2) rfl rfl ?_ ?_;exact CSub.refl _;refine BlksH.cons (j:=3) rfl rfl ?_ ?_;exact CSub.refl _;refine BlksH.cons (j:=4) rfl rfl ?_ ?_;exact CSub.refl _;refine BlksH.cons (j:=5) rfl rfl ?_ ?_;exact CSub.refl _;refine BlksH.cons (j:=6) rfl rfl ?_ ?_;exact CSub.refl _;refine BlksH.cons (j:=2500) rfl rfl ?_ ?_;exact CSub.refl _;exact BlksH.nil) hcl rfl rfl ?_;rintro l' H' ⟨rfl,rfl⟩;conv=>whnf))
  all_goals first
   | (exfalso;omega)
   | exact hR1
 ·have hcl:=q7d p tape watch bs vs M st (XL M) hst hOk hfc g a M' hC;have hb':bs.length=M'.mem.length:=by rw [z2f hC];exact hb
  have hfin:=hG'.fin;rw [e] at hK;clear hR;conv=>whnf
  repeat' (first|((first|(refine iM fun _=>?_)|refine dA ?_|refine And.intro rfl ?_|refine aD ?_|refine aR ?_|refine bP ?_|(refine iA fun _=>?_)|refine IdxK.xs (by omega) ?_|refine QB (by omega) ?_|(refine ByteK.at (by omega) ?_)|refine wI ?_);conv=>whnf)|(apply bD<;>intro _<;>first|omega|conv=>whnf)|(apply bE<;>intro _<;>first|omega|conv=>whnf)|(apply bN<;>intro _<;>conv=>whnf)|(apply bB<;>intro _<;>conv=>whnf)|(refine CallK.heap [(1000,0),(1001,2),(2001,3),(2002,4),(2003,5),(2004,6),(2500,2500)] 0 (by repeat' (first|exact ArgsH.nil|refine ArgsH.cons ?_ ?_|exact LSub.refl _|exact LSub.p Sub.nils|exact LSub.p (Sub.tt rfl)|exact LSub.p (Sub.ff rfl)|exact LSub.p (Sub.int (by omega)))) (by refine BlksH.cons (j:=0) rfl rfl ?_ ?_;exact CSub.refl _;refine BlksH.cons (j:=2) rfl rfl ?_ ?_;exact CSub.refl _;refine BlksH.cons (j:=3) rfl rfl ?_ ?_;exact CSub.refl _;refine BlksH.cons (j:=4) rfl rfl ?_ ?_;exact CSub.refl _;refine BlksH.cons (j:=5) rfl rfl ?_ ?_;exact CSub.refl _;refine BlksH.cons (j:=6) rfl rfl ?_ ?_;exact CSub.refl _;refine BlksH.cons (j:=2500) rfl rfl ?_ ?_;exact CSub.refl _;exact BlksH.nil) hcl rfl rfl ?_;rintro l' H' ⟨rfl,rfl⟩;conv=>whnf))
  all_goals first
   | (exfalso;omega)
   | exact hK ⟨.next a M',g,0,bs,vs,it0⟩ _ rfl hb' (Le.of_eq rfl)
   | exact hK ⟨.next a M',g,0,bs,vs,it0⟩ _ rfl hb' (UN (RIx.st p tape watch fuel ⟨.next a M',g,0,bs,vs,it0⟩).sl [_])
theorem w4h (p:Pg) (tape watch:List Int) (fuel gv at_:Int) (bs:List Nat) (vs:List Int) (it0:Item) (M:Mc) (K:Exit->St->Prop) (hR:K .ret (v1y bs M)) :
  W Tryz.prog tab Tryz.f63.ntmps q5r (z7z 2) K (z2v p tape watch fuel gv at_ bs vs M it0):=by
 conv=>whnf
 repeat' (first|((first|(refine iM fun _=>?_)|refine dA ?_|refine And.intro rfl ?_|refine aD ?_|refine aR ?_|refine bP ?_|(refine iA fun _=>?_)|refine IdxK.xs (by omega) ?_|refine QB (by omega) ?_|(refine ByteK.at (by omega) ?_)|refine wI ?_);conv=>whnf)|(apply bD<;>intro _<;>first|omega|conv=>whnf)|(apply bE<;>intro _<;>first|omega|conv=>whnf)|(apply bN<;>intro _<;>conv=>whnf)|(apply bB<;>intro _<;>conv=>whnf))
 all_goals first
  | exact hR
theorem w2e {bs:List Nat} {n:Nat} (h:bs.length=n):VL bs (List.range n)=bs.map cpA:=by
 have:=z1y (bs:=[]) (nb:=bs);rw [List.nil_append,length_nil,h,<- List.range_eq_range'] at this;exact this
theorem z9a {bs:List Nat} {n:Nat} (h:bs.length=n):ZJ bs (List.replicate n 0)=bs.map fun b=>(b,.int .i64 0):=by
 have:=x2c (bs:=[]) (mem:=[]) (nb:=bs) rfl;rw [h] at this;exact this
def v5f:Item:=⟨⟨0,0,[],[],[],⟨0,0,[],[]⟩,false,[],[],[]⟩,0,0,0,0⟩
def Mz:Mc:=⟨[],[],0,0,0,[],[]⟩
theorem v6r:Sub (.agg [.int .i64 0,.int .i64 0,.int .i64 0,.nils,.nils]) (w9a Mz) :=
 Sub.agg (.cons (Sub.refl _) (.cons (Sub.refl _) (.cons (Sub.refl _) (.cons Sub.nils (.cons Sub.nils .nil)))))
theorem v6j {H:Heap} {k:Int} {R:AV->Prop} (hR:R (.tup [w9a Mz,.int .i64 k])):RetK H (.p (.tup [.agg [.int .i64 0,.int .i64 0,.int .i64 0,.nils,.nils],.int .i64 k])) R :=
 ⟨_,.p (Sub.tup (.cons v6r (.cons (Sub.refl _) .nil))),hR⟩
theorem w6f {H:Heap} {M:Mc} {R:AV->Prop} {e5 e6:TypeId} (h5:getH H 5=some (.own e5 1 (M.out.map (.int .i64)))) (h6:getH H 6=some (.own e6 2 (M.trace.map evA))) (hR:R (.tup [w9a M,.int .i64 0])) :
  RetK H (.tup [.agg [.p (.int .i64 M.fin),.p (.int .i64 M.steps),.p (.int .i64 M.reads),.hd 5 0 M.out.length,.hd 6 0 M.trace.length],.p (.int .i64 0)]) R :=
 ⟨_,.tup (cs:=[w9a M,.int .i64 0]) rfl (fun j l c hj hc=>by
   match j,hj,hc with
   | 0,hj,hc =>
     cases hj;cases hc;refine .agg rfl fun j l c hj hc => ?_
     match j,hj,hc with
     | 0,hj,hc=>cases hj;cases hc;exact .p (Sub.refl _)
     | 1,hj,hc=>cases hj;cases hc;exact .p (Sub.refl _)
     | 2,hj,hc=>cases hj;cases hc;exact .p (Sub.refl _)
     | 3,hj,hc=>cases hj;cases hc;exact .hd h5 (by rw [length_map])
     | 4,hj,hc=>cases hj;cases hc;exact .hd h6 (by rw [length_map])
     | j+5,hj,_=>cases hj
   | 1,hj,hc=>cases hj;cases hc;exact .p (Sub.refl _)
   | j+2,hj,_=>cases hj),hR⟩
def gSt (p:Pg) (tape watch:List Int) (fuel:Int) (j:Nat) (bs:List Nat):St:=⟨[(2,.p (.int .i64 fuel)),(8,.ptr 1 0),(10,.ptr 0 0),(34,.p (.int .i64 (p.globals.map AV.str).length)),(35,.p (.int .i64 j))],
 [(2500,.ext (.cells 2 (bs.map fun b=>(b,.int .i64 0)))),(0,.obj 163 [.p (.ip (sheetOf p).cells),.hd 2 0 j,.p (QA tape),.p (QA watch),.hd 3 0 0,.hd 4 0 0,.p (.int .i64 0),.p (.int .i64 0),.p (.int .i64 0),.hd 5 0 0,.hd 6 0 0]),(2,.own 164 1 (bs.map cpA)),(3,.own 218 1 []),(4,.own 2 1 []),(5,.own 2 1 []),(6,.own 63 2 []),(1,rO)]⟩
structure GIx where
 j:Nat
 bs:List Nat
theorem v1i (p:Pg) (hf:Fit p) (tape watch:List Int) (htp:tape.length<=10000000) (fuel:Int):SpecP Tryz.prog 63 [.agg p.cells,QA tape,.int .i64 fuel,QA watch] (fun r=>(chkB p=true∧0<=fuel∧fuel<=1000000->v5r p tape watch fuel r)∧(¬(chkB p=true∧0<=fuel∧fuel<=1000000)->r = .tup [w9a Mz,.int .i64 1])):=by
 refine sB q5r Tryz.func63 rfl Tryz.call63 ?_;conv=>whnf
 have hC:=HL p hf;by_cases hok:chkB p=true∧0<=fuel∧fuel<=1000000
 ·obtain ⟨hc,hf0,hf1⟩:=hok;rw [hc] at hC;obtain ⟨hg,hpl,hcn⟩:=WN hc;have hFl:=YR p (by omega) (by omega);have hPr:=ZV (sheetOf p) mainS;obtain ⟨m1,m2,m3⟩:=q8z hc;have hst0:=z0n hc hf0;rw [show (sheetOf p).p=p from (QU p).1,m1] at hPr;have hmf:=(HQ (QH hc).1).pr _ (List.mem_of_getElem? m2);have hgm:(p.globals.map AV.str).length=p.globals.length:=length_map _;repeat' (first|((first|(refine iM fun _=>?_)|refine dA ?_|refine And.intro rfl ?_|refine aD ?_|refine aR ?_|refine bP ?_|(refine iA fun _=>?_)|refine IdxK.xs (by omega) ?_|refine QB (by omega) ?_|(refine ByteK.at (by omega) ?_)|refine wI ?_);conv=>whnf)|(apply bD<;>intro _<;>first|omega|conv=>whnf)|(apply bE<;>intro _<;>first|omega|conv=>whnf)|(apply bN<;>intro _<;>conv=>whnf)|(apply bB<;>intro _<;>conv=>whnf))
  refine w6n ?_;refine ScopeK.inv QV (c:=w9e) (RIx.st p tape watch fuel) RIx.lab (fun i=>PT p fuel i.c∧i.bok ∧ ∃ n,q0x p tape watch fuel n (GF p)=i.c) (fun i=>cfμ fuel i.c) z7z ?_ ?_ ?_
  ·rintro ⟨c,gv,at_,bs,vs,it⟩ _;cases c<;>rfl
  ·refine (show ∀ (K:Exit->St->Prop),(∀ l s',(∃ i:RIx,i.lab=l∧(PT p fuel i.c∧i.bok ∧ ∃ n,q0x p tape watch fuel n (GF p)=i.c)∧Le Tryz.f63.ntmps s' (i.st p tape watch fuel))->K (.goto l) s')->W Tryz.prog tab Tryz.f63.ntmps q5r w9e K _ from ?_) _ (fun _ _ h=>h);intro K hK;conv=>whnf
   repeat' (first|((first|(refine iM fun _=>?_)|refine dA ?_|refine And.intro rfl ?_|refine aD ?_|refine aR ?_|refine bP ?_|(refine iA fun _=>?_)|refine IdxK.xs (by omega) ?_|refine QB (by omega) ?_|(refine ByteK.at (by omega) ?_)|refine wI ?_|refine cP hC ?_|refine cP hFl ?_);conv=>whnf)|(apply bD<;>intro _<;>first|omega|conv=>whnf)|(apply bE<;>intro _<;>first|omega|conv=>whnf)|(apply bN<;>intro _<;>conv=>whnf)|(apply bB<;>intro _<;>conv=>whnf)|(refine And.intro ?_ ?_<;>conv=>whnf))
   all_goals try (exfalso;omega)
   all_goals try contradiction
   refine LoopK.inv QV (fun i:GIx=>gSt p tape watch fuel i.j i.bs) (fun i=>i.j<=p.globals.length∧i.bs.length=i.j) (fun i=>p.globals.length-i.j) ⟨0,[]⟩ ?_ ⟨zero_le _,rfl⟩ ?_
   ·refine Le.trans (Le.mk (H':=(gSt p tape watch fuel 0 []).H.tail) [(2,.own 164 1 []),(3,.own 218 1 []),(4,.own 2 1 []),(5,.own 2 1 []),(6,.own 63 2 [])] (by intro c hc;simp only [List.mem_cons,List.not_mem_nil,or_false] at hc;rcases hc with rfl|rfl|rfl|rfl|rfl<;>exact ⟨rfl,rfl⟩) (by decide) (by show (List.map _ _).Nodup;simp [gSt]) (sl':=(gSt p tape watch fuel 0 []).sl)
     (.cons (.refl _) (.cons (.refl _) (.cons (.refl _) (.cons (.refl _) (.cons (.refl _) .nil)))))
     (.cons rfl (.obj (.cons (.refl _) (.cons (.nil (.head _)) (.cons (.refl _) (.cons (.refl _) (.cons (.nil (.tail _ (.head _))) (.cons (.nil (.tail _ (.tail _ (.head _)))) (.cons (.refl _) (.cons (.refl _) (.cons (.refl _) (.cons (.nil (.tail _ (.tail _ (.tail _ (.head _))))) (.cons (.nil (.tail _ (.tail _ (.tail _ (.tail _ (.head _)))))) .nil)))))))))))) (.new (by simp) (.new (by simp) (.new (by simp) (.new (by simp) (.new (by simp) (.cons rfl (.refl _) .nil)))))))) (w1v 2500 2 (by rfl) (by decide))
   rintro ⟨j,bs⟩ ⟨h1,h2⟩;simp only at h1 h2 ⊢;have hbl:(bs.map cpA).length=bs.length:=length_map _;rcases Nat.lt_or_ge j p.globals.length with hj|hj
   ·unfold gSt;conv=>whnf
    repeat' (first|((first|(refine iM fun _=>?_)|refine dA ?_|refine And.intro rfl ?_|refine aD ?_|refine aR ?_|refine bP ?_|(refine iA fun _=>?_)|refine IdxK.xs (by omega) ?_|refine QB (by omega) ?_|(refine ByteK.at (by omega) ?_)|refine wI ?_|refine AppK.mk (n:=j) (by omega) rfl (by show (j+1)*8<=140737488355328;omega) (by show j+1<=9223372036854775807;omega) (fun x hx=>by rcases List.mem_singleton.1 hx with rfl;exact ⟨rfl,rfl⟩) ?_);conv=>whnf)|(apply bD<;>intro _<;>first|omega|conv=>whnf)|(apply bE<;>intro _<;>first|omega|conv=>whnf)|(apply bN<;>intro _<;>conv=>whnf)|(apply bB<;>intro _<;>conv=>whnf)|(refine q0v QV 7 2500 ?_;conv=>whnf)|(refine ⟨⟨rfl,rfl⟩,fun b hb => ?_⟩;conv=>whnf))
    all_goals first
     | (exfalso;omega)
     | exact ⟨⟨j+1,bs++[b]⟩,⟨hj,by simp [h2]⟩,by simp only;omega,Le.of_eq (by simp only [List.map_append];rfl)⟩
   ·obtain rfl:j=p.globals.length:=by omega
    have hM0:OkM p bs (M00 p):=⟨by simp [M00,h2],(fun f hf=>by cases hf),by simp [M00],zero_le _,fun f hf=>by cases hf⟩;have hopen:=GD p tape watch bs [] (M00 p) hM0 (zero_le _) (mainN p) (prA p (mainN p)) m2 (x2g hc m2) (by omega) (by omega) [] (zero_le _) (fun v hv=>by cases hv) 0;have hq:mHq p tape watch bs [] (M00 p) (VL bs [])=[(1000,.obj 163 [.p (.ip (sheetOf p).cells),.hd 1001 0 p.globals.length,.p (QA tape),.p (QA watch),.hd 2001 0 0,.hd 2002 0 0,.p (.int .i64 0),.p (.int .i64 0),.p (.int .i64 0),.hd 2003 0 0,.hd 2004 0 0]),(1001,.own 164 1 (bs.map cpA)),(2001,.own 218 1 []),(2002,.own 2 1 []),
      (2003,.own 2 1 []),(2004,.own 63 2 []),(2500,.ext (.cells 2 (bs.map fun b=>(b,.int .i64 0)))),(2005,.own 164 1 [])]:=by
     unfold mHq mH mO M00;simp only;rw [w2e h2,z9a h2];rfl
    rw [hq] at hopen;unfold gSt;conv=>whnf
    repeat' (first|((first|(refine iM fun _=>?_)|refine dA ?_|refine And.intro rfl ?_|refine aD ?_|refine aR ?_|refine bP ?_|(refine iA fun _=>?_)|refine IdxK.xs (by omega) ?_|refine QB (by omega) ?_|(refine ByteK.at (by omega) ?_)|refine wI ?_|refine cP hPr ?_);conv=>whnf)|(apply bD<;>intro _<;>first|omega|conv=>whnf)|(apply bE<;>intro _<;>first|omega|conv=>whnf)|(apply bN<;>intro _<;>conv=>whnf)|(apply bB<;>intro _<;>conv=>whnf))
    all_goals try (exfalso;omega)
    refine CallK.le ?_;refine CallK.nil 8 164 1 rfl (.cons rfl (.cons rfl (.row (.cons rfl .nil)))) ?_;refine CallK.heap [(1000,0),(1001,2),(2001,3),(2002,4),(2003,5),(2004,6),(2500,2500),(2005,8)] 0 (ArgsH.cons (LSub.refl _) (ArgsH.cons (LSub.refl _) (ArgsH.cons (LSub.refl _) (ArgsH.cons (LSub.refl _) ArgsH.nil)))) (by refine BlksH.cons (j:=0) rfl rfl ?_ ?_;exact CSub.refl _;refine BlksH.cons (j:=2) rfl rfl ?_ ?_;exact CSub.refl _;refine BlksH.cons (j:=3) rfl rfl ?_ ?_;exact CSub.refl _;refine BlksH.cons (j:=4) rfl rfl ?_ ?_;exact CSub.refl _;refine BlksH.cons (j:=5) rfl rfl ?_ ?_;exact CSub.refl _;refine BlksH.cons (j:=6) rfl rfl ?_ ?_;exact CSub.refl _;refine BlksH.cons (j:=2500) rfl rfl ?_ ?_;exact CSub.refl _;refine BlksH.cons (j:=8) rfl rfl ?_ ?_;exact CSub.refl _;exact BlksH.nil) hopen rfl rfl ?_;rintro l' H' ⟨nb,rfl,rfl,hnb⟩;conv=>whnf
    have hbl2:(bs++nb).length=(JE p (mainN p) (prA p (mainN p)) [] 0 (M00 p)).mem.length:=by
     unfold JE M00;simp only [length_append,List.length_replicate];omega
    refine ⟨⟨[(2,.p (.int .i64 fuel)),(8,.ptr 1 0),(10,.ptr 0 0),(11,.ptr 7 0),(12,.p (.int .i64 0)),(54,.p (.int .i64 (q1y p (mainN p) (prA p (mainN p)))))],rH p tape watch (bs++nb) [] (JE p (mainN p) (prA p (mainN p)) [] 0 (M00 p)) v5f⟩,?_,?_⟩
    ·have hp:=x4e p hc tape watch htp fuel hf1 0 (bs++nb) [] v5f _ _ hst0 hbl2 K (fun i s' h1 h2 h3=>hK i.lab s' ⟨i,rfl,⟨h1▸(x0z hc tape watch hst0 (fun _ h=>by cases h)).1,h2,1,h1.symm⟩,h3⟩);conv=>whnf
     conv at hp=>whnf
     exact hp
    ·exact Le.mk [] (by simp) (by simp) (by show (List.map _ _).Nodup;simp [rH]) (.cons (.refl _) (.cons (.refl _) (.cons (.refl _) (.cons (.refl _) (.cons (.refl _) (.cons (.refl _) .nil))))))
      (.cons rfl (.refl _) (.cons rfl (.refl _) (.cons rfl (.refl _) (.cons rfl (.refl _) (.cons rfl (.refl _) (.cons rfl (.refl _) (.cons rfl (.refl _) (.cons rfl (.refl _) (.cons rfl (.obj (.cons (.refl _) (.cons (.refl _) (.cons (.p Sub.nils) (.cons (.refl _) (.cons (.refl _) (.cons (.refl _) (.cons (.refl _) (.cons (.refl _) (.cons (.p Sub.nils) (.cons (.p (Sub.ff rfl)) (.cons (.p Sub.nils) (.cons (.p Sub.nils) (.cons (.p Sub.nils) (.cons (.refl _) (.cons (.refl _) (.cons (.refl _) (.cons (.refl _) .nil)))))))))))))))))) .nil)))))))))
  ·rintro ⟨c,gv,at_,bs,vs,it⟩ ⟨hG,hb,n,hn⟩;have hgo:=x0z hc tape watch (p:=p) (fuel:=fuel) (c:=c) hG;cases c with
   | next a M =>
     refine x4e p hc tape watch htp fuel hf1 gv bs vs it a M hG hb _ fun i s' h1 h2 h3 => ?_;obtain ⟨u1,u2⟩:=hgo (fun _ h=>by cases h);exact ⟨i,rfl,⟨h1▸u1,h2,n+1,by rw [KQ,hn,h1]⟩,h1▸u2,h3⟩
   | back g M =>
     refine z7i p hc tape watch fuel hf1 g bs vs it at_ M hG hb _ (fun i s' h1 h2 h3 => ?_) fun M' h1 => ?_
     ·obtain ⟨u1,u2⟩:=hgo (fun _ h=>by cases h);exact ⟨i,rfl,⟨h1▸u1,h2,n+1,by rw [KQ,hn,h1]⟩,h1▸u2,h3⟩
     ·exact w6f rfl rfl ⟨fun _=>⟨n+1,M',by rw [KQ,hn,h1],rfl⟩,fun h=>absurd ⟨hc,hf0,hf1⟩ h⟩
   | fin M =>
     refine w4h p tape watch fuel gv at_ bs vs it M _ ?_;exact w6f rfl rfl ⟨fun _=>⟨n,M,hn,rfl⟩,fun h=>absurd ⟨hc,hf0,hf1⟩ h⟩
 ·skip
  repeat' (first|((first|(refine iM fun _=>?_)|refine dA ?_|refine And.intro rfl ?_|refine aD ?_|refine aR ?_|refine bP ?_|(refine iA fun _=>?_)|refine IdxK.xs (by omega) ?_|refine QB (by omega) ?_|(refine ByteK.at (by omega) ?_)|refine wI ?_);conv=>whnf)|(apply bD<;>intro _<;>first|omega|conv=>whnf)|(apply bE<;>intro _<;>first|omega|conv=>whnf)|(apply bN<;>intro _<;>conv=>whnf)|(apply bB<;>intro _<;>conv=>whnf))
  refine w6n ?_;refine ScopeK.inv QV (c:=w9e) (fun i:Nat=>⟨[],[]⟩) (fun i=>0) (fun _=>False) (fun i=>0) z7z (fun _ h=>h.elim) ?_ (fun _ h=>h.elim);cases hc:chkB p;all_goals
   rw [hc] at hC hok;conv=>whnf
   repeat' (first|((first|(refine iM fun _=>?_)|refine dA ?_|refine And.intro rfl ?_|refine aD ?_|refine aR ?_|refine bP ?_|(refine iA fun _=>?_)|refine IdxK.xs (by omega) ?_|refine QB (by omega) ?_|(refine ByteK.at (by omega) ?_)|refine wI ?_|refine cP hC ?_);conv=>whnf)|(apply bD<;>intro _<;>first|omega|conv=>whnf)|(apply bE<;>intro _<;>first|omega|conv=>whnf)|(apply bN<;>intro _<;>conv=>whnf)|(apply bB<;>intro _<;>conv=>whnf))
   all_goals first
    | contradiction
    | exact v6j ⟨fun h=>absurd h hok,fun _=>rfl⟩
    | exact absurd ⟨rfl,by omega,by omega⟩ hok
theorem v0d {b:Bool} {s:S} (h:okC s∧s.id ≠ -1):okC (onS b s)∧(onS b s).id ≠ -1:=by
 have hl : ∀ l:List Str,l.length<=1000000->(if b then l else []).length<=1000000:=fun l hl=>by
  split
  ·exact hl
  ·simp
 rw [DN];split
 ·refine ⟨⟨by show wX (.mk 1 7 [] [])<=20000;rw [wX,wXs];omega,hl _ h.1.2.1,by show ([]:List Arg).length<=1000000;simp,fun a ha=>by cases ha⟩,by show (0:Int) ≠ -1;decide⟩
 ·exact ⟨⟨h.1.1,hl _ h.1.2.1,h.1.2.2.1,h.1.2.2.2⟩,h.2⟩
theorem z6u (b:Bool) (s:S):(onS b s).thn=onL b s.thn∧(onS b s).els=onL b s.els:=by
 rw [DN];split<;>exact ⟨rfl,rfl⟩
mutual
theorem v1f {b:Bool} : ∀ (s:S),(∀ t∈flS s,okC t∧t.id ≠ -1) -> ∀ t∈flS (onS b s),okC t∧t.id ≠ -1
 | .mk id kind labels name proc x has args thn els,h,t,ht=>by
   obtain ⟨h1,h2⟩:=z6u b (.mk id kind labels name proc x has args thn els);rw [q7p,h1,h2] at ht;rcases List.mem_cons.1 ht with rfl|ht
   ·exact v0d (h _ (by rw [flS];exact mem_cons_self))
   ·rcases List.mem_append.1 ht with ht|ht
    ·exact z0z thn (fun u hu=>h u (by rw [flS];exact mem_cons_of_mem _ (List.mem_append.2 (.inl hu)))) t ht
    ·exact z0z els (fun u hu=>h u (by rw [flS];exact mem_cons_of_mem _ (List.mem_append.2 (.inr hu)))) t ht
theorem z0z {b:Bool} : ∀ (l:List S),(∀ t∈flL l,okC t∧t.id ≠ -1) -> ∀ t∈flL (onL b l),okC t∧t.id ≠ -1
 | [],h,t,ht=>by rw [onL,flL] at ht;cases ht
 | s::r,h,t,ht=>by
   rw [onL,flL] at ht;rcases List.mem_append.1 ht with ht|ht
   ·exact v1f s (fun u hu=>h u (by rw [flL];exact List.mem_append.2 (.inl hu))) t ht
   ·exact z0z r (fun u hu=>h u (by rw [flL];exact List.mem_append.2 (.inr hu))) t ht
end
theorem v1m {p:Pg} (hf:Fit p) (hc:chkB p=true):CopyF p:=by
 obtain ⟨h1,h2,h3⟩:=w8l hf hc;have hcn:=(WN hc).2.2;refine ⟨h1,h2,fun f hf' => ?_⟩;obtain ⟨a1,a2,a3,_,a5⟩:=h3 f hf';have a4:=FM _ _ hf';obtain ⟨j,hj,hje⟩:=List.mem_iff_getElem.1 hf';have hj':p.procs[j]? = some f:=by rw [List.getElem?_eq_getElem hj,hje]
 exact ⟨a1,a2,a3,by omega,fun t ht=>⟨a5 t ht,by have:=(VD (QH hc).1 hj' ht).1;omega⟩⟩
theorem z6s {p:Pg} {b:Bool} (hf:Fit p) (hc:chkB p=true) {f:Pr} (hm:p.procs.filter (fun f=>f.name==mainS)=[f]):CopyF (onlyRaw b p)∧cntP (onlyRaw b p).procs<=100000:=by
 have hC:=v1m hf hc;have hmem:f∈p.procs:=(List.mem_filter.1 (by rw [hm];exact mem_cons_self)).1;obtain ⟨a1,a2,a3,a4,a5⟩:=hC.pr f hmem;have e:onlyRaw b p=⟨p.globals,[w9r b f]⟩:=by
  unfold onlyRaw;rw [hm];rfl
 rw [e];refine ⟨⟨by simp,hC.globals,fun g hg => ?_⟩,?_⟩
 ·rcases List.mem_singleton.1 hg with rfl;refine ⟨a1,?_,a3,?_,z0z f.body a5⟩
  ·show (if b then f.fin else []).length<=1000000;split
   ·exact a2
   ·simp
  ·show cntL (onL b f.body)<=100000;rw [GU];exact a4
 ·show cntL (onL b f.body)+0<=100000;rw [GU];omega
structure OnT (s t:S):Prop where
 labels:t.labels=s.labels
 off:s.kind=4->t.kind=3∧t.name=[]∧t.x = .mk 1 7 [] []∧t.args=[]
 on:s.kind≠4->t.kind=s.kind∧t.name=s.name∧t.x=s.x∧t.args=s.args
theorem LU (s:S) (n:Nat):OnT s (nmS n (onS true s)):=by
 by_cases hk:s.kind=4
 ·have e:=(DN true s).trans (if_pos (.inl hk));rw [e,q7l];exact ⟨rfl,fun _=>⟨rfl,rfl,rfl,rfl⟩,fun h=>absurd hk h⟩
 ·have e:=(DN true s).trans (if_neg (fun h=>h.elim hk fun h=>by cases h.2));rw [e,q7l];exact ⟨rfl,fun h=>absurd h hk,fun _=>⟨rfl,rfl,rfl,rfl⟩⟩
theorem OnT.nocall {s t:S} (h:OnT s t):t.kind≠4:=by
 by_cases hk:s.kind=4
 ·have:=(h.off hk).1;omega
 ·have:=(h.on hk).1;omega
theorem OnT.k6 {s t:S} (h:OnT s t):t.kind=6↔s.kind=6:=by
 by_cases hk:s.kind=4
 ·have:=(h.off hk).1;omega
 ·have:=(h.on hk).1;omega
theorem q3l (s:S) (n:Nat):(nmS n (onS true s)).thn=nmL (n+1) (onL true s.thn)∧(nmS n (onS true s)).els=nmL (n+1+cntL s.thn) (onL true s.els)∧(nmS n (onS true s)).id=((n+1:Nat):Int):=by
 obtain ⟨h1,h2⟩:=z6u true s;rw [q7l,h1,h2,GU];exact ⟨rfl,rfl,rfl⟩
mutual
theorem v1z : ∀ (s:S) (k n m:Nat) (pr pr' up up' nx nx' lp lp':Int),(lp'=0↔lp=0) -> ∀ it'∈itS pr' up' nx' lp' m (nmS k (onS true s)),∃ it∈itS pr up nx lp n s,OnT it.s it'.s∧(it'.loop=0↔it.loop=0)
 | .mk id kind labels name proc x has args thn els,k,n,m,pr,pr',up,up',nx,nx',lp,lp',hl,it',h=>by
   obtain ⟨h1,h2,_⟩:=q3l (.mk id kind labels name proc x has args thn els) k;have hO:=LU (.mk id kind labels name proc x has args thn els) k;have h6:=hO.k6;have hlp:(if (nmS k (onS true (.mk id kind labels name proc x has args thn els))).kind=6 then (m:Int)+1 else lp')=0↔(if kind=6 then (n:Int)+1 else lp)=0:=by
    have h6:_↔kind=6:=h6;by_cases hk:kind=6
    ·rw [if_pos hk,if_pos (h6.2 hk)];omega
    ·rw [if_neg hk,if_neg (fun h=>hk (h6.1 h))];exact hl
   rw [z8h,h1,h2] at h;rw [itS];rcases List.mem_cons.1 h with rfl|h
   ·exact ⟨_,mem_cons_self,hO,hl⟩
   ·rcases List.mem_append.1 h with h|h
    ·obtain ⟨it,a,b⟩:=x3j thn _ (n+1) _ pr _ (n+1) _ (if kind=6 then n+1 else nx) _ _ _ hlp it' h;exact ⟨it,mem_cons_of_mem _ (List.mem_append.2 (.inl a)),b⟩
    ·obtain ⟨it,a,b⟩:=x3j els _ (n+1+cntL thn) _ pr _ (n+1) _ (if kind=6 then n+1 else nx) _ _ _ hlp it' h;exact ⟨it,mem_cons_of_mem _ (List.mem_append.2 (.inr a)),b⟩
theorem x3j : ∀ (l:List S) (k n m:Nat) (pr pr' up up' nx nx' lp lp':Int),(lp'=0↔lp=0) -> ∀ it'∈itL pr' up' nx' lp' m (nmL k (onL true l)),∃ it∈itL pr up nx lp n l,OnT it.s it'.s∧(it'.loop=0↔it.loop=0)
 | [],k,n,m,pr,pr',up,up',nx,nx',lp,lp',hl,it',h=>by rw [onL,nmL,itL] at h;cases h
 | s::r,k,n,m,pr,pr',up,up',nx,nx',lp,lp',hl,it',h=>by
   rw [onL,nmL,itL] at h;rw [itL];rcases List.mem_append.1 h with h|h
   ·obtain ⟨it,a,b⟩:=v1z s k n m pr pr' up up' (if r.isEmpty then nx else n+1+XB s) _ lp lp' hl it' h;exact ⟨it,List.mem_append.2 (.inl a),b⟩
   ·obtain ⟨it,a,b⟩:=x3j r _ (n+XB s) _ pr pr' up up' nx nx' lp lp' hl it' h;exact ⟨it,List.mem_append.2 (.inr a),b⟩
end
mutual
theorem w6i : ∀ (s:S) (k:Nat),(flS (nmS k (onS true s))).map S.labels=(flS s).map S.labels
 | .mk id kind labels name proc x has args thn els,k=>by
   obtain ⟨h1,h2,_⟩:=q3l (.mk id kind labels name proc x has args thn els) k;have hO:=(LU (.mk id kind labels name proc x has args thn els) k).labels;have h1:_=nmL (k+1) (onL true thn):=h1;have h2:_=nmL (k+1+cntL thn) (onL true els):=h2;rw [q7p,h1,h2,flS,map_cons,map_cons,List.map_append,List.map_append,x1g thn,x1g els,hO]
theorem x1g : ∀ (l:List S) (k:Nat),(flL (nmL k (onL true l))).map S.labels=(flL l).map S.labels
 | [],k=>by rw [onL,nmL]
 | s::r,k=>by rw [onL,nmL,flL,flL,List.map_append,List.map_append,w6i s,x1g r]
end
theorem z5r {f:Pr} {l:Str}:(atB f l).2=true↔l∈x6r f:=by
 unfold atB x6r;rw [List.mem_append,List.mem_flatMap];cases h:(flL f.body).find? fun t=>t.labels.any fun s=>l==s with
 | some t =>
   refine ⟨fun _ => .inl ⟨t,List.mem_of_find?_eq_some h,?_⟩,fun _=>rfl⟩;exact x0r.1 (List.find?_some (p:=fun t:S=>t.labels.any fun s=>l==s) h)
 | none =>
   have hno : ¬∃ t,t∈flL f.body∧l∈t.labels:=fun ⟨t,h1,h2⟩=>by
    have:=List.find?_eq_none.1 h t h1;exact this (x0r.2 h2)
   simp only [hno,false_or];cases hc:f.fin.any fun s=>l==s with
   | true=>exact ⟨fun _=>x0r.1 hc,fun _=>rfl⟩
   | false =>
     refine ⟨fun h=>(by cases h),fun h => ?_⟩;rw [x0r.2 h] at hc;cases hc
theorem z3d {s:S} (h:oneOk s=true) (n:Nat):ZH (nmS n (onS true s))=true:=by
 have hF:=q4w h;obtain ⟨h1,h2,_⟩:=q3l s n;by_cases hk:s.kind=4
 ·have ht:s.thn=[]:=List.eq_nil_of_length_eq_zero (by rcases hF.thn with h|h|h<;>omega);have he:s.els=[]:=List.eq_nil_of_length_eq_zero (by rcases hF.els with h|h<;>omega);have e:=(DN true s).trans (if_pos (.inl hk));rw [e,q7l,ht,he];rfl
 ·have hf:ZH s=true:=by
   unfold oneOk at h;exact (Bool.and_eq_true_iff.1 h).1
  have e:=(DN true s).trans (if_neg (fun h=>h.elim hk fun h=>by cases h.2));have hl1:(nmS n (onS true s)).thn.length=s.thn.length:=by rw [h1,MD,BB,length_map]
  have hl2:(nmS n (onS true s)).els.length=s.els.length:=by rw [h2,MD,BB,length_map]
  have e2:ZH (nmS n (onS true s))=ZH s:=by
   unfold ZH;rw [hl1,hl2];rw [e,q7l];rfl
  rw [e2,hf]
mutual
theorem w4x : ∀ (s:S) {nest seen m:Int} (n:Nat),x0m nest seen s=some m->n+XB s<=200->x0m nest n (nmS n (onS true s))=some ((n+XB s:Nat):Int)
 | .mk id kind labels name proc x has args thn els,nest,seen,m,n,h,hn=>by
   obtain ⟨h1,_,m1,h3,h4⟩:=FJ h;obtain ⟨e1,e2,e3⟩:=q3l (.mk id kind labels name proc x has args thn els) n;have hc:XB (.mk id kind labels name proc x has args thn els)=1+cntL thn+cntL els:=by rw [XB]
   rw [hc] at hn;have q1:=q2y thn (n+1) h3 (by omega);have q2:=q2y els (n+1+cntL thn) h4 (by omega);have hlb:=(q4w h1).labels;rw [x7q,if_neg (by omega),if_neg (by rw [e3];omega),(LU _ n).labels,hlb,z3d h1,e1,e2];show (bif true then bif true then (match VH (nest+1) ((n:Int)+1) (nmL (n+1) (onL true thn)) with|some m=>VH (nest+1) m (nmL (n+1+cntL thn) (onL true els))|none=>none) else none else none)=_;rw [show ((n:Int)+1)=((n+1:Nat):Int) by omega,q1];show VH (nest+1) ((n+1+cntL thn:Nat):Int) _=_;rw [q2,hc];congr 2;omega
theorem q2y : ∀ (l:List S) {nest seen m:Int} (n:Nat),VH nest seen l=some m->n+cntL l<=200->VH nest n (nmL n (onL true l))=some ((n+cntL l:Nat):Int)
 | [],nest,seen,m,n,h,hn=>by rw [onL,nmL,VH,cntL];rfl
 | s::r,nest,seen,m,n,h,hn=>by
   obtain ⟨h1,m1,h2,h3⟩:=JT h;have hc:cntL (s::r)=XB s+cntL r:=by rw [cntL]
   rw [hc] at hn;have q1:=w4x s n h2 (by omega);have q2:=q2y r (n+XB s) h3 (by omega);rw [onL,nmL,VH,if_neg (by omega),q1,x6t];show VH nest ((n+XB s:Nat):Int) _=_;rw [q2,hc];congr 2;omega
end
section
variable {p:Pg} {k:Nat} {f:Pr}
theorem z8i {t:S} (ht:t∈flL (gOf true f).body) : ∃ s∈flL f.body,OnT s t:=by
 rw [<- DW 0 0 (-1) 0 0 (gOf true f).body] at ht;obtain ⟨it',h1,rfl⟩:=List.mem_map.1 ht;obtain ⟨it,h2,h3,_⟩:=x3j f.body 0 0 0 0 0 0 0 (-1) (-1) 0 0 Iff.rfl it' h1;exact ⟨it.s,by rw [<- DW 0 0 (-1) 0 0 f.body];exact List.mem_map_of_mem h2,h3⟩
theorem v3g:cntL (gOf true f).body=cntL f.body:=by
 show cntL (nmL 0 (onL true f.body))=_;rw [x0t,GU]
theorem w5k:x6r (gOf true f)=x6r f:=by
 unfold x6r;show (flL (nmL 0 (onL true f.body))).flatMap S.labels++f.fin=_;rw [List.flatMap_def,List.flatMap_def,x1g]
theorem w7x {s t:S} (h:OnT s t) {v:Str} (hv:v∈ZX t):v∈ZX s:=by
 by_cases hk:s.kind=4
 ·obtain ⟨h1,h2,h3,h4⟩:=h.off hk;unfold ZX GJ at hv;rw [h1,h2,h3,h4] at hv;exact absurd hv (by
   have:VS (.mk 1 7 [] [])=[]:=rfl;rw [this];simp)
 ·obtain ⟨h1,h2,h3,h4⟩:=h.on hk;unfold ZX GJ at hv ⊢
  rwa [h1,h2,h3,h4] at hv
theorem v4z (h:chkB p=true) (hj:p.procs[k]? = some f):KG ⟨p.globals,[gOf true f]⟩=true:=by
 obtain ⟨hm,_⟩:=QH h;obtain ⟨h1,h2,h3,h4⟩:=FT hm;obtain ⟨_,_,hcn⟩:=WN h;have hmem:f∈p.procs:=List.mem_of_getElem? hj;obtain ⟨h5,a,b,h6⟩:=h4 f hmem;have hc:=FM _ _ hmem;have q:=q2y f.body (nest:=1) 0 h6 (by omega);obtain ⟨g1,g2,g3,g4,g5,g6⟩:=UA.1 h5;have g7:HA (gOf true f)=true:=UA.2 ⟨g1,g2,g3,g4,g5,g6⟩;have e:XP 0 [gOf true f]=some ((0+cntL f.body:Nat):Int):=by
  rw [XP,g7,cond_true,show (gOf true f).body=nmL 0 (onL true f.body) from rfl];rw [show VH 1 0 (nmL 0 (onL true f.body))=some ((0+cntL f.body:Nat):Int) from q];rfl
 unfold KG;simp only;rw [e,h3];simp [h1]
theorem x9l {t:S} (ht:t∈JK ⟨p.globals,[gOf true f]⟩):t.kind≠4:=by
 unfold JK at ht;simp only [List.flatMap_cons,List.flatMap_nil,List.append_nil] at ht;obtain ⟨s,_,hs⟩:=z8i ht;exact hs.nocall
theorem v4x (h:chkB p=true) (hj:p.procs[k]? = some f) (hn:f.name=mainS) (hp:f.params=[]):chkB ⟨p.globals,[gOf true f]⟩=true:=by
 obtain ⟨hm,hs,ha,hjm,hal⟩:=QH h;have hM:=v4z h hj;obtain ⟨hb,hS⟩:=(x4x hm).1 hs;have hmem:f∈p.procs:=List.mem_of_getElem? hj;have hgl:ZW p.globals=false:=by
  unfold XR at hb;rw [Bool.or_eq_false_iff] at hb;exact hb.1
 have hmb:XR ⟨p.globals,[gOf true f]⟩=false:=by
  unfold XR procsN;simp only [map_cons,List.map_nil];rw [hgl,show (gOf true f).name=mainS from hn];rw [show ([gOf true f].find? fun f=>mainS==f.name)=some (gOf true f) by
   rw [List.find?_cons,show (mainS==(gOf true f).name)=true by rw [show (gOf true f).name=mainS from hn];simp]]
  simp only;rw [show (gOf true f).params=[] from hp];rfl
 have hsc:(QE ⟨p.globals,[gOf true f]⟩).1=0:=(x4x hM).2 ⟨hmb,fun g hg=>by
  rcases List.mem_singleton.1 hg with rfl;refine ⟨(hS f hmem).nd,fun t ht => ?_⟩;obtain ⟨s,hs1,hs2⟩:=z8i ht;have h3:=(hS f hmem).kn s hs1;unfold knownB at h3 ⊢;rw [Bool.and_eq_true] at h3 ⊢;refine ⟨?_,by rw [decide_eq_true hs2.nocall];rfl⟩;rw [List.all_eq_true];intro v hv;exact List.all_eq_true.1 h3.1 v (w7x hs2 hv)⟩
 have har:(WS ⟨p.globals,[gOf true f]⟩).1=0:=(x4v hsc).2 fun t ht h4=>absurd h4 (x9l ht);have hju:(DV ⟨p.globals,[gOf true f]⟩).1=0:=(x9g hsc).2 fun j g hg=>by
  obtain ⟨h1,h2⟩:=(x9g hs).1 hjm k f hj
  match j,hg with
  | 0,hg =>
    obtain rfl:gOf true f=g:=by simpa using hg
    refine ⟨fun it' hi => ?_,by rw [w5k];exact h2⟩;obtain ⟨it,h3,h4,h5⟩:=x3j f.body 0 (QD p.procs k) _ (k:Nat) _ 0 0 (-1) (-1) 0 0 Iff.rfl it' hi;have h6:=h1 it h3;unfold WR at h6 ⊢;by_cases h7:it.s.kind=4
    ·have:=(h4.off h7).1;rw [if_neg (by omega),if_neg (by omega)]
    ·obtain ⟨e1,e2,_⟩:=h4.on h7;rw [e1,e2];split
     ·rename_i h8;rw [if_pos h8] at h6;have h9 : ¬it.loop=0:=by simpa using h6
      have : ¬it'.loop=0:=fun h=>h9 (h5.1 h);simpa using this
     ·rename_i h8;rw [if_neg h8] at h6;split
      ·rename_i h9;rw [if_pos h9] at h6;exact z5r.2 (by rw [w5k];exact z5r.1 h6)
      ·rfl
  | j+1,hg=>simp at hg
 have hali:(KV ⟨p.globals,[gOf true f]⟩).1=0:=(w0t har).2 fun t ht h4=>absurd h4 (x9l ht);exact w8u.2 ⟨hM,hsc,har,hju,hali⟩
end
mutual
theorem v0t : ∀ (s:S) (n:Nat),wS (nmS n (onS true s))<=wS s
 | .mk id kind labels name proc x has args thn els,n=>by
   have h1:=x9s thn (n+1);have h2:=x9s els (n+1+cntL thn);have h3:=w6y x;obtain ⟨e1,e2,_⟩:=q3l (.mk id kind labels name proc x has args thn els) n;have e1:_=nmL (n+1) (onL true thn):=e1;have e2:_=nmL (n+1+cntL thn) (onL true els):=e2;rw [x7g,e1,e2,(LU _ n).labels,wS];by_cases hk:kind=4
   ·obtain ⟨_,_,k3,k4⟩:=(LU (.mk id kind labels name proc x has args thn els) n).off hk;rw [k3,k4,wX,wXs,q1k];simp only [S.labels];omega
   ·obtain ⟨_,_,k3,k4⟩:=(LU (.mk id kind labels name proc x has args thn els) n).on hk;rw [k3,k4];simp only [S.labels,S.x,S.args];omega
theorem x9s : ∀ (l:List S) (n:Nat),wL (nmL n (onL true l))<=wL l
 | [],n=>by rw [onL,nmL];exact Nat.le_refl _
 | s::r,n=>by
   have h1:=v0t s n;have h2:=x9s r (n+XB s);rw [onL,nmL,wL,wL,x6t];omega
end
theorem v4u {p:Pg} (hf:Fit p) {f:Pr} (hmem:f∈p.procs):Fit ⟨p.globals,[gOf true f]⟩:=by
 have h1:=x8j hmem;have h2:=x9s f.body 0;unfold Fit wPg at *
 simp only [w8h];have e:wPr (gOf true f)=1+z5u f.vars+z5u f.fin+w9v f.params+wL (nmL 0 (onL true f.body)):=rfl;rw [e];unfold wPr at h1;omega
structure OnlyF (p q:Pg) (g:Pr):Prop where
 only:onlyPg true p=q
 chk:chkB q=true
 fit:Fit q
 procs:q.procs=[g]
 way:wayO q mainS=some (newWay q 0 g)
 nocall : ∀ u∈flL g.body,u.kind≠4
 cnt:cntL g.body<=cntP p.procs
 copy:CopyF p
 raw:CopyF (onlyRaw true p)∧cntP (onlyRaw true p).procs<=100000
 pos:0<p.procs.length
theorem z3s {p:Pg} (hf:Fit p) (hc:chkB p=true) : ∃ (q:Pg) (g:Pr),OnlyF p q g:=by
 obtain ⟨k,f,hk,hm,hn,hp⟩:=x1o hc;have hmem:f∈p.procs:=List.mem_of_getElem? hk;have hq:=v4x hc hk hn hp;refine ⟨⟨p.globals,[gOf true f]⟩,gOf true f,w7a hm,hq,v4u hf hmem,rfl,?_,fun u hu => ?_,by rw [v3g];exact FM _ _ hmem,v1m hf hc,z6s hf hc hm,by have:=(List.getElem?_eq_some_iff.1 hk).1;omega⟩
 ·unfold wayO;rw [hq,cond_true];have e:((gOf true f).name==mainS)=true:=by rw [show (gOf true f).name=mainS from hn];simp
  simp only [List.find?_cons,e,List.findIdx_cons,cond_true]
 ·obtain ⟨s,_,hs⟩:=z8i hu;exact hs.nocall
theorem OnlyF.at0 {p q:Pg} {g:Pr} (h:OnlyF p q g):q.procs[0]? = some g:=by rw [h.procs];rfl
end Go.Ab
