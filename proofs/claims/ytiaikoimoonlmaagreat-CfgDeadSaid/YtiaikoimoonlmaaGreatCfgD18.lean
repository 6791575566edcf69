/- LAW: run goes from place to place; what a machine is on its way. -/
import Derived.Test.YtiaikoimoonlmaaGreatCfgD12
import Derived.Test.YtiaikoimoonlmaaGreatCfgD13
import Derived.Test.YtiaikoimoonlmaaGreatCfgD17
set_option linter.unusedSimpArgs false
set_option linter.unusedVariables false
set_option maxRecDepth 100000
set_option maxHeartbeats 16000000
open List (length_append length_cons length_map length_nil mem_cons_self)
open Nat (succ_pos zero_le)
namespace Go.Ab
open Go.Proofs
inductive Cf
 | next (a:Int) (M:Mc)
 | back (gave:Int) (M:Mc)
 | fin (M:Mc)
def XR (M:Mc):Fm:=M.stack.getLast?.getD ⟨0,[],[],0⟩
def z3g (r:Int×Mc):Cf:=if r.2.fin=0 then .next r.1 r.2 else .fin r.2
def x4v (r:Int×Mc):Cf:=if r.2.fin=0 then .back r.1 r.2 else .fin r.2
def VK (M:Mc):Mc:={ M with steps:=M.steps+1 }
def PZ (p:Pg) (t:S):Nat:=(idxF (fun g=>g.name==t.proc) p.procs).toNat
def stI (p:Pg) (tape watch:List Int) (M:Mc) (it:Item):Cf :=
 if it.s.kind=4 then z3g (YP p watch M (XR M) it.s (PZ p it.s) (prA p (PZ p it.s)))
 else if it.s.kind=9 then x4v (q9z watch M (XR M) it.s)
 else z3g (doM p tape watch M (XR M) (prA p (XR M).proc) it)
def JB (p:Pg) (gave:Int) (M:Mc):Cf :=
 if (XR M).call=0 then .fin (endM (popM M M.stack.dropLast) 1)
 else match (sheetOf p).l[((XR M).call-1).toNat]? with
 | none => .fin M
 | some it => .next it.next (if it.s.name=[] then popM M M.stack.dropLast else setM (popM M M.stack.dropLast) (varM (XR (popM M M.stack.dropLast)) it.s.name) gave)
def goC (p:Pg) (tape watch:List Int) (fuel:Int):Cf->Cf
 | .next a M=>if a = -1 then .back 0 M else if M.steps=fuel then .fin (endM M 2) else match (sheetOf p).l[(a-1).toNat]? with
   | none => .fin M
   | some it=>stI p tape watch (VK M) it
 | .back g M=>JB p g M
 | .fin M => .fin M
def KM (p:Pg) (tape watch:List Int) (fuel:Int):Nat->Cf->Cf
 | 0,c=>c
 | n+1,c=>goC p tape watch fuel (KM p tape watch fuel n c)
structure FrameOk (p:Pg) (M:Mc) (f:Fm):Prop where
 pr : ∃ g,p.procs[f.proc]? = some g∧f.names=varsS p g
 len:f.vars.length=f.names.length
 rng : ∀ v∈f.vars,v<M.mem.length
inductive Chain (p:Pg):List Fm->Prop
 | one {f:Fm} (h:f.call=0):Chain p [f]
 | push {l:List Fm} {g f:Fm} {q:Pr} {it:Item} (hl:Chain p (l++[g])) (h1:1<=f.call) (hle:f.call<=100000) (hit:(sheetOf p).l[(f.call-1).toNat]? = some it) (hk:it.s.kind=4) (hp:p.procs[g.proc]? = some q) (hi:it∈itsOf p g.proc q) (hid:it.s.id=f.call):Chain p (l++[g]++[f])
structure Good (p:Pg) (M:Mc) (b:Int):Prop where
 ch:Chain p M.stack
 fr : ∀ f∈M.stack,FrameOk p M f
 gl:p.globals.length<=M.mem.length
 sl:M.stack.length<=101
 fin:M.fin=0
 r0:0<=M.reads
 rd:M.reads<=b
 tr:(M.trace.length:Int)<=b
 ou:(M.out.length:Int)<=b
def AtOk (p:Pg) (a:Int) (k:Nat):Prop:=a = -1 ∨ ∃ g it,p.procs[k]? = some g∧1<=a∧(sheetOf p).l[(a-1).toNat]? = some it∧it∈itsOf p k g∧it.s.id=a
def PE (p:Pg) (fuel:Int):Cf->Prop
 | .next a M=>Good p M M.steps∧0<=M.steps∧M.steps<=fuel∧AtOk p a (XR M).proc
 | .back _ M=>Good p M M.steps∧0<=M.steps∧M.steps<=fuel
 | .fin _=>True
def cfμ (fuel:Int):Cf->Nat
 | .next _ M=>6*(fuel-M.steps).toNat+2*M.stack.length+2
 | .back _ M=>6*(fuel-M.steps).toNat+2*M.stack.length+1
 | .fin _=>0
theorem Chain.ne {p:Pg} {l:List Fm} (h:Chain p l) : ∃ st f,l=st++[f]:=by
 cases h with
 | one h=>exact ⟨[],_,rfl⟩
 | push=>exact ⟨_,_,rfl⟩
theorem q6v {M:Mc} {st:List Fm} {f:Fm} (h:M.stack=st++[f]):XR M=f:=by
 unfold XR;rw [h,List.getLast?_concat];rfl
theorem Good.top {p:Pg} {M:Mc} {b:Int} (h:Good p M b) : ∃ st,M.stack=st++[XR M]:=by
 obtain ⟨st,f,e⟩:=h.ch.ne;exact ⟨st,by rw [q6v e];exact e⟩
theorem q8p {M M':Mc} (h:M'.stack=M.stack):XR M'=XR M:=by unfold XR;rw [h]
theorem x8i {p:Pg} (hc:XS p=true) {k:Nat} {g:Pr} (hk:p.procs[k]? = some g):(varsS p g).length<=100:=by
 have h1:=(VY hc).1;have h2:=(GN (QY hc).1).pr g (List.mem_of_getElem? hk);unfold varsS NB;simp only [length_append,length_map];omega
theorem Good.okM {p:Pg} {M:Mc} {b:Int} (hc:XS p=true) (h:Good p M b) {bs:List Nat} (hb:bs.length=M.mem.length):OkM p bs M :=
 ⟨hb,fun f hf=>⟨(h.fr f hf).len,(h.fr f hf).rng⟩,h.gl,Nat.le_trans h.sl (by decide),fun f hf=>by
   obtain ⟨g,h1,h2⟩:=(h.fr f hf).pr;have:=x8i hc h1;rw [h2];omega⟩
theorem Good.same {p:Pg} {M M':Mc} {b b':Int} (h:Good p M b) (hs:M'.stack=M.stack) (hm:M.mem.length<=M'.mem.length) (hf:M'.fin=0) (h0:0<=M'.reads) (h1:M'.reads<=b') (h2:(M'.trace.length:Int)<=b') (h3:(M'.out.length:Int)<=b'):Good p M' b' :=
 ⟨by rw [hs];exact h.ch,fun f hq=>by
   rw [hs] at hq;exact ⟨(h.fr f hq).pr,(h.fr f hq).len,fun v hv=>Nat.lt_of_lt_of_le ((h.fr f hq).rng v hv) hm⟩,Nat.le_trans h.gl hm,by rw [hs];exact h.sl,hf,h0,h1,h2,h3⟩
theorem VM (w:List Int) (M:Mc) (id:Int) (v:List Int):(QG w M id v).stack=M.stack∧(QG w M id v).mem=M.mem∧(QG w M id v).fin=M.fin∧(QG w M id v).steps=M.steps∧(QG w M id v).reads=M.reads∧(QG w M id v).out=M.out∧(QG w M id v).trace.length<=M.trace.length+1:=by
 refine ⟨q6h,q4j,?_,?_,?_,z7b,z3l⟩<;>(unfold QG;cases w.any fun x=>decide (id=x)<;>rfl)
theorem Good.event {p:Pg} {M:Mc} {b:Int} (h:Good p M b) (w:List Int) (id:Int) (v:List Int):Good p (QG w M id v) (b+1):=by
 obtain ⟨e1,e2,e3,e4,e5,e6,e7⟩:=VM w M id v;have:=h.tr;have:=h.ou;have:=h.rd;exact h.same e1 (by rw [e2];exact Nat.le_refl _) (e3.trans h.fin) (by rw [e5];exact h.r0) (by rw [e5];omega) (by omega) (by rw [e6];omega)
section
variable {p:Pg}
theorem AtOk.of (hc:XS p=true) {k:Nat} {g:Pr} (hk:p.procs[k]? = some g) {a:Int} (h:okI (QR p.procs k) (QR p.procs k+cntL g.body) a):AtOk p a k:=by
 rcases h with h|⟨h1,h2⟩
 ·exact .inl h
 ·obtain ⟨it,h3,h4⟩:=JY hk (k:=(a-1).toNat) (by omega) (by omega);have h5:=q5l hc hk (by omega) (by omega) h3;exact .inr ⟨g,it,hk,by omega,h3,h4,by omega⟩
theorem x5q (hc:XS p=true) {k:Nat} {g:Pr} (hk:p.procs[k]? = some g) {t:S} (ht:t∈flL g.body) {n:Str} (hn:n∈XA t):n∈varsS p g:=by
 have h1:=GD (QY hc).2.1 (List.mem_of_getElem? hk) ht;unfold knownB at h1;rw [Bool.and_eq_true] at h1;have h2:=List.all_eq_true.1 h1.1 n hn;have h3:ME p g n≠0:=by simpa using h2
 unfold varsS;rcases z5r h3 with h|h
 ·exact List.mem_append_left _ h
 ·exact List.mem_append_right _ h
theorem x1m {l:List Str} {n:Str} (h:n∈l):0<=idxF (fun y=>n==y) l:=by
 unfold idxF;have:l.any (fun y=>n==y)=true:=List.any_eq_true.2 ⟨n,h,by simp⟩;rw [this,cond_true];omega
theorem z7u {t:S} (h1:t.kind≠10) (h2:t.name≠[]):t.name∈XA t:=by
 unfold XA KT;have:(decide (t.kind≠10) && !(t.name==[]))=true:=by simp [h1,h2]
 rw [this];simp
theorem z9m {t:S} {a:Arg} (ha:a∈t.args) (hr:a.ref=true):a.name∈XA t:=by
 unfold XA;refine List.mem_append_right _ (List.mem_flatMap.2 ⟨a,ha,?_⟩);unfold JV;rw [hr];simp
theorem z4c {f:Fm} (hl:f.vars.length=f.names.length) {n:Str} (h:n∈f.names):varM f n∈f.vars:=by
 have h1:=q0u (x1m h);unfold varM;rw [List.getD_eq_getElem?_getD,List.getElem?_eq_getElem (by omega)];exact List.getElem_mem _
end
theorem q6r {f:Fm} : ∀ (l:List Arg) (ps:List Nat) (M:Mc),(∀ a∈l,a.ref=true->varM f a.name<M.mem.length)->(∀ v∈ps,v<M.mem.length) ->
  (argsM f l ps M).2.1.stack=M.stack∧M.mem.length<=(argsM f l ps M).2.1.mem.length∧(argsM f l ps M).2.1.steps=M.steps∧(argsM f l ps M).2.1.reads=M.reads∧(argsM f l ps M).2.1.out=M.out∧(argsM f l ps M).2.1.trace=M.trace ∧
  ((argsM f l ps M).2.2=true->(argsM f l ps M).2.1.fin=M.fin∧(argsM f l ps M).1.length=ps.length+l.length ∧ ∀ v∈(argsM f l ps M).1,v<(argsM f l ps M).2.1.mem.length)∧((argsM f l ps M).2.2=false->(argsM f l ps M).2.1.fin=4)
 | [],ps,M,_,hp=>⟨rfl,Nat.le_refl _,rfl,rfl,rfl,rfl,fun _=>⟨rfl,rfl,hp⟩,(fun h=>(by cases h))⟩
 | a::r,ps,M,ha,hp=>by
   rw [argsM];cases hr:a.ref with
   | true =>
     rw [cond_true];obtain ⟨h1,h2,h3,h4,h5,h6,h7,h8⟩:=q6r r (ps++[varM f a.name]) M (fun b hb=>ha b (List.mem_cons_of_mem _ hb)) fun v hv=>by
      rcases List.mem_append.1 hv with hv|hv
      ·exact hp v hv
      ·rw [List.mem_singleton.1 hv];exact ha a mem_cons_self hr
     refine ⟨h1,h2,h3,h4,h5,h6,fun h => ?_,h8⟩;obtain ⟨g1,g2,g3⟩:=h7 h;exact ⟨g1,by rw [g2,length_append,length_cons,length_cons,length_nil];omega,g3⟩
   | false =>
     rw [cond_false];cases hw:(QS M f a.x).2 with
     | false=>exact ⟨rfl,Nat.le_refl _,rfl,rfl,rfl,rfl,(fun h=>(by cases h)),fun _=>rfl⟩
     | true =>
       rw [cond_true];have hml:({ M with mem:=M.mem++[(QS M f a.x).1] }:Mc).mem.length=M.mem.length+1:=by simp
       obtain ⟨h1,h2,h3,h4,h5,h6,h7,h8⟩:=q6r (f:=f) r (ps++[M.mem.length]) { M with mem:=M.mem++[(QS M f a.x).1] } (fun b hb h=>by
         have:=ha b (List.mem_cons_of_mem _ hb) h;rw [hml];omega) fun v hv=>by
        rw [hml];rcases List.mem_append.1 hv with hv|hv
        ·have:=hp v hv;omega
        ·rw [List.mem_singleton.1 hv];omega
       rw [hml] at h2;refine ⟨h1,by omega,h3,h4,h5,h6,fun h => ?_,h8⟩;obtain ⟨g1,g2,g3⟩:=h7 h;exact ⟨g1,by rw [g2,length_append,length_cons,length_cons,length_nil];omega,g3⟩
section
variable {p:Pg} (hc:XS p=true)
include hc
theorem q5j {M:Mc} {b:Int} (hG:Good p M b) {g:Pr} (hk:p.procs[(XR M).proc]? = some g) {t:S} (ht:t∈flL g.body) {n:Str} (hn:n∈XA t):0<=idxF (fun y=>n==y) (XR M).names∧varM (XR M) n<M.mem.length:=by
 obtain ⟨st,hs⟩:=hG.top;have hF:=hG.fr (XR M) (by rw [hs];exact List.mem_append_right _ (List.mem_singleton.2 rfl));obtain ⟨g',h1,h2⟩:=hF.pr;rw [hk] at h1;cases h1;have h3:=x5q hc hk ht hn;rw [<- h2] at h3;exact ⟨x1m h3,hF.rng _ (z4c hF.len h3)⟩
theorem z2x {k:Nat} {g:Pr} (hk:p.procs[k]? = some g) {t:S} (ht:t∈flL g.body) (h4:t.kind=4):idxF (fun g=>g.name==t.proc) p.procs=(PZ p t:Nat)∧p.procs[PZ p t]? = some (prA p (PZ p t))∧(prA p (PZ p t)).params.length=t.args.length:=by
 obtain ⟨k',h1,h2,_,_,h5⟩:=x4m hc (List.mem_flatMap.2 ⟨g,List.mem_of_getElem? hk,ht⟩) h4;have e:PZ p t=k':=by
  unfold PZ;show (caI p t).toNat=k';rw [h2];rfl
 refine ⟨by rw [e];exact h2,by rw [e];exact z7m h1,?_⟩;rw [e];have:=congrArg List.length h5;simpa using this
theorem z0w {M:Mc} {b:Int} (hfr : ∀ f∈M.stack,FrameOk p M f) (hgl:p.globals.length<=M.mem.length) (hfin:M.fin=0) (hr0:0<=M.reads) (hrd:M.reads<=b) (htr:(M.trace.length:Int)<=b) (hou:(M.out.length:Int)<=b) (hsl:M.stack.length<=100) {k:Nat} {g:Pr} (hk:p.procs[k]? = some g) {ps:List Nat} (hpl:ps.length=g.params.length) (hpr : ∀ v∈ps,v<M.mem.length) {call:Int}
  (hch:Chain p (M.stack++[⟨k,varsS p g,List.range p.globals.length++ps++List.range' M.mem.length g.vars.length,call⟩])):Good p (YX p k g ps call M) b∧AtOk p (PI p k g) (XR (YX p k g ps call M)).proc∧(YX p k g ps call M).stack.length=M.stack.length+1:=by
 have hml:(YX p k g ps call M).mem.length=M.mem.length+g.vars.length:=by unfold YX;simp
 refine ⟨⟨hch,fun f hf => ?_,by rw [hml];have:=hgl;omega,by unfold YX;simp;omega,hfin,hr0,hrd,htr,hou⟩,?_,by unfold YX;simp⟩
 ·rcases List.mem_append.1 hf with hf|hf
  ·exact ⟨(hfr f hf).pr,(hfr f hf).len,fun v hv=>by have:=(hfr f hf).rng v hv;rw [hml];omega⟩
  ·rw [List.mem_singleton.1 hf];refine ⟨⟨g,hk,rfl⟩,?_,fun v hv => ?_⟩
   ·show (List.range p.globals.length++ps++List.range' M.mem.length g.vars.length).length=(varsS p g).length;unfold varsS NB;simp only [length_append,List.length_range,List.length_range',length_map];omega
   ·have hv:v∈List.range p.globals.length++ps++List.range' M.mem.length g.vars.length:=hv;rw [hml];rcases List.mem_append.1 hv with hv|hv
    ·rcases List.mem_append.1 hv with hv|hv
     ·have:=List.mem_range.1 hv;have:=hgl;omega
     ·have:=hpr v hv;omega
    ·have:=List.mem_range'_1.1 hv;omega
 ·rw [q6v (M:=YX p k g ps call M) (st:=M.stack) rfl];refine AtOk.of hc hk ?_;unfold PI;split
  ·exact .inr ⟨by omega,by omega⟩
  ·exact .inl rfl
theorem z9r (watch:List Int) {M:Mc} {b:Int} (hG:Good p M b) {g:Pr} (hk:p.procs[(XR M).proc]? = some g) {it:Item} (hi:it∈itsOf p (XR M).proc g) (h4:it.s.kind=4) {r:Int×Mc} (hr:r=YP p watch M (XR M) it.s (PZ p it.s) (prA p (PZ p it.s))) :
  r.2.steps=M.steps∧(r.2.fin=0->Good p r.2 (b+1)∧AtOk p r.1 (XR r.2).proc∧r.2.stack.length=M.stack.length+1):=by
 subst hr;have ht:=BS hi;obtain ⟨_,k1,k2⟩:=z2x hc hk ht h4;obtain ⟨st,hst⟩:=hG.top;obtain ⟨a1,a2,a3,a4,a5,a6,a7,a8⟩:=q6r (f:=XR M) it.s.args [] M (fun a ha hr=>(q5j hc hG hk ht (z9m ha hr)).2) (fun v hv=>by cases hv);unfold YP;generalize argsM (XR M) it.s.args [] M=ar at *
 obtain ⟨ps,M1,ok⟩:=ar;simp only at a1 a2 a3 a4 a5 a6 a7 a8 ⊢;cases ok with
 | false =>
   refine ⟨a3,fun h => ?_⟩;have h:M1.fin=0:=h;have:=a8 rfl;omega
 | true =>
   obtain ⟨b1,b2,b3⟩:=a7 rfl;rw [cond_true];split
   ·refine ⟨a3,fun h => ?_⟩;have h:(5:Int)=0:=h;cases h
   ·rename_i hsl;have hG1:Good p M1 b:=hG.same a1 a2 (b1.trans hG.fin) (by rw [a4];exact hG.r0) (by rw [a4];exact hG.rd) (by rw [a6];exact hG.tr) (by rw [a5];exact hG.ou);have hG2:=hG1.event watch it.s.id [];obtain ⟨e1,e2,e3,e4,e5,e6,e7⟩:=VM watch M1 it.s.id [];have hid:=VT (QY hc).1 hk ht;have hcn:=(VY hc).2.2;have hle:=((QV p).2.2.2.2 _ _ hk).2.2.1;have hop:=z0w hc hG2.fr hG2.gl hG2.fin hG2.r0 hG2.rd hG2.tr hG2.ou (by rw [e1];omega) k1 (ps:=ps) (by rw [b2,k2];simp) (fun v hv=>by rw [e2];exact b3 v hv) (call:=it.s.id) (by
     rw [e1,a1,hst];exact .push (it:=it) (hst▸hG.ch) (by show 1<=it.s.id;omega) (by show it.s.id<=100000;omega) (x7l hc hk hi) h4 hk hi rfl)
    refine ⟨?_,fun _=>⟨hop.1,hop.2.1,?_⟩⟩
    ·show (QG watch M1 it.s.id []).steps=M.steps;rw [e4,a3]
    ·rw [<- a1,<- e1];exact hop.2.2
omit hc in
theorem z7q (watch:List Int) {M:Mc} {b:Int} (hG:Good p M b) (t:S) {r:Int×Mc} (hr:r=q9z watch M (XR M) t):r.2.steps=M.steps∧(r.2.fin=0->Good p r.2 (b+1)∧r.2.stack=M.stack):=by
 subst hr;have he:=fun v=>VM watch M t.id v;unfold q9z;cases t.has with
 | false=>exact ⟨(he []).2.2.2.1,fun _=>⟨hG.event watch t.id [],(he []).1⟩⟩
 | true =>
   rw [cond_true];cases hw:(QS M (XR M) t.x).2 with
   | false =>
     refine ⟨rfl,fun h => ?_⟩;have h:(4:Int)=0:=h;cases h
   | true=>exact ⟨(he _).2.2.2.1,fun _=>⟨hG.event watch t.id _,(he _).1⟩⟩
omit hc in
theorem z1t (tape watch:List Int) {M:Mc} {f:Fm} {g:Pr} {it:Item} (h4:it.s.kind≠4) (h9:it.s.kind≠9) {r:Int×Mc} (hr:r=doM p tape watch M f g it) (h0:r.2.fin=0):r.1∈VB (sheetOf p) g it:=by
 subst hr;unfold doM at h0 ⊢;unfold VB;by_cases h7:it.s.kind=7
 ·simp [h7]
 by_cases h8:it.s.kind=8
 ·simp [h8]
 by_cases h10:it.s.kind=10
 ·simp [h10]
 simp only [if_neg h7,if_neg h8,if_neg h10,if_neg h9] at h0 ⊢;by_cases h2:it.s.kind=2
 ·have h5 : ¬it.s.kind=5:=by omega
  have h6 : ¬it.s.kind=6:=by omega
  simp only [if_pos h2,if_neg h5,if_neg h6] at h0 ⊢;split at h0
  ·have h0:(3:Int)=0:=h0;cases h0
  ·rename_i h;rw [if_neg h];exact mem_cons_self
 simp only [if_neg h2] at h0 ⊢;cases hw:(QS M f it.s.x).2 with
 | false =>
   rw [hw] at h0;have h0:(4:Int)=0:=h0;cases h0
 | true =>
   clear h0;simp only [cond_true];by_cases h5:it.s.kind=5
   ·have h1 : ¬it.s.kind=1:=by omega
    have h3 : ¬it.s.kind=3:=by omega
    simp only [if_neg h1,if_neg h3,if_pos h5];split<;>simp
   by_cases h6:it.s.kind=6
   ·have h1 : ¬it.s.kind=1:=by omega
    have h3 : ¬it.s.kind=3:=by omega
    simp only [if_neg h1,if_neg h3,if_neg h5,if_pos h6];split<;>simp
   simp only [if_neg h5,if_neg h6];split
   ·exact mem_cons_self
   split
   ·exact mem_cons_self
   ·exact mem_cons_self
theorem w0a (tape watch:List Int) {M:Mc} {b:Int} (hG:Good p M b) {g:Pr} (hk:p.procs[(XR M).proc]? = some g) {it:Item} (hi:it∈itsOf p (XR M).proc g) (h4:it.s.kind≠4) (h9:it.s.kind≠9) {r:Int×Mc} (hr:r=doM p tape watch M (XR M) g it) :
  r.2.steps=M.steps∧(r.2.fin=0->Good p r.2 (b+1)∧AtOk p r.1 (XR M).proc∧r.2.stack=M.stack):=by
 have hgo:=z1t (p:=p) tape watch (M:=M) (f:=XR M) (g:=g) h4 h9 hr;have hat:r.2.fin=0->AtOk p r.1 (XR M).proc:=fun h0=>AtOk.of hc hk ((NH hc hk).2.1 _ (z7t hi (hgo h0))).2
 suffices h:r.2.steps=M.steps∧(r.2.fin=0->Good p r.2 (b+1)∧r.2.stack=M.stack) from ⟨h.1,fun h0=>⟨(h.2 h0).1,hat h0,(h.2 h0).2⟩⟩
 clear hgo hat;subst hr;have he:=fun v=>VM watch M it.s.id v;have key : ∀ (a:Int) v,(QG watch M it.s.id v).steps=M.steps∧((QG watch M it.s.id v).fin=0->Good p (QG watch M it.s.id v) (b+1)∧(QG watch M it.s.id v).stack=M.stack):=fun _ v=>⟨(he v).2.2.2.1,fun _=>⟨hG.event watch it.s.id v,(he v).1⟩⟩;unfold doM;by_cases h7:it.s.kind=7
 ·rw [if_pos h7];exact key 0 []
 by_cases h8:it.s.kind=8
 ·rw [if_neg h7,if_pos h8];exact key 0 []
 by_cases h10:it.s.kind=10
 ·rw [if_neg h7,if_neg h8,if_pos h10];exact key 0 []
 rw [if_neg h7,if_neg h8,if_neg h10];by_cases h2:it.s.kind=2
 ·rw [if_pos h2];split
  ·refine ⟨rfl,fun h => ?_⟩;have h:(3:Int)=0:=h;cases h
  ·generalize varM (XR M) it.s.name=v;generalize tape.getD M.reads.toNat 0=n;obtain ⟨e1,e2,e3,e4,e5,e6,e7⟩:=VM watch (setM { M with reads:=M.reads+1 } v n) it.s.id [n];refine ⟨e4,fun _=>⟨hG.same e1 (by rw [e2];unfold setM;simp) (e3.trans hG.fin) ?_ ?_ ?_ ?_,e1⟩⟩
   ·rw [e5];have:=hG.r0;show 0<=M.reads+1;omega
   ·rw [e5];have:=hG.rd;show M.reads+1<=b+1;omega
   ·have:=hG.tr;have e7:(QG watch (setM { M with reads:=M.reads+1 } v n) it.s.id [n]).trace.length<=M.trace.length+1:=e7;have e9:((QG watch (setM { M with reads:=M.reads+1 } v n) it.s.id [n]).trace.length:Int)<=b+1:=by omega
    exact e9
   ·rw [e6];have:=hG.ou;show (M.out.length:Int)<=b+1;omega
 rw [if_neg h2];cases hw:(QS M (XR M) it.s.x).2 with
 | false =>
   refine ⟨rfl,fun h => ?_⟩;have h:(4:Int)=0:=h;cases h
 | true =>
   rw [cond_true];generalize (QS M (XR M) it.s.x).1=n;by_cases h1:it.s.kind=1
   ·rw [if_pos h1];obtain ⟨e1,e2,e3,e4,e5,e6,e7⟩:=he [n];have hG1:=hG.event watch it.s.id [n];exact ⟨e4,fun _=>⟨hG1.same rfl (by unfold setM;simp) hG1.fin hG1.r0 hG1.rd hG1.tr hG1.ou,e1⟩⟩
   rw [if_neg h1];by_cases h3:it.s.kind=3
   ·rw [if_pos h3];obtain ⟨e1,e2,e3,e4,e5,e6,e7⟩:=he [n];have hG1:=hG.event watch it.s.id [n];refine ⟨e4,fun _=>⟨hG1.same rfl (Nat.le_refl _) hG1.fin hG1.r0 hG1.rd hG1.tr ?_,e1⟩⟩;show (((QG watch M it.s.id [n]).out++[n]).length:Int)<=b+1;rw [e6,length_append];have:=hG.ou;simp only [length_cons,length_nil];omega
   rw [if_neg h3];by_cases h5:it.s.kind=5
   ·rw [if_pos h5];exact key 0 [n]
   by_cases h6:it.s.kind=6
   ·rw [if_neg h5,if_pos h6];exact key 0 [n]
   rw [if_neg h5,if_neg h6];exact key 0 [n]
theorem x4d {M:Mc} {b:Int} (hG:Good p M b) {st:List Fm} (hs:M.stack=st++[XR M]) (gave:Int):(XR M).call<=100000 ∧
  ((∃ M',JB p gave M = .fin M'∧CloseP p M st (XR M) gave (-1) M'∧M'.fin=1) ∨
  ∃ a M',JB p gave M = .next a M'∧CloseP p M st (XR M) gave a M'∧Good p M' b∧AtOk p a (XR M').proc∧M'.stack.length+1=M.stack.length∧M'.steps=M.steps):=by
 have hst:M.stack.dropLast=st:=by rw [hs,List.dropLast_concat]
 have hch:=hG.ch;rw [hs] at hch;generalize hF:XR M=F at *
 unfold JB;rw [hst,hF];generalize hL:st++[F]=L at hch;cases hch with
 | one h =>
   rename_i f;obtain ⟨rfl,h2⟩:=List.append_inj' (show st++[F]=[]++[f] from hL) rfl;have h2:F=f:=by simpa using h2
   subst h2;rw [if_pos h];exact ⟨by omega,.inl ⟨_,rfl,.done h,rfl⟩⟩
 | push hl h1 hle hit hk hp hi hid =>
   rename_i l g f q it;obtain ⟨rfl,h2⟩:=List.append_inj' hL rfl;have h2:F=f:=by simpa using h2
   subst h2;have hgm:g∈M.stack:=by rw [hs];simp
   have hgF:=hG.fr g hgm;refine ⟨hle,.inr ?_⟩;rw [if_neg (by omega),hit];have htop:XR (popM M (l++[g]))=g:=q6v (st:=l) rfl;have hnx:AtOk p it.next g.proc:=AtOk.of hc hp (q6p hi).1;have hG1:Good p (popM M (l++[g])) b:=⟨hl,fun f hf=>⟨(hG.fr f (by rw [hs];exact List.mem_append_left _ hf)).pr,(hG.fr f (by rw [hs];exact List.mem_append_left _ hf)).len,(hG.fr f (by rw [hs];exact List.mem_append_left _ hf)).rng⟩,hG.gl,by
    have h:=hG.sl;rw [hs,length_append] at h;show (l++[g]).length<=101;omega,hG.fin,hG.r0,hG.rd,hG.tr,hG.ou⟩
   have hlen:(popM M (l++[g])).stack.length+1=M.stack.length:=by
    rw [hs,length_append];rfl
   by_cases hn:it.s.name=[]
   ·refine ⟨it.next,_,rfl,?_,?_⟩
    ·rw [if_pos hn];exact .drop h1 hit hn
    ·rw [if_pos hn];exact ⟨hG1,by rw [htop];exact hnx,hlen,rfl⟩
   ·obtain ⟨q',u1,u2⟩:=hgF.pr;rw [hp] at u1;cases u1;have hin:=x5q hc hp (BS hi) (z7u (by omega) hn);rw [<- u2] at hin;refine ⟨it.next,_,rfl,?_,?_⟩
    ·rw [if_neg hn,htop];exact .keep h1 hit hn rfl (x1m hin)
    ·rw [if_neg hn];refine ⟨hG1.same rfl (by unfold setM;simp) hG1.fin hG1.r0 hG1.rd hG1.tr hG1.ou,?_,hlen,rfl⟩;have e:XR (setM (popM M (l++[g])) (varM (XR (popM M (l++[g]))) it.s.name) gave)=g:=(q8p (M:=popM M (l++[g])) rfl).trans htop;rw [e];exact hnx
end
def mainN (p:Pg):Nat:=(idxF (fun f=>f.name==mainS) p.procs).toNat
def M00 (p:Pg):Mc:=⟨[],List.replicate p.globals.length 0,0,0,0,[],[]⟩
def UZ (p:Pg):Cf := .next (PI p (mainN p) (prA p (mainN p))) (YX p (mainN p) (prA p (mainN p)) [] 0 (M00 p))
theorem x0u {p:Pg} (hc:XS p=true):idxF (fun f=>f.name==mainS) p.procs=(mainN p:Nat)∧p.procs[mainN p]? = some (prA p (mainN p))∧(prA p (mainN p)).params=[]:=by
 obtain ⟨k,f,h1,_,h3,h4⟩:=x3t hc;obtain ⟨k',hk',h5,_,_,h6⟩:=LC (p:=p) (n:=mainS) (List.mem_map.2 ⟨f,List.mem_of_getElem? h1,h3⟩);obtain ⟨rfl,h7⟩:=LP hc h1 (List.getElem?_eq_getElem hk') (h3.trans h6.symm);have e:mainN p=k:=by unfold mainN;rw [h5];rfl
 rw [e,q3y h1];exact ⟨h5,h1,h4⟩
theorem x5w {p:Pg} (hc:XS p=true) {fuel:Int} (h0:0<=fuel):PE p fuel (UZ p):=by
 obtain ⟨h1,h2,h3⟩:=x0u hc;have h:=z0w hc (M:=M00 p) (b:=0) (fun f hf=>by cases hf) (by simp [M00]) rfl (Int.le_refl _) (Int.le_refl _) (Int.le_refl _) (Int.le_refl _) (zero_le _) h2 (ps:=[]) (by rw [h3];rfl) (fun v hv=>by cases hv) (call:=0) (.one rfl);exact ⟨h.1,Int.le_refl _,h0,h.2.1⟩
theorem VD (p:Pg) (tape watch:List Int) (fuel:Int) (n:Nat) (c:Cf):KM p tape watch fuel (n+1) c=goC p tape watch fuel (KM p tape watch fuel n c):=rfl
theorem z5c (p:Pg) (tape watch:List Int) (fuel:Int) (c:Cf) {n m:Nat} {M M':Mc} (h:KM p tape watch fuel n c = .fin M) (h':KM p tape watch fuel m c = .fin M'):M=M':=by
 have key : ∀ k,KM p tape watch fuel (n+k) c = .fin M:=fun k=>by
  induction k with
  | zero=>exact h
  | succ k ih=>rw [<- Nat.add_assoc,VD,ih];rfl
 have key' : ∀ k,KM p tape watch fuel (m+k) c = .fin M':=fun k=>by
  induction k with
  | zero=>exact h'
  | succ k ih=>rw [<- Nat.add_assoc,VD,ih];rfl
 have h1:=key m;have h2:=key' n;rw [Nat.add_comm m n,h1] at h2;cases h2;rfl
def q0x:Info:={ keep:=fun i=>QT [(27,[8,9]),(26,[2,8,10,11,12,13,126]),(25,[2,8,10,11,12,13]),(24,[2,8,10,11,12,13,117]),(20,[2,8,10,11,12,13]),(23,[2,8,10,11,12,13,111]),(22,[2,8,10,11,12,13]),(18,[2,8,10,11,12,13]),(21,[2,8,10,11,12,13,100]),(19,[2,8,10,11,12,13,90,94]),(17,[2,8,10,11,12,13,90]),(16,[2,8,10,11,12,13]),(15,[2,8,10,11,12,13]),(14,[2,8,10,11,12,13]),(13,[2,8,10,11,12,13,63]),(12,[2,8,10,11,12,13]),(11,[2,8,10,11,12,13,56]),(10,[2,8,10,11,12,13]),(9,[2,8,10,11,12]),(8,[2,8,10,11]),(7,[2,8,10,34,35]),(6,[2,8,10,34,35]),(5,[2,8,10,34,35,36]),(4,[2,8,10,34,35]),(3,[2,4,8,10]),(2,[8,9]),(1,[1,2,3,4,8,24]),(0,[1,2,3,4,8])] i,sched:=I_run_Of.sched,frz:=I_run_Of.frz }
def z8q:Code->Code
 | .seq a b=>match a with
   | .scope c=>c
   | _=>z8q b
 | .scope c=>c
 | c=>c
noncomputable def w0c:Code:=z8q (Tryz.f63.body.getD .skip)
noncomputable def z0v (l:Nat):Code:=(findLabel w0c l).getD .skip
theorem z7c {P:Program} {N:Nat} {K:Exit->St->Prop} {s:St} (h:ScopeK P tab N q0x w0c K s):ScopeK P tab N q0x w0c K s:=h
def rO:Chunk := .obj 60 [.p (.int .i64 0),.p (.int .i64 0),.p (.int .i64 0),.p .nils,.p .nils]
def rM (p:Pg) (tape watch:List Int) (v:Nat) (M:Mc):Chunk := .obj 163 [.p (.ip (sheetOf p).cells),.hd 2 0 p.globals.length,.p (XW tape),.p (XW watch),.hd 3 0 M.stack.length,.hd 4 0 v,.p (.int .i64 M.fin),.p (.int .i64 M.steps),.p (.int .i64 M.reads),.hd 5 0 M.out.length,.hd 6 0 M.trace.length]
def rH (p:Pg) (tape watch:List Int) (bs:List Nat) (vs:List Int) (M:Mc) (it:Item):Heap:=[(0,rM p tape watch vs.length M),(2,.own 164 1 (VG bs (List.range p.globals.length))),(3,.own 218 1 (M.stack.map (fmA bs))),(4,.own 2 1 (vs.map (.int .i64))),
 (5,.own 2 1 (M.out.map (.int .i64))),(6,.own 63 2 (M.trace.map evA)),(2500,.ext (.cells 2 (XI bs M.mem))),(1,rO),(7,.obj 151 (it.cells.map .p))]
theorem z5s (l r:List (Nat×LV)) (i:Nat):getS l i=getS (l++r) i∨getS l i = .p .any:=by
 induction l with
 | nil=>exact .inr rfl
 | cons x l ih =>
   obtain ⟨j,v⟩:=x;show (bif j==i then v else getS l i)=(bif j==i then v else getS (l++r) i)∨(bif j==i then v else getS l i) = .p .any;cases j==i
   ·exact ih
   ·exact .inl rfl
theorem UK {N:Nat} (l r:List (Nat×LV)) {H:Heap}:Le N ⟨l++r,H⟩ ⟨l,H⟩:=x1z (z5s l r) (List.Sublist.refl _)
def x5o (p:Pg) (tape watch:List Int) (fuel gave at_:Int) (bs:List Nat) (vs:List Int) (M:Mc) (it:Item):St:=⟨[(2,.p (.int .i64 fuel)),(8,.ptr 1 0),(10,.ptr 0 0),(11,.ptr 7 0),(12,.p (.int .i64 gave)),(13,.p (.int .i64 at_))],rH p tape watch bs vs M it⟩
structure RIx where
 c:Cf
 gv:Int
 at_:Int
 bs:List Nat
 vs:List Int
 it:Item
def RIx.st (p:Pg) (tape watch:List Int) (fuel:Int) (i:RIx):St:=match i.c with
 | .next a M=>x5o p tape watch fuel i.gv a i.bs i.vs M i.it
 | .back g M=>x5o p tape watch fuel g i.at_ i.bs i.vs M i.it
 | .fin M=>x5o p tape watch fuel i.gv i.at_ i.bs i.vs M i.it
def RIx.lab (i:RIx):Nat:=match i.c with
 | .next _ _=>1
 | .back _ _=>0
 | .fin _=>2
def RIx.bok (i:RIx):Prop:=match i.c with
 | .next _ M=>i.bs.length=M.mem.length
 | .back _ M=>i.bs.length=M.mem.length
 | .fin _=>True
def Kgo (p:Pg) (tape watch:List Int) (fuel:Int) (c:Cf) (K:Exit->St->Prop):Prop := ∀ (i:RIx) (s':St),i.c=goC p tape watch fuel c->i.bok->Le Tryz.f63.ntmps s' (i.st p tape watch fuel)->K (.goto i.lab) s'
theorem q8n {p:Pg} (hc:XS p=true) {k:Nat} {g:Pr} (hk:p.procs[k]? = some g):SpecP Tryz.prog 177 [.agg p.cells,.str g.name] (fun r=>r=QP (varsS p g)):=by
 have h1:=(VY hc).1;have h2:=(GN (QY hc).1).pr g (List.mem_of_getElem? hk);exact x8u p (QY hc).1 k g hk (fun j g' hj he=>(LP hc hj hk he).1) (by omega) (by omega) (by omega)
theorem w2m {p:Pg} {tape watch:List Int} {M:Mc} {f:Fm} {g:Pr} {it:Item}:(doM p tape watch M f g it).2.mem.length=M.mem.length:=by
 have he : ∀ (M:Mc) v,(QG watch M it.s.id v).mem=M.mem:=fun M v=>q4j;unfold doM;split
 ·show (QG watch M it.s.id []).mem.length=_;rw [he]
 split
 ·show (QG watch M it.s.id []).mem.length=_;rw [he]
 split
 ·show (QG watch M it.s.id []).mem.length=_;rw [he]
 split
 ·split
  ·rfl
  ·show (QG watch _ it.s.id _).mem.length=_;rw [he];simp [setM]
 cases (QS M f it.s.x).2 with
 | false=>rfl
 | true =>
   rw [cond_true];split
   ·show ((QG watch M it.s.id _).mem.set _ _).length=_;rw [List.length_set,he]
   split
   ·show (QG watch M it.s.id _).mem.length=_;rw [he]
   split
   ·show (QG watch M it.s.id _).mem.length=_;rw [he]
   split
   ·show (QG watch M it.s.id _).mem.length=_;rw [he]
   ·show (QG watch M it.s.id _).mem.length=_;rw [he]
theorem x0c (p:Pg) (hc:XS p=true) (tape watch:List Int) (htp:tape.length<=10000000) (fuel:Int) (hfu:fuel<=1000000) (gv:Int) (bs:List Nat) (vs:List Int) (it0:Item) (a:Int) (M:Mc) (hG:PE p fuel (.next a M)) (hb:bs.length=M.mem.length) (K:Exit->St->Prop) (hK:Kgo p tape watch fuel (.next a M) K) :
  W Tryz.prog tab Tryz.f63.ntmps q0x (z0v 1) K (x5o p tape watch fuel gv a bs vs M it0):=by
 obtain ⟨hGd,hs0,hs1,hat⟩:=hG;have hOk:=hGd.okM hc hb;obtain ⟨st,hst⟩:=hGd.top;have hcn:=(VY hc).2.2;have hgc:=(VY hc).1;have hll:=(QV p).2.2.2.1;have htr:=hGd.tr;have hou:=hGd.ou;have hrd:=hGd.rd;have hr0:=hGd.r0;have hfin:=hGd.fin;have hslk:=hGd.sl;unfold Kgo at hK;simp only [goC] at hK;by_cases ha:a = -1
 ·rw [if_pos ha] at hK;conv=>whnf
  repeat' (first|((first|(refine iM fun _=>?_)|refine dA ?_|refine And.intro rfl ?_|refine aD ?_|refine aR ?_|refine bP ?_|(refine iA fun _=>?_)|refine IdxK.xs (by omega) ?_|refine QF (by omega) ?_|(refine ByteK.at (by omega) ?_)|refine wI ?_);conv=>whnf)|(apply bD<;>intro _<;>first|omega|conv=>whnf)|(apply bE<;>intro _<;>first|omega|conv=>whnf)|(apply bN<;>intro _<;>conv=>whnf)|(apply bB<;>intro _<;>conv=>whnf))
  all_goals first
   | (exfalso;omega)
   | exact hK ⟨.back 0 M,0,a,bs,vs,it0⟩ _ rfl hb (Le.of_eq rfl)
   | exact hK ⟨.back 0 M,0,a,bs,vs,it0⟩ _ rfl hb (UK (RIx.st p tape watch fuel ⟨.back 0 M,0,a,bs,vs,it0⟩).sl [_])
 rw [if_neg ha] at hK;by_cases hst2:M.steps=fuel
 ·rw [if_pos hst2] at hK;conv=>whnf
  repeat' (first|((first|(refine iM fun _=>?_)|refine dA ?_|refine And.intro rfl ?_|refine aD ?_|refine aR ?_|refine bP ?_|(refine iA fun _=>?_)|refine IdxK.xs (by omega) ?_|refine QF (by omega) ?_|(refine ByteK.at (by omega) ?_)|refine wI ?_);conv=>whnf)|(apply bD<;>intro _<;>first|omega|conv=>whnf)|(apply bE<;>intro _<;>first|omega|conv=>whnf)|(apply bN<;>intro _<;>conv=>whnf)|(apply bB<;>intro _<;>conv=>whnf))
  all_goals first
   | (exfalso;omega)
   | exact hK ⟨.fin (endM M 2),gv,a,bs,vs,it0⟩ _ rfl trivial (Le.of_eq rfl)
   | exact hK ⟨.fin (endM M 2),gv,a,bs,vs,it0⟩ _ rfl trivial (UK (RIx.st p tape watch fuel ⟨.fin (endM M 2),gv,a,bs,vs,it0⟩).sl [_])
 rw [if_neg hst2] at hK;rcases hat with h|⟨g,it,hg,h1,hit,hi,hid⟩
 ·exact absurd h ha
 rw [hit] at hK;simp only at hK;have hgl:((sheetOf p).l.map fun i=>AV.agg i.cells)[(a-1).toNat]? = some (.agg it.cells):=by rw [List.getElem?_map,hit];rfl
 have hlt:(a-1).toNat<(sheetOf p).l.length:=(List.getElem?_eq_some_iff.1 hit).1;have hG1:Good p (VK M) M.steps:=hGd.same rfl (Nat.le_refl _) hfin hr0 hrd htr hou;have hOk1:OkM p bs (VK M):=hG1.okM hc hb;have hst1:(VK M).stack=st++[XR (VK M)]:=hst;have hslk1:(VK M).stack.length<=101:=hslk;have htr1:(VK M).trace.length<=10000000:=by show M.trace.length<=_;omega
 have hou1:(VK M).out.length<=10000000:=by show M.out.length<=_;omega
 have hk1:p.procs[(XR (VK M)).proc]? = some g:=hg;have ht:=BS hi;have hi1:it∈itsOf p (XR (VK M)).proc g:=hi;unfold stI at hK;by_cases h4:it.s.kind=4
 ·rw [if_pos h4] at hK;obtain ⟨k1,k2,k3⟩:=z2x hc hg ht h4;have hpar:=x7v hc (PZ p it.s);have hmf:=(GN (QY hc).1).pr _ (List.mem_of_getElem? k2);have hcall:=MS p tape watch bs vs (VK M) st (XR (VK M)) hst1 hOk1 hslk1 htr1 it.s (by omega) (fun b hb hr=>(q5j hc hG1 hk1 ht (z9m hb hr)).1) (PZ p it.s) (prA p (PZ p it.s)) k2 k1 (q8n hc k2) (by omega) (by omega);generalize hr:YP p watch (VK M) (XR (VK M)) it.s (PZ p it.s) (prA p (PZ p it.s))=r at *
  obtain ⟨a',M'⟩:=r;unfold z3g at hK;simp only at hK hcall;by_cases h0:M'.fin=0
  ·rw [if_pos h0] at hK;conv=>whnf
   repeat' (first|((first|(refine iM fun _=>?_)|refine dA ?_|refine And.intro rfl ?_|refine aD ?_|refine aR ?_|refine bP ?_|(refine iA fun _=>?_)|refine IdxK.xs (by omega) ?_|refine QF (by omega) ?_|(refine ByteK.at (by omega) ?_)|refine wI ?_|(refine IdxK.at (k:=(a-1).toNat) (by omega) hgl rfl ?_));conv=>whnf)|(apply bD<;>intro _<;>first|omega|conv=>whnf)|(apply bE<;>intro _<;>first|omega|conv=>whnf)|(apply bN<;>intro _<;>conv=>whnf)|(apply bB<;>intro _<;>conv=>whnf)|(refine CallK.heap [(1000,0),(1001,2),(2001,3),(2002,4),(2003,5),(2004,6),(2500,2500)] 0 (by repeat' (first|exact ArgsH.nil|refine ArgsH.cons ?_ ?_|exact LSub.refl _|exact LSub.p Sub.nils|exact LSub.p (Sub.tt rfl)|exact LSub.p (Sub.ff rfl)|exact LSub.p (Sub.int (by omega)))) (by refine BlksH.cons (j:=0) rfl rfl ?_ ?_;exact CSub.refl _;refine BlksH.cons (j:=2) rfl rfl ?_ ?_;exact CSub.refl _;refine BlksH.cons (j:=3) rfl rfl ?_ ?_;exact CSub.refl _;refine BlksH.cons (j:=4) rfl rfl ?_ ?_;exact CSub.refl _;refine BlksH.cons (j:=5) rfl rfl ?_ ?_;exact CSub.refl _;refine BlksH.cons (j:=6) rfl rfl ?_ ?_;exact CSub.refl _;refine BlksH.cons (j:=2500) rfl rfl ?_ ?_;exact CSub.refl _;exact BlksH.nil) hcall rfl rfl ?_;rintro l' H' ⟨bs',vs',rfl,rfl,hb'⟩;conv=>whnf))
   all_goals first
    | (exfalso;omega)
    | exact hK ⟨.next a' M',gv,0,bs',vs',it⟩ _ rfl (by assumption) (Le.of_eq rfl)
    | exact hK ⟨.next a' M',gv,0,bs',vs',it⟩ _ rfl (by assumption) (UK (RIx.st p tape watch fuel ⟨.next a' M',gv,0,bs',vs',it⟩).sl [_])
  ·rw [if_neg h0] at hK;conv=>whnf
   repeat' (first|((first|(refine iM fun _=>?_)|refine dA ?_|refine And.intro rfl ?_|refine aD ?_|refine aR ?_|refine bP ?_|(refine iA fun _=>?_)|refine IdxK.xs (by omega) ?_|refine QF (by omega) ?_|(refine ByteK.at (by omega) ?_)|refine wI ?_|(refine IdxK.at (k:=(a-1).toNat) (by omega) hgl rfl ?_));conv=>whnf)|(apply bD<;>intro _<;>first|omega|conv=>whnf)|(apply bE<;>intro _<;>first|omega|conv=>whnf)|(apply bN<;>intro _<;>conv=>whnf)|(apply bB<;>intro _<;>conv=>whnf)|(refine CallK.heap [(1000,0),(1001,2),(2001,3),(2002,4),(2003,5),(2004,6),(2500,2500)] 0 (by repeat' (first|exact ArgsH.nil|refine ArgsH.cons ?_ ?_|exact LSub.refl _|exact LSub.p Sub.nils|exact LSub.p (Sub.tt rfl)|exact LSub.p (Sub.ff rfl)|exact LSub.p (Sub.int (by omega)))) (by refine BlksH.cons (j:=0) rfl rfl ?_ ?_;exact CSub.refl _;refine BlksH.cons (j:=2) rfl rfl ?_ ?_;exact CSub.refl _;refine BlksH.cons (j:=3) rfl rfl ?_ ?_;exact CSub.refl _;refine BlksH.cons (j:=4) rfl rfl ?_ ?_;exact CSub.refl _;refine BlksH.cons (j:=5) rfl rfl ?_ ?_;exact CSub.refl _;refine BlksH.cons (j:=6) rfl rfl ?_ ?_;exact CSub.refl _;refine BlksH.cons (j:=2500) rfl rfl ?_ ?_;exact CSub.refl _;exact BlksH.nil) hcall rfl rfl ?_;rintro l' H' ⟨bs',vs',rfl,rfl,hb'⟩;conv=>whnf))
   all_goals first
    | (exfalso;omega)
    | exact hK ⟨.fin M',gv,a',bs',vs',it⟩ _ rfl trivial (Le.of_eq rfl)
    | exact hK ⟨.fin M',gv,a',bs',vs',it⟩ _ rfl trivial (UK (RIx.st p tape watch fuel ⟨.fin M',gv,a',bs',vs',it⟩).sl [_])
 rw [if_neg h4] at hK;by_cases h9:it.s.kind=9
 ·rw [if_pos h9] at hK;have hret:=PT p tape watch bs vs (VK M) st (XR (VK M)) hst1 hOk1 htr1 it.s;have hml:(q9z watch (VK M) (XR (VK M)) it.s).2.fin=0->(q9z watch (VK M) (XR (VK M)) it.s).2.mem=(VK M).mem:=fun _=>by
   unfold q9z;cases it.s.has with
   | false=>exact q4j
   | true=>cases hw:(QS (VK M) (XR (VK M)) it.s.x).2 with
     | false=>rfl
     | true=>exact q4j
  generalize hr:q9z watch (VK M) (XR (VK M)) it.s=r at *
  obtain ⟨gv',M'⟩:=r;unfold x4v at hK;simp only at hK hret hml;by_cases h0:M'.fin=0
  ·rw [if_pos h0] at hK;have hb':bs.length=M'.mem.length:=by rw [hml h0];exact hb
   conv=>whnf
   repeat' (first|((first|(refine iM fun _=>?_)|refine dA ?_|refine And.intro rfl ?_|refine aD ?_|refine aR ?_|refine bP ?_|(refine iA fun _=>?_)|refine IdxK.xs (by omega) ?_|refine QF (by omega) ?_|(refine ByteK.at (by omega) ?_)|refine wI ?_|(refine IdxK.at (k:=(a-1).toNat) (by omega) hgl rfl ?_));conv=>whnf)|(apply bD<;>intro _<;>first|omega|conv=>whnf)|(apply bE<;>intro _<;>first|omega|conv=>whnf)|(apply bN<;>intro _<;>conv=>whnf)|(apply bB<;>intro _<;>conv=>whnf)|(refine CallK.heap [(1000,0),(1001,2),(2001,3),(2002,4),(2003,5),(2004,6),(2500,2500)] 0 (by repeat' (first|exact ArgsH.nil|refine ArgsH.cons ?_ ?_|exact LSub.refl _|exact LSub.p Sub.nils|exact LSub.p (Sub.tt rfl)|exact LSub.p (Sub.ff rfl)|exact LSub.p (Sub.int (by omega)))) (by refine BlksH.cons (j:=0) rfl rfl ?_ ?_;exact CSub.refl _;refine BlksH.cons (j:=2) rfl rfl ?_ ?_;exact CSub.refl _;refine BlksH.cons (j:=3) rfl rfl ?_ ?_;exact CSub.refl _;refine BlksH.cons (j:=4) rfl rfl ?_ ?_;exact CSub.refl _;refine BlksH.cons (j:=5) rfl rfl ?_ ?_;exact CSub.refl _;refine BlksH.cons (j:=6) rfl rfl ?_ ?_;exact CSub.refl _;refine BlksH.cons (j:=2500) rfl rfl ?_ ?_;exact CSub.refl _;exact BlksH.nil) hret rfl rfl ?_;rintro l' H' ⟨vs',rfl,rfl⟩;conv=>whnf))
   all_goals first
    | (exfalso;omega)
    | exact hK ⟨.back gv' M',0,a,bs,vs',it⟩ _ rfl hb' (Le.of_eq rfl)
    | exact hK ⟨.back gv' M',0,a,bs,vs',it⟩ _ rfl hb' (UK (RIx.st p tape watch fuel ⟨.back gv' M',0,a,bs,vs',it⟩).sl [_])
  ·rw [if_neg h0] at hK;conv=>whnf
   repeat' (first|((first|(refine iM fun _=>?_)|refine dA ?_|refine And.intro rfl ?_|refine aD ?_|refine aR ?_|refine bP ?_|(refine iA fun _=>?_)|refine IdxK.xs (by omega) ?_|refine QF (by omega) ?_|(refine ByteK.at (by omega) ?_)|refine wI ?_|(refine IdxK.at (k:=(a-1).toNat) (by omega) hgl rfl ?_));conv=>whnf)|(apply bD<;>intro _<;>first|omega|conv=>whnf)|(apply bE<;>intro _<;>first|omega|conv=>whnf)|(apply bN<;>intro _<;>conv=>whnf)|(apply bB<;>intro _<;>conv=>whnf)|(refine CallK.heap [(1000,0),(1001,2),(2001,3),(2002,4),(2003,5),(2004,6),(2500,2500)] 0 (by repeat' (first|exact ArgsH.nil|refine ArgsH.cons ?_ ?_|exact LSub.refl _|exact LSub.p Sub.nils|exact LSub.p (Sub.tt rfl)|exact LSub.p (Sub.ff rfl)|exact LSub.p (Sub.int (by omega)))) (by refine BlksH.cons (j:=0) rfl rfl ?_ ?_;exact CSub.refl _;refine BlksH.cons (j:=2) rfl rfl ?_ ?_;exact CSub.refl _;refine BlksH.cons (j:=3) rfl rfl ?_ ?_;exact CSub.refl _;refine BlksH.cons (j:=4) rfl rfl ?_ ?_;exact CSub.refl _;refine BlksH.cons (j:=5) rfl rfl ?_ ?_;exact CSub.refl _;refine BlksH.cons (j:=6) rfl rfl ?_ ?_;exact CSub.refl _;refine BlksH.cons (j:=2500) rfl rfl ?_ ?_;exact CSub.refl _;exact BlksH.nil) hret rfl rfl ?_;rintro l' H' ⟨vs',rfl,rfl⟩;conv=>whnf))
   all_goals first
    | (exfalso;omega)
    | exact hK ⟨.fin M',gv',a,bs,vs',it⟩ _ rfl trivial (Le.of_eq rfl)
    | exact hK ⟨.fin M',gv',a,bs,vs',it⟩ _ rfl trivial (UK (RIx.st p tape watch fuel ⟨.fin M',gv',a,bs,vs',it⟩).sl [_])
 rw [if_neg h9] at hK;have hpA:=q3y hk1;rw [hpA] at hK;have hDo:DoOk p (XR (VK M)) g it:=⟨fun h7=>by
   have hl:=(NH hc hk1).1 it hi1 h7;exact ⟨hl.1,by omega,_,List.getElem?_eq_getElem (by omega)⟩,⟨_,YF _ _ _ _ _ _ it hi1,hk1⟩,fun h12=>by
   have hO:=z5z hc hk1 ht;have hn:=x8v (hO.name (by omega));exact (q5j hc hG1 hk1 ht (z7u (by omega) (by simpa using hn))).1⟩
 have hdo:=q2m p (by omega) tape watch htp bs vs (VK M) st (XR (VK M)) hst1 hOk1 htr1 hou1 hr0 (by show M.reads<=_;omega) g it hDo;have hml:(doM p tape watch (VK M) (XR (VK M)) g it).2.mem.length=(VK M).mem.length:=w2m;generalize hr:doM p tape watch (VK M) (XR (VK M)) g it=r at *
 obtain ⟨a',M'⟩:=r;unfold z3g at hK;simp only at hK hdo hml;by_cases h0:M'.fin=0
 ·rw [if_pos h0] at hK;have hb':bs.length=M'.mem.length:=by rw [hml];exact hb
  conv=>whnf
  repeat' (first|((first|(refine iM fun _=>?_)|refine dA ?_|refine And.intro rfl ?_|refine aD ?_|refine aR ?_|refine bP ?_|(refine iA fun _=>?_)|refine IdxK.xs (by omega) ?_|refine QF (by omega) ?_|(refine ByteK.at (by omega) ?_)|refine wI ?_|(refine IdxK.at (k:=(a-1).toNat) (by omega) hgl rfl ?_));conv=>whnf)|(apply bD<;>intro _<;>first|omega|conv=>whnf)|(apply bE<;>intro _<;>first|omega|conv=>whnf)|(apply bN<;>intro _<;>conv=>whnf)|(apply bB<;>intro _<;>conv=>whnf)|(refine CallK.heap [(1000,0),(1001,2),(2001,3),(2002,4),(2003,5),(2004,6),(2500,2500)] 0 (by repeat' (first|exact ArgsH.nil|refine ArgsH.cons ?_ ?_|exact LSub.refl _|exact LSub.p Sub.nils|exact LSub.p (Sub.tt rfl)|exact LSub.p (Sub.ff rfl)|exact LSub.p (Sub.int (by omega)))) (by refine BlksH.cons (j:=0) rfl rfl ?_ ?_;exact CSub.refl _;refine BlksH.cons (j:=2) rfl rfl ?_ ?_;exact CSub.refl _;refine BlksH.cons (j:=3) rfl rfl ?_ ?_;exact CSub.refl _;refine BlksH.cons (j:=4) rfl rfl ?_ ?_;exact CSub.refl _;refine BlksH.cons (j:=5) rfl rfl ?_ ?_;exact CSub.refl _;refine BlksH.cons (j:=6) rfl rfl ?_ ?_;exact CSub.refl _;refine BlksH.cons (j:=2500) rfl rfl ?_ ?_;exact CSub.refl _;exact BlksH.nil) hdo rfl rfl ?_;rintro l' H' ⟨vs',rfl,rfl⟩;conv=>whnf))
  all_goals first
   | (exfalso;omega)
   | exact hK ⟨.next a' M',gv,0,bs,vs',it⟩ _ rfl hb' (Le.of_eq rfl)
   | exact hK ⟨.next a' M',gv,0,bs,vs',it⟩ _ rfl hb' (UK (RIx.st p tape watch fuel ⟨.next a' M',gv,0,bs,vs',it⟩).sl [_])
 ·rw [if_neg h0] at hK;conv=>whnf
  repeat' (first|((first|(refine iM fun _=>?_)|refine dA ?_|refine And.intro rfl ?_|refine aD ?_|refine aR ?_|refine bP ?_|(refine iA fun _=>?_)|refine IdxK.xs (by omega) ?_|refine QF (by omega) ?_|(refine ByteK.at (by omega) ?_)|refine wI ?_|(refine IdxK.at (k:=(a-1).toNat) (by omega) hgl rfl ?_));conv=>whnf)|(apply bD<;>intro _<;>first|omega|conv=>whnf)|(apply bE<;>intro _<;>first|omega|conv=>whnf)|(apply bN<;>intro _<;>conv=>whnf)|(apply bB<;>intro _<;>conv=>whnf)|(refine CallK.heap [(1000,0),(1001,2),(2001,3),(2002,4),(2003,5),(2004,6),(2500,2500)] 0 (by repeat' (first|exact ArgsH.nil|refine ArgsH.cons ?_ ?_|exact LSub.refl _|exact LSub.p Sub.nils|exact LSub.p (Sub.tt rfl)|exact LSub.p (Sub.ff rfl)|exact LSub.p (Sub.int (by omega)))) (by refine BlksH.cons (j:=0) rfl rfl ?_ ?_;exact CSub.refl _;refine BlksH.cons (j:=2) rfl rfl ?_ ?_;exact CSub.refl _;refine BlksH.cons (j:=3) rfl rfl ?_ ?_;exact CSub.refl _;refine BlksH.cons (j:=4) rfl rfl ?_ ?_;exact CSub.refl _;refine BlksH.cons (j:=5) rfl rfl ?_ ?_;exact CSub.refl _;refine BlksH.cons (j:=6) rfl rfl ?_ ?_;exact CSub.refl _;refine BlksH.cons (j:=2500) rfl rfl ?_ ?_;exact CSub.refl _;exact BlksH.nil) hdo rfl rfl ?_;rintro l' H' ⟨vs',rfl,rfl⟩;conv=>whnf))
  all_goals first
   | (exfalso;omega)
   | exact hK ⟨.fin M',gv,a',bs,vs',it⟩ _ rfl trivial (Le.of_eq rfl)
   | exact hK ⟨.fin M',gv,a',bs,vs',it⟩ _ rfl trivial (UK (RIx.st p tape watch fuel ⟨.fin M',gv,a',bs,vs',it⟩).sl [_])
theorem q6g {p:Pg} (hc:XS p=true) (tape watch:List Int) {fuel:Int} {c:Cf} (h:PE p fuel c) (hn : ∀ M,c ≠ .fin M):PE p fuel (goC p tape watch fuel c)∧cfμ fuel (goC p tape watch fuel c)<cfμ fuel c:=by
 cases c with
 | fin M=>exact absurd rfl (hn M)
 | back g M =>
   obtain ⟨hG,h0,h1⟩:=h;obtain ⟨st,hst⟩:=hG.top;obtain ⟨_,⟨M',e,_,_⟩|⟨a,M',e,_,hG',hat,hl,hs⟩⟩:=x4d hc hG hst g
   ·show PE p fuel (JB p g M)∧cfμ fuel (JB p g M)<_;rw [e];exact ⟨trivial,succ_pos _⟩
   ·show PE p fuel (JB p g M)∧cfμ fuel (JB p g M)<_;rw [e];refine ⟨⟨by rw [hs];exact hG',by omega,by omega,hat⟩,?_⟩;show 6*(fuel-M'.steps).toNat+2*M'.stack.length+2<6*(fuel-M.steps).toNat+2*M.stack.length+1;rw [hs];omega
 | next a M =>
   obtain ⟨hG,h0,h1,hat⟩:=h;simp only [goC];by_cases ha:a = -1
   ·rw [if_pos ha];exact ⟨⟨hG,h0,h1⟩,by show _+1<_+2;omega⟩
   rw [if_neg ha];by_cases hf:M.steps=fuel
   ·rw [if_pos hf];exact ⟨trivial,succ_pos _⟩
   rw [if_neg hf];rcases hat with h|⟨g,it,hg,_,hit,hi,_⟩
   ·exact absurd h ha
   rw [hit];simp only;have hG1:Good p (VK M) M.steps:=hG.same rfl (Nat.le_refl _) hG.fin hG.r0 hG.rd hG.tr hG.ou;have key : ∀ (r:Int×Mc),r.2.steps=(VK M).steps->(r.2.fin=0->Good p r.2 (M.steps+1)∧AtOk p r.1 (XR r.2).proc∧r.2.stack.length<=M.stack.length+1)->PE p fuel (z3g r)∧cfμ fuel (z3g r)<cfμ fuel (.next a M):=fun r hs hr=>by
    have hs:r.2.steps=M.steps+1:=hs;unfold z3g;by_cases h2:r.2.fin=0
    ·rw [if_pos h2];obtain ⟨u1,u2,u3⟩:=hr h2;refine ⟨⟨by rw [hs];exact u1,by omega,by omega,u2⟩,?_⟩;show 6*(fuel-r.2.steps).toNat+2*r.2.stack.length+2<6*(fuel-M.steps).toNat+2*M.stack.length+2;omega
    ·rw [if_neg h2];exact ⟨trivial,succ_pos _⟩
   unfold stI;have hk1:p.procs[(XR (VK M)).proc]? = some g:=hg;have hi1:it∈itsOf p (XR (VK M)).proc g:=hi;by_cases h4:it.s.kind=4
   ·rw [if_pos h4];obtain ⟨u1,u2⟩:=z9r hc watch hG1 hk1 hi1 h4 rfl;exact key _ u1 fun hz=>⟨(u2 hz).1,(u2 hz).2.1,Nat.le_of_eq (u2 hz).2.2⟩
   rw [if_neg h4];by_cases h9:it.s.kind=9
   ·rw [if_pos h9];obtain ⟨u1,u2⟩:=z7q watch hG1 it.s rfl;generalize q9z watch (VK M) (XR (VK M)) it.s=r at *
    have hs:r.2.steps=M.steps+1:=u1;unfold x4v;by_cases h2:r.2.fin=0
    ·rw [if_pos h2];obtain ⟨v1,v2⟩:=u2 h2;have hl:r.2.stack.length=M.stack.length:=by rw [v2];rfl
     refine ⟨⟨by rw [hs];exact v1,by omega,by omega⟩,?_⟩;show 6*(fuel-r.2.steps).toNat+2*r.2.stack.length+1<6*(fuel-M.steps).toNat+2*M.stack.length+2;omega
    ·rw [if_neg h2];exact ⟨trivial,succ_pos _⟩
   rw [if_neg h9,q3y hk1];obtain ⟨u1,u2⟩:=w0a hc tape watch hG1 hk1 hi1 h4 h9 rfl;refine key _ u1 fun hz=>⟨(u2 hz).1,?_,?_⟩
   ·rw [q8p (u2 hz).2.2];exact (u2 hz).2.1
   ·rw [(u2 hz).2.2];exact Nat.le_succ _
theorem q8v {p:Pg} {M M':Mc} {st:List Fm} {f:Fm} {g a:Int} (h:CloseP p M st f g a M'):M'.stack=st:=by
 cases h<;>rfl
theorem x8y {p:Pg} {M M':Mc} {st:List Fm} {f:Fm} {g a:Int} (h:CloseP p M st f g a M'):M'.mem.length=M.mem.length:=by
 cases h<;>first|rfl|simp [setM,popM]
theorem q4p (p:Pg) (tape watch:List Int) (bs:List Nat) (vs:List Int) (M:Mc) (st:List Fm) (f:Fm) (hs:M.stack=st++[f]) (hM:OkM p bs M) (hfc:f.call<=100000) (gave:Int) (at_:Int) (M':Mc) (hC:CloseP p M st f gave at_ M') :
  SpecH Tryz.prog 114 [.ptr 1000 0,.p (.int .i64 gave)] (mH p tape watch bs vs M) (fun r H=>r = .p (.int .i64 at_)∧H=mH p tape watch bs vs M') :=
 (NZ p tape watch bs vs M st f hs hM hfc gave at_ M' hC).post fun l H' ⟨es,he,hl,hH⟩=>⟨mH p tape watch bs vs M',⟨hl,rfl⟩,by
   subst hH;have e:M'.stack=st:=q8v hC;refine Le.cut ?_;show CutH (mHs p tape watch bs vs M' es) (mHs p tape watch bs vs M' (M'.stack.map (fmA bs)));rw [e];exact .same (.same (.cut he (.same (.same (.same (.same .nil))))))⟩
def w1a (bs:List Nat) (M:Mc):St:=⟨[(8,.ptr 1 0),(9,.p (.int .i64 0))],[(5,.own 2 1 (M.out.map (.int .i64))),(6,.own 63 2 (M.trace.map evA)),(2500,.ext (.cells 2 (XI bs M.mem))),
 (1,.obj 60 [.p (.int .i64 M.fin),.p (.int .i64 M.steps),.p (.int .i64 M.reads),.hd 5 0 M.out.length,.hd 6 0 M.trace.length])]⟩
def z8e (M:Mc):AV := .agg [.int .i64 M.fin,.int .i64 M.steps,.int .i64 M.reads,XW M.out,.sl (M.trace.map evA)]
def w5n (p:Pg) (tape watch:List Int) (fuel:Int) (r:AV):Prop := ∃ n M,KM p tape watch fuel n (UZ p) = .fin M∧r = .tup [z8e M,.int .i64 0]
theorem x9x (p:Pg) (hc:XS p=true) (tape watch:List Int) (fuel:Int) (hfu:fuel<=1000000) (g:Int) (bs:List Nat) (vs:List Int) (it0:Item) (at_:Int) (M:Mc) (hG:PE p fuel (.back g M)) (hb:bs.length=M.mem.length) (K:Exit->St->Prop) (hK:Kgo p tape watch fuel (.back g M) K)
  (hR : ∀ (M':Mc),goC p tape watch fuel (.back g M) = .fin M'->K .ret (w1a bs M')) :
  W Tryz.prog tab Tryz.f63.ntmps q0x (z0v 0) K (x5o p tape watch fuel g at_ bs vs M it0):=by
 obtain ⟨hGd,hs0,hs1⟩:=hG;have hOk:=hGd.okM hc hb;obtain ⟨st,hst⟩:=hGd.top;unfold Kgo at hK;simp only [goC] at hK hR;obtain ⟨hfc,⟨M',e,hC,hfin⟩|⟨a,M',e,hC,hG',hat,hl,hs⟩⟩:=x4d hc hGd hst g
 ·have hcl:=q4p p tape watch bs vs M st (XR M) hst hOk hfc g (-1) M' hC;have hR1:=hR M' e;clear hR hK;conv=>whnf
  repeat' (first|((first|(refine iM fun _=>?_)|refine dA ?_|refine And.intro rfl ?_|refine aD ?_|refine aR ?_|refine bP ?_|(refine iA fun _=>?_)|refine IdxK.xs (by omega) ?_|refine QF (by omega) ?_|(refine ByteK.at (by omega) ?_)|refine wI ?_);conv=>whnf)|(apply bD<;>intro _<;>first|omega|conv=>whnf)|(apply bE<;>intro _<;>first|omega|conv=>whnf)|(apply bN<;>intro _<;>conv=>whnf)|(apply bB<;>intro _<;>conv=>whnf)|(refine CallK.heap [(1000,0),(1001,2),(2001,3),(2002,4),(2003,5),(2004,6),(2500,2500)] 0 (by repeat' (first|exact ArgsH.nil|refine ArgsH.cons ?_ ?_|exact LSub.refl _|exact LSub.p Sub.nils|exact LSub.p (Sub.tt rfl)|exact LSub.p (Sub.ff rfl)|exact LSub.p (Sub.int (by omega)))) (by refine BlksH.cons (j:=0) rfl rfl ?_ ?_;exact CSub.refl _;refine BlksH.cons (j:=2) rfl rfl ?_ ?_;exact CSub.refl _;refine BlksH.cons (j:=3) rfl rfl ?_ ?_;exact CSub.refl _;refine BlksH.cons (j:=4) rfl rfl ?_ ?_;exact CSub.refl _;refine BlksH.cons (j:=5) rfl rfl ?_ ?_;exact CSub.refl _;refine BlksH.cons (j:=6) rfl rfl ?_ ?_;exact CSub.refl _;refine BlksH.cons (j:=2500) rfl rfl ?_ ?_;exact CSub.refl _;exact BlksH.nil) hcl rfl rfl ?_;rintro l' H' ⟨rfl,rfl⟩;conv=>whnf))
  all_goals first
   | (exfalso;omega)
   | exact hR1
 ·have hcl:=q4p p tape watch bs vs M st (XR M) hst hOk hfc g a M' hC;have hb':bs.length=M'.mem.length:=by rw [x8y hC];exact hb
  have hfin:=hG'.fin;rw [e] at hK;clear hR;conv=>whnf
  repeat' (first|((first|(refine iM fun _=>?_)|refine dA ?_|refine And.intro rfl ?_|refine aD ?_|refine aR ?_|refine bP ?_|(refine iA fun _=>?_)|refine IdxK.xs (by omega) ?_|refine QF (by omega) ?_|(refine ByteK.at (by omega) ?_)|refine wI ?_);conv=>whnf)|(apply bD<;>intro _<;>first|omega|conv=>whnf)|(apply bE<;>intro _<;>first|omega|conv=>whnf)|(apply bN<;>intro _<;>conv=>whnf)|(apply bB<;>intro _<;>conv=>whnf)|(refine CallK.heap [(1000,0),(1001,2),(2001,3),(2002,4),(2003,5),(2004,6),(2500,2500)] 0 (by repeat' (first|exact ArgsH.nil|refine ArgsH.cons ?_ ?_|exact LSub.refl _|exact LSub.p Sub.nils|exact LSub.p (Sub.tt rfl)|exact LSub.p (Sub.ff rfl)|exact LSub.p (Sub.int (by omega)))) (by refine BlksH.cons (j:=0) rfl rfl ?_ ?_;exact CSub.refl _;refine BlksH.cons (j:=2) rfl rfl ?_ ?_;exact CSub.refl _;refine BlksH.cons (j:=3) rfl rfl ?_ ?_;exact CSub.refl _;refine BlksH.cons (j:=4) rfl rfl ?_ ?_;exact CSub.refl _;refine BlksH.cons (j:=5) rfl rfl ?_ ?_;exact CSub.refl _;refine BlksH.cons (j:=6) rfl rfl ?_ ?_;exact CSub.refl _;refine BlksH.cons (j:=2500) rfl rfl ?_ ?_;exact CSub.refl _;exact BlksH.nil) hcl rfl rfl ?_;rintro l' H' ⟨rfl,rfl⟩;conv=>whnf))
  all_goals first
   | (exfalso;omega)
   | exact hK ⟨.next a M',g,0,bs,vs,it0⟩ _ rfl hb' (Le.of_eq rfl)
   | exact hK ⟨.next a M',g,0,bs,vs,it0⟩ _ rfl hb' (UK (RIx.st p tape watch fuel ⟨.next a M',g,0,bs,vs,it0⟩).sl [_])
theorem z4t (p:Pg) (tape watch:List Int) (fuel gv at_:Int) (bs:List Nat) (vs:List Int) (it0:Item) (M:Mc) (K:Exit->St->Prop) (hR:K .ret (w1a bs M)) :
  W Tryz.prog tab Tryz.f63.ntmps q0x (z0v 2) K (x5o p tape watch fuel gv at_ bs vs M it0):=by
 conv=>whnf
 repeat' (first|((first|(refine iM fun _=>?_)|refine dA ?_|refine And.intro rfl ?_|refine aD ?_|refine aR ?_|refine bP ?_|(refine iA fun _=>?_)|refine IdxK.xs (by omega) ?_|refine QF (by omega) ?_|(refine ByteK.at (by omega) ?_)|refine wI ?_);conv=>whnf)|(apply bD<;>intro _<;>first|omega|conv=>whnf)|(apply bE<;>intro _<;>first|omega|conv=>whnf)|(apply bN<;>intro _<;>conv=>whnf)|(apply bB<;>intro _<;>conv=>whnf))
 all_goals first
  | exact hR
theorem z5e {bs:List Nat} {n:Nat} (h:bs.length=n):VG bs (List.range n)=bs.map cpA:=by
 have:=x4p (bs:=[]) (nb:=bs);rw [List.nil_append,length_nil,h,<- List.range_eq_range'] at this;exact this
theorem z0i {bs:List Nat} {n:Nat} (h:bs.length=n):XI bs (List.replicate n 0)=bs.map fun b=>(b,.int .i64 0):=by
 have:=q9e (bs:=[]) (mem:=[]) (nb:=bs) rfl;rw [h] at this;exact this
def w5o:Item:=⟨⟨0,0,[],[],[],⟨0,0,[],[]⟩,false,[],[],[]⟩,0,0,0,0⟩
def Mz:Mc:=⟨[],[],0,0,0,[],[]⟩
theorem w6v:Sub (.agg [.int .i64 0,.int .i64 0,.int .i64 0,.nils,.nils]) (z8e Mz) :=
 Sub.agg (.cons (Sub.refl _) (.cons (Sub.refl _) (.cons (Sub.refl _) (.cons Sub.nils (.cons Sub.nils .nil)))))
theorem w6u {H:Heap} {k:Int} {R:AV->Prop} (hR:R (.tup [z8e Mz,.int .i64 k])):RetK H (.p (.tup [.agg [.int .i64 0,.int .i64 0,.int .i64 0,.nils,.nils],.int .i64 k])) R :=
 ⟨_,.p (Sub.tup (.cons w6v (.cons (Sub.refl _) .nil))),hR⟩
theorem z8x {H:Heap} {M:Mc} {R:AV->Prop} {e5 e6:TypeId} (h5:getH H 5=some (.own e5 1 (M.out.map (.int .i64)))) (h6:getH H 6=some (.own e6 2 (M.trace.map evA))) (hR:R (.tup [z8e M,.int .i64 0])) :
  RetK H (.tup [.agg [.p (.int .i64 M.fin),.p (.int .i64 M.steps),.p (.int .i64 M.reads),.hd 5 0 M.out.length,.hd 6 0 M.trace.length],.p (.int .i64 0)]) R :=
 ⟨_,.tup (cs:=[z8e M,.int .i64 0]) rfl (fun j l c hj hc=>by
   match j,hj,hc with
   | 0,hj,hc =>
     cases hj;cases hc;refine .agg rfl fun j l c hj hc => ?_
     match j,hj,hc with
     | 0,hj,hc=>cases hj;cases hc;exact .p (Sub.refl _)
     | 1,hj,hc=>cases hj;cases hc;exact .p (Sub.refl _)
     | 2,hj,hc=>cases hj;cases hc;exact .p (Sub.refl _)
     | 3,hj,hc=>cases hj;cases hc;exact .hd h5 (by rw [length_map])
     | 4,hj,hc=>cases hj;cases hc;exact .hd h6 (by rw [length_map])
     | j+5,hj,_=>cases hj
   | 1,hj,hc=>cases hj;cases hc;exact .p (Sub.refl _)
   | j+2,hj,_=>cases hj),hR⟩
def gSt (p:Pg) (tape watch:List Int) (fuel:Int) (j:Nat) (bs:List Nat):St:=⟨[(2,.p (.int .i64 fuel)),(8,.ptr 1 0),(10,.ptr 0 0),(34,.p (.int .i64 (p.globals.map AV.str).length)),(35,.p (.int .i64 j))],
 [(2500,.ext (.cells 2 (bs.map fun b=>(b,.int .i64 0)))),(0,.obj 163 [.p (.ip (sheetOf p).cells),.hd 2 0 j,.p (XW tape),.p (XW watch),.hd 3 0 0,.hd 4 0 0,.p (.int .i64 0),.p (.int .i64 0),.p (.int .i64 0),.hd 5 0 0,.hd 6 0 0]),(2,.own 164 1 (bs.map cpA)),(3,.own 218 1 []),(4,.own 2 1 []),(5,.own 2 1 []),(6,.own 63 2 []),(1,rO)]⟩
structure GIx where
 j:Nat
 bs:List Nat
theorem w2d (p:Pg) (hf:Fit p) (tape watch:List Int) (htp:tape.length<=10000000) (fuel:Int):SpecP Tryz.prog 63 [.agg p.cells,XW tape,.int .i64 fuel,XW watch] (fun r=>(XS p=true∧0<=fuel∧fuel<=1000000->w5n p tape watch fuel r)∧(¬(XS p=true∧0<=fuel∧fuel<=1000000)->r = .tup [z8e Mz,.int .i64 1])):=by
 refine sB q0x Tryz.func63 rfl Tryz.call63 ?_;conv=>whnf
 have hC:=ZD p hf;by_cases hok:XS p=true∧0<=fuel∧fuel<=1000000
 ·obtain ⟨hc,hf0,hf1⟩:=hok;rw [hc] at hC;obtain ⟨hg,hpl,hcn⟩:=VY hc;have hFl:=WF p (by omega) (by omega);have hPr:=XT (sheetOf p) mainS;obtain ⟨m1,m2,m3⟩:=x0u hc;have hst0:=x5w hc hf0;rw [show (sheetOf p).p=p from (QV p).1,m1] at hPr;have hmf:=(GN (QY hc).1).pr _ (List.mem_of_getElem? m2);have hgm:(p.globals.map AV.str).length=p.globals.length:=length_map _;repeat' (first|((first|(refine iM fun _=>?_)|refine dA ?_|refine And.intro rfl ?_|refine aD ?_|refine aR ?_|refine bP ?_|(refine iA fun _=>?_)|refine IdxK.xs (by omega) ?_|refine QF (by omega) ?_|(refine ByteK.at (by omega) ?_)|refine wI ?_);conv=>whnf)|(apply bD<;>intro _<;>first|omega|conv=>whnf)|(apply bE<;>intro _<;>first|omega|conv=>whnf)|(apply bN<;>intro _<;>conv=>whnf)|(apply bB<;>intro _<;>conv=>whnf))
  refine z7c ?_;refine ScopeK.inv QU (c:=w0c) (RIx.st p tape watch fuel) RIx.lab (fun i=>PE p fuel i.c∧i.bok ∧ ∃ n,KM p tape watch fuel n (UZ p)=i.c) (fun i=>cfμ fuel i.c) z0v ?_ ?_ ?_
  ·rintro ⟨c,gv,at_,bs,vs,it⟩ _;cases c<;>rfl
  ·refine (show ∀ (K:Exit->St->Prop),(∀ l s',(∃ i:RIx,i.lab=l∧(PE p fuel i.c∧i.bok ∧ ∃ n,KM p tape watch fuel n (UZ p)=i.c)∧Le Tryz.f63.ntmps s' (i.st p tape watch fuel))->K (.goto l) s')->W Tryz.prog tab Tryz.f63.ntmps q0x w0c K _ from ?_) _ (fun _ _ h=>h);intro K hK;conv=>whnf
   repeat' (first|((first|(refine iM fun _=>?_)|refine dA ?_|refine And.intro rfl ?_|refine aD ?_|refine aR ?_|refine bP ?_|(refine iA fun _=>?_)|refine IdxK.xs (by omega) ?_|refine QF (by omega) ?_|(refine ByteK.at (by omega) ?_)|refine wI ?_|refine cP hC ?_|refine cP hFl ?_);conv=>whnf)|(apply bD<;>intro _<;>first|omega|conv=>whnf)|(apply bE<;>intro _<;>first|omega|conv=>whnf)|(apply bN<;>intro _<;>conv=>whnf)|(apply bB<;>intro _<;>conv=>whnf)|(refine And.intro ?_ ?_<;>conv=>whnf))
   all_goals try (exfalso;omega)
   all_goals try contradiction
   refine LoopK.inv QU (fun i:GIx=>gSt p tape watch fuel i.j i.bs) (fun i=>i.j<=p.globals.length∧i.bs.length=i.j) (fun i=>p.globals.length-i.j) ⟨0,[]⟩ ?_ ⟨zero_le _,rfl⟩ ?_
   ·refine Le.trans (Le.mk (H':=(gSt p tape watch fuel 0 []).H.tail) [(2,.own 164 1 []),(3,.own 218 1 []),(4,.own 2 1 []),(5,.own 2 1 []),(6,.own 63 2 [])] (by intro c hc;simp only [List.mem_cons,List.not_mem_nil,or_false] at hc;rcases hc with rfl|rfl|rfl|rfl|rfl<;>exact ⟨rfl,rfl⟩) (by decide) (by show (List.map _ _).Nodup;simp [gSt]) (sl':=(gSt p tape watch fuel 0 []).sl)
     (.cons (.refl _) (.cons (.refl _) (.cons (.refl _) (.cons (.refl _) (.cons (.refl _) .nil)))))
     (.cons rfl (.obj (.cons (.refl _) (.cons (.nil (.head _)) (.cons (.refl _) (.cons (.refl _) (.cons (.nil (.tail _ (.head _))) (.cons (.nil (.tail _ (.tail _ (.head _)))) (.cons (.refl _) (.cons (.refl _) (.cons (.refl _) (.cons (.nil (.tail _ (.tail _ (.tail _ (.head _))))) (.cons (.nil (.tail _ (.tail _ (.tail _ (.tail _ (.head _)))))) .nil)))))))))))) (.new (by simp) (.new (by simp) (.new (by simp) (.new (by simp) (.new (by simp) (.cons rfl (.refl _) .nil)))))))) (z3y 2500 2 (by rfl) (by decide))
   rintro ⟨j,bs⟩ ⟨h1,h2⟩;simp only at h1 h2 ⊢;have hbl:(bs.map cpA).length=bs.length:=length_map _;rcases Nat.lt_or_ge j p.globals.length with hj|hj
   ·unfold gSt;conv=>whnf
    repeat' (first|((first|(refine iM fun _=>?_)|refine dA ?_|refine And.intro rfl ?_|refine aD ?_|refine aR ?_|refine bP ?_|(refine iA fun _=>?_)|refine IdxK.xs (by omega) ?_|refine QF (by omega) ?_|(refine ByteK.at (by omega) ?_)|refine wI ?_|refine AppK.mk (n:=j) (by omega) rfl (by show (j+1)*8<=140737488355328;omega) (by show j+1<=9223372036854775807;omega) (fun x hx=>by rcases List.mem_singleton.1 hx with rfl;exact ⟨rfl,rfl⟩) ?_);conv=>whnf)|(apply bD<;>intro _<;>first|omega|conv=>whnf)|(apply bE<;>intro _<;>first|omega|conv=>whnf)|(apply bN<;>intro _<;>conv=>whnf)|(apply bB<;>intro _<;>conv=>whnf)|(refine NS QU 7 2500 ?_;conv=>whnf)|(refine ⟨⟨rfl,rfl⟩,fun b hb => ?_⟩;conv=>whnf))
    all_goals first
     | (exfalso;omega)
     | exact ⟨⟨j+1,bs++[b]⟩,⟨hj,by simp [h2]⟩,by simp only;omega,Le.of_eq (by simp only [List.map_append];rfl)⟩
   ·obtain rfl:j=p.globals.length:=by omega
    have hM0:OkM p bs (M00 p):=⟨by simp [M00,h2],(fun f hf=>by cases hf),by simp [M00],zero_le _,fun f hf=>by cases hf⟩;have hopen:=KK p tape watch bs [] (M00 p) hM0 (zero_le _) (mainN p) (prA p (mainN p)) m2 (q8n hc m2) (by omega) (by omega) [] (zero_le _) (fun v hv=>by cases hv) 0;have hq:mHq p tape watch bs [] (M00 p) (VG bs [])=[(1000,.obj 163 [.p (.ip (sheetOf p).cells),.hd 1001 0 p.globals.length,.p (XW tape),.p (XW watch),.hd 2001 0 0,.hd 2002 0 0,.p (.int .i64 0),.p (.int .i64 0),.p (.int .i64 0),.hd 2003 0 0,.hd 2004 0 0]),(1001,.own 164 1 (bs.map cpA)),(2001,.own 218 1 []),(2002,.own 2 1 []),
      (2003,.own 2 1 []),(2004,.own 63 2 []),(2500,.ext (.cells 2 (bs.map fun b=>(b,.int .i64 0)))),(2005,.own 164 1 [])]:=by
     unfold mHq mH mO M00;simp only;rw [z5e h2,z0i h2];rfl
    rw [hq] at hopen;unfold gSt;conv=>whnf
    repeat' (first|((first|(refine iM fun _=>?_)|refine dA ?_|refine And.intro rfl ?_|refine aD ?_|refine aR ?_|refine bP ?_|(refine iA fun _=>?_)|refine IdxK.xs (by omega) ?_|refine QF (by omega) ?_|(refine ByteK.at (by omega) ?_)|refine wI ?_|refine cP hPr ?_);conv=>whnf)|(apply bD<;>intro _<;>first|omega|conv=>whnf)|(apply bE<;>intro _<;>first|omega|conv=>whnf)|(apply bN<;>intro _<;>conv=>whnf)|(apply bB<;>intro _<;>conv=>whnf))
    all_goals try (exfalso;omega)
    refine CallK.le ?_;refine CallK.nil 8 164 1 rfl (.cons rfl (.cons rfl (.row (.cons rfl .nil)))) ?_;refine CallK.heap [(1000,0),(1001,2),(2001,3),(2002,4),(2003,5),(2004,6),(2500,2500),(2005,8)] 0 (ArgsH.cons (LSub.refl _) (ArgsH.cons (LSub.refl _) (ArgsH.cons (LSub.refl _) (ArgsH.cons (LSub.refl _) ArgsH.nil)))) (by refine BlksH.cons (j:=0) rfl rfl ?_ ?_;exact CSub.refl _;refine BlksH.cons (j:=2) rfl rfl ?_ ?_;exact CSub.refl _;refine BlksH.cons (j:=3) rfl rfl ?_ ?_;exact CSub.refl _;refine BlksH.cons (j:=4) rfl rfl ?_ ?_;exact CSub.refl _;refine BlksH.cons (j:=5) rfl rfl ?_ ?_;exact CSub.refl _;refine BlksH.cons (j:=6) rfl rfl ?_ ?_;exact CSub.refl _;refine BlksH.cons (j:=2500) rfl rfl ?_ ?_;exact CSub.refl _;refine BlksH.cons (j:=8) rfl rfl ?_ ?_;exact CSub.refl _;exact BlksH.nil) hopen rfl rfl ?_;rintro l' H' ⟨nb,rfl,rfl,hnb⟩;conv=>whnf
    have hbl2:(bs++nb).length=(YX p (mainN p) (prA p (mainN p)) [] 0 (M00 p)).mem.length:=by
     unfold YX M00;simp only [length_append,List.length_replicate];omega
    refine ⟨⟨[(2,.p (.int .i64 fuel)),(8,.ptr 1 0),(10,.ptr 0 0),(11,.ptr 7 0),(12,.p (.int .i64 0)),(54,.p (.int .i64 (PI p (mainN p) (prA p (mainN p)))))],rH p tape watch (bs++nb) [] (YX p (mainN p) (prA p (mainN p)) [] 0 (M00 p)) w5o⟩,?_,?_⟩
    ·have hp:=x0c p hc tape watch htp fuel hf1 0 (bs++nb) [] w5o _ _ hst0 hbl2 K (fun i s' h1 h2 h3=>hK i.lab s' ⟨i,rfl,⟨h1▸(q6g hc tape watch hst0 (fun _ h=>by cases h)).1,h2,1,h1.symm⟩,h3⟩);conv=>whnf
     conv at hp=>whnf
     exact hp
    ·exact Le.mk [] (by simp) (by simp) (by show (List.map _ _).Nodup;simp [rH]) (.cons (.refl _) (.cons (.refl _) (.cons (.refl _) (.cons (.refl _) (.cons (.refl _) (.cons (.refl _) .nil))))))
      (.cons rfl (.refl _) (.cons rfl (.refl _) (.cons rfl (.refl _) (.cons rfl (.refl _) (.cons rfl (.refl _) (.cons rfl (.refl _) (.cons rfl (.refl _) (.cons rfl (.refl _) (.cons rfl (.obj (.cons (.refl _) (.cons (.refl _) (.cons (.p Sub.nils) (.cons (.refl _) (.cons (.refl _) (.cons (.refl _) (.cons (.refl _) (.cons (.refl _) (.cons (.p Sub.nils) (.cons (.p (Sub.ff rfl)) (.cons (.p Sub.nils) (.cons (.p Sub.nils) (.cons (.p Sub.nils) (.cons (.refl _) (.cons (.refl _) (.cons (.refl _) (.cons (.refl _) .nil)))))))))))))))))) .nil)))))))))
  ·rintro ⟨c,gv,at_,bs,vs,it⟩ ⟨hG,hb,n,hn⟩;have hgo:=q6g hc tape watch (p:=p) (fuel:=fuel) (c:=c) hG;cases c with
   | next a M =>
     refine x0c p hc tape watch htp fuel hf1 gv bs vs it a M hG hb _ fun i s' h1 h2 h3 => ?_;obtain ⟨u1,u2⟩:=hgo (fun _ h=>by cases h);exact ⟨i,rfl,⟨h1▸u1,h2,n+1,by rw [VD,hn,h1]⟩,h1▸u2,h3⟩
   | back g M =>
     refine x9x p hc tape watch fuel hf1 g bs vs it at_ M hG hb _ (fun i s' h1 h2 h3 => ?_) fun M' h1 => ?_
     ·obtain ⟨u1,u2⟩:=hgo (fun _ h=>by cases h);exact ⟨i,rfl,⟨h1▸u1,h2,n+1,by rw [VD,hn,h1]⟩,h1▸u2,h3⟩
     ·exact z8x rfl rfl ⟨fun _=>⟨n+1,M',by rw [VD,hn,h1],rfl⟩,fun h=>absurd ⟨hc,hf0,hf1⟩ h⟩
   | fin M =>
     refine z4t p tape watch fuel gv at_ bs vs it M _ ?_;exact z8x rfl rfl ⟨fun _=>⟨n,M,hn,rfl⟩,fun h=>absurd ⟨hc,hf0,hf1⟩ h⟩
 ·skip
  repeat' (first|((first|(refine iM fun _=>?_)|refine dA ?_|refine And.intro rfl ?_|refine aD ?_|refine aR ?_|refine bP ?_|(refine iA fun _=>?_)|refine IdxK.xs (by omega) ?_|refine QF (by omega) ?_|(refine ByteK.at (by omega) ?_)|refine wI ?_);conv=>whnf)|(apply bD<;>intro _<;>first|omega|conv=>whnf)|(apply bE<;>intro _<;>first|omega|conv=>whnf)|(apply bN<;>intro _<;>conv=>whnf)|(apply bB<;>intro _<;>conv=>whnf))
  refine z7c ?_;refine ScopeK.inv QU (c:=w0c) (fun i:Nat=>⟨[],[]⟩) (fun i=>0) (fun _=>False) (fun i=>0) z0v (fun _ h=>h.elim) ?_ (fun _ h=>h.elim);cases hc:XS p;all_goals
   rw [hc] at hC hok;conv=>whnf
   repeat' (first|((first|(refine iM fun _=>?_)|refine dA ?_|refine And.intro rfl ?_|refine aD ?_|refine aR ?_|refine bP ?_|(refine iA fun _=>?_)|refine IdxK.xs (by omega) ?_|refine QF (by omega) ?_|(refine ByteK.at (by omega) ?_)|refine wI ?_|refine cP hC ?_);conv=>whnf)|(apply bD<;>intro _<;>first|omega|conv=>whnf)|(apply bE<;>intro _<;>first|omega|conv=>whnf)|(apply bN<;>intro _<;>conv=>whnf)|(apply bB<;>intro _<;>conv=>whnf))
   all_goals first
    | contradiction
    | exact w6u ⟨fun h=>absurd h hok,fun _=>rfl⟩
    | exact absurd ⟨rfl,by omega,by omega⟩ hok
theorem UR (p:Pg) (hf:Fit p) (hc:XS p=true) (tape:List Int) (htp:tape.length<=10000000) (fuel:Int) (h0:0<=fuel) (h1:fuel<=1000000) (hl:(allR p).length<=1000):SpecP Tryz.prog 34 [.agg p.cells,XW tape,.int .i64 fuel] (fun r => ∃ n M,KM p tape (x1u p 0) fuel n (UZ p) = .fin M∧r=z8e M):=by
 refine sB GQ Tryz.func34 rfl Tryz.call34 ?_;conv=>whnf
 have hI:=MC p 0 hl;have hR:SpecP Tryz.prog 63 [.agg p.cells,XW tape,.int .i64 fuel,XW (x1u p 0)] (fun r=>w5n p tape (x1u p 0) fuel r):=(w2d p hf tape (x1u p 0) htp fuel).mono fun r hr=>hr.1 ⟨hc,h0,h1⟩;repeat' (first|((first|(refine iM fun _=>?_)|refine dA ?_|refine And.intro rfl ?_|refine aD ?_|refine aR ?_|refine bP ?_|(refine iA fun _=>?_)|refine IdxK.xs (by omega) ?_|refine QF (by omega) ?_|(refine ByteK.at (by omega) ?_)|refine wI ?_|refine cP hI ?_|(refine CallK.pure hR (.cons (Sub.refl _) (.cons (Sub.refl _) (.cons (Sub.refl _) (.cons (Sub.refl _) .nil)))) ?_;rintro _ ⟨n,M,hn,rfl⟩));conv=>whnf)|(apply bD<;>intro _<;>first|omega|conv=>whnf)|(apply bE<;>intro _<;>first|omega|conv=>whnf)|(apply bN<;>intro _<;>conv=>whnf)|(apply bB<;>intro _<;>conv=>whnf)|(refine And.intro ?_ ?_<;>conv=>whnf))
 all_goals first
  | exact ⟨_,.p (Sub.refl _),n,M,hn,rfl⟩
end Go.Ab
