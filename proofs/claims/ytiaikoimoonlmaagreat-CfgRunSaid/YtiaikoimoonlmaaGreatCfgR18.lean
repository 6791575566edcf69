/- LAW: what must hold of a program, told without the places of faults. -/
import Derived.Test.YtiaikoimoonlmaaGreatCfgR5
import Derived.Test.YtiaikoimoonlmaaGreatCfgR9
import Derived.Test.YtiaikoimoonlmaaGreatCfgR10
import Derived.Test.YtiaikoimoonlmaaGreatCfgR12
import Derived.Test.YtiaikoimoonlmaaGreatCfgR13
import Derived.Test.YtiaikoimoonlmaaGreatCfgR16
import Derived.Test.YtiaikoimoonlmaaGreatCfgR17
set_option linter.unusedSimpArgs false
set_option linter.unusedVariables false
set_option maxRecDepth 100000
set_option maxHeartbeats 16000000
open List (flatMap_cons length_append length_cons length_map length_nil mem_cons_self nil_append nodup_append)
open Nat (succ_pos zero_le)
namespace Go.Ab
open Go.Proofs
theorem q3x {l:List Str}:XA l=false↔l.Nodup:=by
 refine ⟨q6j,fun h => ?_⟩;unfold XA;rw [List.any_eq_false];intro i hi;rw [List.mem_range] at hi;rw [Bool.not_eq_true,List.any_eq_false];intro s hs he;rw [List.getElem?_eq_getElem hi] at he;have he:l[i]=s:=eq_of_beq he;obtain ⟨k,hk,rfl⟩:=List.mem_iff_getElem.1 hs;rw [List.length_take] at hk;rw [List.getElem_take] at he;have:=(List.getElem_inj h).1 he;omega
theorem HO : ∀ (l seen:List Str),seen.Nodup->((WG seen l).isSome=true↔(seen++l).Nodup)
 | [],seen,h=>by rw [WG,List.append_nil];exact ⟨fun _=>h,fun _=>rfl⟩
 | n::r,seen,h=>by
   rw [WG];cases hc:(seen.any fun s=>n==s) with
   | true =>
     rw [cond_true];obtain ⟨s,hs,he⟩:=List.any_eq_true.1 hc;have he:n=s:=eq_of_beq he;refine ⟨fun h=>by (cases h),fun h2 => ?_⟩;rw [nodup_append] at h2;exact absurd rfl (h2.2.2 s hs n mem_cons_self |> fun hh=>he▸hh)
   | false =>
     rw [cond_false];have hn:n∉seen:=fun hm=>by
      have:=List.any_eq_false.1 hc n hm;simp at this
     have h1:(seen++[n]).Nodup:=by
      rw [nodup_append];exact ⟨h,by simp,fun a ha b hb e=>hn (by rw [<- List.mem_singleton.1 hb,<- e];exact ha)⟩
     rw [HO r (seen++[n]) h1,List.append_assoc];rfl
theorem q9u (f:Pr) : ∀ (its:List Item) (seen:List Str),seen.Nodup->((∃ s,VB f its seen = .ok s)↔(∀ it∈its,WL f it=true)∧(seen++its.flatMap fun it=>it.s.labels).Nodup)
 | [],seen,h=>by
   rw [VB];refine ⟨fun _=>⟨fun _ hh=>(by cases hh),by simpa using h⟩,fun _=>⟨seen,rfl⟩⟩
 | it::r,seen,h=>by
   have hj:=HO it.s.labels seen h;rw [VB];cases hq:WG seen it.s.labels with
   | none =>
     rw [hq] at hj;refine ⟨fun ⟨s,hs⟩=>by (cases hs),fun ⟨_,h2⟩ => ?_⟩;have:(seen++it.s.labels).Nodup:=by
      rw [flatMap_cons,<- List.append_assoc] at h2;exact (List.nodup_append.1 h2).1
     have:=hj.2 this;cases this
   | some s =>
     obtain rfl:=FN hq;rw [hq] at hj;have hn:=hj.1 rfl;simp only;cases hl:WL f it with
     | false =>
       rw [cond_false];refine ⟨fun ⟨s,hs⟩=>by (cases hs),fun ⟨h1,_⟩ => ?_⟩;have:=h1 it mem_cons_self;rw [hl] at this;cases this
     | true =>
       rw [cond_true,q9u f r _ hn,flatMap_cons,List.append_assoc];constructor
       ·rintro ⟨h1,h2⟩;refine ⟨fun x hx => ?_,h2⟩;rcases List.mem_cons.1 hx with rfl|hx
        ·exact hl
        ·exact h1 x hx
       ·rintro ⟨h1,h2⟩;exact ⟨fun x hx=>h1 x (List.mem_cons_of_mem _ hx),h2⟩
theorem q2s (f:Pr) : ∀ (its:List Item) (seen s:List Str),VB f its seen = .ok s->s=seen++its.flatMap fun it=>it.s.labels
 | [],seen,s,h=>by rw [VB] at h;cases h;simp
 | it::r,seen,s,h=>by
   rw [VB] at h;cases hq:WG seen it.s.labels with
   | none=>rw [hq] at h;cases h
   | some s2 =>
     obtain rfl:=FN hq;rw [hq] at h;simp only at h;cases hl:WL f it with
     | false=>rw [hl] at h;cases h
     | true =>
       rw [hl,cond_true] at h;rw [q2s f r _ s h,flatMap_cons,List.append_assoc]
def x0b (f:Pr):List Str:=(flL f.body).flatMap S.labels++f.fin
def x9j (p:Pg) (j:Nat) (f:Pr):Prop:=(∀ it∈itsOf p j f,WL f it=true)∧(x0b f).Nodup
theorem q3a (p:Pg) (j:Nat) (f:Pr):((itsOf p j f).flatMap fun it=>it.s.labels)=(flL f.body).flatMap S.labels:=by
 unfold itsOf;rw [<- GR (j:Nat) 0 (-1) 0 (QN p.procs j) f.body,List.flatMap_map]
theorem q2c {p:Pg} {j:Nat} {f:Pr} (hj:p.procs[j]? = some f):VH p j=none↔x9j p j f:=by
 unfold VH x9j x0b;rw [hj];simp only;have h1:=q9u f (itsOf p j f) [] List.nodup_nil;rw [nil_append,q3a] at h1;have h0:VB f (itL (j:Nat) 0 (-1) 0 (QN p.procs j) f.body) []=VB f (itsOf p j f) []:=rfl;rw [h0];cases hq:VB f (itsOf p j f) [] with
 | error id =>
   rw [hq] at h1;refine ⟨fun h=>by (cases h),fun ⟨h2,h3⟩ => ?_⟩;obtain ⟨s,hs⟩:=h1.2 ⟨h2,(List.nodup_append.1 h3).1⟩;cases hs
 | ok seen =>
   rw [hq] at h1;have hs:=q2s f _ _ _ hq;rw [nil_append,q3a] at hs;obtain ⟨h2,h3⟩:=h1.1 ⟨seen,rfl⟩;have hJ:=HO f.fin seen (by rw [hs];exact h3);simp only;rw [<- hs];cases hq2:WG seen f.fin with
   | none =>
     rw [hq2] at hJ;refine ⟨fun h=>by (cases h),fun ⟨_,h4⟩ => ?_⟩;have:=hJ.2 h4;cases this
   | some s =>
     rw [hq2] at hJ;exact ⟨fun _=>⟨h2,hJ.1 rfl⟩,fun _=>rfl⟩
theorem x2b {p:Pg} (hs:(QT p).1=0):(GA p).1=0 ↔ ∀ j f,p.procs[j]? = some f->x9j p j f:=by
 unfold GA;rw [if_neg (by omega)];cases hf:(List.range p.procs.length).findSome? (VH p) with
 | some a =>
   refine ⟨fun h=>by simp at h,fun h => ?_⟩;obtain ⟨j,hj,hq⟩:=List.exists_of_findSome?_eq_some hf;rw [List.mem_range] at hj;have:=(q2c (List.getElem?_eq_getElem hj)).2 (h j _ (List.getElem?_eq_getElem hj));rw [this] at hq;cases hq
 | none =>
   refine ⟨fun _ j f hj => ?_,fun _=>rfl⟩;have hlt:j<p.procs.length:=(List.getElem?_eq_some_iff.1 hj).1;exact (q2c hj).1 (List.findSome?_eq_none_iff.1 hf j (List.mem_range.2 hlt))
def allV (p:Pg) (f:Pr):List Str:=p.globals++PQ f
structure ScopeOK (p:Pg) (f:Pr):Prop where
 nd:(allV p f).Nodup
 kn : ∀ t∈flL f.body,knownB p f (procsN p) t=true
theorem MO {p:Pg} {f:Pr} (hg:XA p.globals=false):ZM p f=none↔ScopeOK p f:=by
 unfold ZM;have h1:(XA (PQ f)||(PQ f).any (fun n=>p.globals.any fun s=>n==s))=false↔(allV p f).Nodup:=by
  unfold allV;rw [Bool.or_eq_false_iff,q3x,nodup_append,List.any_eq_false];have hgn:=q3x.1 hg;constructor
  ·rintro ⟨a,b⟩;refine ⟨hgn,a,fun x hx y hy e=>b y hy ?_⟩;rw [List.any_eq_true];exact ⟨x,hx,by rw [e];exact beq_self_eq_true _⟩
  ·rintro ⟨_,a,b⟩;refine ⟨a,fun y hy hh => ?_⟩;obtain ⟨x,hx,he⟩:=List.any_eq_true.1 hh;exact b x hx y hy (eq_of_beq he).symm
 cases hc:(XA (PQ f)||(PQ f).any (fun n=>p.globals.any fun s=>n==s)) with
 | true =>
   rw [cond_true];refine ⟨fun h=>by (cases h),fun h => ?_⟩;have:=h1.2 h.nd;rw [hc] at this;cases this
 | false =>
   rw [cond_false,Option.map_eq_none_iff,List.find?_eq_none];constructor
   ·exact fun h=>⟨h1.1 hc,fun t ht=>by have:=h t ht;simpa using this⟩
   ·intro h t ht;rw [h.kn t ht];decide
theorem q7e {p:Pg} (hm:YA p=true):(QT p).1=0↔XD p=false ∧ ∀ f∈p.procs,ScopeOK p f:=by
 unfold QT;rw [hm,cond_true];cases hb:XD p with
 | true=>rw [cond_true];exact ⟨fun h=>by simp at h,fun h=>by cases h.1⟩
 | false =>
   have hg:XA p.globals=false:=by
    unfold XD at hb;rw [Bool.or_eq_false_iff] at hb;exact hb.1
   rw [cond_false];cases hf:p.procs.findSome? (ZM p) with
   | some a =>
     refine ⟨fun h=>by simp at h,fun h => ?_⟩;obtain ⟨f,hm2,hq⟩:=List.exists_of_findSome?_eq_some hf;rw [(MO hg).2 (h.2 f hm2)] at hq;cases hq
   | none=>exact ⟨fun _=>⟨rfl,fun f hm2=>(MO hg).1 (List.findSome?_eq_none_iff.1 hf f hm2)⟩,fun _=>rfl⟩
theorem q7h {p:Pg} (hs:(QT p).1=0):(WY p).1=0 ↔ ∀ t∈YX p,t.kind=4->KS p t=true:=by
 unfold WY;rw [if_neg (by omega)];cases hf:(YX p).find? fun t=>decide (t.kind=4) && !KS p t with
 | some t =>
   have h1:=List.mem_of_find?_eq_some hf;have h2:=List.find?_some hf;simp only [Bool.and_eq_true,decide_eq_true_eq,Bool.not_eq_true'] at h2;refine ⟨fun h=>by simp at h,fun h => ?_⟩;have:=h t h1 h2.1;rw [h2.2] at this;cases this
 | none =>
   refine ⟨fun _ t ht hk => ?_,fun _=>rfl⟩;have:=List.find?_eq_none.1 hf t ht;simp only [Bool.and_eq_true,decide_eq_true_eq,Bool.not_eq_true',not_and] at this;simpa using this hk
theorem x9a {p:Pg} (ha:(WY p).1=0):(YH p).1=0 ↔ ∀ t∈YX p,t.kind=4->ZZ t.name (KZ p t.proc) t.args []=true:=by
 unfold YH;rw [if_neg (by omega)];cases hf:(YX p).find? fun t=>decide (t.kind=4) && !ZZ t.name (KZ p t.proc) t.args [] with
 | some t =>
   have h1:=List.mem_of_find?_eq_some hf;have h2:=List.find?_some hf;simp only [Bool.and_eq_true,decide_eq_true_eq,Bool.not_eq_true'] at h2;refine ⟨fun h=>by simp at h,fun h => ?_⟩;have:=h t h1 h2.1;rw [h2.2] at this;cases this
 | none =>
   refine ⟨fun _ t ht hk => ?_,fun _=>rfl⟩;have:=List.find?_eq_none.1 hf t ht;simp only [Bool.and_eq_true,decide_eq_true_eq,Bool.not_eq_true',not_and] at this;simpa using this hk
theorem z7y {p:Pg}:chkB p=true↔YA p=true∧(QT p).1=0∧(WY p).1=0∧(GA p).1=0∧(YH p).1=0:=by
 refine ⟨QD,fun ⟨h1,h2,h3,h4,h5⟩ => ?_⟩;unfold chkB x6b;rw [decide_eq_true_eq,if_neg (by rw [h1];decide),if_neg (by omega),if_neg (by omega),if_neg (by omega)];exact h5
theorem z1s {p:Pg} (h:YA p=true):(allR p).map RI.s=YX p:=by
 rw [x1m h];exact z5n p.procs
section
variable {p:Pg} {j:Nat} {f:Pr} {n:Str}
end
section
variable {p:Pg} {j:Nat} {f:Pr}
end
section
variable {p:Pg} {j:Nat} {f:Pr}
end
theorem w0u {p:Pg} (h:Fit p) {f:Pr} (hf:f∈p.procs) : ∀ t∈flL f.body,okC t:=fun t ht=>by
 have h1:=h.pr hf;unfold wPr at h1;have h2:=q8e _ _ ht;have h3:=x0f t;have h4:=GQ t.labels;have h5:=KH t.args;refine ⟨by omega,by omega,by omega,fun a ha => ?_⟩;have key : ∀ (l:List Arg),a∈l->wX a.x<=NB l:=fun l=>by
  induction l with
  | nil=>intro h;cases h
  | cons b r ih =>
    intro h;rw [NB];rcases List.mem_cons.1 h with rfl|h
    ·omega
    ·have:=ih h;omega
 have:=key _ ha;omega
theorem z6n {p:Pg} (h:Fit p) (hc:chkB p=true):p.procs.length<=1000∧p.globals.length<=1000000 ∧ ∀ f∈p.procs,f.vars.length<=1000000∧f.fin.length<=1000000∧f.params.length<=1000000∧cntL f.body<=1000000 ∧ ∀ t∈flL f.body,okC t:=by
 obtain ⟨h1,h2,h3⟩:=VZ hc;refine ⟨by omega,by omega,fun f hf => ?_⟩;have h4:=h.pr hf;unfold wPr at h4;have h5:=GQ f.vars;have h6:=GQ f.fin;have h7:=x2m f.params;have h8:=q8z f.body;exact ⟨by omega,by omega,by omega,by omega,w0u h hf⟩
def prA (p:Pg) (i:Nat):Pr:=p.procs.getD i Pr0
theorem z5y {p:Pg} {i:Nat} (h:i<p.procs.length):p.procs[i]? = some (prA p i):=by
 unfold prA;rw [List.getD_eq_getElem?_getD,List.getElem?_eq_getElem h];rfl
theorem q1q {p:Pg} {i:Nat} {f:Pr} (h:p.procs[i]? = some f):prA p i=f:=by
 unfold prA;rw [List.getD_eq_getElem?_getD,h];rfl
theorem x5c {p:Pg} (h:chkB p=true) (i:Nat):(prA p i).params.length<=8:=by
 rcases Nat.lt_or_ge i p.procs.length with h1|h1
 ·exact (UD.1 (x9u (QD h).1 (List.mem_of_getElem? (z5y h1)))).1
 ·unfold prA;rw [List.getD_eq_getElem?_getD,List.getElem?_eq_none h1];decide
theorem x3w {p:Pg} (h:chkB p=true) {t:S} (ht:t∈YX p) (h4:t.kind=4) : ∃ k,k<p.procs.length∧caI p t=(k:Nat)∧caP p t=prA p k∧(prA p k).name=t.proc∧(prA p k).params.map Param.ref=t.args.map Arg.ref:=by
 obtain ⟨_,hs,ha,_⟩:=QD h;have hf:=(q7h hs).1 ha t ht h4;unfold KS at hf;rw [Bool.and_eq_true] at hf;have hf2:=hf.2;cases hq:p.procs.find? (fun f=>f.name==t.proc) with
 | none=>rw [hq] at hf2;cases hf2
 | some f =>
   rw [hq] at hf2;have hn:t.proc∈procsN p:=List.mem_map.2 ⟨f,List.mem_of_find?_eq_some hq,by simpa using List.find?_some hq⟩;obtain ⟨k,hk,h1,_,h3,h5⟩:=q0w hn;rw [hq] at h3;have hkf:p.procs[k]=f:=(Option.some.inj h3).symm;have hp:prA p k=f:=by rw [<- hkf];exact q1q (List.getElem?_eq_getElem hk)
   have hci:caI p t=(k:Nat):=h1;refine ⟨k,hk,hci,?_,?_,?_⟩
   ·unfold caP;rw [hci];rfl
   ·rw [hp,<- hkf];exact h5
   ·rw [hp];unfold x5i at hf2;exact of_decide_eq_true hf2
section
variable (p:Pg) (i:Nat) (f:Pr) (D U:List (List Str)) (o:List Str) (x:Str)
end
section
variable {p:Pg} {i:Nat} {f:Pr} {D U:List (List Str)} {o:List Str} {x:Str}
variable {n:Nat} {seen:List Bool} {todo:List Int} {a:Int}
end
theorem z4e {p:Pg} {f:Pr} {n:Str} (h:MW p f n≠0):n∈p.globals∨n∈PQ f:=by
 unfold MW at h;unfold PQ;cases hq:f.params.find? (fun a=>a.name==n) with
 | some a =>
   refine .inr (List.mem_append_left _ (List.mem_map.2 ⟨a,List.mem_of_find?_eq_some hq,by simpa using List.find?_some hq⟩))
 | none =>
   rw [hq] at h;cases hv:f.vars.any (fun s=>n==s) with
   | true =>
     obtain ⟨s,h1,h2⟩:=List.any_eq_true.1 hv;exact .inr (List.mem_append_right _ (by rw [eq_of_beq h2];exact h1))
   | false =>
     cases hg:p.globals.any (fun s=>n==s) with
     | true =>
       obtain ⟨s,h1,h2⟩:=List.any_eq_true.1 hg;exact .inl (by rw [eq_of_beq h2];exact h1)
     | false=>exact absurd (by simp only [hv,hg];rfl) h
section
variable {p:Pg} {j:Nat} {f:Pr}
end
inductive Cf
 | next (a:Int) (M:Mc)
 | back (gave:Int) (M:Mc)
 | fin (M:Mc)
def XN (M:Mc):Fm:=M.stack.getLast?.getD ⟨0,[],[],0⟩
def x9q (r:Int×Mc):Cf:=if r.2.fin=0 then .next r.1 r.2 else .fin r.2
def q8x (r:Int×Mc):Cf:=if r.2.fin=0 then .back r.1 r.2 else .fin r.2
def ZJ (M:Mc):Mc:={ M with steps:=M.steps+1 }
def NE (p:Pg) (t:S):Nat:=(idxF (fun g=>g.name==t.proc) p.procs).toNat
def stI (p:Pg) (tape watch:List Int) (M:Mc) (it:Item):Cf :=
 if it.s.kind=4 then x9q (JT p watch M (XN M) it.s (NE p it.s) (prA p (NE p it.s)))
 else if it.s.kind=9 then q8x (q8b watch M (XN M) it.s)
 else x9q (doM p tape watch M (XN M) (prA p (XN M).proc) it)
def JM (p:Pg) (gave:Int) (M:Mc):Cf :=
 if (XN M).call=0 then .fin (endM (popM M M.stack.dropLast) 1)
 else match (sheetOf p).l[((XN M).call-1).toNat]? with
 | none => .fin M
 | some it => .next it.next (if it.s.name=[] then popM M M.stack.dropLast else setM (popM M M.stack.dropLast) (varM (XN (popM M M.stack.dropLast)) it.s.name) gave)
def goC (p:Pg) (tape watch:List Int) (fuel:Int):Cf->Cf
 | .next a M=>if a = -1 then .back 0 M else if M.steps=fuel then .fin (endM M 2) else match (sheetOf p).l[(a-1).toNat]? with
   | none => .fin M
   | some it=>stI p tape watch (ZJ M) it
 | .back g M=>JM p g M
 | .fin M => .fin M
def NT (p:Pg) (tape watch:List Int) (fuel:Int):Nat->Cf->Cf
 | 0,c=>c
 | n+1,c=>goC p tape watch fuel (NT p tape watch fuel n c)
structure FrameOk (p:Pg) (M:Mc) (f:Fm):Prop where
 pr : ∃ g,p.procs[f.proc]? = some g∧f.names=varsS p g
 len:f.vars.length=f.names.length
 rng : ∀ v∈f.vars,v<M.mem.length
inductive Chain (p:Pg):List Fm->Prop
 | one {f:Fm} (h:f.call=0):Chain p [f]
 | push {l:List Fm} {g f:Fm} {q:Pr} {it:Item} (hl:Chain p (l++[g])) (h1:1<=f.call) (hle:f.call<=100000) (hit:(sheetOf p).l[(f.call-1).toNat]? = some it) (hk:it.s.kind=4) (hp:p.procs[g.proc]? = some q) (hi:it∈itsOf p g.proc q) (hid:it.s.id=f.call):Chain p (l++[g]++[f])
structure Good (p:Pg) (M:Mc) (b:Int):Prop where
 ch:Chain p M.stack
 fr : ∀ f∈M.stack,FrameOk p M f
 gl:p.globals.length<=M.mem.length
 sl:M.stack.length<=101
 fin:M.fin=0
 r0:0<=M.reads
 rd:M.reads<=b
 tr:(M.trace.length:Int)<=b
 ou:(M.out.length:Int)<=b
def AtOk (p:Pg) (a:Int) (k:Nat):Prop:=a = -1 ∨ ∃ g it,p.procs[k]? = some g∧1<=a∧(sheetOf p).l[(a-1).toNat]? = some it∧it∈itsOf p k g∧it.s.id=a
def BU (p:Pg) (fuel:Int):Cf->Prop
 | .next a M=>Good p M M.steps∧0<=M.steps∧M.steps<=fuel∧AtOk p a (XN M).proc
 | .back _ M=>Good p M M.steps∧0<=M.steps∧M.steps<=fuel
 | .fin _=>True
def cfμ (fuel:Int):Cf->Nat
 | .next _ M=>6*(fuel-M.steps).toNat+2*M.stack.length+2
 | .back _ M=>6*(fuel-M.steps).toNat+2*M.stack.length+1
 | .fin _=>0
theorem Chain.ne {p:Pg} {l:List Fm} (h:Chain p l) : ∃ st f,l=st++[f]:=by
 cases h with
 | one h=>exact ⟨[],_,rfl⟩
 | push=>exact ⟨_,_,rfl⟩
theorem MM {M:Mc} {st:List Fm} {f:Fm} (h:M.stack=st++[f]):XN M=f:=by
 unfold XN;rw [h,List.getLast?_concat];rfl
theorem Good.top {p:Pg} {M:Mc} {b:Int} (h:Good p M b) : ∃ st,M.stack=st++[XN M]:=by
 obtain ⟨st,f,e⟩:=h.ch.ne;exact ⟨st,by rw [MM e];exact e⟩
theorem q6o {M M':Mc} (h:M'.stack=M.stack):XN M'=XN M:=by unfold XN;rw [h]
theorem x8g {p:Pg} (hc:chkB p=true) {k:Nat} {g:Pr} (hk:p.procs[k]? = some g):(varsS p g).length<=100:=by
 have h1:=(VZ hc).1;have h2:=(KN (QD hc).1).pr g (List.mem_of_getElem? hk);unfold varsS PQ;simp only [length_append,length_map];omega
theorem Good.okM {p:Pg} {M:Mc} {b:Int} (hc:chkB p=true) (h:Good p M b) {bs:List Nat} (hb:bs.length=M.mem.length):OkM p bs M :=
 ⟨hb,fun f hf=>⟨(h.fr f hf).len,(h.fr f hf).rng⟩,h.gl,Nat.le_trans h.sl (by decide),fun f hf=>by
   obtain ⟨g,h1,h2⟩:=(h.fr f hf).pr;have:=x8g hc h1;rw [h2];omega⟩
theorem Good.same {p:Pg} {M M':Mc} {b b':Int} (h:Good p M b) (hs:M'.stack=M.stack) (hm:M.mem.length<=M'.mem.length) (hf:M'.fin=0) (h0:0<=M'.reads) (h1:M'.reads<=b') (h2:(M'.trace.length:Int)<=b') (h3:(M'.out.length:Int)<=b'):Good p M' b' :=
 ⟨by rw [hs];exact h.ch,fun f hq=>by
   rw [hs] at hq;exact ⟨(h.fr f hq).pr,(h.fr f hq).len,fun v hv=>Nat.lt_of_lt_of_le ((h.fr f hq).rng v hv) hm⟩,Nat.le_trans h.gl hm,by rw [hs];exact h.sl,hf,h0,h1,h2,h3⟩
theorem VY (w:List Int) (M:Mc) (id:Int) (v:List Int):(QY w M id v).stack=M.stack∧(QY w M id v).mem=M.mem∧(QY w M id v).fin=M.fin∧(QY w M id v).steps=M.steps∧(QY w M id v).reads=M.reads∧(QY w M id v).out=M.out∧(QY w M id v).trace.length<=M.trace.length+1:=by
 refine ⟨q4g,q2b,?_,?_,?_,z5f,z4b⟩<;>(unfold QY;cases w.any fun x=>decide (id=x)<;>rfl)
theorem Good.event {p:Pg} {M:Mc} {b:Int} (h:Good p M b) (w:List Int) (id:Int) (v:List Int):Good p (QY w M id v) (b+1):=by
 obtain ⟨e1,e2,e3,e4,e5,e6,e7⟩:=VY w M id v;have:=h.tr;have:=h.ou;have:=h.rd;exact h.same e1 (by rw [e2];exact Nat.le_refl _) (e3.trans h.fin) (by rw [e5];exact h.r0) (by rw [e5];omega) (by omega) (by rw [e6];omega)
section
variable {p:Pg}
theorem AtOk.of (hc:chkB p=true) {k:Nat} {g:Pr} (hk:p.procs[k]? = some g) {a:Int} (h:okI (QN p.procs k) (QN p.procs k+cntL g.body) a):AtOk p a k:=by
 rcases h with h|⟨h1,h2⟩
 ·exact .inl h
 ·obtain ⟨it,h3,h4⟩:=DS hk (k:=(a-1).toNat) (by omega) (by omega);have h5:=x3y hc hk (by omega) (by omega) h3;exact .inr ⟨g,it,hk,by omega,h3,h4,by omega⟩
theorem x4y (hc:chkB p=true) {k:Nat} {g:Pr} (hk:p.procs[k]? = some g) {t:S} (ht:t∈flL g.body) {n:Str} (hn:n∈XR t):n∈varsS p g:=by
 have h1:=KG (QD hc).2.1 (List.mem_of_getElem? hk) ht;unfold knownB at h1;rw [Bool.and_eq_true] at h1;have h2:=List.all_eq_true.1 h1.1 n hn;have h3:MW p g n≠0:=by simpa using h2
 unfold varsS;rcases z4e h3 with h|h
 ·exact List.mem_append_left _ h
 ·exact List.mem_append_right _ h
theorem x0n {l:List Str} {n:Str} (h:n∈l):0<=idxF (fun y=>n==y) l:=by
 unfold idxF;have:l.any (fun y=>n==y)=true:=List.any_eq_true.2 ⟨n,h,by simp⟩;rw [this,cond_true];omega
theorem z5t {t:S} (h1:t.kind≠10) (h2:t.name≠[]):t.name∈XR t:=by
 unfold XR JN;have:(decide (t.kind≠10) && !(t.name==[]))=true:=by simp [h1,h2]
 rw [this];simp
theorem z8u {t:S} {a:Arg} (ha:a∈t.args) (hr:a.ref=true):a.name∈XR t:=by
 unfold XR;refine List.mem_append_right _ (List.mem_flatMap.2 ⟨a,ha,?_⟩);unfold YM;rw [hr];simp
theorem z3i {f:Fm} (hl:f.vars.length=f.names.length) {n:Str} (h:n∈f.names):varM f n∈f.vars:=by
 have h1:=LQ (x0n h);unfold varM;rw [List.getD_eq_getElem?_getD,List.getElem?_eq_getElem (by omega)];exact List.getElem_mem _
end
theorem q5j {f:Fm} : ∀ (l:List Arg) (ps:List Nat) (M:Mc),(∀ a∈l,a.ref=true->varM f a.name<M.mem.length)->(∀ v∈ps,v<M.mem.length) ->
  (argsM f l ps M).2.1.stack=M.stack∧M.mem.length<=(argsM f l ps M).2.1.mem.length∧(argsM f l ps M).2.1.steps=M.steps∧(argsM f l ps M).2.1.reads=M.reads∧(argsM f l ps M).2.1.out=M.out∧(argsM f l ps M).2.1.trace=M.trace ∧
  ((argsM f l ps M).2.2=true->(argsM f l ps M).2.1.fin=M.fin∧(argsM f l ps M).1.length=ps.length+l.length ∧ ∀ v∈(argsM f l ps M).1,v<(argsM f l ps M).2.1.mem.length)∧((argsM f l ps M).2.2=false->(argsM f l ps M).2.1.fin=4)
 | [],ps,M,_,hp=>⟨rfl,Nat.le_refl _,rfl,rfl,rfl,rfl,fun _=>⟨rfl,rfl,hp⟩,(fun h=>(by cases h))⟩
 | a::r,ps,M,ha,hp=>by
   rw [argsM];cases hr:a.ref with
   | true =>
     rw [cond_true];obtain ⟨h1,h2,h3,h4,h5,h6,h7,h8⟩:=q5j r (ps++[varM f a.name]) M (fun b hb=>ha b (List.mem_cons_of_mem _ hb)) fun v hv=>by
      rcases List.mem_append.1 hv with hv|hv
      ·exact hp v hv
      ·rw [List.mem_singleton.1 hv];exact ha a mem_cons_self hr
     refine ⟨h1,h2,h3,h4,h5,h6,fun h => ?_,h8⟩;obtain ⟨g1,g2,g3⟩:=h7 h;exact ⟨g1,by rw [g2,length_append,length_cons,length_cons,length_nil];omega,g3⟩
   | false =>
     rw [cond_false];cases hw:(QL M f a.x).2 with
     | false=>exact ⟨rfl,Nat.le_refl _,rfl,rfl,rfl,rfl,(fun h=>(by cases h)),fun _=>rfl⟩
     | true =>
       rw [cond_true];have hml:({ M with mem:=M.mem++[(QL M f a.x).1] }:Mc).mem.length=M.mem.length+1:=by simp
       obtain ⟨h1,h2,h3,h4,h5,h6,h7,h8⟩:=q5j (f:=f) r (ps++[M.mem.length]) { M with mem:=M.mem++[(QL M f a.x).1] } (fun b hb h=>by
         have:=ha b (List.mem_cons_of_mem _ hb) h;rw [hml];omega) fun v hv=>by
        rw [hml];rcases List.mem_append.1 hv with hv|hv
        ·have:=hp v hv;omega
        ·rw [List.mem_singleton.1 hv];omega
       rw [hml] at h2;refine ⟨h1,by omega,h3,h4,h5,h6,fun h => ?_,h8⟩;obtain ⟨g1,g2,g3⟩:=h7 h;exact ⟨g1,by rw [g2,length_append,length_cons,length_cons,length_nil];omega,g3⟩
section
variable {p:Pg} (hc:chkB p=true)
include hc
theorem q4m {M:Mc} {b:Int} (hG:Good p M b) {g:Pr} (hk:p.procs[(XN M).proc]? = some g) {t:S} (ht:t∈flL g.body) {n:Str} (hn:n∈XR t):0<=idxF (fun y=>n==y) (XN M).names∧varM (XN M) n<M.mem.length:=by
 obtain ⟨st,hs⟩:=hG.top;have hF:=hG.fr (XN M) (by rw [hs];exact List.mem_append_right _ (List.mem_singleton.2 rfl));obtain ⟨g',h1,h2⟩:=hF.pr;rw [hk] at h1;cases h1;have h3:=x4y hc hk ht hn;rw [<- h2] at h3;exact ⟨x0n h3,hF.rng _ (z3i hF.len h3)⟩
theorem x7b {k:Nat} {g:Pr} (hk:p.procs[k]? = some g) {t:S} (ht:t∈flL g.body) (h4:t.kind=4):idxF (fun g=>g.name==t.proc) p.procs=(NE p t:Nat)∧p.procs[NE p t]? = some (prA p (NE p t))∧(prA p (NE p t)).params.length=t.args.length:=by
 obtain ⟨k',h1,h2,_,_,h5⟩:=x3w hc (List.mem_flatMap.2 ⟨g,List.mem_of_getElem? hk,ht⟩) h4;have e:NE p t=k':=by
  unfold NE;show (caI p t).toNat=k';rw [h2];rfl
 refine ⟨by rw [e];exact h2,by rw [e];exact z5y h1,?_⟩;rw [e];have:=congrArg List.length h5;simpa using this
theorem z1g {M:Mc} {b:Int} (hfr : ∀ f∈M.stack,FrameOk p M f) (hgl:p.globals.length<=M.mem.length) (hfin:M.fin=0) (hr0:0<=M.reads) (hrd:M.reads<=b) (htr:(M.trace.length:Int)<=b) (hou:(M.out.length:Int)<=b) (hsl:M.stack.length<=100) {k:Nat} {g:Pr} (hk:p.procs[k]? = some g) {ps:List Nat} (hpl:ps.length=g.params.length) (hpr : ∀ v∈ps,v<M.mem.length) {call:Int}
  (hch:Chain p (M.stack++[⟨k,varsS p g,List.range p.globals.length++ps++List.range' M.mem.length g.vars.length,call⟩])):Good p (YJ p k g ps call M) b∧AtOk p (NM p k g) (XN (YJ p k g ps call M)).proc∧(YJ p k g ps call M).stack.length=M.stack.length+1:=by
 have hml:(YJ p k g ps call M).mem.length=M.mem.length+g.vars.length:=by unfold YJ;simp
 refine ⟨⟨hch,fun f hf => ?_,by rw [hml];have:=hgl;omega,by unfold YJ;simp;omega,hfin,hr0,hrd,htr,hou⟩,?_,by unfold YJ;simp⟩
 ·rcases List.mem_append.1 hf with hf|hf
  ·exact ⟨(hfr f hf).pr,(hfr f hf).len,fun v hv=>by have:=(hfr f hf).rng v hv;rw [hml];omega⟩
  ·rw [List.mem_singleton.1 hf];refine ⟨⟨g,hk,rfl⟩,?_,fun v hv => ?_⟩
   ·show (List.range p.globals.length++ps++List.range' M.mem.length g.vars.length).length=(varsS p g).length;unfold varsS PQ;simp only [length_append,List.length_range,List.length_range',length_map];omega
   ·have hv:v∈List.range p.globals.length++ps++List.range' M.mem.length g.vars.length:=hv;rw [hml];rcases List.mem_append.1 hv with hv|hv
    ·rcases List.mem_append.1 hv with hv|hv
     ·have:=List.mem_range.1 hv;have:=hgl;omega
     ·have:=hpr v hv;omega
    ·have:=List.mem_range'_1.1 hv;omega
 ·rw [MM (M:=YJ p k g ps call M) (st:=M.stack) rfl];refine AtOk.of hc hk ?_;unfold NM;split
  ·exact .inr ⟨by omega,by omega⟩
  ·exact .inl rfl
theorem z7s (watch:List Int) {M:Mc} {b:Int} (hG:Good p M b) {g:Pr} (hk:p.procs[(XN M).proc]? = some g) {it:Item} (hi:it∈itsOf p (XN M).proc g) (h4:it.s.kind=4) {r:Int×Mc} (hr:r=JT p watch M (XN M) it.s (NE p it.s) (prA p (NE p it.s))) :
  r.2.steps=M.steps∧(r.2.fin=0->Good p r.2 (b+1)∧AtOk p r.1 (XN r.2).proc∧r.2.stack.length=M.stack.length+1):=by
 subst hr;have ht:=DB hi;obtain ⟨_,k1,k2⟩:=x7b hc hk ht h4;obtain ⟨st,hst⟩:=hG.top;obtain ⟨a1,a2,a3,a4,a5,a6,a7,a8⟩:=q5j (f:=XN M) it.s.args [] M (fun a ha hr=>(q4m hc hG hk ht (z8u ha hr)).2) (fun v hv=>by cases hv);unfold JT;generalize argsM (XN M) it.s.args [] M=ar at *
 obtain ⟨ps,M1,ok⟩:=ar;simp only at a1 a2 a3 a4 a5 a6 a7 a8 ⊢;cases ok with
 | false =>
   refine ⟨a3,fun h => ?_⟩;have h:M1.fin=0:=h;have:=a8 rfl;omega
 | true =>
   obtain ⟨b1,b2,b3⟩:=a7 rfl;rw [cond_true];split
   ·refine ⟨a3,fun h => ?_⟩;have h:(5:Int)=0:=h;cases h
   ·rename_i hsl;have hG1:Good p M1 b:=hG.same a1 a2 (b1.trans hG.fin) (by rw [a4];exact hG.r0) (by rw [a4];exact hG.rd) (by rw [a6];exact hG.tr) (by rw [a5];exact hG.ou);have hG2:=hG1.event watch it.s.id [];obtain ⟨e1,e2,e3,e4,e5,e6,e7⟩:=VY watch M1 it.s.id [];have hid:=JU (QD hc).1 hk ht;have hcn:=(VZ hc).2.2;have hle:=((QK p).2.2.2.2 _ _ hk).2.2.1;have hop:=z1g hc hG2.fr hG2.gl hG2.fin hG2.r0 hG2.rd hG2.tr hG2.ou (by rw [e1];omega) k1 (ps:=ps) (by rw [b2,k2];simp) (fun v hv=>by rw [e2];exact b3 v hv) (call:=it.s.id) (by
     rw [e1,a1,hst];exact .push (it:=it) (hst▸hG.ch) (by show 1<=it.s.id;omega) (by show it.s.id<=100000;omega) (z9s hc hk hi) h4 hk hi rfl)
    refine ⟨?_,fun _=>⟨hop.1,hop.2.1,?_⟩⟩
    ·show (QY watch M1 it.s.id []).steps=M.steps;rw [e4,a3]
    ·rw [<- a1,<- e1];exact hop.2.2
omit hc in
theorem z1q (watch:List Int) {M:Mc} {b:Int} (hG:Good p M b) (t:S) {r:Int×Mc} (hr:r=q8b watch M (XN M) t):r.2.steps=M.steps∧(r.2.fin=0->Good p r.2 (b+1)∧r.2.stack=M.stack):=by
 subst hr;have he:=fun v=>VY watch M t.id v;unfold q8b;cases t.has with
 | false=>exact ⟨(he []).2.2.2.1,fun _=>⟨hG.event watch t.id [],(he []).1⟩⟩
 | true =>
   rw [cond_true];cases hw:(QL M (XN M) t.x).2 with
   | false =>
     refine ⟨rfl,fun h => ?_⟩;have h:(4:Int)=0:=h;cases h
   | true=>exact ⟨(he _).2.2.2.1,fun _=>⟨hG.event watch t.id _,(he _).1⟩⟩
omit hc in
theorem x0i (tape watch:List Int) {M:Mc} {f:Fm} {g:Pr} {it:Item} (h4:it.s.kind≠4) (h9:it.s.kind≠9) {r:Int×Mc} (hr:r=doM p tape watch M f g it) (h0:r.2.fin=0):r.1∈WF (sheetOf p) g it:=by
 subst hr;unfold doM at h0 ⊢;unfold WF;by_cases h7:it.s.kind=7
 ·simp [h7]
 by_cases h8:it.s.kind=8
 ·simp [h8]
 by_cases h10:it.s.kind=10
 ·simp [h10]
 simp only [if_neg h7,if_neg h8,if_neg h10,if_neg h9] at h0 ⊢;by_cases h2:it.s.kind=2
 ·have h5 : ¬it.s.kind=5:=by omega
  have h6 : ¬it.s.kind=6:=by omega
  simp only [if_pos h2,if_neg h5,if_neg h6] at h0 ⊢;split at h0
  ·have h0:(3:Int)=0:=h0;cases h0
  ·rename_i h;rw [if_neg h];exact mem_cons_self
 simp only [if_neg h2] at h0 ⊢;cases hw:(QL M f it.s.x).2 with
 | false =>
   rw [hw] at h0;have h0:(4:Int)=0:=h0;cases h0
 | true =>
   clear h0;simp only [cond_true];by_cases h5:it.s.kind=5
   ·have h1 : ¬it.s.kind=1:=by omega
    have h3 : ¬it.s.kind=3:=by omega
    simp only [if_neg h1,if_neg h3,if_pos h5];split<;>simp
   by_cases h6:it.s.kind=6
   ·have h1 : ¬it.s.kind=1:=by omega
    have h3 : ¬it.s.kind=3:=by omega
    simp only [if_neg h1,if_neg h3,if_neg h5,if_pos h6];split<;>simp
   simp only [if_neg h5,if_neg h6];split
   ·exact mem_cons_self
   split
   ·exact mem_cons_self
   ·exact mem_cons_self
theorem z7c (tape watch:List Int) {M:Mc} {b:Int} (hG:Good p M b) {g:Pr} (hk:p.procs[(XN M).proc]? = some g) {it:Item} (hi:it∈itsOf p (XN M).proc g) (h4:it.s.kind≠4) (h9:it.s.kind≠9) {r:Int×Mc} (hr:r=doM p tape watch M (XN M) g it) :
  r.2.steps=M.steps∧(r.2.fin=0->Good p r.2 (b+1)∧AtOk p r.1 (XN M).proc∧r.2.stack=M.stack):=by
 have hgo:=x0i (p:=p) tape watch (M:=M) (f:=XN M) (g:=g) h4 h9 hr;have hat:r.2.fin=0->AtOk p r.1 (XN M).proc:=fun h0=>AtOk.of hc hk ((PJ hc hk).2.1 _ (z0g hi (hgo h0))).2
 suffices h:r.2.steps=M.steps∧(r.2.fin=0->Good p r.2 (b+1)∧r.2.stack=M.stack) from ⟨h.1,fun h0=>⟨(h.2 h0).1,hat h0,(h.2 h0).2⟩⟩
 clear hgo hat;subst hr;have he:=fun v=>VY watch M it.s.id v;have key : ∀ (a:Int) v,(QY watch M it.s.id v).steps=M.steps∧((QY watch M it.s.id v).fin=0->Good p (QY watch M it.s.id v) (b+1)∧(QY watch M it.s.id v).stack=M.stack):=fun _ v=>⟨(he v).2.2.2.1,fun _=>⟨hG.event watch it.s.id v,(he v).1⟩⟩;unfold doM;by_cases h7:it.s.kind=7
 ·rw [if_pos h7];exact key 0 []
 by_cases h8:it.s.kind=8
 ·rw [if_neg h7,if_pos h8];exact key 0 []
 by_cases h10:it.s.kind=10
 ·rw [if_neg h7,if_neg h8,if_pos h10];exact key 0 []
 rw [if_neg h7,if_neg h8,if_neg h10];by_cases h2:it.s.kind=2
 ·rw [if_pos h2];split
  ·refine ⟨rfl,fun h => ?_⟩;have h:(3:Int)=0:=h;cases h
  ·generalize varM (XN M) it.s.name=v;generalize tape.getD M.reads.toNat 0=n;obtain ⟨e1,e2,e3,e4,e5,e6,e7⟩:=VY watch (setM { M with reads:=M.reads+1 } v n) it.s.id [n];refine ⟨e4,fun _=>⟨hG.same e1 (by rw [e2];unfold setM;simp) (e3.trans hG.fin) ?_ ?_ ?_ ?_,e1⟩⟩
   ·rw [e5];have:=hG.r0;show 0<=M.reads+1;omega
   ·rw [e5];have:=hG.rd;show M.reads+1<=b+1;omega
   ·have:=hG.tr;have e7:(QY watch (setM { M with reads:=M.reads+1 } v n) it.s.id [n]).trace.length<=M.trace.length+1:=e7;have e9:((QY watch (setM { M with reads:=M.reads+1 } v n) it.s.id [n]).trace.length:Int)<=b+1:=by omega
    exact e9
   ·rw [e6];have:=hG.ou;show (M.out.length:Int)<=b+1;omega
 rw [if_neg h2];cases hw:(QL M (XN M) it.s.x).2 with
 | false =>
   refine ⟨rfl,fun h => ?_⟩;have h:(4:Int)=0:=h;cases h
 | true =>
   rw [cond_true];generalize (QL M (XN M) it.s.x).1=n;by_cases h1:it.s.kind=1
   ·rw [if_pos h1];obtain ⟨e1,e2,e3,e4,e5,e6,e7⟩:=he [n];have hG1:=hG.event watch it.s.id [n];exact ⟨e4,fun _=>⟨hG1.same rfl (by unfold setM;simp) hG1.fin hG1.r0 hG1.rd hG1.tr hG1.ou,e1⟩⟩
   rw [if_neg h1];by_cases h3:it.s.kind=3
   ·rw [if_pos h3];obtain ⟨e1,e2,e3,e4,e5,e6,e7⟩:=he [n];have hG1:=hG.event watch it.s.id [n];refine ⟨e4,fun _=>⟨hG1.same rfl (Nat.le_refl _) hG1.fin hG1.r0 hG1.rd hG1.tr ?_,e1⟩⟩;show (((QY watch M it.s.id [n]).out++[n]).length:Int)<=b+1;rw [e6,length_append];have:=hG.ou;simp only [length_cons,length_nil];omega
   rw [if_neg h3];by_cases h5:it.s.kind=5
   ·rw [if_pos h5];exact key 0 [n]
   by_cases h6:it.s.kind=6
   ·rw [if_neg h5,if_pos h6];exact key 0 [n]
   rw [if_neg h5,if_neg h6];exact key 0 [n]
theorem x3i {M:Mc} {b:Int} (hG:Good p M b) {st:List Fm} (hs:M.stack=st++[XN M]) (gave:Int):(XN M).call<=100000 ∧
  ((∃ M',JM p gave M = .fin M'∧CloseP p M st (XN M) gave (-1) M'∧M'.fin=1) ∨
  ∃ a M',JM p gave M = .next a M'∧CloseP p M st (XN M) gave a M'∧Good p M' b∧AtOk p a (XN M').proc∧M'.stack.length+1=M.stack.length∧M'.steps=M.steps):=by
 have hst:M.stack.dropLast=st:=by rw [hs,List.dropLast_concat]
 have hch:=hG.ch;rw [hs] at hch;generalize hF:XN M=F at *
 unfold JM;rw [hst,hF];generalize hL:st++[F]=L at hch;cases hch with
 | one h =>
   rename_i f;obtain ⟨rfl,h2⟩:=List.append_inj' (show st++[F]=[]++[f] from hL) rfl;have h2:F=f:=by simpa using h2
   subst h2;rw [if_pos h];exact ⟨by omega,.inl ⟨_,rfl,.done h,rfl⟩⟩
 | push hl h1 hle hit hk hp hi hid =>
   rename_i l g f q it;obtain ⟨rfl,h2⟩:=List.append_inj' hL rfl;have h2:F=f:=by simpa using h2
   subst h2;have hgm:g∈M.stack:=by rw [hs];simp
   have hgF:=hG.fr g hgm;refine ⟨hle,.inr ?_⟩;rw [if_neg (by omega),hit];have htop:XN (popM M (l++[g]))=g:=MM (st:=l) rfl;have hnx:AtOk p it.next g.proc:=AtOk.of hc hp (q5d hi).1;have hG1:Good p (popM M (l++[g])) b:=⟨hl,fun f hf=>⟨(hG.fr f (by rw [hs];exact List.mem_append_left _ hf)).pr,(hG.fr f (by rw [hs];exact List.mem_append_left _ hf)).len,(hG.fr f (by rw [hs];exact List.mem_append_left _ hf)).rng⟩,hG.gl,by
    have h:=hG.sl;rw [hs,length_append] at h;show (l++[g]).length<=101;omega,hG.fin,hG.r0,hG.rd,hG.tr,hG.ou⟩
   have hlen:(popM M (l++[g])).stack.length+1=M.stack.length:=by
    rw [hs,length_append];rfl
   by_cases hn:it.s.name=[]
   ·refine ⟨it.next,_,rfl,?_,?_⟩
    ·rw [if_pos hn];exact .drop h1 hit hn
    ·rw [if_pos hn];exact ⟨hG1,by rw [htop];exact hnx,hlen,rfl⟩
   ·obtain ⟨q',u1,u2⟩:=hgF.pr;rw [hp] at u1;cases u1;have hin:=x4y hc hp (DB hi) (z5t (by omega) hn);rw [<- u2] at hin;refine ⟨it.next,_,rfl,?_,?_⟩
    ·rw [if_neg hn,htop];exact .keep h1 hit hn rfl (x0n hin)
    ·rw [if_neg hn];refine ⟨hG1.same rfl (by unfold setM;simp) hG1.fin hG1.r0 hG1.rd hG1.tr hG1.ou,?_,hlen,rfl⟩;have e:XN (setM (popM M (l++[g])) (varM (XN (popM M (l++[g]))) it.s.name) gave)=g:=(q6o (M:=popM M (l++[g])) rfl).trans htop;rw [e];exact hnx
end
def mainN (p:Pg):Nat:=(idxF (fun f=>f.name==mainS) p.procs).toNat
def M00 (p:Pg):Mc:=⟨[],List.replicate p.globals.length 0,0,0,0,[],[]⟩
def KL (p:Pg):Cf := .next (NM p (mainN p) (prA p (mainN p))) (YJ p (mainN p) (prA p (mainN p)) [] 0 (M00 p))
theorem q2r {p:Pg} (hc:chkB p=true):idxF (fun f=>f.name==mainS) p.procs=(mainN p:Nat)∧p.procs[mainN p]? = some (prA p (mainN p))∧(prA p (mainN p)).params=[]:=by
 obtain ⟨k,f,h1,_,h3,h4⟩:=q6q hc;obtain ⟨k',hk',h5,_,_,h6⟩:=q0w (p:=p) (n:=mainS) (List.mem_map.2 ⟨f,List.mem_of_getElem? h1,h3⟩);obtain ⟨rfl,h7⟩:=q5n hc h1 (List.getElem?_eq_getElem hk') (h3.trans h6.symm);have e:mainN p=k:=by unfold mainN;rw [h5];rfl
 rw [e,q1q h1];exact ⟨h5,h1,h4⟩
theorem x3j {p:Pg} (hc:chkB p=true) {fuel:Int} (h0:0<=fuel):BU p fuel (KL p):=by
 obtain ⟨h1,h2,h3⟩:=q2r hc;have h:=z1g hc (M:=M00 p) (b:=0) (fun f hf=>by cases hf) (by simp [M00]) rfl (Int.le_refl _) (Int.le_refl _) (Int.le_refl _) (Int.le_refl _) (zero_le _) h2 (ps:=[]) (by rw [h3];rfl) (fun v hv=>by cases hv) (call:=0) (.one rfl);exact ⟨h.1,Int.le_refl _,h0,h.2.1⟩
theorem KE (p:Pg) (tape watch:List Int) (fuel:Int) (n:Nat) (c:Cf):NT p tape watch fuel (n+1) c=goC p tape watch fuel (NT p tape watch fuel n c):=rfl
def q1w:Info:={ keep:=fun i=>QR [(27,[8,9]),(26,[2,8,10,11,12,13,126]),(25,[2,8,10,11,12,13]),(24,[2,8,10,11,12,13,117]),(20,[2,8,10,11,12,13]),(23,[2,8,10,11,12,13,111]),(22,[2,8,10,11,12,13]),(18,[2,8,10,11,12,13]),(21,[2,8,10,11,12,13,100]),(19,[2,8,10,11,12,13,90,94]),(17,[2,8,10,11,12,13,90]),(16,[2,8,10,11,12,13]),(15,[2,8,10,11,12,13]),(14,[2,8,10,11,12,13]),(13,[2,8,10,11,12,13,63]),(12,[2,8,10,11,12,13]),(11,[2,8,10,11,12,13,56]),(10,[2,8,10,11,12,13]),(9,[2,8,10,11,12]),(8,[2,8,10,11]),(7,[2,8,10,34,35]),(6,[2,8,10,34,35]),(5,[2,8,10,34,35,36]),(4,[2,8,10,34,35]),(3,[2,4,8,10]),(2,[8,9]),(1,[1,2,3,4,8,24]),(0,[1,2,3,4,8])] i,sched:=I_run_Of.sched,frz:=I_run_Of.frz }
def z5j:Code->Code
 | .seq a b=>match a with
   | .scope c=>c
   | _=>z5j b
 | .scope c=>c
 | c=>c
noncomputable def z8s:Code:=z5j (Tryz.f63.body.getD .skip)
noncomputable def x8x (l:Nat):Code:=(findLabel z8s l).getD .skip
theorem z6x {P:Program} {N:Nat} {K:Exit->St->Prop} {s:St} (h:ScopeK P tab N q1w z8s K s):ScopeK P tab N q1w z8s K s:=h
def rO:Chunk := .obj 60 [.p (.int .i64 0),.p (.int .i64 0),.p (.int .i64 0),.p .nils,.p .nils]
def rM (p:Pg) (tape watch:List Int) (v:Nat) (M:Mc):Chunk := .obj 163 [.p (.ip (sheetOf p).cells),.hd 2 0 p.globals.length,.p (XT tape),.p (XT watch),.hd 3 0 M.stack.length,.hd 4 0 v,.p (.int .i64 M.fin),.p (.int .i64 M.steps),.p (.int .i64 M.reads),.hd 5 0 M.out.length,.hd 6 0 M.trace.length]
def rH (p:Pg) (tape watch:List Int) (bs:List Nat) (vs:List Int) (M:Mc) (it:Item):Heap:=[(0,rM p tape watch vs.length M),(2,.own 164 1 (VU bs (List.range p.globals.length))),(3,.own 218 1 (M.stack.map (fmA bs))),(4,.own 2 1 (vs.map (.int .i64))),
 (5,.own 2 1 (M.out.map (.int .i64))),(6,.own 63 2 (M.trace.map evA)),(2500,.ext (.cells 2 (XE bs M.mem))),(1,rO),(7,.obj 151 (it.cells.map .p))]
theorem z2t (l r:List (Nat×LV)) (i:Nat):getS l i=getS (l++r) i∨getS l i = .p .any:=by
 induction l with
 | nil=>exact .inr rfl
 | cons x l ih =>
   obtain ⟨j,v⟩:=x;show (bif j==i then v else getS l i)=(bif j==i then v else getS (l++r) i)∨(bif j==i then v else getS l i) = .p .any;cases j==i
   ·exact ih
   ·exact .inl rfl
theorem VE {N:Nat} (l r:List (Nat×LV)) {H:Heap}:Le N ⟨l++r,H⟩ ⟨l,H⟩:=x0q (z2t l r) (List.Sublist.refl _)
def x6o (p:Pg) (tape watch:List Int) (fuel gave at_:Int) (bs:List Nat) (vs:List Int) (M:Mc) (it:Item):St:=⟨[(2,.p (.int .i64 fuel)),(8,.ptr 1 0),(10,.ptr 0 0),(11,.ptr 7 0),(12,.p (.int .i64 gave)),(13,.p (.int .i64 at_))],rH p tape watch bs vs M it⟩
structure RIx where
 c:Cf
 gv:Int
 at_:Int
 bs:List Nat
 vs:List Int
 it:Item
def RIx.st (p:Pg) (tape watch:List Int) (fuel:Int) (i:RIx):St:=match i.c with
 | .next a M=>x6o p tape watch fuel i.gv a i.bs i.vs M i.it
 | .back g M=>x6o p tape watch fuel g i.at_ i.bs i.vs M i.it
 | .fin M=>x6o p tape watch fuel i.gv i.at_ i.bs i.vs M i.it
def RIx.lab (i:RIx):Nat:=match i.c with
 | .next _ _=>1
 | .back _ _=>0
 | .fin _=>2
def RIx.bok (i:RIx):Prop:=match i.c with
 | .next _ M=>i.bs.length=M.mem.length
 | .back _ M=>i.bs.length=M.mem.length
 | .fin _=>True
def Kgo (p:Pg) (tape watch:List Int) (fuel:Int) (c:Cf) (K:Exit->St->Prop):Prop := ∀ (i:RIx) (s':St),i.c=goC p tape watch fuel c->i.bok->Le Tryz.f63.ntmps s' (i.st p tape watch fuel)->K (.goto i.lab) s'
theorem q7b {p:Pg} (hc:chkB p=true) {k:Nat} {g:Pr} (hk:p.procs[k]? = some g):SpecP Tryz.prog 177 [.agg p.cells,.str g.name] (fun r=>r=QF (varsS p g)):=by
 have h1:=(VZ hc).1;have h2:=(KN (QD hc).1).pr g (List.mem_of_getElem? hk);exact x6t p (QD hc).1 k g hk (fun j g' hj he=>(q5n hc hj hk he).1) (by omega) (by omega) (by omega)
theorem w0p {p:Pg} {tape watch:List Int} {M:Mc} {f:Fm} {g:Pr} {it:Item}:(doM p tape watch M f g it).2.mem.length=M.mem.length:=by
 have he : ∀ (M:Mc) v,(QY watch M it.s.id v).mem=M.mem:=fun M v=>q2b;unfold doM;split
 ·show (QY watch M it.s.id []).mem.length=_;rw [he]
 split
 ·show (QY watch M it.s.id []).mem.length=_;rw [he]
 split
 ·show (QY watch M it.s.id []).mem.length=_;rw [he]
 split
 ·split
  ·rfl
  ·show (QY watch _ it.s.id _).mem.length=_;rw [he];simp [setM]
 cases (QL M f it.s.x).2 with
 | false=>rfl
 | true =>
   rw [cond_true];split
   ·show ((QY watch M it.s.id _).mem.set _ _).length=_;rw [List.length_set,he]
   split
   ·show (QY watch M it.s.id _).mem.length=_;rw [he]
   split
   ·show (QY watch M it.s.id _).mem.length=_;rw [he]
   split
   ·show (QY watch M it.s.id _).mem.length=_;rw [he]
   ·show (QY watch M it.s.id _).mem.length=_;rw [he]
theorem q8t (p:Pg) (hc:chkB p=true) (tape watch:List Int) (htp:tape.length<=10000000) (fuel:Int) (hfu:fuel<=1000000) (gv:Int) (bs:List Nat) (vs:List Int) (it0:Item) (a:Int) (M:Mc) (hG:BU p fuel (.next a M)) (hb:bs.length=M.mem.length) (K:Exit->St->Prop) (hK:Kgo p tape watch fuel (.next a M) K) :
  W Tryz.prog tab Tryz.f63.ntmps q1w (x8x 1) K (x6o p tape watch fuel gv a bs vs M it0):=by
 obtain ⟨hGd,hs0,hs1,hat⟩:=hG;have hOk:=hGd.okM hc hb;obtain ⟨st,hst⟩:=hGd.top;have hcn:=(VZ hc).2.2;have hgc:=(VZ hc).1;have hll:=(QK p).2.2.2.1;have htr:=hGd.tr;have hou:=hGd.ou;have hrd:=hGd.rd;have hr0:=hGd.r0;have hfin:=hGd.fin;have hslk:=hGd.sl;unfold Kgo at hK;simp only [goC] at hK;by_cases ha:a = -1
 ·rw [if_pos ha] at hK;conv=>whnf
  repeat' (first|((first|(refine iM fun _=>?_)|refine dA ?_|refine And.intro rfl ?_|refine aD ?_|refine aR ?_|refine bP ?_|(refine iA fun _=>?_)|refine IdxK.xs (by omega) ?_|refine QM (by omega) ?_|(refine ByteK.at (by omega) ?_)|refine wI ?_);conv=>whnf)|(apply bD<;>intro _<;>first|omega|conv=>whnf)|(apply bE<;>intro _<;>first|omega|conv=>whnf)|(apply bN<;>intro _<;>conv=>whnf)|(apply bB<;>intro _<;>conv=>whnf))
  all_goals first
   | (exfalso;omega)
   | exact hK ⟨.back 0 M,0,a,bs,vs,it0⟩ _ rfl hb (Le.of_eq rfl)
   | exact hK ⟨.back 0 M,0,a,bs,vs,it0⟩ _ rfl hb (VE (RIx.st p tape watch fuel ⟨.back 0 M,0,a,bs,vs,it0⟩).sl [_])
 rw [if_neg ha] at hK;by_cases hst2:M.steps=fuel
 ·rw [if_pos hst2] at hK;conv=>whnf
  repeat' (first|((first|(refine iM fun _=>?_)|refine dA ?_|refine And.intro rfl ?_|refine aD ?_|refine aR ?_|refine bP ?_|(refine iA fun _=>?_)|refine IdxK.xs (by omega) ?_|refine QM (by omega) ?_|(refine ByteK.at (by omega) ?_)|refine wI ?_);conv=>whnf)|(apply bD<;>intro _<;>first|omega|conv=>whnf)|(apply bE<;>intro _<;>first|omega|conv=>whnf)|(apply bN<;>intro _<;>conv=>whnf)|(apply bB<;>intro _<;>conv=>whnf))
  all_goals first
   | (exfalso;omega)
   | exact hK ⟨.fin (endM M 2),gv,a,bs,vs,it0⟩ _ rfl trivial (Le.of_eq rfl)
   | exact hK ⟨.fin (endM M 2),gv,a,bs,vs,it0⟩ _ rfl trivial (VE (RIx.st p tape watch fuel ⟨.fin (endM M 2),gv,a,bs,vs,it0⟩).sl [_])
 rw [if_neg hst2] at hK;rcases hat with h|⟨g,it,hg,h1,hit,hi,hid⟩
 ·exact absurd h ha
 rw [hit] at hK;simp only at hK;have hgl:((sheetOf p).l.map fun i=>AV.agg i.cells)[(a-1).toNat]? = some (.agg it.cells):=by rw [List.getElem?_map,hit];rfl
 have hlt:(a-1).toNat<(sheetOf p).l.length:=(List.getElem?_eq_some_iff.1 hit).1;have hG1:Good p (ZJ M) M.steps:=hGd.same rfl (Nat.le_refl _) hfin hr0 hrd htr hou;have hOk1:OkM p bs (ZJ M):=hG1.okM hc hb;have hst1:(ZJ M).stack=st++[XN (ZJ M)]:=hst;have hslk1:(ZJ M).stack.length<=101:=hslk;have htr1:(ZJ M).trace.length<=10000000:=by show M.trace.length<=_;omega
 have hou1:(ZJ M).out.length<=10000000:=by show M.out.length<=_;omega
 have hk1:p.procs[(XN (ZJ M)).proc]? = some g:=hg;have ht:=DB hi;have hi1:it∈itsOf p (XN (ZJ M)).proc g:=hi;unfold stI at hK;by_cases h4:it.s.kind=4
 ·rw [if_pos h4] at hK;obtain ⟨k1,k2,k3⟩:=x7b hc hg ht h4;have hpar:=x5c hc (NE p it.s);have hmf:=(KN (QD hc).1).pr _ (List.mem_of_getElem? k2);have hcall:=NS p tape watch bs vs (ZJ M) st (XN (ZJ M)) hst1 hOk1 hslk1 htr1 it.s (by omega) (fun b hb hr=>(q4m hc hG1 hk1 ht (z8u hb hr)).1) (NE p it.s) (prA p (NE p it.s)) k2 k1 (q7b hc k2) (by omega) (by omega);generalize hr:JT p watch (ZJ M) (XN (ZJ M)) it.s (NE p it.s) (prA p (NE p it.s))=r at *
  obtain ⟨a',M'⟩:=r;unfold x9q at hK;simp only at hK hcall;by_cases h0:M'.fin=0
  ·rw [if_pos h0] at hK;conv=>whnf
   repeat' (first|((first|(refine iM fun _=>?_)|refine dA ?_|refine And.intro rfl ?_|refine aD ?_|refine aR ?_|refine bP ?_|(refine iA fun _=>?_)|refine IdxK.xs (by omega) ?_|refine QM (by omega) ?_|(refine ByteK.at (by omega) ?_)|refine wI ?_|(refine IdxK.at (k:=(a-1).toNat) (by omega) hgl rfl ?_));conv=>whnf)|(apply bD<;>intro _<;>first|omega|conv=>whnf)|(apply bE<;>intro _<;>first|omega|conv=>whnf)|(apply bN<;>intro _<;>conv=>whnf)|(apply bB<;>intro _<;>conv=>whnf)|(refine CallK.heap [(1000,0),(1001,2),(2001,3),(2002,4),(2003,5),(2004,6),(2500,2500)] 0 (by repeat' (first|exact ArgsH.nil|refine ArgsH.cons ?_ ?_|exact LSub.refl _|exact LSub.p Sub.nils|exact LSub.p (Sub.tt rfl)|exact LSub.p (Sub.ff rfl)|exact LSub.p (Sub.int (by omega)))) (by refine BlksH.cons (j:=0) rfl rfl ?_ ?_;exact CSub.refl _;refine BlksH.cons (j:=2) rfl rfl ?_ ?_;exact CSub.refl _;refine BlksH.cons (j:=3) rfl rfl ?_ ?_;exact CSub.refl _;refine BlksH.cons (j:=4) rfl rfl ?_ ?_;exact CSub.refl _;refine BlksH.cons (j:=5) rfl rfl ?_ ?_;exact CSub.refl _;refine BlksH.cons (j:=6) rfl rfl ?_ ?_;exact CSub.refl _;refine BlksH.cons (j:=2500) rfl rfl ?_ ?_;exact CSub.refl _;exact BlksH.nil) hcall rfl rfl ?_;rintro l' H' ⟨bs',vs',rfl,rfl,hb'⟩;conv=>whnf))
   all_goals first
    | (exfalso;omega)
    | exact hK ⟨.next a' M',gv,0,bs',vs',it⟩ _ rfl (by assumption) (Le.of_eq rfl)
    | exact hK ⟨.next a' M',gv,0,bs',vs',it⟩ _ rfl (by assumption) (VE (RIx.st p tape watch fuel ⟨.next a' M',gv,0,bs',vs',it⟩).sl [_])
  ·rw [if_neg h0] at hK;conv=>whnf
   repeat' (first|((first|(refine iM fun _=>?_)|refine dA ?_|refine And.intro rfl ?_|refine aD ?_|refine aR ?_|refine bP ?_|(refine iA fun _=>?_)|refine IdxK.xs (by omega) ?_|refine QM (by omega) ?_|(refine ByteK.at (by omega) ?_)|refine wI ?_|(refine IdxK.at (k:=(a-1).toNat) (by omega) hgl rfl ?_));conv=>whnf)|(apply bD<;>intro _<;>first|omega|conv=>whnf)|(apply bE<;>intro _<;>first|omega|conv=>whnf)|(apply bN<;>intro _<;>conv=>whnf)|(apply bB<;>intro _<;>conv=>whnf)|(refine CallK.heap [(1000,0),(1001,2),(2001,3),(2002,4),(2003,5),(2004,6),(2500,2500)] 0 (by repeat' (first|exact ArgsH.nil|refine ArgsH.cons ?_ ?_|exact LSub.refl _|exact LSub.p Sub.nils|exact LSub.p (Sub.tt rfl)|exact LSub.p (Sub.ff rfl)|exact LSub.p (Sub.int (by omega)))) (by refine BlksH.cons (j:=0) rfl rfl ?_ ?_;exact CSub.refl _;refine BlksH.cons (j:=2) rfl rfl ?_ ?_;exact CSub.refl _;refine BlksH.cons (j:=3) rfl rfl ?_ ?_;exact CSub.refl _;refine BlksH.cons (j:=4) rfl rfl ?_ ?_;exact CSub.refl _;refine BlksH.cons (j:=5) rfl rfl ?_ ?_;exact CSub.refl _;refine BlksH.cons (j:=6) rfl rfl ?_ ?_;exact CSub.refl _;refine BlksH.cons (j:=2500) rfl rfl ?_ ?_;exact CSub.refl _;exact BlksH.nil) hcall rfl rfl ?_;rintro l' H' ⟨bs',vs',rfl,rfl,hb'⟩;conv=>whnf))
   all_goals first
    | (exfalso;omega)
    | exact hK ⟨.fin M',gv,a',bs',vs',it⟩ _ rfl trivial (Le.of_eq rfl)
    | exact hK ⟨.fin M',gv,a',bs',vs',it⟩ _ rfl trivial (VE (RIx.st p tape watch fuel ⟨.fin M',gv,a',bs',vs',it⟩).sl [_])
 rw [if_neg h4] at hK;by_cases h9:it.s.kind=9
 ·rw [if_pos h9] at hK;have hret:=PW p tape watch bs vs (ZJ M) st (XN (ZJ M)) hst1 hOk1 htr1 it.s;have hml:(q8b watch (ZJ M) (XN (ZJ M)) it.s).2.fin=0->(q8b watch (ZJ M) (XN (ZJ M)) it.s).2.mem=(ZJ M).mem:=fun _=>by
   unfold q8b;cases it.s.has with
   | false=>exact q2b
   | true=>cases hw:(QL (ZJ M) (XN (ZJ M)) it.s.x).2 with
     | false=>rfl
     | true=>exact q2b
  generalize hr:q8b watch (ZJ M) (XN (ZJ M)) it.s=r at *
  obtain ⟨gv',M'⟩:=r;unfold q8x at hK;simp only at hK hret hml;by_cases h0:M'.fin=0
  ·rw [if_pos h0] at hK;have hb':bs.length=M'.mem.length:=by rw [hml h0];exact hb
   conv=>whnf
   repeat' (first|((first|(refine iM fun _=>?_)|refine dA ?_|refine And.intro rfl ?_|refine aD ?_|refine aR ?_|refine bP ?_|(refine iA fun _=>?_)|refine IdxK.xs (by omega) ?_|refine QM (by omega) ?_|(refine ByteK.at (by omega) ?_)|refine wI ?_|(refine IdxK.at (k:=(a-1).toNat) (by omega) hgl rfl ?_));conv=>whnf)|(apply bD<;>intro _<;>first|omega|conv=>whnf)|(apply bE<;>intro _<;>first|omega|conv=>whnf)|(apply bN<;>intro _<;>conv=>whnf)|(apply bB<;>intro _<;>conv=>whnf)|(refine CallK.heap [(1000,0),(1001,2),(2001,3),(2002,4),(2003,5),(2004,6),(2500,2500)] 0 (by repeat' (first|exact ArgsH.nil|refine ArgsH.cons ?_ ?_|exact LSub.refl _|exact LSub.p Sub.nils|exact LSub.p (Sub.tt rfl)|exact LSub.p (Sub.ff rfl)|exact LSub.p (Sub.int (by omega)))) (by refine BlksH.cons (j:=0) rfl rfl ?_ ?_;exact CSub.refl _;refine BlksH.cons (j:=2) rfl rfl ?_ ?_;exact CSub.refl _;refine BlksH.cons (j:=3) rfl rfl ?_ ?_;exact CSub.refl _;refine BlksH.cons (j:=4) rfl rfl ?_ ?_;exact CSub.refl _;refine BlksH.cons (j:=5) rfl rfl ?_ ?_;exact CSub.refl _;refine BlksH.cons (j:=6) rfl rfl ?_ ?_;exact CSub.refl _;refine BlksH.cons (j:=2500) rfl rfl ?_ ?_;exact CSub.refl _;exact BlksH.nil) hret rfl rfl ?_;rintro l' H' ⟨vs',rfl,rfl⟩;conv=>whnf))
   all_goals first
    | (exfalso;omega)
    | exact hK ⟨.back gv' M',0,a,bs,vs',it⟩ _ rfl hb' (Le.of_eq rfl)
    | exact hK ⟨.back gv' M',0,a,bs,vs',it⟩ _ rfl hb' (VE (RIx.st p tape watch fuel ⟨.back gv' M',0,a,bs,vs',it⟩).sl [_])
  ·rw [if_neg h0] at hK;conv=>whnf
   repeat' (first|((first|(refine iM fun _=>?_)|refine dA ?_|refine And.intro rfl ?_|refine aD ?_|refine aR ?_|refine bP ?_|(refine iA fun _=>?_)|refine IdxK.xs (by omega) ?_|refine QM (by omega) ?_|(refine ByteK.at (by omega) ?_)|refine wI ?_|(refine IdxK.at (k:=(a-1).toNat) (by omega) hgl rfl ?_));conv=>whnf)|(apply bD<;>intro _<;>first|omega|conv=>whnf)|(apply bE<;>intro _<;>first|omega|conv=>whnf)|(apply bN<;>intro _<;>conv=>whnf)|(apply bB<;>intro _<;>conv=>whnf)|(refine CallK.heap [(1000,0),(1001,2),(2001,3),(2002,4),(2003,5),(2004,6),(2500,2500)] 0 (by repeat' (first|exact ArgsH.nil|refine ArgsH.cons ?_ ?_|exact LSub.refl _|exact LSub.p Sub.nils|exact LSub.p (Sub.tt rfl)|exact LSub.p (Sub.ff rfl)|exact LSub.p (Sub.int (by omega)))) (by refine BlksH.cons (j:=0) rfl rfl ?_ ?_;exact CSub.refl _;refine BlksH.cons (j:=2) rfl rfl ?_ ?_;exact CSub.refl _;refine BlksH.cons (j:=3) rfl rfl ?_ ?_;exact CSub.refl _;refine BlksH.cons (j:=4) rfl rfl ?_ ?_;exact CSub.refl _;refine BlksH.cons (j:=5) rfl rfl ?_ ?_;exact CSub.refl _;refine BlksH.cons (j:=6) rfl rfl ?_ ?_;exact CSub.refl _;refine BlksH.cons (j:=2500) rfl rfl ?_ ?_;exact CSub.refl _;exact BlksH.nil) hret rfl rfl ?_;rintro l' H' ⟨vs',rfl,rfl⟩;conv=>whnf))
   all_goals first
    | (exfalso;omega)
    | exact hK ⟨.fin M',gv',a,bs,vs',it⟩ _ rfl trivial (Le.of_eq rfl)
    | exact hK ⟨.fin M',gv',a,bs,vs',it⟩ _ rfl trivial (VE (RIx.st p tape watch fuel ⟨.fin M',gv',a,bs,vs',it⟩).sl [_])
 rw [if_neg h9] at hK;have hpA:=q1q hk1;rw [hpA] at hK;have hDo:DoOk p (XN (ZJ M)) g it:=⟨fun h7=>by
   have hl:=(PJ hc hk1).1 it hi1 h7;exact ⟨hl.1,by omega,_,List.getElem?_eq_getElem (by omega)⟩,⟨_,GK _ _ _ _ _ _ it hi1,hk1⟩,fun h12=>by
   have hO:=z2j hc hk1 ht;have hn:=x6l (hO.name (by omega));exact (q4m hc hG1 hk1 ht (z5t (by omega) (by simpa using hn))).1⟩
 have hdo:=q1r p (by omega) tape watch htp bs vs (ZJ M) st (XN (ZJ M)) hst1 hOk1 htr1 hou1 hr0 (by show M.reads<=_;omega) g it hDo;have hml:(doM p tape watch (ZJ M) (XN (ZJ M)) g it).2.mem.length=(ZJ M).mem.length:=w0p;generalize hr:doM p tape watch (ZJ M) (XN (ZJ M)) g it=r at *
 obtain ⟨a',M'⟩:=r;unfold x9q at hK;simp only at hK hdo hml;by_cases h0:M'.fin=0
 ·rw [if_pos h0] at hK;have hb':bs.length=M'.mem.length:=by rw [hml];exact hb
  conv=>whnf
  repeat' (first|((first|(refine iM fun _=>?_)|refine dA ?_|refine And.intro rfl ?_|refine aD ?_|refine aR ?_|refine bP ?_|(refine iA fun _=>?_)|refine IdxK.xs (by omega) ?_|refine QM (by omega) ?_|(refine ByteK.at (by omega) ?_)|refine wI ?_|(refine IdxK.at (k:=(a-1).toNat) (by omega) hgl rfl ?_));conv=>whnf)|(apply bD<;>intro _<;>first|omega|conv=>whnf)|(apply bE<;>intro _<;>first|omega|conv=>whnf)|(apply bN<;>intro _<;>conv=>whnf)|(apply bB<;>intro _<;>conv=>whnf)|(refine CallK.heap [(1000,0),(1001,2),(2001,3),(2002,4),(2003,5),(2004,6),(2500,2500)] 0 (by repeat' (first|exact ArgsH.nil|refine ArgsH.cons ?_ ?_|exact LSub.refl _|exact LSub.p Sub.nils|exact LSub.p (Sub.tt rfl)|exact LSub.p (Sub.ff rfl)|exact LSub.p (Sub.int (by omega)))) (by refine BlksH.cons (j:=0) rfl rfl ?_ ?_;exact CSub.refl _;refine BlksH.cons (j:=2) rfl rfl ?_ ?_;exact CSub.refl _;refine BlksH.cons (j:=3) rfl rfl ?_ ?_;exact CSub.refl _;refine BlksH.cons (j:=4) rfl rfl ?_ ?_;exact CSub.refl _;refine BlksH.cons (j:=5) rfl rfl ?_ ?_;exact CSub.refl _;refine BlksH.cons (j:=6) rfl rfl ?_ ?_;exact CSub.refl _;refine BlksH.cons (j:=2500) rfl rfl ?_ ?_;exact CSub.refl _;exact BlksH.nil) hdo rfl rfl ?_;rintro l' H' ⟨vs',rfl,rfl⟩;conv=>whnf))
  all_goals first
   | (exfalso;omega)
   | exact hK ⟨.next a' M',gv,0,bs,vs',it⟩ _ rfl hb' (Le.of_eq rfl)
   | exact hK ⟨.next a' M',gv,0,bs,vs',it⟩ _ rfl hb' (VE (RIx.st p tape watch fuel ⟨.next a' M',gv,0,bs,vs',it⟩).sl [_])
 ·rw [if_neg h0] at hK;conv=>whnf
  repeat' (first|((first|(refine iM fun _=>?_)|refine dA ?_|refine And.intro rfl ?_|refine aD ?_|refine aR ?_|refine bP ?_|(refine iA fun _=>?_)|refine IdxK.xs (by omega) ?_|refine QM (by omega) ?_|(refine ByteK.at (by omega) ?_)|refine wI ?_|(refine IdxK.at (k:=(a-1).toNat) (by omega) hgl rfl ?_));conv=>whnf)|(apply bD<;>intro _<;>first|omega|conv=>whnf)|(apply bE<;>intro _<;>first|omega|conv=>whnf)|(apply bN<;>intro _<;>conv=>whnf)|(apply bB<;>intro _<;>conv=>whnf)|(refine CallK.heap [(1000,0),(1001,2),(2001,3),(2002,4),(2003,5),(2004,6),(2500,2500)] 0 (by repeat' (first|exact ArgsH.nil|refine ArgsH.cons ?_ ?_|exact LSub.refl _|exact LSub.p Sub.nils|exact LSub.p (Sub.tt rfl)|exact LSub.p (Sub.ff rfl)|exact LSub.p (Sub.int (by omega)))) (by refine BlksH.cons (j:=0) rfl rfl ?_ ?_;exact CSub.refl _;refine BlksH.cons (j:=2) rfl rfl ?_ ?_;exact CSub.refl _;refine BlksH.cons (j:=3) rfl rfl ?_ ?_;exact CSub.refl _;refine BlksH.cons (j:=4) rfl rfl ?_ ?_;exact CSub.refl _;refine BlksH.cons (j:=5) rfl rfl ?_ ?_;exact CSub.refl _;refine BlksH.cons (j:=6) rfl rfl ?_ ?_;exact CSub.refl _;refine BlksH.cons (j:=2500) rfl rfl ?_ ?_;exact CSub.refl _;exact BlksH.nil) hdo rfl rfl ?_;rintro l' H' ⟨vs',rfl,rfl⟩;conv=>whnf))
  all_goals first
   | (exfalso;omega)
   | exact hK ⟨.fin M',gv,a',bs,vs',it⟩ _ rfl trivial (Le.of_eq rfl)
   | exact hK ⟨.fin M',gv,a',bs,vs',it⟩ _ rfl trivial (VE (RIx.st p tape watch fuel ⟨.fin M',gv,a',bs,vs',it⟩).sl [_])
theorem q6g {p:Pg} (hc:chkB p=true) (tape watch:List Int) {fuel:Int} {c:Cf} (h:BU p fuel c) (hn : ∀ M,c ≠ .fin M):BU p fuel (goC p tape watch fuel c)∧cfμ fuel (goC p tape watch fuel c)<cfμ fuel c:=by
 cases c with
 | fin M=>exact absurd rfl (hn M)
 | back g M =>
   obtain ⟨hG,h0,h1⟩:=h;obtain ⟨st,hst⟩:=hG.top;obtain ⟨_,⟨M',e,_,_⟩|⟨a,M',e,_,hG',hat,hl,hs⟩⟩:=x3i hc hG hst g
   ·show BU p fuel (JM p g M)∧cfμ fuel (JM p g M)<_;rw [e];exact ⟨trivial,succ_pos _⟩
   ·show BU p fuel (JM p g M)∧cfμ fuel (JM p g M)<_;rw [e];refine ⟨⟨by rw [hs];exact hG',by omega,by omega,hat⟩,?_⟩;show 6*(fuel-M'.steps).toNat+2*M'.stack.length+2<6*(fuel-M.steps).toNat+2*M.stack.length+1;rw [hs];omega
 | next a M =>
   obtain ⟨hG,h0,h1,hat⟩:=h;simp only [goC];by_cases ha:a = -1
   ·rw [if_pos ha];exact ⟨⟨hG,h0,h1⟩,by show _+1<_+2;omega⟩
   rw [if_neg ha];by_cases hf:M.steps=fuel
   ·rw [if_pos hf];exact ⟨trivial,succ_pos _⟩
   rw [if_neg hf];rcases hat with h|⟨g,it,hg,_,hit,hi,_⟩
   ·exact absurd h ha
   rw [hit];simp only;have hG1:Good p (ZJ M) M.steps:=hG.same rfl (Nat.le_refl _) hG.fin hG.r0 hG.rd hG.tr hG.ou;have key : ∀ (r:Int×Mc),r.2.steps=(ZJ M).steps->(r.2.fin=0->Good p r.2 (M.steps+1)∧AtOk p r.1 (XN r.2).proc∧r.2.stack.length<=M.stack.length+1)->BU p fuel (x9q r)∧cfμ fuel (x9q r)<cfμ fuel (.next a M):=fun r hs hr=>by
    have hs:r.2.steps=M.steps+1:=hs;unfold x9q;by_cases h2:r.2.fin=0
    ·rw [if_pos h2];obtain ⟨u1,u2,u3⟩:=hr h2;refine ⟨⟨by rw [hs];exact u1,by omega,by omega,u2⟩,?_⟩;show 6*(fuel-r.2.steps).toNat+2*r.2.stack.length+2<6*(fuel-M.steps).toNat+2*M.stack.length+2;omega
    ·rw [if_neg h2];exact ⟨trivial,succ_pos _⟩
   unfold stI;have hk1:p.procs[(XN (ZJ M)).proc]? = some g:=hg;have hi1:it∈itsOf p (XN (ZJ M)).proc g:=hi;by_cases h4:it.s.kind=4
   ·rw [if_pos h4];obtain ⟨u1,u2⟩:=z7s hc watch hG1 hk1 hi1 h4 rfl;exact key _ u1 fun hz=>⟨(u2 hz).1,(u2 hz).2.1,Nat.le_of_eq (u2 hz).2.2⟩
   rw [if_neg h4];by_cases h9:it.s.kind=9
   ·rw [if_pos h9];obtain ⟨u1,u2⟩:=z1q watch hG1 it.s rfl;generalize q8b watch (ZJ M) (XN (ZJ M)) it.s=r at *
    have hs:r.2.steps=M.steps+1:=u1;unfold q8x;by_cases h2:r.2.fin=0
    ·rw [if_pos h2];obtain ⟨v1,v2⟩:=u2 h2;have hl:r.2.stack.length=M.stack.length:=by rw [v2];rfl
     refine ⟨⟨by rw [hs];exact v1,by omega,by omega⟩,?_⟩;show 6*(fuel-r.2.steps).toNat+2*r.2.stack.length+1<6*(fuel-M.steps).toNat+2*M.stack.length+2;omega
    ·rw [if_neg h2];exact ⟨trivial,succ_pos _⟩
   rw [if_neg h9,q1q hk1];obtain ⟨u1,u2⟩:=z7c hc tape watch hG1 hk1 hi1 h4 h9 rfl;refine key _ u1 fun hz=>⟨(u2 hz).1,?_,?_⟩
   ·rw [q6o (u2 hz).2.2];exact (u2 hz).2.1
   ·rw [(u2 hz).2.2];exact Nat.le_succ _
theorem q9e {p:Pg} {M M':Mc} {st:List Fm} {f:Fm} {g a:Int} (h:CloseP p M st f g a M'):M'.stack=st:=by
 cases h<;>rfl
theorem x5w {p:Pg} {M M':Mc} {st:List Fm} {f:Fm} {g a:Int} (h:CloseP p M st f g a M'):M'.mem.length=M.mem.length:=by
 cases h<;>first|rfl|simp [setM,popM]
theorem q3n (p:Pg) (tape watch:List Int) (bs:List Nat) (vs:List Int) (M:Mc) (st:List Fm) (f:Fm) (hs:M.stack=st++[f]) (hM:OkM p bs M) (hfc:f.call<=100000) (gave:Int) (at_:Int) (M':Mc) (hC:CloseP p M st f gave at_ M') :
  SpecH Tryz.prog 114 [.ptr 1000 0,.p (.int .i64 gave)] (mH p tape watch bs vs M) (fun r H=>r = .p (.int .i64 at_)∧H=mH p tape watch bs vs M') :=
 (BM p tape watch bs vs M st f hs hM hfc gave at_ M' hC).post fun l H' ⟨es,he,hl,hH⟩=>⟨mH p tape watch bs vs M',⟨hl,rfl⟩,by
   subst hH;have e:M'.stack=st:=q9e hC;refine Le.cut ?_;show CutH (mHs p tape watch bs vs M' es) (mHs p tape watch bs vs M' (M'.stack.map (fmA bs)));rw [e];exact .same (.same (.cut he (.same (.same (.same (.same .nil))))))⟩
def z9q (bs:List Nat) (M:Mc):St:=⟨[(8,.ptr 1 0),(9,.p (.int .i64 0))],[(5,.own 2 1 (M.out.map (.int .i64))),(6,.own 63 2 (M.trace.map evA)),(2500,.ext (.cells 2 (XE bs M.mem))),
 (1,.obj 60 [.p (.int .i64 M.fin),.p (.int .i64 M.steps),.p (.int .i64 M.reads),.hd 5 0 M.out.length,.hd 6 0 M.trace.length])]⟩
def z7w (M:Mc):AV := .agg [.int .i64 M.fin,.int .i64 M.steps,.int .i64 M.reads,XT M.out,.sl (M.trace.map evA)]
def w3e (p:Pg) (tape watch:List Int) (fuel:Int) (r:AV):Prop := ∃ n M,NT p tape watch fuel n (KL p) = .fin M∧r = .tup [z7w M,.int .i64 0]
theorem x8f (p:Pg) (hc:chkB p=true) (tape watch:List Int) (fuel:Int) (hfu:fuel<=1000000) (g:Int) (bs:List Nat) (vs:List Int) (it0:Item) (at_:Int) (M:Mc) (hG:BU p fuel (.back g M)) (hb:bs.length=M.mem.length) (K:Exit->St->Prop) (hK:Kgo p tape watch fuel (.back g M) K)
  (hR : ∀ (M':Mc),goC p tape watch fuel (.back g M) = .fin M'->K .ret (z9q bs M')) :
  W Tryz.prog tab Tryz.f63.ntmps q1w (x8x 0) K (x6o p tape watch fuel g at_ bs vs M it0):=by
 obtain ⟨hGd,hs0,hs1⟩:=hG;have hOk:=hGd.okM hc hb;obtain ⟨st,hst⟩:=hGd.top;unfold Kgo at hK;simp only [goC] at hK hR;obtain ⟨hfc,⟨M',e,hC,hfin⟩|⟨a,M',e,hC,hG',hat,hl,hs⟩⟩:=x3i hc hGd hst g
 ·have hcl:=q3n p tape watch bs vs M st (XN M) hst hOk hfc g (-1) M' hC;have hR1:=hR M' e;clear hR hK;conv=>whnf
  repeat' (first|((first|(refine iM fun _=>?_)|refine dA ?_|refine And.intro rfl ?_|refine aD ?_|refine aR ?_|refine bP ?_|(refine iA fun _=>?_)|refine IdxK.xs (by omega) ?_|refine QM (by omega) ?_|(refine ByteK.at (by omega) ?_)|refine wI ?_);conv=>whnf)|(apply bD<;>intro _<;>first|omega|conv=>whnf)|(apply bE<;>intro _<;>first|omega|conv=>whnf)|(apply bN<;>intro _<;>conv=>whnf)|(apply bB<;>intro _<;>conv=>whnf)|(refine CallK.heap [(1000,0),(1001,2),(2001,3),(2002,4),(2003,5),(2004,6),(2500,2500)] 0 (by repeat' (first|exact ArgsH.nil|refine ArgsH.cons ?_ ?_|exact LSub.refl _|exact LSub.p Sub.nils|exact LSub.p (Sub.tt rfl)|exact LSub.p (Sub.ff rfl)|exact LSub.p (Sub.int (by omega)))) (by refine BlksH.cons (j:=0) rfl rfl ?_ ?_;exact CSub.refl _;refine BlksH.cons (j:=2) rfl rfl ?_ ?_;exact CSub.refl _;refine BlksH.cons (j:=3) rfl rfl ?_ ?_;exact CSub.refl _;refine BlksH.cons (j:=4) rfl rfl ?_ ?_;exact CSub.refl _;refine BlksH.cons (j:=5) rfl rfl ?_ ?_;exact CSub.refl _;refine BlksH.cons (j:=6) rfl rfl ?_ ?_;exact CSub.refl _;refine BlksH.cons (j:=2500) rfl rfl ?_ ?_;exact CSub.refl _;exact BlksH.nil) hcl rfl rfl ?_;rintro l' H' ⟨rfl,rfl⟩;conv=>whnf))
  all_goals first
   | (exfalso;omega)
   | exact hR1
 ·have hcl:=q3n p tape watch bs vs M st (XN M) hst hOk hfc g a M' hC;have hb':bs.length=M'.mem.length:=by rw [x5w hC];exact hb
  have hfin:=hG'.fin;rw [e] at hK;clear hR;conv=>whnf
  repeat' (first|((first|(refine iM fun _=>?_)|refine dA ?_|refine And.intro rfl ?_|refine aD ?_|refine aR ?_|refine bP ?_|(refine iA fun _=>?_)|refine IdxK.xs (by omega) ?_|refine QM (by omega) ?_|(refine ByteK.at (by omega) ?_)|refine wI ?_);conv=>whnf)|(apply bD<;>intro _<;>first|omega|conv=>whnf)|(apply bE<;>intro _<;>first|omega|conv=>whnf)|(apply bN<;>intro _<;>conv=>whnf)|(apply bB<;>intro _<;>conv=>whnf)|(refine CallK.heap [(1000,0),(1001,2),(2001,3),(2002,4),(2003,5),(2004,6),(2500,2500)] 0 (by repeat' (first|exact ArgsH.nil|refine ArgsH.cons ?_ ?_|exact LSub.refl _|exact LSub.p Sub.nils|exact LSub.p (Sub.tt rfl)|exact LSub.p (Sub.ff rfl)|exact LSub.p (Sub.int (by omega)))) (by refine BlksH.cons (j:=0) rfl rfl ?_ ?_;exact CSub.refl _;refine BlksH.cons (j:=2) rfl rfl ?_ ?_;exact CSub.refl _;refine BlksH.cons (j:=3) rfl rfl ?_ ?_;exact CSub.refl _;refine BlksH.cons (j:=4) rfl rfl ?_ ?_;exact CSub.refl _;refine BlksH.cons (j:=5) rfl rfl ?_ ?_;exact CSub.refl _;refine BlksH.cons (j:=6) rfl rfl ?_ ?_;exact CSub.refl _;refine BlksH.cons (j:=2500) rfl rfl ?_ ?_;exact CSub.refl _;exact BlksH.nil) hcl rfl rfl ?_;rintro l' H' ⟨rfl,rfl⟩;conv=>whnf))
  all_goals first
   | (exfalso;omega)
   | exact hK ⟨.next a M',g,0,bs,vs,it0⟩ _ rfl hb' (Le.of_eq rfl)
   | exact hK ⟨.next a M',g,0,bs,vs,it0⟩ _ rfl hb' (VE (RIx.st p tape watch fuel ⟨.next a M',g,0,bs,vs,it0⟩).sl [_])
theorem z2l (p:Pg) (tape watch:List Int) (fuel gv at_:Int) (bs:List Nat) (vs:List Int) (it0:Item) (M:Mc) (K:Exit->St->Prop) (hR:K .ret (z9q bs M)) :
  W Tryz.prog tab Tryz.f63.ntmps q1w (x8x 2) K (x6o p tape watch fuel gv at_ bs vs M it0):=by
 conv=>whnf
 repeat' (first|((first|(refine iM fun _=>?_)|refine dA ?_|refine And.intro rfl ?_|refine aD ?_|refine aR ?_|refine bP ?_|(refine iA fun _=>?_)|refine IdxK.xs (by omega) ?_|refine QM (by omega) ?_|(refine ByteK.at (by omega) ?_)|refine wI ?_);conv=>whnf)|(apply bD<;>intro _<;>first|omega|conv=>whnf)|(apply bE<;>intro _<;>first|omega|conv=>whnf)|(apply bN<;>intro _<;>conv=>whnf)|(apply bB<;>intro _<;>conv=>whnf))
 all_goals first
  | exact hR
theorem z3y {bs:List Nat} {n:Nat} (h:bs.length=n):VU bs (List.range n)=bs.map cpA:=by
 have:=x3s (bs:=[]) (nb:=bs);rw [nil_append,length_nil,h,<- List.range_eq_range'] at this;exact this
theorem z1t {bs:List Nat} {n:Nat} (h:bs.length=n):XE bs (List.replicate n 0)=bs.map fun b=>(b,.int .i64 0):=by
 have:=q7m (bs:=[]) (mem:=[]) (nb:=bs) rfl;rw [h] at this;exact this
def w3c:Item:=⟨⟨0,0,[],[],[],⟨0,0,[],[]⟩,false,[],[],[]⟩,0,0,0,0⟩
def Mz:Mc:=⟨[],[],0,0,0,[],[]⟩
theorem w4t:Sub (.agg [.int .i64 0,.int .i64 0,.int .i64 0,.nils,.nils]) (z7w Mz) :=
 Sub.agg (.cons (Sub.refl _) (.cons (Sub.refl _) (.cons (Sub.refl _) (.cons Sub.nils (.cons Sub.nils .nil)))))
theorem w4k {H:Heap} {k:Int} {R:AV->Prop} (hR:R (.tup [z7w Mz,.int .i64 k])):RetK H (.p (.tup [.agg [.int .i64 0,.int .i64 0,.int .i64 0,.nils,.nils],.int .i64 k])) R :=
 ⟨_,.p (Sub.tup (.cons w4t (.cons (Sub.refl _) .nil))),hR⟩
theorem z5s {H:Heap} {M:Mc} {R:AV->Prop} {e5 e6:TypeId} (h5:getH H 5=some (.own e5 1 (M.out.map (.int .i64)))) (h6:getH H 6=some (.own e6 2 (M.trace.map evA))) (hR:R (.tup [z7w M,.int .i64 0])) :
  RetK H (.tup [.agg [.p (.int .i64 M.fin),.p (.int .i64 M.steps),.p (.int .i64 M.reads),.hd 5 0 M.out.length,.hd 6 0 M.trace.length],.p (.int .i64 0)]) R :=
 ⟨_,.tup (cs:=[z7w M,.int .i64 0]) rfl (fun j l c hj hc=>by
   match j,hj,hc with
   | 0,hj,hc =>
     cases hj;cases hc;refine .agg rfl fun j l c hj hc => ?_
     match j,hj,hc with
     | 0,hj,hc=>cases hj;cases hc;exact .p (Sub.refl _)
     | 1,hj,hc=>cases hj;cases hc;exact .p (Sub.refl _)
     | 2,hj,hc=>cases hj;cases hc;exact .p (Sub.refl _)
     | 3,hj,hc=>cases hj;cases hc;exact .hd h5 (by rw [length_map])
     | 4,hj,hc=>cases hj;cases hc;exact .hd h6 (by rw [length_map])
     | j+5,hj,_=>cases hj
   | 1,hj,hc=>cases hj;cases hc;exact .p (Sub.refl _)
   | j+2,hj,_=>cases hj),hR⟩
def gSt (p:Pg) (tape watch:List Int) (fuel:Int) (j:Nat) (bs:List Nat):St:=⟨[(2,.p (.int .i64 fuel)),(8,.ptr 1 0),(10,.ptr 0 0),(34,.p (.int .i64 (p.globals.map AV.str).length)),(35,.p (.int .i64 j))],
 [(2500,.ext (.cells 2 (bs.map fun b=>(b,.int .i64 0)))),(0,.obj 163 [.p (.ip (sheetOf p).cells),.hd 2 0 j,.p (XT tape),.p (XT watch),.hd 3 0 0,.hd 4 0 0,.p (.int .i64 0),.p (.int .i64 0),.p (.int .i64 0),.hd 5 0 0,.hd 6 0 0]),(2,.own 164 1 (bs.map cpA)),(3,.own 218 1 []),(4,.own 2 1 []),(5,.own 2 1 []),(6,.own 63 2 []),(1,rO)]⟩
structure GIx where
 j:Nat
 bs:List Nat
theorem w0h (p:Pg) (hf:Fit p) (tape watch:List Int) (htp:tape.length<=10000000) (fuel:Int):SpecP Tryz.prog 63 [.agg p.cells,XT tape,.int .i64 fuel,XT watch] (fun r=>(chkB p=true∧0<=fuel∧fuel<=1000000->w3e p tape watch fuel r)∧(¬(chkB p=true∧0<=fuel∧fuel<=1000000)->r = .tup [z7w Mz,.int .i64 1])):=by
 refine sB q1w Tryz.func63 rfl Tryz.call63 ?_;conv=>whnf
 have hC:=ZH p hf;by_cases hok:chkB p=true∧0<=fuel∧fuel<=1000000
 ·obtain ⟨hc,hf0,hf1⟩:=hok;rw [hc] at hC;obtain ⟨hg,hpl,hcn⟩:=VZ hc;have hFl:=WH p (by omega) (by omega);have hPr:=XS (sheetOf p) mainS;obtain ⟨m1,m2,m3⟩:=q2r hc;have hst0:=x3j hc hf0;rw [show (sheetOf p).p=p from (QK p).1,m1] at hPr;have hmf:=(KN (QD hc).1).pr _ (List.mem_of_getElem? m2);have hgm:(p.globals.map AV.str).length=p.globals.length:=length_map _;repeat' (first|((first|(refine iM fun _=>?_)|refine dA ?_|refine And.intro rfl ?_|refine aD ?_|refine aR ?_|refine bP ?_|(refine iA fun _=>?_)|refine IdxK.xs (by omega) ?_|refine QM (by omega) ?_|(refine ByteK.at (by omega) ?_)|refine wI ?_);conv=>whnf)|(apply bD<;>intro _<;>first|omega|conv=>whnf)|(apply bE<;>intro _<;>first|omega|conv=>whnf)|(apply bN<;>intro _<;>conv=>whnf)|(apply bB<;>intro _<;>conv=>whnf))
  refine z6x ?_;refine ScopeK.inv QU (c:=z8s) (RIx.st p tape watch fuel) RIx.lab (fun i=>BU p fuel i.c∧i.bok ∧ ∃ n,NT p tape watch fuel n (KL p)=i.c) (fun i=>cfμ fuel i.c) x8x ?_ ?_ ?_
  ·rintro ⟨c,gv,at_,bs,vs,it⟩ _;cases c<;>rfl
  ·refine (show ∀ (K:Exit->St->Prop),(∀ l s',(∃ i:RIx,i.lab=l∧(BU p fuel i.c∧i.bok ∧ ∃ n,NT p tape watch fuel n (KL p)=i.c)∧Le Tryz.f63.ntmps s' (i.st p tape watch fuel))->K (.goto l) s')->W Tryz.prog tab Tryz.f63.ntmps q1w z8s K _ from ?_) _ (fun _ _ h=>h);intro K hK;conv=>whnf
   repeat' (first|((first|(refine iM fun _=>?_)|refine dA ?_|refine And.intro rfl ?_|refine aD ?_|refine aR ?_|refine bP ?_|(refine iA fun _=>?_)|refine IdxK.xs (by omega) ?_|refine QM (by omega) ?_|(refine ByteK.at (by omega) ?_)|refine wI ?_|refine cP hC ?_|refine cP hFl ?_);conv=>whnf)|(apply bD<;>intro _<;>first|omega|conv=>whnf)|(apply bE<;>intro _<;>first|omega|conv=>whnf)|(apply bN<;>intro _<;>conv=>whnf)|(apply bB<;>intro _<;>conv=>whnf)|(refine And.intro ?_ ?_<;>conv=>whnf))
   all_goals try (exfalso;omega)
   all_goals try contradiction
   refine LoopK.inv QU (fun i:GIx=>gSt p tape watch fuel i.j i.bs) (fun i=>i.j<=p.globals.length∧i.bs.length=i.j) (fun i=>p.globals.length-i.j) ⟨0,[]⟩ ?_ ⟨zero_le _,rfl⟩ ?_
   ·refine Le.trans (Le.mk (H':=(gSt p tape watch fuel 0 []).H.tail) [(2,.own 164 1 []),(3,.own 218 1 []),(4,.own 2 1 []),(5,.own 2 1 []),(6,.own 63 2 [])] (by intro c hc;simp only [List.mem_cons,List.not_mem_nil,or_false] at hc;rcases hc with rfl|rfl|rfl|rfl|rfl<;>exact ⟨rfl,rfl⟩) (by decide) (by show (List.map _ _).Nodup;simp [gSt]) (sl':=(gSt p tape watch fuel 0 []).sl)
     (.cons (.refl _) (.cons (.refl _) (.cons (.refl _) (.cons (.refl _) (.cons (.refl _) .nil)))))
     (.cons rfl (.obj (.cons (.refl _) (.cons (.nil (.head _)) (.cons (.refl _) (.cons (.refl _) (.cons (.nil (.tail _ (.head _))) (.cons (.nil (.tail _ (.tail _ (.head _)))) (.cons (.refl _) (.cons (.refl _) (.cons (.refl _) (.cons (.nil (.tail _ (.tail _ (.tail _ (.head _))))) (.cons (.nil (.tail _ (.tail _ (.tail _ (.tail _ (.head _)))))) .nil)))))))))))) (.new (by simp) (.new (by simp) (.new (by simp) (.new (by simp) (.new (by simp) (.cons rfl (.refl _) .nil)))))))) (z1a 2500 2 (by rfl) (by decide))
   rintro ⟨j,bs⟩ ⟨h1,h2⟩;simp only at h1 h2 ⊢;have hbl:(bs.map cpA).length=bs.length:=length_map _;rcases Nat.lt_or_ge j p.globals.length with hj|hj
   ·unfold gSt;conv=>whnf
    repeat' (first|((first|(refine iM fun _=>?_)|refine dA ?_|refine And.intro rfl ?_|refine aD ?_|refine aR ?_|refine bP ?_|(refine iA fun _=>?_)|refine IdxK.xs (by omega) ?_|refine QM (by omega) ?_|(refine ByteK.at (by omega) ?_)|refine wI ?_|refine AppK.mk (n:=j) (by omega) rfl (by show (j+1)*8<=140737488355328;omega) (by show j+1<=9223372036854775807;omega) (fun x hx=>by rcases List.mem_singleton.1 hx with rfl;exact ⟨rfl,rfl⟩) ?_);conv=>whnf)|(apply bD<;>intro _<;>first|omega|conv=>whnf)|(apply bE<;>intro _<;>first|omega|conv=>whnf)|(apply bN<;>intro _<;>conv=>whnf)|(apply bB<;>intro _<;>conv=>whnf)|(refine PM QU 7 2500 ?_;conv=>whnf)|(refine ⟨⟨rfl,rfl⟩,fun b hb => ?_⟩;conv=>whnf))
    all_goals first
     | (exfalso;omega)
     | exact ⟨⟨j+1,bs++[b]⟩,⟨hj,by simp [h2]⟩,by simp only;omega,Le.of_eq (by simp only [List.map_append];rfl)⟩
   ·obtain rfl:j=p.globals.length:=by omega
    have hM0:OkM p bs (M00 p):=⟨by simp [M00,h2],(fun f hf=>by cases hf),by simp [M00],zero_le _,fun f hf=>by cases hf⟩;have hopen:=JL p tape watch bs [] (M00 p) hM0 (zero_le _) (mainN p) (prA p (mainN p)) m2 (q7b hc m2) (by omega) (by omega) [] (zero_le _) (fun v hv=>by cases hv) 0;have hq:mHq p tape watch bs [] (M00 p) (VU bs [])=[(1000,.obj 163 [.p (.ip (sheetOf p).cells),.hd 1001 0 p.globals.length,.p (XT tape),.p (XT watch),.hd 2001 0 0,.hd 2002 0 0,.p (.int .i64 0),.p (.int .i64 0),.p (.int .i64 0),.hd 2003 0 0,.hd 2004 0 0]),(1001,.own 164 1 (bs.map cpA)),(2001,.own 218 1 []),(2002,.own 2 1 []),
      (2003,.own 2 1 []),(2004,.own 63 2 []),(2500,.ext (.cells 2 (bs.map fun b=>(b,.int .i64 0)))),(2005,.own 164 1 [])]:=by
     unfold mHq mH mO M00;simp only;rw [z3y h2,z1t h2];rfl
    rw [hq] at hopen;unfold gSt;conv=>whnf
    repeat' (first|((first|(refine iM fun _=>?_)|refine dA ?_|refine And.intro rfl ?_|refine aD ?_|refine aR ?_|refine bP ?_|(refine iA fun _=>?_)|refine IdxK.xs (by omega) ?_|refine QM (by omega) ?_|(refine ByteK.at (by omega) ?_)|refine wI ?_|refine cP hPr ?_);conv=>whnf)|(apply bD<;>intro _<;>first|omega|conv=>whnf)|(apply bE<;>intro _<;>first|omega|conv=>whnf)|(apply bN<;>intro _<;>conv=>whnf)|(apply bB<;>intro _<;>conv=>whnf))
    all_goals try (exfalso;omega)
    refine CallK.le ?_;refine CallK.nil 8 164 1 rfl (.cons rfl (.cons rfl (.row (.cons rfl .nil)))) ?_;refine CallK.heap [(1000,0),(1001,2),(2001,3),(2002,4),(2003,5),(2004,6),(2500,2500),(2005,8)] 0 (ArgsH.cons (LSub.refl _) (ArgsH.cons (LSub.refl _) (ArgsH.cons (LSub.refl _) (ArgsH.cons (LSub.refl _) ArgsH.nil)))) (by refine BlksH.cons (j:=0) rfl rfl ?_ ?_;exact CSub.refl _;refine BlksH.cons (j:=2) rfl rfl ?_ ?_;exact CSub.refl _;refine BlksH.cons (j:=3) rfl rfl ?_ ?_;exact CSub.refl _;refine BlksH.cons (j:=4) rfl rfl ?_ ?_;exact CSub.refl _;refine BlksH.cons (j:=5) rfl rfl ?_ ?_;exact CSub.refl _;refine BlksH.cons (j:=6) rfl rfl ?_ ?_;exact CSub.refl _;refine BlksH.cons (j:=2500) rfl rfl ?_ ?_;exact CSub.refl _;refine BlksH.cons (j:=8) rfl rfl ?_ ?_;exact CSub.refl _;exact BlksH.nil) hopen rfl rfl ?_;rintro l' H' ⟨nb,rfl,rfl,hnb⟩;conv=>whnf
    have hbl2:(bs++nb).length=(YJ p (mainN p) (prA p (mainN p)) [] 0 (M00 p)).mem.length:=by
     unfold YJ M00;simp only [length_append,List.length_replicate];omega
    refine ⟨⟨[(2,.p (.int .i64 fuel)),(8,.ptr 1 0),(10,.ptr 0 0),(11,.ptr 7 0),(12,.p (.int .i64 0)),(54,.p (.int .i64 (NM p (mainN p) (prA p (mainN p)))))],rH p tape watch (bs++nb) [] (YJ p (mainN p) (prA p (mainN p)) [] 0 (M00 p)) w3c⟩,?_,?_⟩
    ·have hp:=q8t p hc tape watch htp fuel hf1 0 (bs++nb) [] w3c _ _ hst0 hbl2 K (fun i s' h1 h2 h3=>hK i.lab s' ⟨i,rfl,⟨h1▸(q6g hc tape watch hst0 (fun _ h=>by cases h)).1,h2,1,h1.symm⟩,h3⟩);conv=>whnf
     conv at hp=>whnf
     exact hp
    ·exact Le.mk [] (by simp) (by simp) (by show (List.map _ _).Nodup;simp [rH]) (.cons (.refl _) (.cons (.refl _) (.cons (.refl _) (.cons (.refl _) (.cons (.refl _) (.cons (.refl _) .nil))))))
      (.cons rfl (.refl _) (.cons rfl (.refl _) (.cons rfl (.refl _) (.cons rfl (.refl _) (.cons rfl (.refl _) (.cons rfl (.refl _) (.cons rfl (.refl _) (.cons rfl (.refl _) (.cons rfl (.obj (.cons (.refl _) (.cons (.refl _) (.cons (.p Sub.nils) (.cons (.refl _) (.cons (.refl _) (.cons (.refl _) (.cons (.refl _) (.cons (.refl _) (.cons (.p Sub.nils) (.cons (.p (Sub.ff rfl)) (.cons (.p Sub.nils) (.cons (.p Sub.nils) (.cons (.p Sub.nils) (.cons (.refl _) (.cons (.refl _) (.cons (.refl _) (.cons (.refl _) .nil)))))))))))))))))) .nil)))))))))
  ·rintro ⟨c,gv,at_,bs,vs,it⟩ ⟨hG,hb,n,hn⟩;have hgo:=q6g hc tape watch (p:=p) (fuel:=fuel) (c:=c) hG;cases c with
   | next a M =>
     refine q8t p hc tape watch htp fuel hf1 gv bs vs it a M hG hb _ fun i s' h1 h2 h3 => ?_;obtain ⟨u1,u2⟩:=hgo (fun _ h=>by cases h);exact ⟨i,rfl,⟨h1▸u1,h2,n+1,by rw [KE,hn,h1]⟩,h1▸u2,h3⟩
   | back g M =>
     refine x8f p hc tape watch fuel hf1 g bs vs it at_ M hG hb _ (fun i s' h1 h2 h3 => ?_) fun M' h1 => ?_
     ·obtain ⟨u1,u2⟩:=hgo (fun _ h=>by cases h);exact ⟨i,rfl,⟨h1▸u1,h2,n+1,by rw [KE,hn,h1]⟩,h1▸u2,h3⟩
     ·exact z5s rfl rfl ⟨fun _=>⟨n+1,M',by rw [KE,hn,h1],rfl⟩,fun h=>absurd ⟨hc,hf0,hf1⟩ h⟩
   | fin M =>
     refine z2l p tape watch fuel gv at_ bs vs it M _ ?_;exact z5s rfl rfl ⟨fun _=>⟨n,M,hn,rfl⟩,fun h=>absurd ⟨hc,hf0,hf1⟩ h⟩
 ·skip
  repeat' (first|((first|(refine iM fun _=>?_)|refine dA ?_|refine And.intro rfl ?_|refine aD ?_|refine aR ?_|refine bP ?_|(refine iA fun _=>?_)|refine IdxK.xs (by omega) ?_|refine QM (by omega) ?_|(refine ByteK.at (by omega) ?_)|refine wI ?_);conv=>whnf)|(apply bD<;>intro _<;>first|omega|conv=>whnf)|(apply bE<;>intro _<;>first|omega|conv=>whnf)|(apply bN<;>intro _<;>conv=>whnf)|(apply bB<;>intro _<;>conv=>whnf))
  refine z6x ?_;refine ScopeK.inv QU (c:=z8s) (fun i:Nat=>⟨[],[]⟩) (fun i=>0) (fun _=>False) (fun i=>0) x8x (fun _ h=>h.elim) ?_ (fun _ h=>h.elim);cases hc:chkB p;all_goals
   rw [hc] at hC hok;conv=>whnf
   repeat' (first|((first|(refine iM fun _=>?_)|refine dA ?_|refine And.intro rfl ?_|refine aD ?_|refine aR ?_|refine bP ?_|(refine iA fun _=>?_)|refine IdxK.xs (by omega) ?_|refine QM (by omega) ?_|(refine ByteK.at (by omega) ?_)|refine wI ?_|refine cP hC ?_);conv=>whnf)|(apply bD<;>intro _<;>first|omega|conv=>whnf)|(apply bE<;>intro _<;>first|omega|conv=>whnf)|(apply bN<;>intro _<;>conv=>whnf)|(apply bB<;>intro _<;>conv=>whnf))
   all_goals first
    | contradiction
    | exact w4k ⟨fun h=>absurd h hok,fun _=>rfl⟩
    | exact absurd ⟨rfl,by omega,by omega⟩ hok
end Go.Ab
