/- LAW: what a run does is alive, and what a run that is done has done leads to the exit. -/
import Derived.Test.YtiaikoimoonlmaaGreatDomR16
import Derived.Test.YtiaikoimoonlmaaGreatDomR19
import Derived.Test.YtiaikoimoonlmaaGreatDomR21
import Derived.Test.YtiaikoimoonlmaaGreatDomR22
set_option linter.unusedSimpArgs false
set_option linter.unusedVariables false
set_option maxRecDepth 100000
set_option maxHeartbeats 16000000
open List (length length_map map_drop mem_cons_self)
namespace Go.Ab
open Go.Proofs
def eR (p:Pg) (k:Nat) (g:Pr):Int->Int->Prop:=stR ((newWay p k g).real.filter (x5o p (endsR p)))
inductive Pos:List Fm->Int->Nat->Int->Prop
 | top {st:List Fm} {f:Fm} {x:Int}:Pos (st++[f]) x f.proc x
 | low {st:List Fm} {f:Fm} {x:Int} {k:Nat} {y:Int} (h:Pos st f.call k y):Pos (st++[f]) x k y
theorem Pos.inv {st:List Fm} {f:Fm} {x:Int} {k:Nat} {y:Int} (h:Pos (st++[f]) x k y):(k=f.proc∧y=x)∨Pos st f.call k y:=by
 generalize hl:st++[f]=l at h;cases h with
 | top =>
   obtain ⟨_,h2⟩:=List.append_inj' hl rfl;cases h2;exact .inl ⟨rfl,rfl⟩
 | low h =>
   obtain ⟨rfl,h2⟩:=List.append_inj' hl rfl;cases h2;exact .inr h
def EvP (p:Pg) (P:Nat->Int->Prop) (e:Int×List Int):Prop := ∃ k g t,p.procs[k]? = some g∧t∈flL g.body∧t.id=e.1∧Rch (eR p k g) 0 e.1∧(Rch (eR p k g) e.1 (-1) ∨ ∃ y,P k y∧Rch (eR p k g) e.1 y)
structure InvM (p:Pg) (M:Mc) (x:Int):Prop where
 pos : ∀ k y,Pos M.stack x k y -> ∃ g,p.procs[k]? = some g∧Rch (eR p k g) 0 y
 ev : ∀ e∈M.trace,EvP p (Pos M.stack x) e
 fr : ∀ f∈M.stack,(f.call=0∧f.proc=mainN p)∨(f.call≠0 ∧ ∃ g it,p.procs[f.proc]? = some g∧(sheetOf p).l[(f.call-1).toNat]? = some it∧g.name=it.s.proc)
def closedE (p:Pg) (e:Int×List Int):Prop := ∃ k g t,p.procs[k]? = some g∧t∈flL g.body∧t.id=e.1∧Rch (eR p k g) 0 e.1∧Rch (eR p k g) e.1 (-1)
def liveE (p:Pg) (e:Int×List Int):Prop := ∃ k g t,p.procs[k]? = some g∧t∈flL g.body∧t.id=e.1∧Rch (eR p k g) 0 e.1
structure InvF (p:Pg) (M:Mc):Prop where
 live : ∀ e∈M.trace,liveE p e
 done:M.fin=1->mainS∈endsR p ∧ ∀ e∈M.trace,closedE p e
def w9l (p:Pg):Cf->Prop
 | .next a M=>InvM p M a
 | .back _ M=>InvM p M (-1)
 | .fin M=>InvF p M
theorem InvM.fin {p:Pg} {M M':Mc} {x:Int} (h:InvM p M x) (ht:M'.trace=M.trace) (hf:M'.fin≠1):InvF p M' :=
 ⟨fun e he=>by
   obtain ⟨k,g,t,h1,h2,h3,h4,_⟩:=h.ev e (ht▸he);exact ⟨k,g,t,h1,h2,h3,h4⟩,fun h=>absurd h hf⟩
theorem q4t {w:List Int} {M:Mc} {id:Int} {v:List Int} {e:Int×List Int} (h:e∈(QK w M id v).trace):e∈M.trace∨e.1=id:=by
 unfold QK at h;cases hw:w.any (fun x=>decide (id=x))<;>rw [hw] at h
 ·exact .inl h
 ·rcases List.mem_append.1 h with h|h
  ·exact .inl h
  ·rw [List.mem_singleton.1 h];exact .inr rfl
section
variable {p:Pg} (hc:chkB p=true)
include hc
theorem w8v {k:Nat} {g:Pr} (hk:p.procs[k]? = some g) {it:Item} (hi:it∈itsOf p k g) {b:Int} (hb:b∈goesI (sheetOf p) g it) (hcall:it.s.kind=4->it.s.proc∈endsR p):eR p k g it.s.id b:=by
 refine ⟨⟨it.s.id,b,1⟩,List.mem_filter.2 ⟨((WG hc hk).2 _).2 (z0h hi hb),?_⟩,rfl,rfl⟩;unfold x5o;rw [Bool.or_eq_true];refine .inr ?_;show (match w3o p it.s.id with|some s=>_|none=>_)=true;rw [z9b hc hk (YI hi)];show (!(decide (it.s.kind=4) && !((endsR p).any fun x=>it.s.proc==x)))=true;by_cases h4:it.s.kind=4
 ·have h5:((endsR p).any fun x=>it.s.proc==x)=true:=List.any_eq_true.2 ⟨_,hcall h4,by simp⟩;rw [h5];simp
 ·simp [h4]
theorem x9i {k:Nat} {g:Pr} (hk:p.procs[k]? = some g):eR p k g 0 (q1y p k g):=by
 refine ⟨⟨0,w6w p k g,1⟩,List.mem_filter.2 ⟨((WG hc hk).2 _).2 (by unfold QJ w6w;exact mem_cons_self),?_⟩,rfl,rfl⟩;unfold x5o;simp
theorem v1t {k:Nat} {g:Pr} (hk:p.procs[k]? = some g) (h:Rch (eR p k g) 0 (-1)):g.name∈endsR p:=(w5x hc hk).2 h
omit hc in
theorem InvM.on {M M':Mc} {a b:Int} {st:List Fm} {f:Fm} (h:InvM p M a) (hs:M.stack=st++[f]) (hs':M'.stack=M.stack) {g:Pr} (hk:p.procs[f.proc]? = some g) {it:Item} (hi:it∈itsOf p f.proc g) (hid:it.s.id=a) (hb:eR p f.proc g a b)
  (ht : ∀ e∈M'.trace,e∈M.trace∨e.1=it.s.id):InvM p M' b:=by
 have h0:Rch (eR p f.proc g) 0 a:=by
  obtain ⟨g',h1,h2⟩:=h.pos f.proc a (by rw [hs];exact .top);rw [hk] at h1;cases h1;exact h2
 refine ⟨fun k y hp => ?_,fun e he => ?_,fun f' hf=>h.fr f' (hs'▸hf)⟩
 ·rw [hs',hs] at hp;rcases hp.inv with ⟨rfl,rfl⟩|hp
  ·exact ⟨g,hk,.tail h0 hb⟩
  ·exact h.pos k y (by rw [hs];exact .low hp)
 ·rcases ht e he with he|he
  ·obtain ⟨k,g',t,h1,h2,h3,h4,h5⟩:=h.ev e he;refine ⟨k,g',t,h1,h2,h3,h4,?_⟩;rcases h5 with h5|⟨y,h5,h6⟩
   ·exact .inl h5
   ·rw [hs] at h5;rcases h5.inv with ⟨rfl,rfl⟩|h5
    ·rw [hk] at h1;cases h1;exact .inr ⟨b,by rw [hs',hs];exact .top,.tail h6 hb⟩
    ·exact .inr ⟨y,by rw [hs',hs];exact .low h5,h6⟩
  ·rw [hid] at he;exact ⟨f.proc,g,it.s,hk,YI hi,by rw [he,hid],by rw [he];exact h0,.inr ⟨b,by rw [hs',hs];exact .top,by rw [he];exact .tail .refl hb⟩⟩
theorem InvM.push {M M':Mc} {a:Int} {st:List Fm} {f n:Fm} (h:InvM p M a) (hs:M.stack=st++[f]) (hs':M'.stack=M.stack++[n]) (hn:n.call=a) {g:Pr} (hk:p.procs[f.proc]? = some g) {it:Item} (hi:it∈itsOf p f.proc g) (hid:it.s.id=a) {q:Pr} (hq:p.procs[n.proc]? = some q) (hnm:q.name=it.s.proc)
  (ht : ∀ e∈M'.trace,e∈M.trace∨e.1=it.s.id):InvM p M' (q1y p n.proc q):=by
 have h0:Rch (eR p f.proc g) 0 a:=by
  obtain ⟨g',h1,h2⟩:=h.pos f.proc a (by rw [hs];exact .top);rw [hk] at h1;cases h1;exact h2
 have hup : ∀ k y,Pos M.stack a k y->Pos M'.stack (q1y p n.proc q) k y:=fun k y hp=>by
  rw [hs'];exact .low (by rw [hn];exact hp)
 refine ⟨fun k y hp => ?_,fun e he => ?_,fun f' hf => ?_⟩
 ·rw [hs'] at hp;rcases hp.inv with ⟨rfl,rfl⟩|hp
  ·exact ⟨q,hq,.tail .refl (x9i hc hq)⟩
  ·rw [hn] at hp;exact h.pos k y hp
 ·rcases ht e he with he|he
  ·obtain ⟨k,g',t,h1,h2,h3,h4,h5⟩:=h.ev e he;exact ⟨k,g',t,h1,h2,h3,h4,h5.imp id fun ⟨y,h6,h7⟩=>⟨y,hup _ _ h6,h7⟩⟩
  ·rw [hid] at he;exact ⟨f.proc,g,it.s,hk,YI hi,by rw [he,hid],by rw [he];exact h0,.inr ⟨a,hup _ _ (by rw [hs];exact .top),by rw [he];exact .refl⟩⟩
 ·rw [hs'] at hf;rcases List.mem_append.1 hf with hf|hf
  ·exact h.fr f' hf
  ·rw [List.mem_singleton.1 hf];have:=VD (QH hc).1 hk (YI hi);refine .inr ⟨by omega,q,it,hq,?_,hnm⟩;rw [hn,<- hid];exact v0v hc hk hi
theorem z8z:w9l p (GF p):=by
 obtain ⟨h1,h2,h3⟩:=q8z hc;have hs:(JE p (mainN p) (prA p (mainN p)) [] 0 (M00 p)).stack=[]++[⟨mainN p,varsS p (prA p (mainN p)),List.range p.globals.length++[]++List.range' (M00 p).mem.length (prA p (mainN p)).vars.length,0⟩]:=rfl;refine InvM.mk (fun k y hp => ?_) (fun e he=>(by cases he)) (fun f hf => ?_)
 ·rw [hs] at hp;rcases hp.inv with ⟨rfl,rfl⟩|hp
  ·exact ⟨_,h2,.tail .refl (x9i hc h2)⟩
  ·generalize hl:([]:List Fm)=l at hp;cases hp<;>simp at hl
 ·rw [hs] at hf;rw [List.mem_singleton.1 hf];exact .inl ⟨rfl,rfl⟩
theorem z5c:(prA p (mainN p)).name=mainS:=by
 obtain ⟨h1,h2,_⟩:=q8z hc;obtain ⟨k,f,h3,_,h5,_⟩:=x1o hc;obtain ⟨k',hk',h6,_,_,h7⟩:=q4y (p:=p) (n:=mainS) (List.mem_map.2 ⟨f,List.mem_of_getElem? h3,h5⟩);have e:mainN p=k':=by unfold mainN;rw [h6];rfl
 rw [e,q0s (List.getElem?_eq_getElem hk')];exact h7
omit hc in
theorem w8t (tape watch:List Int) {M:Mc} {f:Fm} {g:Pr} {it:Item} {r:Int×Mc} (hr:r=doM p tape watch M f g it) (h0:M.fin=0):(∀ e∈r.2.trace,e∈M.trace∨e.1=it.s.id)∧(r.2.fin≠0->r.2.trace=M.trace∧r.2.fin≠1):=by
 subst hr;have key : ∀ (M1 M2:Mc) (v:List Int),M1.trace=M.trace->M1.fin=0->M2.trace=(QK watch M1 it.s.id v).trace->M2.fin=(QK watch M1 it.s.id v).fin->(∀ e∈M2.trace,e∈M.trace∨e.1=it.s.id)∧(M2.fin≠0->M2.trace=M.trace∧M2.fin≠1):=fun M1 M2 v h1 h2 h3 h4=>by
  refine ⟨fun e he => ?_,fun h => ?_⟩
  ·rw [h3] at he;rcases q4t he with h|h
   ·exact .inl (h1▸h)
   ·exact .inr h
  ·rw [h4,(VC watch M1 it.s.id v).2.2.1,h2] at h;exact absurd rfl h
 have bad : ∀ c:Int,c≠1->(∀ e∈(endM M c).trace,e∈M.trace∨e.1=it.s.id)∧((endM M c).fin≠0->(endM M c).trace=M.trace∧(endM M c).fin≠1):=fun c hc=>⟨fun e he => .inl he,fun _=>⟨rfl,hc⟩⟩;unfold doM;split
 ·exact key M _ [] rfl h0 rfl rfl
 split
 ·exact key M _ [] rfl h0 rfl rfl
 split
 ·exact key M _ [] rfl h0 rfl rfl
 split
 ·split
  ·exact bad 3 (by decide)
  ·exact key (setM { M with reads:=M.reads+1 } (varM f it.s.name) (tape.getD M.reads.toNat 0)) _ [tape.getD M.reads.toNat 0] rfl h0 rfl rfl
 cases (QS M f it.s.x).2 with
 | false=>exact bad 4 (by decide)
 | true =>
   rw [cond_true];generalize (QS M f it.s.x).1=n;split
   ·exact key M _ [n] rfl h0 rfl rfl
   split
   ·exact key M _ [n] rfl h0 rfl rfl
   split
   ·exact key M _ [n] rfl h0 rfl rfl
   split
   ·exact key M _ [n] rfl h0 rfl rfl
   ·exact key M _ [n] rfl h0 rfl rfl
theorem w4k {M:Mc} {b:Int} (hG:Good p M b) (h:InvM p M (-1)) (gave:Int):w9l p (YT p gave M):=by
 obtain ⟨st,hs⟩:=hG.top;have hst:M.stack.dropLast=st:=by rw [hs,List.dropLast_concat]
 have hch:=hG.ch;rw [hs] at hch;have hfr:=h.fr (XL M) (by rw [hs];simp);obtain ⟨q',hq',hend⟩:=h.pos _ _ (by rw [hs];exact .top);have hen:=v1t hc hq' hend;generalize hF:XL M=F at *
 unfold YT;rw [hst,hF];generalize hL:st++[F]=L at hch;cases hch with
 | one h0 =>
   rename_i f;obtain ⟨rfl,h2⟩:=List.append_inj' (show st++[F]=[]++[f] from hL) rfl;have h2:F=f:=by simpa using h2
   subst h2;rw [if_pos h0];refine InvF.mk (fun e he => ?_) fun _=>⟨?_,fun e he => ?_⟩
   ·obtain ⟨k,g,t,u1,u2,u3,u4,_⟩:=h.ev e he;exact ⟨k,g,t,u1,u2,u3,u4⟩
   ·rcases hfr with ⟨_,hm⟩|⟨hne,_⟩
    ·rw [hm,(q8z hc).2.1] at hq';cases hq';rw [z5c hc] at hen;exact hen
    ·exact absurd h0 hne
   ·obtain ⟨k,g,t,u1,u2,u3,u4,u5⟩:=h.ev e he;refine ⟨k,g,t,u1,u2,u3,u4,?_⟩;rcases u5 with u5|⟨y,u5,u6⟩
    ·exact u5
    ·rw [hs] at u5;rcases u5.inv with ⟨_,rfl⟩|u5
     ·exact u6
     ·generalize hl:([]:List Fm)=l at u5;cases u5<;>simp at hl
 | push hl h1 hle hit hk hp hi hid =>
   rename_i l g f q it;obtain ⟨rfl,h2⟩:=List.append_inj' hL rfl;have h2:F=f:=by simpa using h2
   subst h2;rw [if_neg (by omega),hit];have hpr:it.s.proc∈endsR p:=by
    rcases hfr with ⟨h0,_⟩|⟨_,g',it',v1,v2,v3⟩
    ·omega
    ·rw [hit] at v2;cases v2;rw [hq'] at v1;cases v1;rw [<- v3];exact hen
   have hstep:eR p g.proc q F.call it.next:=by
    rw [<- hid];refine w8v hc hp hi ?_ fun _=>hpr;unfold goesI;rw [if_neg (by omega),if_neg (by omega),if_neg (by omega),if_neg (by omega),if_neg (by omega),if_neg (by omega)];exact mem_cons_self
   have key : ∀ M':Mc,M'.stack=l++[g]->M'.trace=M.trace->InvM p M' it.next:=fun M' e1 e2=>by
    refine ⟨fun k y hP => ?_,fun e he => ?_,fun f' hf=>h.fr f' (by rw [hs];rw [e1] at hf;exact List.mem_append_left _ hf)⟩
    ·rw [e1] at hP;rcases hP.inv with ⟨rfl,rfl⟩|hP
     ·obtain ⟨q2,w1,w2⟩:=h.pos g.proc F.call (by rw [hs];exact .low .top);rw [hp] at w1;cases w1;exact ⟨q,hp,.tail w2 hstep⟩
     ·exact h.pos k y (by rw [hs];exact .low (.low hP))
    ·rw [e2] at he;obtain ⟨k,g',t,u1,u2,u3,u4,u5⟩:=h.ev e he;refine ⟨k,g',t,u1,u2,u3,u4,?_⟩;rcases u5 with u5|⟨y,u5,u6⟩
     ·exact .inl u5
     ·rw [hs] at u5;rcases u5.inv with ⟨_,rfl⟩|u5
      ·exact .inl u6
      ·rcases u5.inv with ⟨rfl,rfl⟩|u5
       ·rw [hp] at u1;cases u1;exact .inr ⟨it.next,by rw [e1];exact .top,.tail u6 hstep⟩
       ·exact .inr ⟨y,by rw [e1];exact .low u5,u6⟩
   show InvM p (if it.s.name=[] then _ else _) it.next;split
   ·exact key _ rfl rfl
   ·exact key _ rfl rfl
omit hc in
theorem w0d (watch:List Int) {M:Mc} {f:Fm} {t:S} {r:Int×Mc} (hr:r=x2v watch M f t) (h0:M.fin=0):(∀ e∈r.2.trace,e∈M.trace∨e.1=t.id)∧(r.2.fin≠0->r.2.trace=M.trace∧r.2.fin≠1):=by
 subst hr;have key : ∀ v,(∀ e∈(QK watch M t.id v).trace,e∈M.trace∨e.1=t.id)∧((QK watch M t.id v).fin≠0->(QK watch M t.id v).trace=M.trace∧(QK watch M t.id v).fin≠1):=fun v=>⟨fun e he=>q4t he,fun h=>by
  rw [(VC watch M t.id v).2.2.1,h0] at h;exact absurd rfl h⟩
 unfold x2v;cases t.has with
 | false=>exact key []
 | true =>
   rw [cond_true];cases (QS M f t.x).2 with
   | false=>exact ⟨fun e he => .inl he,fun _=>⟨rfl,by show (4:Int)≠1;decide⟩⟩
   | true=>exact key _
theorem w3g (watch:List Int) {M:Mc} {b:Int} (hG:Good p M b) {g:Pr} (hk:p.procs[(XL M).proc]? = some g) {it:Item} (hi:it∈itsOf p (XL M).proc g) (h4:it.s.kind=4) (h:InvM p M it.s.id):w9l p (z5j (GN p watch M (XL M) it.s (q1g p it.s) (prA p (q1g p it.s)))):=by
 have ht:=YI hi;obtain ⟨k0,k1,k2⟩:=z7r hc hk ht h4;obtain ⟨st,hst⟩:=hG.top;have hnm:(prA p (q1g p it.s)).name=it.s.proc:=by
  obtain ⟨k',_,u2,_,u4,_⟩:=z2q hc (List.mem_flatMap.2 ⟨g,List.mem_of_getElem? hk,ht⟩) h4;have e:q1g p it.s=k':=by
   unfold q1g;show (caI p it.s).toNat=k';rw [u2];rfl
  rw [e];exact u4
 obtain ⟨a1,a2,a3,a4,a5,a6,a7,a8⟩:=x1c (f:=XL M) it.s.args [] M (fun a ha hr=>(x1r hc hG hk ht (w9b ha hr)).2) (fun v hv=>by cases hv);unfold GN;generalize argsM (XL M) it.s.args [] M=ar at *
 obtain ⟨ps,M1,ok⟩:=ar;simp only at a1 a2 a3 a4 a5 a6 a7 a8 ⊢;unfold z5j;cases ok with
 | false =>
   have h8:M1.fin=4:=a8 rfl;rw [cond_false,if_neg (by show ¬M1.fin=0;omega)];exact h.fin a6 (by show M1.fin≠1;omega)
 | true =>
   obtain ⟨b1,_,_⟩:=a7 rfl;rw [cond_true];split
   ·exact h.fin (M':=endM M1 5) a6 (by show (5:Int)≠1;decide)
   ·have e1:=VC watch M1 it.s.id [];have h0:(JE p (q1g p it.s) (prA p (q1g p it.s)) ps it.s.id (QK watch M1 it.s.id [])).fin=0:=by
     show (QK watch M1 it.s.id []).fin=0;rw [e1.2.2.1,b1];exact hG.fin
    rw [if_pos h0];refine InvM.push hc (n:=⟨q1g p it.s,varsS p (prA p (q1g p it.s)),List.range p.globals.length++ps++List.range' (QK watch M1 it.s.id []).mem.length (prA p (q1g p it.s)).vars.length,it.s.id⟩) h hst ?_ rfl hk hi rfl k1 hnm ?_
    ·show (QK watch M1 it.s.id []).stack++_=M.stack++_;rw [e1.1,a1]
    ·intro e he;have he:e∈(QK watch M1 it.s.id []).trace:=he;rcases q4t he with h5|h5
     ·exact .inl (a6▸h5)
     ·exact .inr h5
theorem v0e (tape watch:List Int) {fuel:Int} {c:Cf} (hG:PT p fuel c) (h:w9l p c):w9l p (goC p tape watch fuel c):=by
 cases c with
 | fin M=>exact h
 | back g M=>exact w4k hc hG.1 h g
 | next a M =>
   obtain ⟨hGd,h0,h1,hat⟩:=hG;have h:InvM p M a:=h;simp only [goC];by_cases ha:a = -1
   ·rw [if_pos ha];show InvM p M (-1);rw [<- ha];exact h
   rw [if_neg ha];by_cases hf:M.steps=fuel
   ·rw [if_pos hf];exact h.fin (M':=endM M 2) rfl (by show (2:Int)≠1;decide)
   rw [if_neg hf];rcases hat with h2|⟨g,it,hg,_,hit,hi,hid⟩
   ·exact absurd h2 ha
   rw [hit];simp only;have hG1:Good p (ZY M) M.steps:=hGd.same rfl (Nat.le_refl _) hGd.fin hGd.r0 hGd.rd hGd.tr hGd.ou;have hk1:p.procs[(XL (ZY M)).proc]? = some g:=hg;have hi1:it∈itsOf p (XL (ZY M)).proc g:=hi;have hI1:InvM p (ZY M) it.s.id:=by
    rw [hid];exact ⟨h.pos,h.ev,h.fr⟩
   obtain ⟨st,hst⟩:=hG1.top;unfold stI;by_cases h4:it.s.kind=4
   ·rw [if_pos h4];exact w3g hc watch hG1 hk1 hi1 h4 hI1
   rw [if_neg h4];by_cases h9:it.s.kind=9
   ·rw [if_pos h9];obtain ⟨u1,u2⟩:=z6b watch hG1 it.s rfl;obtain ⟨v1,v2⟩:=w0d watch (M:=ZY M) (f:=XL (ZY M)) (t:=it.s) rfl hGd.fin;generalize x2v watch (ZY M) (XL (ZY M)) it.s=r at *
    unfold q6a;by_cases hz:r.2.fin=0
    ·rw [if_pos hz];refine hI1.on hst (u2 hz).2 hk1 hi1 rfl (w8v hc hk1 hi1 ?_ fun h=>absurd h h4) v1;unfold goesI;rw [if_neg (by omega),if_neg (by omega),if_neg (by omega),if_neg (by omega),if_pos h9];exact mem_cons_self
    ·rw [if_neg hz];exact hI1.fin (v2 hz).1 (v2 hz).2
   rw [if_neg h9,q0s hk1];obtain ⟨u1,u2⟩:=w7b hc tape watch hG1 hk1 hi1 h4 h9 rfl;obtain ⟨v1,v2⟩:=w8t (M:=ZY M) (f:=XL (ZY M)) (g:=g) (it:=it) tape watch rfl hGd.fin;have hgo:=x8x (p:=p) tape watch (M:=ZY M) (f:=XL (ZY M)) (g:=g) h4 h9 rfl;generalize doM p tape watch (ZY M) (XL (ZY M)) g it=r at *
   unfold z5j;by_cases hz:r.2.fin=0
   ·rw [if_pos hz];exact hI1.on hst (u2 hz).2.2 hk1 hi1 rfl (w8v hc hk1 hi1 (hgo hz) fun h=>absurd h h4) v1
   ·rw [if_neg hz];exact hI1.fin (v2 hz).1 (v2 hz).2
theorem z9t (tape watch:List Int) {fuel:Int} (h0:0<=fuel) (n:Nat):PT p fuel (q0x p tape watch fuel n (GF p))∧w9l p (q0x p tape watch fuel n (GF p)):=by
 induction n with
 | zero=>exact ⟨z0n hc h0,z8z hc⟩
 | succ n ih =>
   rw [KQ];refine ⟨?_,v0e hc tape watch ih.1 ih.2⟩;generalize q0x p tape watch fuel n (GF p)=c at *
   cases c with
   | fin M=>exact trivial
   | next a M=>exact (x0z hc tape watch ih.1 (fun _ h=>by cases h)).1
   | back g M=>exact (x0z hc tape watch ih.1 (fun _ h=>by cases h)).1
end
def pathL (R:Int->Int->Prop):Int->List Int->Prop
 | _,[]=>True
 | a,b::r=>R a b∧pathL R b r
def lastD (a:Int) (l:List Int):Int:=l.getLast?.getD a
theorem z2d (a b:Int) (l:List Int):lastD a (l++[b])=b:=by
 unfold lastD;rw [List.getLast?_concat];rfl
theorem FS (a c:Int) (r:List Int):lastD a (c::r)=lastD c r:=by
 unfold lastD;rw [List.getLast?_cons];rfl
theorem LW {R:Int->Int->Prop} {b:Int} : ∀ (l:List Int) (a:Int),pathL R a (l++[b])↔pathL R a l∧R (lastD a l) b
 | [],a=>by
   show (R a b∧True)↔(True∧R a b);exact And.comm
 | c::r,a=>by
   rw [List.cons_append,pathL,pathL,LW r c,FS,and_assoc]
theorem x2f {R:Int->Int->Prop} {m:List Int} : ∀ (l:List Int) (a:Int),pathL R a (l++m)->pathL R a l
 | [],_,_=>trivial
 | c::r,a,h=>⟨h.1,x2f r c h.2⟩
theorem w3h {R:Int->Int->Prop} {a:Int} {l:List Int} (h:pathL R a l) {j:Nat} (hj:j<l.length):R (lastD a (l.take j)) l[j]:=by
 rw [<- List.take_append_drop (j+1) l] at h;have h:=x2f _ _ h;rw [List.take_succ_eq_append_getElem hj] at h;exact ((LW _ _).1 h).2
structure PathM (R:Int->Int->Prop) (M:Mc) (x:Int):Prop where
 one : ∃ f,M.stack=[f]
 path:pathL R 0 (M.trace.map Prod.fst)
 last:R (lastD 0 (M.trace.map Prod.fst)) x
structure PathF (R:Int->Int->Prop) (M:Mc):Prop where
 path:pathL R 0 (M.trace.map Prod.fst)
 done:M.fin=1->R (lastD 0 (M.trace.map Prod.fst)) (-1)
def w0g (R:Int->Int->Prop):Cf->Prop
 | .next a M=>PathM R M a
 | .back _ M=>PathM R M (-1)
 | .fin M=>PathF R M
theorem PathM.on {R:Int->Int->Prop} {M M':Mc} {a b:Int} (h:PathM R M a) (hs:M'.stack=M.stack) (ht : ∃ v,M'.trace=M.trace++[(a,v)]) (hb:R a b):PathM R M' b:=by
 obtain ⟨v,ht⟩:=ht;have e:M'.trace.map Prod.fst=M.trace.map Prod.fst++[a]:=by rw [ht,List.map_append];rfl
 refine ⟨by rw [hs];exact h.one,?_,?_⟩
 ·rw [e];exact (LW _ _).2 ⟨h.path,h.last⟩
 ·rw [e,z2d];exact hb
theorem PathM.fin {R:Int->Int->Prop} {M M':Mc} {a:Int} (h:PathM R M a) (ht:M'.trace=M.trace) (hf:M'.fin≠1):PathF R M' :=
 ⟨by rw [ht];exact h.path,fun h=>absurd h hf⟩
theorem w8d {w:List Int} {M:Mc} {id:Int} {v:List Int} (hw:(w.any fun x=>decide (id=x))=true):(QK w M id v).trace=M.trace++[(id,v)]:=by
 unfold QK;rw [hw];rfl
theorem v2l {p:Pg} (tape watch:List Int) {M:Mc} {f:Fm} {g:Pr} {it:Item} {r:Int×Mc} (hr:r=doM p tape watch M f g it) (hw:(watch.any fun x=>decide (it.s.id=x))=true):r.2.fin=0 -> ∃ v,r.2.trace=M.trace++[(it.s.id,v)]:=by
 subst hr;have key : ∀ (M1 M2:Mc) (v:List Int),M1.trace=M.trace->M2.trace=(QK watch M1 it.s.id v).trace->M2.fin=0 -> ∃ v,M2.trace=M.trace++[(it.s.id,v)]:=fun M1 M2 v h1 h3 _=>⟨v,by rw [h3,w8d hw,h1]⟩;have bad : ∀ c:Int,c≠0->(endM M c).fin=0 -> ∃ v,(endM M c).trace=M.trace++[(it.s.id,v)]:=fun c hc h=>absurd h hc;unfold doM;split
 ·exact key M _ [] rfl rfl
 split
 ·exact key M _ [] rfl rfl
 split
 ·exact key M _ [] rfl rfl
 split
 ·split
  ·exact bad 3 (by decide)
  ·exact key (setM { M with reads:=M.reads+1 } (varM f it.s.name) (tape.getD M.reads.toNat 0)) _ [tape.getD M.reads.toNat 0] rfl rfl
 cases (QS M f it.s.x).2 with
 | false=>exact bad 4 (by decide)
 | true =>
   rw [cond_true];generalize (QS M f it.s.x).1=n;split
   ·exact key M _ [n] rfl rfl
   split
   ·exact key M _ [n] rfl rfl
   split
   ·exact key M _ [n] rfl rfl
   split
   ·exact key M _ [n] rfl rfl
   ·exact key M _ [n] rfl rfl
theorem v0z (watch:List Int) {M:Mc} {f:Fm} {t:S} {r:Int×Mc} (hr:r=x2v watch M f t) (hw:(watch.any fun x=>decide (t.id=x))=true):r.2.fin=0 -> ∃ v,r.2.trace=M.trace++[(t.id,v)]:=by
 subst hr;unfold x2v;cases t.has with
 | false=>exact fun _=>⟨[],w8d hw⟩
 | true =>
   rw [cond_true];cases (QS M f t.x).2 with
   | false=>exact fun h=>absurd h (by show ¬(4:Int)=0;decide)
   | true=>exact fun _=>⟨_,w8d hw⟩
theorem v5i {p:Pg} (hc:chkB p=true) {k:Nat} {g:Pr} (hk:p.procs[k]? = some g) {it:Item} (hi:it∈itsOf p k g) {b:Int} (hb:b∈goesI (sheetOf p) g it):wR p k g it.s.id b :=
 ⟨⟨it.s.id,b,1⟩,((WG hc hk).2 _).2 (z0h hi hb),rfl,rfl⟩
theorem w6l {p:Pg} (hc:chkB p=true) {k:Nat} {g:Pr} (hk:p.procs[k]? = some g):wR p k g 0 (q1y p k g) :=
 ⟨⟨0,w6w p k g,1⟩,((WG hc hk).2 _).2 (by unfold QJ w6w;exact mem_cons_self),rfl,rfl⟩
theorem z5b {q:Pg} {g g':Pr} {k:Nat} (hp:q.procs=[g]) (hk:q.procs[k]? = some g'):k=0∧g'=g:=by
 rw [hp] at hk
 match k,hk with
 | 0,hk=>exact ⟨rfl,by simpa using hk.symm⟩
 | k+1,hk=>simp at hk
theorem w9z {q:Pg} (hm:KG q=true) {k:Nat} {g:Pr} (hk:q.procs[k]? = some g) {it:Item} (hi:it∈itsOf q k g):((MU q 0).any fun x=>decide (it.s.id=x))=true:=by
 rw [List.any_eq_true];refine ⟨it.s.id,?_,by simp⟩;have h1:it.s∈(allR q).map RI.s:=by
  rw [z9y hm];exact List.mem_flatMap.2 ⟨g,List.mem_of_getElem? hk,YI hi⟩
 obtain ⟨x,h2,h3⟩:=List.mem_map.1 h1;unfold MU;exact List.mem_map.2 ⟨x,List.mem_filter.2 ⟨h2,rfl⟩,by rw [h3]⟩
section
variable {q:Pg} (hc:chkB q=true) {g:Pr} (hp:q.procs=[g]) (hno : ∀ u∈flL g.body,u.kind≠4)
include hc hp hno
theorem w8b (tape:List Int) {fuel:Int} {c:Cf} (hG:PT q fuel c) (h:w0g (wR q 0 g) c):w0g (wR q 0 g) (goC q tape (MU q 0) fuel c):=by
 cases c with
 | fin M=>exact h
 | back gv M =>
   have h:PathM (wR q 0 g) M (-1):=h;obtain ⟨f,hs⟩:=h.one;have hch:=hG.1.ch;rw [hs] at hch;have h0:f.call=0:=by
    generalize hL:[f]=L at hch;cases hch with
    | one h0 =>
      cases hL;exact h0
    | push =>
      have:=congrArg length hL;simp at this
   show w0g _ (YT q gv M);unfold YT;rw [if_pos (by rw [NO (st:=[]) hs];exact h0)];exact ⟨h.path,fun _=>h.last⟩
 | next a M =>
   obtain ⟨hGd,h0,h1,hat⟩:=hG;have h:PathM (wR q 0 g) M a:=h;simp only [goC];by_cases ha:a = -1
   ·rw [if_pos ha];show PathM _ M (-1);rw [<- ha];exact h
   rw [if_neg ha];by_cases hf:M.steps=fuel
   ·rw [if_pos hf];exact h.fin (M':=endM M 2) rfl (by show (2:Int)≠1;decide)
   rw [if_neg hf];rcases hat with h2|⟨g',it,hg,_,hit,hi,hid⟩
   ·exact absurd h2 ha
   rw [hit];simp only;obtain ⟨hk0,rfl⟩:=z5b hp hg;have hG1:Good q (ZY M) M.steps:=hGd.same rfl (Nat.le_refl _) hGd.fin hGd.r0 hGd.rd hGd.tr hGd.ou;have hk1:q.procs[(XL (ZY M)).proc]? = some g':=hg;have hi1:it∈itsOf q (XL (ZY M)).proc g':=hi;have hI1:PathM (wR q 0 g') (ZY M) it.s.id:=by
    rw [hid];exact ⟨h.one,h.path,h.last⟩
   have h4:=hno it.s (YI hi);have hw:=w9z (QH hc).1 hg hi;have hgo : ∀ b,b∈goesI (sheetOf q) g' it->wR q 0 g' it.s.id b:=fun b hb=>by
    have:=v5i hc hg hi hb
    rwa [hk0] at this
   unfold stI;rw [if_neg h4];by_cases h9:it.s.kind=9
   ·rw [if_pos h9];obtain ⟨u1,u2⟩:=z6b (MU q 0) hG1 it.s rfl;obtain ⟨v1,v2⟩:=w0d (MU q 0) (M:=ZY M) (f:=XL (ZY M)) (t:=it.s) rfl hGd.fin;have v3:=v0z (MU q 0) (M:=ZY M) (f:=XL (ZY M)) (t:=it.s) rfl hw;generalize x2v (MU q 0) (ZY M) (XL (ZY M)) it.s=r at *
    unfold q6a;by_cases hz:r.2.fin=0
    ·rw [if_pos hz];refine PathM.on (M':=r.2) hI1 (u2 hz).2 (v3 hz) (hgo _ ?_);unfold goesI;rw [if_neg (by omega),if_neg (by omega),if_neg (by omega),if_neg (by omega),if_pos h9];exact mem_cons_self
    ·rw [if_neg hz];exact hI1.fin (v2 hz).1 (v2 hz).2
   rw [if_neg h9,q0s hk1];obtain ⟨u1,u2⟩:=w7b hc tape (MU q 0) hG1 hk1 hi1 h4 h9 rfl;obtain ⟨v1,v2⟩:=w8t (p:=q) (M:=ZY M) (f:=XL (ZY M)) (g:=g') (it:=it) tape (MU q 0) rfl hGd.fin;have v3:=v2l (p:=q) tape (MU q 0) (M:=ZY M) (f:=XL (ZY M)) (g:=g') (it:=it) rfl hw;have hdg:=x8x (p:=q) tape (MU q 0) (M:=ZY M) (f:=XL (ZY M)) (g:=g') h4 h9 rfl;generalize doM q tape (MU q 0) (ZY M) (XL (ZY M)) g' it=r at *
   unfold z5j;by_cases hz:r.2.fin=0
   ·rw [if_pos hz];exact PathM.on (M':=r.2) hI1 (u2 hz).2.2 (v3 hz) (hgo _ (hdg hz))
   ·rw [if_neg hz];exact hI1.fin (v2 hz).1 (v2 hz).2
theorem x9t (tape:List Int) {fuel:Int} (h0:0<=fuel) (n:Nat):w0g (wR q 0 g) (q0x q tape (MU q 0) fuel n (GF q)):=by
 induction n with
 | zero =>
   show PathM _ _ _;obtain ⟨h1,h2,h3⟩:=q8z hc;obtain ⟨h4,h5⟩:=z5b hp h2;refine ⟨⟨_,rfl⟩,trivial,?_⟩;show wR q 0 g 0 (q1y q (mainN q) (prA q (mainN q)));rw [h5,h4];exact w6l hc (by rw [hp];rfl)
 | succ n ih =>
   rw [KQ];exact w8b hc hp hno tape (z9t hc tape (MU q 0) h0 n).1 ih
theorem z6e (tape:List Int) {fuel:Int} (h0:0<=fuel) {n:Nat} {M:Mc} (h:q0x q tape (MU q 0) fuel n (GF q) = .fin M):PathF (wR q 0 g) M:=by
 have:=x9t hc hp hno tape h0 n;rw [h] at this;exact this
end
section
variable {p:Pg} {j:Nat} {f:Pr}
end
section
variable {p:Pg} {j:Nat} {f:Pr} {n:Str}
end
section
variable {p:Pg} {j:Nat} {f:Pr}
end
theorem q7u {R:Int->Int->Prop} : ∀ (l:List Int) (a:Int) (j:Nat) (h:j<l.length),pathL R a l->pathL R l[j] (l.drop (j+1))∧lastD l[j] (l.drop (j+1))=lastD a l
 | c::r,a,0,_,h=>⟨h.2,(FS a c r).symm⟩
 | c::r,a,j+1,hj,h=>by
   obtain ⟨h1,h2⟩:=q7u r c j (by simpa using hj) h.2;exact ⟨h1,h2.trans (FS a c r).symm⟩
theorem z0t {R R':Int->Int->Prop} (hs : ∀ a b,R a b->R' a b) {b:Int} (hb:b ≠ -1) : ∀ (l:List Int) (a:Int),pathL R a l->R (lastD a l) (-1)->a≠b->b∉l->AvdP R' b a
 | [],a,_,h2,hab,_ => .step hab (hs _ _ h2) (.exit hb)
 | c::r,a,h,h2,hab,hn => .step hab (hs _ _ h.1) (z0t hs hb r c h.2 (by rw [<- FS a];exact h2) (fun e=>hn (by rw [e];exact mem_cons_self)) fun h=>hn (List.mem_cons_of_mem _ h))
theorem z3e {q:Pg} (hc:chkB q=true) {g:Pr} (h0:q.procs[0]? = some g) (hw:wayO q mainS=some (newWay q 0 g)) {ids:List Int} (hp:pathL (wR q 0 g) 0 ids) (hl:wR q 0 g (lastD 0 ids) (-1)) {j:Nat} (hj:j<ids.length) {b:Int} (hb:b∈z3v q mainS ids[j]):b = -1∨w7t (ids.drop j) b=true:=by
 have hpl:plP q 0 g ids[j]:=by
  obtain ⟨s,h1,_,h3⟩:=w3h hp hj;rw [<- h3];exact (WP hc h0 s h1).2
 rw [PD hw h0,if_pos (ZF hpl).1] at hb;by_cases hx:b = -1
 ·exact .inl hx
 refine .inr ?_;have hf:=(((q9p hc h0 hpl).mem b).1 hb).2;rw [w3u];refine Classical.byContradiction fun hn=>hf ?_;rw [List.drop_eq_getElem_cons hj,List.mem_cons,not_or] at hn;obtain ⟨h1,h2⟩:=q7u ids 0 j hj hp;exact z0t (fun a b h=>(x9k hc h0).2 (.inl h)) hx _ _ h1 (by rw [h2];exact hl) (Ne.symm hn.1) hn.2
def v2d (fuel:Int):Cf->Prop
 | .fin M=>(M.trace.length:Int)<=fuel
 | _=>True
section
variable {q:Pg} (hc:chkB q=true) {g:Pr} (hp:q.procs=[g]) (hno : ∀ u∈flL g.body,u.kind≠4)
include hc hp hno
omit hc in
theorem v1h (tape:List Int) {fuel:Int} {c:Cf} (hG:PT q fuel c) (h:v2d fuel c) (ho:w0g (wR q 0 g) c):v2d fuel (goC q tape (MU q 0) fuel c):=by
 cases c with
 | fin M=>exact h
 | back gv M =>
   have ho:PathM (wR q 0 g) M (-1):=ho;obtain ⟨f,hs⟩:=ho.one;have hch:=hG.1.ch;rw [hs] at hch;have h0:f.call=0:=by
    generalize hL:[f]=L at hch;cases hch with
    | one h0 =>
      cases hL;exact h0
    | push =>
      have:=congrArg length hL;simp at this
   show v2d _ (YT q gv M);unfold YT;rw [if_pos (by rw [NO (st:=[]) hs];exact h0)];have:=hG.1.tr;have:=hG.2.2;show (M.trace.length:Int)<=fuel;omega
 | next a M =>
   obtain ⟨hGd,h0,h1,hat⟩:=hG;have hl:(M.trace.length:Int)<=fuel:=by have:=hGd.tr;omega
   simp only [goC];by_cases ha:a = -1
   ·rw [if_pos ha];exact trivial
   rw [if_neg ha];by_cases hf:M.steps=fuel
   ·rw [if_pos hf];exact hl
   rw [if_neg hf];rcases hat with h2|⟨g',it,hg,_,hit,hi,hid⟩
   ·exact absurd h2 ha
   rw [hit];simp only;obtain ⟨hk0,rfl⟩:=z5b hp hg;have hk1:q.procs[(XL (ZY M)).proc]? = some g':=hg;have h4:=hno it.s (YI hi);unfold stI;rw [if_neg h4];by_cases h9:it.s.kind=9
   ·rw [if_pos h9];obtain ⟨v1,v2⟩:=w0d (MU q 0) (M:=ZY M) (f:=XL (ZY M)) (t:=it.s) rfl hGd.fin;generalize x2v (MU q 0) (ZY M) (XL (ZY M)) it.s=r at *
    unfold q6a;by_cases hz:r.2.fin=0
    ·rw [if_pos hz];exact trivial
    ·rw [if_neg hz];show (r.2.trace.length:Int)<=fuel;rw [(v2 hz).1];exact hl
   rw [if_neg h9,q0s hk1];obtain ⟨v1,v2⟩:=w8t (p:=q) (M:=ZY M) (f:=XL (ZY M)) (g:=g') (it:=it) tape (MU q 0) rfl hGd.fin;generalize doM q tape (MU q 0) (ZY M) (XL (ZY M)) g' it=r at *
   unfold z5j;by_cases hz:r.2.fin=0
   ·rw [if_pos hz];exact trivial
   ·rw [if_neg hz];show (r.2.trace.length:Int)<=fuel;rw [(v2 hz).1];exact hl
theorem w2z (tape:List Int) {fuel:Int} (h0:0<=fuel) {n:Nat} {M:Mc} (h:q0x q tape (MU q 0) fuel n (GF q) = .fin M):(M.trace.length:Int)<=fuel:=by
 have key : ∀ n,v2d fuel (q0x q tape (MU q 0) fuel n (GF q)):=fun n=>by
  induction n with
  | zero=>exact trivial
  | succ n ih =>
    rw [KQ];exact v1h hp hno tape (z9t hc tape (MU q 0) h0 n).1 ih (x9t hc hp hno tape h0 n)
 have:=key n;rw [h] at this;exact this
end
theorem DU (p:Pg) (tape:List Int) (fuel n:Int):SpecP Tryz.prog 13 [.agg p.cells,QA tape,.int .i64 fuel,.int .i64 n] (fun r=>r = .tt):=by
 refine sB GP Tryz.func13 rfl Tryz.call13 ?_;conv=>whnf
 cases hfb:w5l p with
 | false =>
   have hno : ¬gPg p<=20000:=by unfold w5l at hfb;simpa using hfb
   repeat' (first|((first|(refine iM fun _=>?_)|refine cP (VF _) ?_|refine dA ?_|refine And.intro rfl ?_|refine aD ?_|refine aR ?_|refine bP ?_|(refine iA fun _=>?_)|refine IdxK.xs (by omega) ?_|refine QB (by omega) ?_|(refine ByteK.at (by omega) ?_)|refine wI ?_|refine cP ZK ?_);conv=>whnf)|(apply bD<;>intro _<;>first|omega|conv=>whnf)|(apply bE<;>intro _<;>first|omega|conv=>whnf)|(apply bN<;>intro _<;>conv=>whnf)|(apply bB<;>intro _<;>conv=>whnf))
   all_goals first
    | exact ⟨_,.p (Sub.refl _),rfl⟩
    | (exfalso;simp_all;done)
 | true =>
   have hf:Fit p:=v0l hfb;have hfit:gPg p<=20000:=by unfold w5l at hfb;simpa using hfb
   have hC:=BF p hf 60;have htm:(tape.map (AV.int .i64)).length=tape.length:=length_map _;by_cases hok:x5i p 60=true∧0<=fuel∧fuel<=200∧tape.length<=100
   ·obtain ⟨hs,hf0,hf1,htl⟩:=hok;rw [hs] at hC;have hc:chkB p=true:=by unfold x5i at hs;rw [Bool.and_eq_true] at hs;exact hs.1
    obtain ⟨q,g,F⟩:=z3s hf hc;have hS:=MR true p F.copy F.pos F.raw.1 F.raw.2;rw [F.only] at hS;have hal:=(HQ (QH F.chk).1).len;have hI:=q1s q 0 (by omega);have hR:SpecP Tryz.prog 63 [.agg q.cells,QA tape,.int .i64 fuel,QA (MU q 0)] (fun r=>v5r q tape (MU q 0) fuel r):=(v1i q F.fit tape (MU q 0) (by omega) fuel).mono fun r hr=>hr.1 ⟨F.chk,hf0,by omega⟩;have hPD:=fun n M hn=>z6e F.chk F.procs F.nocall tape hf0 (n:=n) (M:=M) hn;repeat' (first|((first|(refine iM fun _=>?_)|refine cP (VF _) ?_|refine dA ?_|refine And.intro rfl ?_|refine aD ?_|refine aR ?_|refine bP ?_|(refine iA fun _=>?_)|refine IdxK.xs (by omega) ?_|refine QB (by omega) ?_|(refine ByteK.at (by omega) ?_)|refine wI ?_|refine cP ZK ?_|refine cP hC ?_|(refine CallK.pure hS (.cons (Sub.refl _) (.cons (by first|exact Sub.refl _|exact Sub.tt rfl) .nil)) ?_;rintro _ rfl)|refine cP hI ?_|(refine CallK.pure hR (.cons (Sub.refl _) (.cons (Sub.refl _) (.cons (Sub.refl _) (.cons (Sub.refl _) .nil)))) ?_;rintro _ ⟨m,M,hn,rfl⟩));conv=>whnf)|(apply bD<;>intro _<;>first|omega|conv=>whnf)|(apply bE<;>intro _<;>first|omega|conv=>whnf)|(apply bN<;>intro _<;>conv=>whnf)|(apply bB<;>intro _<;>conv=>whnf)|(refine And.intro ?_ ?_<;>conv=>whnf))
    all_goals try contradiction
    all_goals try (exfalso;omega)
    all_goals first
     | exact ⟨_,.p (Sub.refl _),rfl⟩
     | skip
    all_goals
     have h9:M.fin=1:=by assumption
     have hP:=hPD m M hn;have hLn:=w2z F.chk F.procs F.nocall tape hf0 hn;have htl2:(M.trace.map evA).length=M.trace.length:=length_map _;have hml:(M.trace.map Prod.fst).length=M.trace.length:=length_map _;have hpos:0<M.trace.length:=by omega
     have hMd:=q1d n (M.trace.length:Int) (by omega);have hmr:=x9w (n:=n) (k:=(M.trace.length:Int)) (by omega);obtain ⟨j,hj⟩ : ∃ j:Nat,z6q n M.trace.length=j:=⟨(z6q n M.trace.length).toNat,by omega⟩;rw [hj] at hMd;have hjl:j<M.trace.length:=by omega
     have hfo : ∀ b∈z3v q mainS M.trace[j].1,b = -1∨w7t ((M.trace.map Prod.fst).drop j) b=true:=fun b hb=>by
      have h2:(M.trace.map Prod.fst)[j]'(by omega)=M.trace[j].1:=List.getElem_map _;exact z3e F.chk F.at0 F.way hP.path (hP.done h9) (j:=j) (by omega) (by rw [h2];exact hb)
     have hD:=z8v q F.fit mainS M.trace[j].1;obtain ⟨T,hT⟩ : ∃ T,T=M.trace.drop j:=⟨_,rfl⟩;have hTe:((M.trace.map evA).take M.trace.length).drop j=T.map evA:=by rw [<- htl2,List.take_length,hT,map_drop]
     have hTf:(M.trace.map Prod.fst).drop j=T.map Prod.fst:=by rw [hT,map_drop]
     have hTl:T.length<=200:=by rw [hT,List.length_drop];omega
     have hTm:(T.map evA).length=T.length:=length_map _;rw [hTf] at hfo;have hev:(M.trace.map evA)[j]? = some (evA M.trace[j]):=by rw [List.getElem?_map,List.getElem?_eq_getElem hjl];rfl
     repeat' (first|((first|(refine iM fun _=>?_)|refine dA ?_|refine And.intro rfl ?_|refine aD ?_|refine aR ?_|refine bP ?_|(refine iA fun _=>?_)|refine IdxK.xs (by omega) ?_|refine QB (by omega) ?_|(refine ByteK.at (by omega) ?_)|refine wI ?_|(refine CallK.pure hMd (.cons (Sub.refl _) (.cons (Sub.of_eq (by rw [htl2])) .nil)) ?_;rintro _ rfl)|refine And.intro (fun e he=>by obtain ⟨y,_,rfl⟩:=List.mem_map.1 he;rfl) ?_|refine SlK.mk j M.trace.length rfl (by simp [htl2]) (by omega) (by omega) ?_);conv=>whnf)|(apply bD<;>intro _<;>first|omega|conv=>whnf)|(apply bE<;>intro _<;>first|omega|conv=>whnf)|(apply bN<;>intro _<;>conv=>whnf)|(apply bB<;>intro _<;>conv=>whnf))
     rw [hTe];refine LoopK.inv QV (fun i:Nat=>⟨[(9,.p (.ip q.cells)),(10,.p (.ip [.int .i64 M.fin,.int .i64 M.steps,.int .i64 M.reads,QA M.out,.sl (M.trace.map evA)])),(12,.p (.int .i64 j)),(13,.hd 0 0 i),(67,.p (.sl (T.map evA))),(68,.p (.int .i64 (T.map evA).length)),(69,.p (.int .i64 i))],[(0,.own 3 1 (((T.map Prod.fst).take i).map (.int .i64)))]⟩) (fun i=>i<=T.length) (fun i=>T.length-i) 0
      (Le.mk [(0,.own 3 1 [])] (by simp [Chunk.new0];rfl) (by simp) (by simp) (.cons (.refl _) (.cons (.refl _) (.cons (.refl _) (.cons (.nil mem_cons_self) (.cons (.refl _) (.cons (.refl _) (.cons (.refl _) .nil))))))) (.new mem_cons_self .nil)) (Nat.zero_le _) ?_
     intro i hi;have hil:((T.map Prod.fst).take i).length=i:=by rw [List.length_take,length_map];omega
     rcases Nat.lt_or_ge i T.length with hi2|hi2
     ·have hst:(T.map Prod.fst).take (i+1)=(T.map Prod.fst).take i++[T[i].1]:=by
       rw [List.take_succ_eq_append_getElem (by rw [length_map];exact hi2),List.getElem_map]
      generalize (T.map Prod.fst).take i=acc at *
      conv=>whnf
      repeat' (first|((first|(refine iM fun _=>?_)|refine dA ?_|refine And.intro rfl ?_|refine aD ?_|refine aR ?_|refine bP ?_|(refine iA fun _=>?_)|refine IdxK.xs (by omega) ?_|refine QB (by omega) ?_|(refine ByteK.at (by omega) ?_)|refine wI ?_|refine ZU (by simp [hil]) (by simp [hil];omega) ?_);conv=>whnf)|(apply bD<;>intro _<;>first|omega|conv=>whnf)|(apply bE<;>intro _<;>first|omega|conv=>whnf)|(apply bN<;>intro _<;>conv=>whnf)|(apply bB<;>intro _<;>conv=>whnf))
      all_goals first
       | (exfalso;omega)
       | exact ⟨i+1,hi2,by omega,Le.of_eq (by rw [hst];simp only [List.map_append];rfl)⟩
     ·have hall:(T.map Prod.fst).take i=T.map Prod.fst:=List.take_of_length_le (by rw [length_map];exact hi2);have hieq:i=(T.map Prod.fst).length:=by rw [length_map];omega
      rw [hall];generalize T.map Prod.fst=later at *
      generalize z3v q mainS M.trace[j].1=D at *
      have hDm:(D.map (AV.int .i64)).length=D.length:=length_map _;conv=>whnf
      repeat' (first|((first|(refine iM fun _=>?_)|refine dA ?_|refine And.intro rfl ?_|refine aD ?_|refine aR ?_|refine bP ?_|(refine iA fun _=>?_)|refine IdxK.xs (by omega) ?_|refine QB (by omega) ?_|(refine ByteK.at (by omega) ?_)|refine wI ?_|(refine IdxK.at (k:=j) rfl hev rfl ?_)|refine cP hD ?_);conv=>whnf)|(apply bD<;>intro _<;>first|omega|conv=>whnf)|(apply bE<;>intro _<;>first|omega|conv=>whnf)|(apply bN<;>intro _<;>conv=>whnf)|(apply bB<;>intro _<;>conv=>whnf)|(refine And.intro ?_ ?_<;>conv=>whnf))
      all_goals try (exfalso;omega)
      all_goals
       refine LoopK.inv QV (fun k:Nat=>⟨[(13,.hd 0 0 i),(86,.p (QA D)),(87,.p (.int .i64 (D.map (AV.int .i64)).length)),(88,.p (.int .i64 k))],[(0,.own 3 1 (later.map (.int .i64)))]⟩) (fun k=>k<=D.length) (fun k=>D.length-k) 0 (Le.of_eq rfl) (Nat.zero_le _) ?_;intro k hk;rcases Nat.lt_or_ge k D.length with hk2|hk2
       ·have hb:=hfo _ (List.getElem_mem hk2);have hH:=MI later D[k];by_cases hx:D[k] = -1
        ·conv=>whnf
         repeat' (first|((first|(refine iM fun _=>?_)|refine dA ?_|refine And.intro rfl ?_|refine aD ?_|refine aR ?_|refine bP ?_|(refine iA fun _=>?_)|refine IdxK.xs (by omega) ?_|refine QB (by omega) ?_|(refine ByteK.at (by omega) ?_)|refine wI ?_);conv=>whnf)|(apply bD<;>intro _<;>first|omega|conv=>whnf)|(apply bE<;>intro _<;>first|omega|conv=>whnf)|(apply bN<;>intro _<;>conv=>whnf)|(apply bB<;>intro _<;>conv=>whnf))
         all_goals first
          | (exfalso;omega)
          | contradiction
          | exact ⟨k+1,hk2,by omega,Le.of_eq rfl⟩
        ·rw [hb.resolve_left hx] at hH;conv=>whnf
         repeat' (first|((first|(refine iM fun _=>?_)|refine dA ?_|refine And.intro rfl ?_|refine aD ?_|refine aR ?_|refine bP ?_|(refine iA fun _=>?_)|refine IdxK.xs (by omega) ?_|refine QB (by omega) ?_|(refine ByteK.at (by omega) ?_)|refine wI ?_|(refine QI hH (.cons (.hd rfl (by rw [hieq];simp)) (.cons (.p (Sub.refl _)) .nil)) (by rintro _ rfl;rfl) ?_;rintro _ rfl));conv=>whnf)|(apply bD<;>intro _<;>first|omega|conv=>whnf)|(apply bE<;>intro _<;>first|omega|conv=>whnf)|(apply bN<;>intro _<;>conv=>whnf)|(apply bB<;>intro _<;>conv=>whnf))
         all_goals first
          | (exfalso;omega)
          | contradiction
          | exact ⟨k+1,hk2,by omega,Le.of_eq rfl⟩
       ·conv=>whnf
        repeat' (first|((first|(refine iM fun _=>?_)|refine dA ?_|refine And.intro rfl ?_|refine aD ?_|refine aR ?_|refine bP ?_|(refine iA fun _=>?_)|refine IdxK.xs (by omega) ?_|refine QB (by omega) ?_|(refine ByteK.at (by omega) ?_)|refine wI ?_);conv=>whnf)|(apply bD<;>intro _<;>first|omega|conv=>whnf)|(apply bE<;>intro _<;>first|omega|conv=>whnf)|(apply bN<;>intro _<;>conv=>whnf)|(apply bB<;>intro _<;>conv=>whnf))
        all_goals first
         | (exfalso;omega)
         | exact ⟨_,.p (Sub.refl _),rfl⟩
   ·cases hs:x5i p 60;all_goals
     rw [hs] at hC hok;repeat' (first|((first|(refine iM fun _=>?_)|refine cP (VF _) ?_|refine dA ?_|refine And.intro rfl ?_|refine aD ?_|refine aR ?_|refine bP ?_|(refine iA fun _=>?_)|refine IdxK.xs (by omega) ?_|refine QB (by omega) ?_|(refine ByteK.at (by omega) ?_)|refine wI ?_|refine cP ZK ?_|refine cP hC ?_);conv=>whnf)|(apply bD<;>intro _<;>first|omega|conv=>whnf)|(apply bE<;>intro _<;>first|omega|conv=>whnf)|(apply bN<;>intro _<;>conv=>whnf)|(apply bB<;>intro _<;>conv=>whnf))
     all_goals first
      | contradiction
      | exact ⟨_,.p (Sub.refl _),rfl⟩
      | exact absurd ⟨rfl,by omega,by omega,by omega⟩ hok
end Go.Ab
