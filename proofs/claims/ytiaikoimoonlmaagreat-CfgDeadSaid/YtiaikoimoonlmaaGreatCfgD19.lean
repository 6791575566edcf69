/- LAW: what a run does is alive, and what a run that is done has done leads to the exit. -/
import Derived.Test.YtiaikoimoonlmaaGreatCfgD10
import Derived.Test.YtiaikoimoonlmaaGreatCfgD17
import Derived.Test.YtiaikoimoonlmaaGreatCfgD18
set_option linter.unusedSimpArgs false
set_option linter.unusedVariables false
set_option maxRecDepth 100000
set_option maxHeartbeats 16000000
open List (length length_map length_take map_cons mem_cons_self)
open Nat (zero_le)
namespace Go.Ab
open Go.Proofs
def eR (p:Pg) (k:Nat) (g:Pr):Int->Int->Prop:=stR ((QL p k g).real.filter (BT p (endsR p)))
inductive Pos:List Fm->Int->Nat->Int->Prop
 | top {st:List Fm} {f:Fm} {x:Int}:Pos (st++[f]) x f.proc x
 | low {st:List Fm} {f:Fm} {x:Int} {k:Nat} {y:Int} (h:Pos st f.call k y):Pos (st++[f]) x k y
theorem Pos.inv {st:List Fm} {f:Fm} {x:Int} {k:Nat} {y:Int} (h:Pos (st++[f]) x k y):(k=f.proc∧y=x)∨Pos st f.call k y:=by
 generalize hl:st++[f]=l at h;cases h with
 | top =>
   obtain ⟨_,h2⟩:=List.append_inj' hl rfl;cases h2;exact .inl ⟨rfl,rfl⟩
 | low h =>
   obtain ⟨rfl,h2⟩:=List.append_inj' hl rfl;cases h2;exact .inr h
def EvP (p:Pg) (P:Nat->Int->Prop) (e:Int×List Int):Prop := ∃ k g t,p.procs[k]? = some g∧t∈flL g.body∧t.id=e.1∧Rch (eR p k g) 0 e.1∧(Rch (eR p k g) e.1 (-1) ∨ ∃ y,P k y∧Rch (eR p k g) e.1 y)
structure InvM (p:Pg) (M:Mc) (x:Int):Prop where
 pos : ∀ k y,Pos M.stack x k y -> ∃ g,p.procs[k]? = some g∧Rch (eR p k g) 0 y
 ev : ∀ e∈M.trace,EvP p (Pos M.stack x) e
 fr : ∀ f∈M.stack,(f.call=0∧f.proc=mainN p)∨(f.call≠0 ∧ ∃ g it,p.procs[f.proc]? = some g∧(sheetOf p).l[(f.call-1).toNat]? = some it∧g.name=it.s.proc)
def closedE (p:Pg) (e:Int×List Int):Prop := ∃ k g t,p.procs[k]? = some g∧t∈flL g.body∧t.id=e.1∧Rch (eR p k g) 0 e.1∧Rch (eR p k g) e.1 (-1)
def liveE (p:Pg) (e:Int×List Int):Prop := ∃ k g t,p.procs[k]? = some g∧t∈flL g.body∧t.id=e.1∧Rch (eR p k g) 0 e.1
structure InvF (p:Pg) (M:Mc):Prop where
 live : ∀ e∈M.trace,liveE p e
 done:M.fin=1->mainS∈endsR p ∧ ∀ e∈M.trace,closedE p e
def w0x (p:Pg):Cf->Prop
 | .next a M=>InvM p M a
 | .back _ M=>InvM p M (-1)
 | .fin M=>InvF p M
theorem InvM.fin {p:Pg} {M M':Mc} {x:Int} (h:InvM p M x) (ht:M'.trace=M.trace) (hf:M'.fin≠1):InvF p M' :=
 ⟨fun e he=>by
   obtain ⟨k,g,t,h1,h2,h3,h4,_⟩:=h.ev e (ht▸he);exact ⟨k,g,t,h1,h2,h3,h4⟩,fun h=>absurd h hf⟩
theorem q1q {w:List Int} {M:Mc} {id:Int} {v:List Int} {e:Int×List Int} (h:e∈(QG w M id v).trace):e∈M.trace∨e.1=id:=by
 unfold QG at h;cases hw:w.any (fun x=>decide (id=x))<;>rw [hw] at h
 ·exact .inl h
 ·rcases List.mem_append.1 h with h|h
  ·exact .inl h
  ·rw [List.mem_singleton.1 h];exact .inr rfl
section
variable {p:Pg} (hc:XS p=true)
include hc
theorem w0m {k:Nat} {g:Pr} (hk:p.procs[k]? = some g) {it:Item} (hi:it∈itsOf p k g) {b:Int} (hb:b∈VB (sheetOf p) g it) (hcall:it.s.kind=4->it.s.proc∈endsR p):eR p k g it.s.id b:=by
 refine ⟨⟨it.s.id,b,1⟩,List.mem_filter.2 ⟨((q1w hc hk).2 _).2 (z7t hi hb),?_⟩,rfl,rfl⟩;unfold BT;rw [Bool.or_eq_true];refine .inr ?_;show (match z7s p it.s.id with|some s=>_|none=>_)=true;rw [z9q hc hk (BS hi)];show (!(decide (it.s.kind=4) && !((endsR p).any fun x=>it.s.proc==x)))=true;by_cases h4:it.s.kind=4
 ·have h5:((endsR p).any fun x=>it.s.proc==x)=true:=List.any_eq_true.2 ⟨_,hcall h4,by simp⟩;rw [h5];simp
 ·simp [h4]
theorem x4c {k:Nat} {g:Pr} (hk:p.procs[k]? = some g):eR p k g 0 (PI p k g):=by
 refine ⟨⟨0,w3x p k g,1⟩,List.mem_filter.2 ⟨((q1w hc hk).2 _).2 (by unfold QH w3x;exact mem_cons_self),?_⟩,rfl,rfl⟩;unfold BT;simp
theorem w2v {k:Nat} {g:Pr} (hk:p.procs[k]? = some g) (h:Rch (eR p k g) 0 (-1)):g.name∈endsR p:=(z6q hc hk).2 h
omit hc in
theorem InvM.on {M M':Mc} {a b:Int} {st:List Fm} {f:Fm} (h:InvM p M a) (hs:M.stack=st++[f]) (hs':M'.stack=M.stack) {g:Pr} (hk:p.procs[f.proc]? = some g) {it:Item} (hi:it∈itsOf p f.proc g) (hid:it.s.id=a) (hb:eR p f.proc g a b)
  (ht : ∀ e∈M'.trace,e∈M.trace∨e.1=it.s.id):InvM p M' b:=by
 have h0:Rch (eR p f.proc g) 0 a:=by
  obtain ⟨g',h1,h2⟩:=h.pos f.proc a (by rw [hs];exact .top);rw [hk] at h1;cases h1;exact h2
 refine ⟨fun k y hp => ?_,fun e he => ?_,fun f' hf=>h.fr f' (hs'▸hf)⟩
 ·rw [hs',hs] at hp;rcases hp.inv with ⟨rfl,rfl⟩|hp
  ·exact ⟨g,hk,.tail h0 hb⟩
  ·exact h.pos k y (by rw [hs];exact .low hp)
 ·rcases ht e he with he|he
  ·obtain ⟨k,g',t,h1,h2,h3,h4,h5⟩:=h.ev e he;refine ⟨k,g',t,h1,h2,h3,h4,?_⟩;rcases h5 with h5|⟨y,h5,h6⟩
   ·exact .inl h5
   ·rw [hs] at h5;rcases h5.inv with ⟨rfl,rfl⟩|h5
    ·rw [hk] at h1;cases h1;exact .inr ⟨b,by rw [hs',hs];exact .top,.tail h6 hb⟩
    ·exact .inr ⟨y,by rw [hs',hs];exact .low h5,h6⟩
  ·rw [hid] at he;exact ⟨f.proc,g,it.s,hk,BS hi,by rw [he,hid],by rw [he];exact h0,.inr ⟨b,by rw [hs',hs];exact .top,by rw [he];exact .tail .refl hb⟩⟩
theorem InvM.push {M M':Mc} {a:Int} {st:List Fm} {f n:Fm} (h:InvM p M a) (hs:M.stack=st++[f]) (hs':M'.stack=M.stack++[n]) (hn:n.call=a) {g:Pr} (hk:p.procs[f.proc]? = some g) {it:Item} (hi:it∈itsOf p f.proc g) (hid:it.s.id=a) {q:Pr} (hq:p.procs[n.proc]? = some q) (hnm:q.name=it.s.proc)
  (ht : ∀ e∈M'.trace,e∈M.trace∨e.1=it.s.id):InvM p M' (PI p n.proc q):=by
 have h0:Rch (eR p f.proc g) 0 a:=by
  obtain ⟨g',h1,h2⟩:=h.pos f.proc a (by rw [hs];exact .top);rw [hk] at h1;cases h1;exact h2
 have hup : ∀ k y,Pos M.stack a k y->Pos M'.stack (PI p n.proc q) k y:=fun k y hp=>by
  rw [hs'];exact .low (by rw [hn];exact hp)
 refine ⟨fun k y hp => ?_,fun e he => ?_,fun f' hf => ?_⟩
 ·rw [hs'] at hp;rcases hp.inv with ⟨rfl,rfl⟩|hp
  ·exact ⟨q,hq,.tail .refl (x4c hc hq)⟩
  ·rw [hn] at hp;exact h.pos k y hp
 ·rcases ht e he with he|he
  ·obtain ⟨k,g',t,h1,h2,h3,h4,h5⟩:=h.ev e he;exact ⟨k,g',t,h1,h2,h3,h4,h5.imp id fun ⟨y,h6,h7⟩=>⟨y,hup _ _ h6,h7⟩⟩
  ·rw [hid] at he;exact ⟨f.proc,g,it.s,hk,BS hi,by rw [he,hid],by rw [he];exact h0,.inr ⟨a,hup _ _ (by rw [hs];exact .top),by rw [he];exact .refl⟩⟩
 ·rw [hs'] at hf;rcases List.mem_append.1 hf with hf|hf
  ·exact h.fr f' hf
  ·rw [List.mem_singleton.1 hf];have:=VT (QY hc).1 hk (BS hi);refine .inr ⟨by omega,q,it,hq,?_,hnm⟩;rw [hn,<- hid];exact x7l hc hk hi
theorem x8t:w0x p (UZ p):=by
 obtain ⟨h1,h2,h3⟩:=x0u hc;have hs:(YX p (mainN p) (prA p (mainN p)) [] 0 (M00 p)).stack=[]++[⟨mainN p,varsS p (prA p (mainN p)),List.range p.globals.length++[]++List.range' (M00 p).mem.length (prA p (mainN p)).vars.length,0⟩]:=rfl;refine InvM.mk (fun k y hp => ?_) (fun e he=>(by cases he)) (fun f hf => ?_)
 ·rw [hs] at hp;rcases hp.inv with ⟨rfl,rfl⟩|hp
  ·exact ⟨_,h2,.tail .refl (x4c hc h2)⟩
  ·generalize hl:([]:List Fm)=l at hp;cases hp<;>simp at hl
 ·rw [hs] at hf;rw [List.mem_singleton.1 hf];exact .inl ⟨rfl,rfl⟩
theorem z3z:(prA p (mainN p)).name=mainS:=by
 obtain ⟨h1,h2,_⟩:=x0u hc;obtain ⟨k,f,h3,_,h5,_⟩:=x3t hc;obtain ⟨k',hk',h6,_,_,h7⟩:=LC (p:=p) (n:=mainS) (List.mem_map.2 ⟨f,List.mem_of_getElem? h3,h5⟩);have e:mainN p=k':=by unfold mainN;rw [h6];rfl
 rw [e,q3y (List.getElem?_eq_getElem hk')];exact h7
omit hc in
theorem w3f (tape watch:List Int) {M:Mc} {f:Fm} {g:Pr} {it:Item} {r:Int×Mc} (hr:r=doM p tape watch M f g it) (h0:M.fin=0):(∀ e∈r.2.trace,e∈M.trace∨e.1=it.s.id)∧(r.2.fin≠0->r.2.trace=M.trace∧r.2.fin≠1):=by
 subst hr;have key : ∀ (M1 M2:Mc) (v:List Int),M1.trace=M.trace->M1.fin=0->M2.trace=(QG watch M1 it.s.id v).trace->M2.fin=(QG watch M1 it.s.id v).fin->(∀ e∈M2.trace,e∈M.trace∨e.1=it.s.id)∧(M2.fin≠0->M2.trace=M.trace∧M2.fin≠1):=fun M1 M2 v h1 h2 h3 h4=>by
  refine ⟨fun e he => ?_,fun h => ?_⟩
  ·rw [h3] at he;rcases q1q he with h|h
   ·exact .inl (h1▸h)
   ·exact .inr h
  ·rw [h4,(VM watch M1 it.s.id v).2.2.1,h2] at h;exact absurd rfl h
 have bad : ∀ c:Int,c≠1->(∀ e∈(endM M c).trace,e∈M.trace∨e.1=it.s.id)∧((endM M c).fin≠0->(endM M c).trace=M.trace∧(endM M c).fin≠1):=fun c hc=>⟨fun e he => .inl he,fun _=>⟨rfl,hc⟩⟩;unfold doM;split
 ·exact key M _ [] rfl h0 rfl rfl
 split
 ·exact key M _ [] rfl h0 rfl rfl
 split
 ·exact key M _ [] rfl h0 rfl rfl
 split
 ·split
  ·exact bad 3 (by decide)
  ·exact key (setM { M with reads:=M.reads+1 } (varM f it.s.name) (tape.getD M.reads.toNat 0)) _ [tape.getD M.reads.toNat 0] rfl h0 rfl rfl
 cases (QS M f it.s.x).2 with
 | false=>exact bad 4 (by decide)
 | true =>
   rw [cond_true];generalize (QS M f it.s.x).1=n;split
   ·exact key M _ [n] rfl h0 rfl rfl
   split
   ·exact key M _ [n] rfl h0 rfl rfl
   split
   ·exact key M _ [n] rfl h0 rfl rfl
   split
   ·exact key M _ [n] rfl h0 rfl rfl
   ·exact key M _ [n] rfl h0 rfl rfl
theorem z6k {M:Mc} {b:Int} (hG:Good p M b) (h:InvM p M (-1)) (gave:Int):w0x p (JB p gave M):=by
 obtain ⟨st,hs⟩:=hG.top;have hst:M.stack.dropLast=st:=by rw [hs,List.dropLast_concat]
 have hch:=hG.ch;rw [hs] at hch;have hfr:=h.fr (XR M) (by rw [hs];simp);obtain ⟨q',hq',hend⟩:=h.pos _ _ (by rw [hs];exact .top);have hen:=w2v hc hq' hend;generalize hF:XR M=F at *
 unfold JB;rw [hst,hF];generalize hL:st++[F]=L at hch;cases hch with
 | one h0 =>
   rename_i f;obtain ⟨rfl,h2⟩:=List.append_inj' (show st++[F]=[]++[f] from hL) rfl;have h2:F=f:=by simpa using h2
   subst h2;rw [if_pos h0];refine InvF.mk (fun e he => ?_) fun _=>⟨?_,fun e he => ?_⟩
   ·obtain ⟨k,g,t,u1,u2,u3,u4,_⟩:=h.ev e he;exact ⟨k,g,t,u1,u2,u3,u4⟩
   ·rcases hfr with ⟨_,hm⟩|⟨hne,_⟩
    ·rw [hm,(x0u hc).2.1] at hq';cases hq';rw [z3z hc] at hen;exact hen
    ·exact absurd h0 hne
   ·obtain ⟨k,g,t,u1,u2,u3,u4,u5⟩:=h.ev e he;refine ⟨k,g,t,u1,u2,u3,u4,?_⟩;rcases u5 with u5|⟨y,u5,u6⟩
    ·exact u5
    ·rw [hs] at u5;rcases u5.inv with ⟨_,rfl⟩|u5
     ·exact u6
     ·generalize hl:([]:List Fm)=l at u5;cases u5<;>simp at hl
 | push hl h1 hle hit hk hp hi hid =>
   rename_i l g f q it;obtain ⟨rfl,h2⟩:=List.append_inj' hL rfl;have h2:F=f:=by simpa using h2
   subst h2;rw [if_neg (by omega),hit];have hpr:it.s.proc∈endsR p:=by
    rcases hfr with ⟨h0,_⟩|⟨_,g',it',v1,v2,v3⟩
    ·omega
    ·rw [hit] at v2;cases v2;rw [hq'] at v1;cases v1;rw [<- v3];exact hen
   have hstep:eR p g.proc q F.call it.next:=by
    rw [<- hid];refine w0m hc hp hi ?_ fun _=>hpr;unfold VB;rw [if_neg (by omega),if_neg (by omega),if_neg (by omega),if_neg (by omega),if_neg (by omega),if_neg (by omega)];exact mem_cons_self
   have key : ∀ M':Mc,M'.stack=l++[g]->M'.trace=M.trace->InvM p M' it.next:=fun M' e1 e2=>by
    refine ⟨fun k y hP => ?_,fun e he => ?_,fun f' hf=>h.fr f' (by rw [hs];rw [e1] at hf;exact List.mem_append_left _ hf)⟩
    ·rw [e1] at hP;rcases hP.inv with ⟨rfl,rfl⟩|hP
     ·obtain ⟨q2,w1,w2⟩:=h.pos g.proc F.call (by rw [hs];exact .low .top);rw [hp] at w1;cases w1;exact ⟨q,hp,.tail w2 hstep⟩
     ·exact h.pos k y (by rw [hs];exact .low (.low hP))
    ·rw [e2] at he;obtain ⟨k,g',t,u1,u2,u3,u4,u5⟩:=h.ev e he;refine ⟨k,g',t,u1,u2,u3,u4,?_⟩;rcases u5 with u5|⟨y,u5,u6⟩
     ·exact .inl u5
     ·rw [hs] at u5;rcases u5.inv with ⟨_,rfl⟩|u5
      ·exact .inl u6
      ·rcases u5.inv with ⟨rfl,rfl⟩|u5
       ·rw [hp] at u1;cases u1;exact .inr ⟨it.next,by rw [e1];exact .top,.tail u6 hstep⟩
       ·exact .inr ⟨y,by rw [e1];exact .low u5,u6⟩
   show InvM p (if it.s.name=[] then _ else _) it.next;split
   ·exact key _ rfl rfl
   ·exact key _ rfl rfl
omit hc in
theorem w1l (watch:List Int) {M:Mc} {f:Fm} {t:S} {r:Int×Mc} (hr:r=q9z watch M f t) (h0:M.fin=0):(∀ e∈r.2.trace,e∈M.trace∨e.1=t.id)∧(r.2.fin≠0->r.2.trace=M.trace∧r.2.fin≠1):=by
 subst hr;have key : ∀ v,(∀ e∈(QG watch M t.id v).trace,e∈M.trace∨e.1=t.id)∧((QG watch M t.id v).fin≠0->(QG watch M t.id v).trace=M.trace∧(QG watch M t.id v).fin≠1):=fun v=>⟨fun e he=>q1q he,fun h=>by
  rw [(VM watch M t.id v).2.2.1,h0] at h;exact absurd rfl h⟩
 unfold q9z;cases t.has with
 | false=>exact key []
 | true =>
   rw [cond_true];cases (QS M f t.x).2 with
   | false=>exact ⟨fun e he => .inl he,fun _=>⟨rfl,by show (4:Int)≠1;decide⟩⟩
   | true=>exact key _
theorem z3o (watch:List Int) {M:Mc} {b:Int} (hG:Good p M b) {g:Pr} (hk:p.procs[(XR M).proc]? = some g) {it:Item} (hi:it∈itsOf p (XR M).proc g) (h4:it.s.kind=4) (h:InvM p M it.s.id):w0x p (z3g (YP p watch M (XR M) it.s (PZ p it.s) (prA p (PZ p it.s)))):=by
 have ht:=BS hi;obtain ⟨k0,k1,k2⟩:=z2x hc hk ht h4;obtain ⟨st,hst⟩:=hG.top;have hnm:(prA p (PZ p it.s)).name=it.s.proc:=by
  obtain ⟨k',_,u2,_,u4,_⟩:=x4m hc (List.mem_flatMap.2 ⟨g,List.mem_of_getElem? hk,ht⟩) h4;have e:PZ p it.s=k':=by
   unfold PZ;show (caI p it.s).toNat=k';rw [u2];rfl
  rw [e];exact u4
 obtain ⟨a1,a2,a3,a4,a5,a6,a7,a8⟩:=q6r (f:=XR M) it.s.args [] M (fun a ha hr=>(q5j hc hG hk ht (z9m ha hr)).2) (fun v hv=>by cases hv);unfold YP;generalize argsM (XR M) it.s.args [] M=ar at *
 obtain ⟨ps,M1,ok⟩:=ar;simp only at a1 a2 a3 a4 a5 a6 a7 a8 ⊢;unfold z3g;cases ok with
 | false =>
   have h8:M1.fin=4:=a8 rfl;rw [cond_false,if_neg (by show ¬M1.fin=0;omega)];exact h.fin a6 (by show M1.fin≠1;omega)
 | true =>
   obtain ⟨b1,_,_⟩:=a7 rfl;rw [cond_true];split
   ·exact h.fin (M':=endM M1 5) a6 (by show (5:Int)≠1;decide)
   ·have e1:=VM watch M1 it.s.id [];have h0:(YX p (PZ p it.s) (prA p (PZ p it.s)) ps it.s.id (QG watch M1 it.s.id [])).fin=0:=by
     show (QG watch M1 it.s.id []).fin=0;rw [e1.2.2.1,b1];exact hG.fin
    rw [if_pos h0];refine InvM.push hc (n:=⟨PZ p it.s,varsS p (prA p (PZ p it.s)),List.range p.globals.length++ps++List.range' (QG watch M1 it.s.id []).mem.length (prA p (PZ p it.s)).vars.length,it.s.id⟩) h hst ?_ rfl hk hi rfl k1 hnm ?_
    ·show (QG watch M1 it.s.id []).stack++_=M.stack++_;rw [e1.1,a1]
    ·intro e he;have he:e∈(QG watch M1 it.s.id []).trace:=he;rcases q1q he with h5|h5
     ·exact .inl (a6▸h5)
     ·exact .inr h5
theorem w1f (tape watch:List Int) {fuel:Int} {c:Cf} (hG:PE p fuel c) (h:w0x p c):w0x p (goC p tape watch fuel c):=by
 cases c with
 | fin M=>exact h
 | back g M=>exact z6k hc hG.1 h g
 | next a M =>
   obtain ⟨hGd,h0,h1,hat⟩:=hG;have h:InvM p M a:=h;simp only [goC];by_cases ha:a = -1
   ·rw [if_pos ha];show InvM p M (-1);rw [<- ha];exact h
   rw [if_neg ha];by_cases hf:M.steps=fuel
   ·rw [if_pos hf];exact h.fin (M':=endM M 2) rfl (by show (2:Int)≠1;decide)
   rw [if_neg hf];rcases hat with h2|⟨g,it,hg,_,hit,hi,hid⟩
   ·exact absurd h2 ha
   rw [hit];simp only;have hG1:Good p (VK M) M.steps:=hGd.same rfl (Nat.le_refl _) hGd.fin hGd.r0 hGd.rd hGd.tr hGd.ou;have hk1:p.procs[(XR (VK M)).proc]? = some g:=hg;have hi1:it∈itsOf p (XR (VK M)).proc g:=hi;have hI1:InvM p (VK M) it.s.id:=by
    rw [hid];exact ⟨h.pos,h.ev,h.fr⟩
   obtain ⟨st,hst⟩:=hG1.top;unfold stI;by_cases h4:it.s.kind=4
   ·rw [if_pos h4];exact z3o hc watch hG1 hk1 hi1 h4 hI1
   rw [if_neg h4];by_cases h9:it.s.kind=9
   ·rw [if_pos h9];obtain ⟨u1,u2⟩:=z7q watch hG1 it.s rfl;obtain ⟨v1,v2⟩:=w1l watch (M:=VK M) (f:=XR (VK M)) (t:=it.s) rfl hGd.fin;generalize q9z watch (VK M) (XR (VK M)) it.s=r at *
    unfold x4v;by_cases hz:r.2.fin=0
    ·rw [if_pos hz];refine hI1.on hst (u2 hz).2 hk1 hi1 rfl (w0m hc hk1 hi1 ?_ fun h=>absurd h h4) v1;unfold VB;rw [if_neg (by omega),if_neg (by omega),if_neg (by omega),if_neg (by omega),if_pos h9];exact mem_cons_self
    ·rw [if_neg hz];exact hI1.fin (v2 hz).1 (v2 hz).2
   rw [if_neg h9,q3y hk1];obtain ⟨u1,u2⟩:=w0a hc tape watch hG1 hk1 hi1 h4 h9 rfl;obtain ⟨v1,v2⟩:=w3f (M:=VK M) (f:=XR (VK M)) (g:=g) (it:=it) tape watch rfl hGd.fin;have hgo:=z1t (p:=p) tape watch (M:=VK M) (f:=XR (VK M)) (g:=g) h4 h9 rfl;generalize doM p tape watch (VK M) (XR (VK M)) g it=r at *
   unfold z3g;by_cases hz:r.2.fin=0
   ·rw [if_pos hz];exact hI1.on hst (u2 hz).2.2 hk1 hi1 rfl (w0m hc hk1 hi1 (hgo hz) fun h=>absurd h h4) v1
   ·rw [if_neg hz];exact hI1.fin (v2 hz).1 (v2 hz).2
theorem w0n (tape watch:List Int) {fuel:Int} (h0:0<=fuel) (n:Nat):PE p fuel (KM p tape watch fuel n (UZ p))∧w0x p (KM p tape watch fuel n (UZ p)):=by
 induction n with
 | zero=>exact ⟨x5w hc h0,x8t hc⟩
 | succ n ih =>
   rw [VD];refine ⟨?_,w1f hc tape watch ih.1 ih.2⟩;generalize KM p tape watch fuel n (UZ p)=c at *
   cases c with
   | fin M=>exact trivial
   | next a M=>exact (q6g hc tape watch ih.1 (fun _ h=>by cases h)).1
   | back g M=>exact (q6g hc tape watch ih.1 (fun _ h=>by cases h)).1
end
section
variable {F:List (List Str)->List (List Str)} {n:Nat} {L O:List (List Str)}
end
section
variable {p:Pg}
end
section
variable {p:Pg} {j:Nat} {f:Pr}
theorem z6l (h:XS p=true) (hj:p.procs[j]? = some f) {y:Int} (h0:0<y):q8b (FL p f.name) y=true↔Rch (wR p j f) 0 y:=by
 obtain ⟨k,hk,hw⟩:=x4k h (List.mem_of_getElem? hj);obtain ⟨rfl,_⟩:=LP h hk hj rfl;rw [z5o,(z5x p f.name).2,x4w hw];exact ⟨fun h=>h.2,fun h=>⟨h0,h⟩⟩
end
theorem z0j {p:Pg} (hc:XS p=true) {k:Nat} {g:Pr} (hk:p.procs[k]? = some g) {t:S} (ht:t∈flL g.body):(YL p t.id).2.1=g.name:=by
 have hm:=(QY hc).1;have hb:=VT hm hk ht;have hle:=((QV p).2.2.2.2 _ _ hk).2.2.1;have hll:=(QV p).2.2.2.1;obtain ⟨_,_,_,_,_,_,_,ho,_⟩:=x9s hc (id:=t.id) (by omega) (by omega);unfold YL at ho ⊢;cases hr:q7n p t.id with
 | none=>rw [hr] at ho;cases ho
 | some y =>
   simp only;unfold q7n at hr;obtain ⟨f,hf,h3⟩:=List.exists_of_findSome?_eq_some hr;unfold x2e at h3;rw [Option.map_eq_some_iff] at h3;obtain ⟨x,h4,rfl⟩:=h3;obtain ⟨k',hk',rfl⟩:=List.mem_iff_getElem.1 hf;rw [BX hm (List.getElem_mem hk')] at h4;have h5:x.s.id=t.id:=by simpa using List.find?_some h4
   have h6:=w2j (List.mem_of_find?_eq_some h4);obtain ⟨i1,u1,u2⟩:=x6v (p:=p) (j:=k) ht;obtain ⟨i2,v1,v2⟩:=x6v (p:=p) (j:=k') h6;have e1:=x7l hc hk u1;have e2:=x7l hc (List.getElem?_eq_getElem hk') v1;rw [u2] at e1;rw [v2,h5,e1] at e2;have e3:i1=i2:=Option.some.inj e2;have p1:=YF _ _ _ _ _ _ i1 u1;have p2:=YF _ _ _ _ _ _ i2 v1;rw [<- e3,p1] at p2;have e4:k=k':=by exact_mod_cast p2
   subst e4;rw [List.getElem?_eq_getElem hk'] at hk;cases hk;rfl
theorem w6g {p:Pg} {k:Nat} {g:Pr} {a b:Int} (h:Rch (eR p k g) a b):Rch (wR p k g) a b:=h.mono fun _ _ ⟨s,hs,h1,h2⟩=>⟨s,(List.mem_filter.1 hs).1,h1,h2⟩
theorem z9y {p:Pg} (hc:XS p=true) {e:Int×List Int} (h:liveE p e):q8b (FL p (YL p e.1).2.1) e.1=true:=by
 obtain ⟨k,g,t,h1,h2,h3,h4⟩:=h;rw [<- h3] at h4 ⊢;have:=VT (QY hc).1 h1 h2;rw [z0j hc h1 h2];exact (z6l hc h1 (by omega)).2 (w6g h4)
theorem w1o {p:Pg} (hf:Fit p) (hc:XS p=true):CopyF p:=by
 obtain ⟨h1,h2,h3⟩:=z8h hf hc;have hcn:=(VY hc).2.2;refine ⟨h1,h2,fun f hf' => ?_⟩;obtain ⟨a1,a2,a3,_,a5⟩:=h3 f hf';have a4:=LY _ _ hf';obtain ⟨j,hj,hje⟩:=List.mem_iff_getElem.1 hf';have hj':p.procs[j]? = some f:=by rw [List.getElem?_eq_getElem hj,hje]
 exact ⟨a1,a2,a3,by omega,fun t ht=>⟨a5 t ht,by have:=(VT (QY hc).1 hj' ht).1;omega⟩⟩
def x5:X := .mk 1 5 [] []
def rpX (P:Int->Bool) (id:Int) (x:X):X:=bif P id && !(x.op==0) then x5 else x
mutual
def rpS (P:Int->Bool):S->S
 | .mk id kind labels name proc x has args thn els => .mk id kind labels name proc (rpX P id x) has args (rpL P thn) (rpL P els)
def rpL (P:Int->Bool):List S->List S
 | []=>[]
 | t::r=>rpS P t::rpL P r
end
def UJ (P:Int->Bool) (f:Pr):Pr:=⟨f.name,f.params,f.vars,rpL P f.body,f.fin⟩
def UA (P:Int->Bool) (p:Pg):Pg:=⟨p.globals,p.procs.map (UJ P)⟩
def rpI (P:Int->Bool) (i:Item):Item:={ i with s:=rpS P i.s }
variable {P:Int->Bool}
theorem HC (P:Int->Bool) (s:S):rpS P s = .mk s.id s.kind s.labels s.name s.proc (rpX P s.id s.x) s.has s.args (rpL P s.thn) (rpL P s.els):=by
 cases s;rw [rpS];rfl
theorem x2i (P:Int->Bool) : ∀ l:List S,rpL P l=l.map (rpS P)
 | []=>by rw [rpL];rfl
 | t::r=>by rw [rpL,x2i P r];rfl
theorem x2h (s:S):(rpS P s).id=s.id:=by rw [HC];rfl
theorem VR (s:S):(rpS P s).kind=s.kind:=by rw [HC];rfl
theorem DC (s:S):(rpS P s).labels=s.labels:=by rw [HC];rfl
theorem DX (s:S):(rpS P s).name=s.name:=by rw [HC];rfl
theorem FZ (s:S):(rpS P s).proc=s.proc:=by rw [HC];rfl
theorem z8z (s:S):(rpS P s).has=s.has:=by rw [HC];rfl
theorem PA (s:S):(rpS P s).args=s.args:=by rw [HC];rfl
theorem x9o (s:S):(rpS P s).thn=rpL P s.thn:=by rw [HC];rfl
theorem z1u (s:S):(rpS P s).els=rpL P s.els:=by rw [HC];rfl
theorem w2e (s:S):(rpS P s).x=rpX P s.id s.x:=by rw [HC];rfl
mutual
theorem z2a : ∀ s:S,ZM (rpS P s)=ZM s
 | .mk id kind labels name proc x has args thn els=>by rw [rpS,ZM,ZM,DJ thn,DJ els]
theorem DJ : ∀ l:List S,cntL (rpL P l)=cntL l
 | []=>by rw [rpL]
 | t::r=>by rw [rpL,cntL,cntL,z2a t,DJ r]
end
mutual
theorem w1j : ∀ s:S,flS (rpS P s)=(flS s).map (rpS P)
 | .mk id kind labels name proc x has args thn els=>by
   rw [rpS,flS,flS,map_cons,List.map_append,HR thn,HR els,rpS]
theorem HR : ∀ l:List S,flL (rpL P l)=(flL l).map (rpS P)
 | []=>by rw [rpL,flL];rfl
 | t::r=>by rw [rpL,flL,flL,List.map_append,w1j t,HR r]
end
mutual
theorem w1r (pr up:Int) : ∀ (s:S) (nx lp:Int) (n:Nat) (up:Int),itS pr up nx lp n (rpS P s)=(itS pr up nx lp n s).map (rpI P)
 | .mk id kind labels name proc x has args thn els,nx,lp,n,up=>by
   rw [rpS,itS,itS,DJ,q9a pr up thn,q9a pr up els,map_cons,List.map_append];unfold rpI;rw [rpS]
theorem q9a (pr up:Int) : ∀ (l:List S) (nx lp:Int) (n:Nat) (up:Int),itL pr up nx lp n (rpL P l)=(itL pr up nx lp n l).map (rpI P)
 | [],nx,lp,n,up=>by rw [rpL,itL];rfl
 | t::r,nx,lp,n,up=>by
   have e:(rpL P r).isEmpty=r.isEmpty:=by cases r<;>rw [rpL]<;>rfl
   rw [rpL,itL,itL,z2a,w1r pr up t,q9a pr up r,List.map_append,e]
end
theorem z9l (pr up nx lp:Int) (l:List S) (acc:List Item):XZ pr up nx lp (acc.map (rpI P)) (rpL P l)=(XZ pr up nx lp acc l).map (rpI P):=by
 rw [KW,KW,List.map_append,q9a pr up,length_map]
theorem z1e : ∀ (l:List Pr) (i:Nat) (acc:List Item) (lo hi:List Int),(NI i (acc.map (rpI P)) lo hi (l.map (UJ P))).1=(NI i acc lo hi l).1.map (rpI P)
 | [],i,acc,lo,hi=>rfl
 | f::r,i,acc,lo,hi=>by
   rw [map_cons,NI,NI,show (UJ P f).body=rpL P f.body from rfl,z9l,z1e r,length_map,length_map]
theorem q6a (p:Pg):(sheetOf (UA P p)).l=(sheetOf p).l.map (rpI P):=z1e p.procs 0 [] [] []
theorem x1h : ∀ (l:List Pr) (i:Nat),QR (l.map (UJ P)) i=QR l i
 | [],0=>rfl
 | [],_+1=>rfl
 | f::r,0=>rfl
 | f::r,i+1=>by
   rw [map_cons,QR,QR,x1h r,show (UJ P f).body=rpL P f.body from rfl,DJ]
theorem w1y (p:Pg) (k:Nat) (f:Pr):itsOf (UA P p) k (UJ P f)=(itsOf p k f).map (rpI P):=by
 unfold itsOf;rw [show (UA P p).procs=p.procs.map (UJ P) from rfl,x1h];exact q9a k 0 f.body (-1) 0 _ 0
theorem x2p (l:List S) (o:Int):HN (rpL P l) o=HN l o:=by
 cases l with
 | nil=>rw [rpL]
 | cons t r=>rw [rpL];exact x2h t
theorem w0o (f:Pr) (n:Str):atB (UJ P f) n=atB f n:=by
 unfold atB;rw [show (UJ P f).body=rpL P f.body from rfl,HR,List.find?_map];have e:((fun t:S=>t.labels.any fun s=>n==s)∘rpS P)=fun t:S=>t.labels.any fun s=>n==s:=by
  funext t;show ((rpS P t).labels.any fun s=>n==s)=_;rw [DC]
 rw [e];cases (flL f.body).find? fun t=>t.labels.any fun s=>n==s with
 | none=>rfl
 | some t=>show ((rpS P t).id,true)=_;rw [x2h]
theorem z9d (f:Pr):z0h (UJ P f)=z0h f:=by
 unfold z0h;rw [show (UJ P f).body=rpL P f.body from rfl,HR,List.flatMap_map,show (fun t=>(rpS P t).labels)=S.labels from funext DC];rfl
theorem q7b (p:Pg) (q:Pr->Bool) (hq : ∀ f,q (UJ P f)=q f):(UA P p).procs.find? q=(p.procs.find? q).map (UJ P):=by
 show (p.procs.map (UJ P)).find? q=_;rw [List.find?_map,show (q∘UJ P)=q from funext hq]
theorem q2k (p:Pg):procsN (UA P p)=procsN p:=by
 unfold procsN;show (p.procs.map (UJ P)).map Pr.name=_;rw [List.map_map];rfl
theorem LK (p:Pg):WA (UA P p)=(WA p).map (rpS P):=by
 unfold WA;show (p.procs.map (UJ P)).flatMap _=_;rw [List.flatMap_map,List.map_flatMap,show (fun f:Pr=>flL (UJ P f).body)=fun f=>(flL f.body).map (rpS P) from funext fun f=>HR f.body]
theorem w2r:x8n x5=true:=by
 unfold x8n ZF x5;rfl
theorem w1s:WQ x5=[]:=by
 unfold WQ;rw [w2r];rfl
theorem z1k (P:Int->Bool) (id:Int) (x:X) : ∀ v∈WQ (rpX P id x),v∈WQ x:=by
 unfold rpX;cases P id && !(x.op==0) with
 | false=>exact fun v h=>h
 | true =>
   intro v h;rw [cond_true,w1s] at h;cases h
theorem q9n (t:S) : ∀ v∈XA (rpS P t),v∈XA t:=by
 intro v h;unfold XA KT at h ⊢;rw [PA,DX,VR,w2e] at h;rcases List.mem_append.1 h with h|h
 ·rcases List.mem_append.1 h with h|h
  ·exact List.mem_append_left _ (List.mem_append_left _ h)
  ·exact List.mem_append_left _ (List.mem_append_right _ (z1k _ _ _ v h))
 ·exact List.mem_append_right _ h
theorem z4l {id:Int} {x:X} {b:Bool} (h:JZ x b=true):JZ (rpX P id x) b=true:=by
 unfold rpX;cases hq:P id && !(x.op==0) with
 | false=>exact h
 | true =>
   rw [cond_true];unfold JZ at h ⊢;cases b with
   | true=>exact w2r
   | false =>
     rw [cond_false] at h;unfold noneB at h;simp only [Bool.and_eq_true,decide_eq_true_eq] at h;simp [h.1.1.1] at hq
theorem x9z {s:S} (h:ZX s=true):ZX (rpS P s)=true:=by
 cases hf:DN s.kind s.has (s.name==[]) with
 | none=>unfold ZX at h;rw [hf] at h;cases h
 | some f =>
   rw [NX hf] at h;rw [NX (f:=f) (by rw [VR,z8z,DX];exact hf)];rw [x9o,z1u,VR,PA,DX,FZ,w2e,show (rpL P s.thn).length=s.thn.length by rw [x2i,length_map],show (rpL P s.els).length=s.els.length by rw [x2i,length_map]];simp only [Bool.and_eq_true] at h ⊢;exact ⟨⟨⟨h.1.1.1,h.1.1.2⟩,z4l h.1.2⟩,h.2⟩
mutual
theorem w0h : ∀ (s:S) {nest seen m:Int},q5g nest seen s=some m->q5g nest seen (rpS P s)=some m
 | .mk id kind labels name proc x has args thn els,nest,seen,m,h=>by
   obtain ⟨h1,h2,m1,h3,h4⟩:=HJ h;have h3:VH (nest+1) (seen+1) thn=some m1:=h3;have h4:VH (nest+1) m1 els=some m:=h4;have q1:=q5e thn h3;have q2:=q5e els h4;have hfl:ZX (.mk id kind labels name proc x has args thn els)=true:=by
    unfold oneOk at h1;exact (Bool.and_eq_true_iff.1 h1).1
   have hs : ¬seen+1>200:=fun hs=>by
    rw [q6x,if_pos hs] at h;cases h
   rw [q6x,if_neg hs,x2h,if_neg (by omega),DC,(x0b h1).labels,x9z hfl,x9o,z1u];show (bif true then bif true then (match VH (nest+1) (seen+1) (rpL P thn) with|some m=>VH (nest+1) m (rpL P els)|none=>none) else none else none)=_;rw [q1];exact q2
theorem q5e : ∀ (l:List S) {nest seen m:Int},VH nest seen l=some m->VH nest seen (rpL P l)=some m
 | [],nest,seen,m,h=>by rw [rpL];exact h
 | s::r,nest,seen,m,h=>by
   obtain ⟨h1,m1,h2,h3⟩:=JJ h;have q1:=w0h s h2;have q2:=q5e r h3;rw [rpL,VH,if_neg (by omega),q1];exact q2
end
theorem q8y : ∀ (l:List Pr) (seen:Int),(XJ seen l).isSome=true->(XJ seen (l.map (UJ P))).isSome=true
 | [],seen,h=>h
 | f::r,seen,h=>by
   rw [map_cons,XJ];rw [XJ] at h;rw [show JT (UJ P f)=JT f from rfl,show (UJ P f).body=rpL P f.body from rfl];cases hm:JT f with
   | false=>rw [hm] at h;cases h
   | true =>
     rw [hm,cond_true] at h;rw [cond_true];cases hr:VH 1 seen f.body with
     | none=>rw [hr] at h;cases h
     | some m =>
       rw [hr] at h;rw [q5e _ hr];exact q8y r m h
theorem z5w (p:Pg) (n z:Str):z∈WI (UA P p) n↔z∈WI p n:=by
 unfold WI;rw [q7b p _ fun f=>rfl];cases p.procs.find? fun f=>f.name==n with
 | none=>exact Iff.rfl
 | some f =>
   simp only [Option.map_some,x7t,show (UJ P f).body=rpL P f.body from rfl,HR,List.mem_map];constructor
   ·rintro ⟨_,⟨t,h1,rfl⟩,h2,h3⟩;exact ⟨t,h1,by rw [<- h2,VR],by rw [<- h3,FZ]⟩
   ·rintro ⟨t,h1,h2,h3⟩;exact ⟨_,⟨t,h1,rfl⟩,by rw [VR,h2],by rw [FZ,h3]⟩
theorem z3t (p:Pg) (n v:Str) (h:v∈q1d (UA P p) n):v∈q1d p n:=by
 unfold q1d at h ⊢;rw [q7b p _ fun f=>rfl] at h;cases hf:p.procs.find? fun f=>f.name==n with
 | none=>rw [hf] at h;cases h
 | some f =>
   rw [hf] at h;simp only [Option.map_some,show (UJ P f).body=rpL P f.body from rfl,HR,List.mem_flatMap,List.mem_map] at h ⊢;obtain ⟨_,⟨t,h1,rfl⟩,h2⟩:=h;refine ⟨t,h1,?_⟩;unfold x5a at h2 ⊢;rw [List.mem_filter] at h2 ⊢;exact ⟨q9n t v h2.1,h2.2⟩
theorem GV {nm:Str} {T T':List Str} (hT : ∀ v∈T',v∈T) : ∀ (l:List Arg) (seen:List Str),XL nm T l seen=true->XL nm T' l seen=true
 | [],seen,h=>rfl
 | a::r,seen,h=>by
   rw [XL] at h ⊢;cases ha:a.ref with
   | false =>
     rw [ha,cond_false] at h;rw [cond_false];exact GV hT r seen h
   | true =>
     rw [ha,cond_true] at h;rw [cond_true];cases h1:((seen.any fun s=>a.name==s)||((a.name==nm)||T.any fun s=>a.name==s)) with
     | true=>rw [h1] at h;cases h
     | false =>
       rw [h1,cond_false] at h;rw [Bool.or_eq_false_iff,Bool.or_eq_false_iff] at h1;have h2:(T'.any fun s=>a.name==s)=false:=by
        cases hc:T'.any fun s=>a.name==s with
        | false=>rfl
        | true =>
          have:=z1v.2 (hT _ (z1v.1 hc));rw [h1.2.2] at this;cases this
       rw [h1.1,h1.2.1,h2];exact GV hT r _ h
theorem x9r {p:Pg} (h:XS p=true):XS (UA P p)=true:=by
 obtain ⟨hm,hs,ha,hjm,hal⟩:=QY h;have hM:JA (UA P p)=true:=by
  unfold JA at hm ⊢;simp only [Bool.and_eq_true] at hm ⊢;refine ⟨⟨⟨hm.1.1.1,?_⟩,hm.1.2⟩,q8y _ _ hm.2⟩;show decide ((p.procs.map (UJ P)).length<=16)=true;rw [length_map];exact hm.1.1.2
 obtain ⟨hb,hS⟩:=(q9y hm).1 hs;have hmb:XM (UA P p)=false:=by
  unfold XM at hb ⊢;rw [q2k,q7b p _ fun f=>rfl,show (UA P p).globals=p.globals from rfl];cases hf:p.procs.find? fun f=>mainS==f.name with
  | none=>rw [hf] at hb;exact hb
  | some f=>rw [hf] at hb;exact hb
 have hsc:(QM (UA P p)).1=0:=(q9y hM).2 ⟨hmb,fun g hg=>by
  obtain ⟨f,hf,rfl⟩:=List.mem_map.1 hg;refine ⟨(hS f hf).nd,fun t ht => ?_⟩;rw [show (UJ P f).body=rpL P f.body from rfl,HR] at ht;obtain ⟨s,h1,rfl⟩:=List.mem_map.1 ht;have h3:=(hS f hf).kn s h1;unfold knownB at h3 ⊢;rw [Bool.and_eq_true] at h3 ⊢;rw [VR,FZ,q2k];refine ⟨?_,h3.2⟩;rw [List.all_eq_true];intro v hv;exact List.all_eq_true.1 h3.1 v (q9n s v hv)⟩
 have har:(WW (UA P p)).1=0:=(q2w hsc).2 fun t ht h4=>by
  rw [LK] at ht;obtain ⟨s,h1,rfl⟩:=List.mem_map.1 ht;rw [VR] at h4;have h5:=(q2w hs).1 ha s h1 h4;unfold KR at h5 ⊢;rw [VR,FZ,PA,q7b p _ fun f=>rfl];cases hf:p.procs.find? fun f=>f.name==s.proc with
  | none=>rw [hf] at h5;exact h5
  | some f=>rw [hf] at h5;exact h5
 have hju:(HM (UA P p)).1=0:=(x5h hsc).2 fun j g hg=>by
  have hg:(p.procs.map (UJ P))[j]? = some g:=hg;rw [List.getElem?_map] at hg;obtain ⟨f,hf,rfl⟩:=Option.map_eq_some_iff.1 hg;obtain ⟨h1,h2⟩:=(x5h hs).1 hjm j f hf;refine ⟨fun it hi => ?_,by rw [z9d];exact h2⟩;rw [w1y] at hi;obtain ⟨i0,h3,rfl⟩:=List.mem_map.1 hi;have h4:=h1 i0 h3;unfold WG at h4 ⊢;rw [show (rpI P i0).s=rpS P i0.s from rfl,VR,DX,w0o];exact h4
 have hali:(YS (UA P p)).1=0:=(q9p har).2 fun t ht h4=>by
  rw [LK] at ht;obtain ⟨s,h1,rfl⟩:=List.mem_map.1 ht;rw [VR] at h4;rw [DX,FZ,PA];refine GV (fun v hv => ?_) _ _ ((q9p ha).1 hal s h1 h4);have hn:s.proc∈procsN p:=by
   unfold WA at h1;obtain ⟨f,hf1,hf2⟩:=List.mem_flatMap.1 h1;exact (PK hs hf1 hf2 h4).1
  rw [q8s hsc (by rw [q2k];exact hn)] at hv;rw [q8s hs hn];obtain ⟨m,h6,h7⟩:=hv;exact ⟨m,h6.mono fun x y hxy=>(z5w p x y).1 hxy,z3t p m v h7⟩
 exact z9x.2 ⟨hM,hsc,har,hju,hali⟩
theorem w1c (P:Int->Bool) (id:Int) (x:X):wX (rpX P id x)<=wX x:=by
 unfold rpX;cases P id && !(x.op==0) with
 | false=>exact Nat.le_refl _
 | true =>
   rw [cond_true];have:=z7a x;unfold x5;rw [wX,wXs];omega
mutual
theorem w4j : ∀ s:S,wS (rpS P s)<=wS s
 | .mk id kind labels name proc x has args thn els=>by
   have h1:=z3a thn;have h2:=z3a els;have h3:=w1c P id x;rw [rpS,wS,wS];omega
theorem z3a : ∀ l:List S,wL (rpL P l)<=wL l
 | []=>by rw [rpL];exact Nat.le_refl _
 | t::r=>by
   have h1:=w4j t;have h2:=z3a r;rw [rpL,wL,wL];omega
end
theorem z0q : ∀ l:List Pr,x9f (l.map (UJ P))<=x9f l
 | []=>Nat.le_refl _
 | f::r=>by
   have h1:=z0q r;have h2:=z3a (P:=P) f.body;rw [map_cons,x9f,x9f];have e:wPr (UJ P f)=1+x7k f.vars+x7k f.fin+z9n f.params+wL (rpL P f.body):=rfl;rw [e];unfold wPr;omega
theorem w2w {p:Pg} (h:Fit p):Fit (UA P p):=by
 have:=z0q (P:=P) p.procs;unfold Fit wPg at *
 show x7k p.globals+x9f (p.procs.map (UJ P))<=20000;omega
variable {P:Int->Bool}
theorem z2h (p:Pg) (k:Nat):prA (UA P p) k=UJ P (prA p k):=by
 unfold prA;rw [List.getD_eq_getElem?_getD,List.getD_eq_getElem?_getD,show (UA P p).procs=p.procs.map (UJ P) from rfl,List.getElem?_map];cases p.procs[k]? with
 | none=>show Pr0=UJ P Pr0;unfold UJ Pr0;rw [rpL]
 | some f=>rfl
theorem x5z {α β:Type} (g:α->β) (q:β->Bool) (l:List α):idxF q (l.map g)=idxF (fun x=>q (g x)) l:=by
 unfold idxF;rw [List.any_map,List.findIdx_map];rfl
theorem z0f (p:Pg) (k:Nat) (f:Pr):PI (UA P p) k (UJ P f)=PI p k f:=by
 unfold PI;rw [show (UA P p).procs=p.procs.map (UJ P) from rfl,x1h,show (UJ P f).body=rpL P f.body from rfl,DJ]
theorem x9n (p:Pg) (k:Nat) (f:Pr) (ps:List Nat) (call:Int) (M:Mc):YX (UA P p) k (UJ P f) ps call M=YX p k f ps call M:=rfl
theorem z8f (p:Pg) (t:S):PZ (UA P p) (rpS P t)=PZ p t:=by
 unfold PZ;rw [show (UA P p).procs=p.procs.map (UJ P) from rfl,x5z,FZ];rfl
theorem z4r (p:Pg):mainN (UA P p)=mainN p:=by
 unfold mainN;rw [show (UA P p).procs=p.procs.map (UJ P) from rfl,x5z];rfl
theorem z4y (p:Pg):UZ (UA P p)=UZ p:=by
 unfold UZ;rw [z4r,z2h,z0f,x9n];rfl
theorem w0y (p:Pg) (w:List Int) (M:Mc) (f:Fm) (t:S) (k:Nat) (g:Pr):YP (UA P p) w M f (rpS P t) k (UJ P g)=YP p w M f t k g:=by
 unfold YP;rw [PA,x2h,z0f,x9n]
theorem w5r {t:S} (h:P t.id=false):(rpS P t).x=t.x:=by
 rw [w2e];unfold rpX;rw [h];rfl
theorem w2k (w:List Int) (M:Mc) (f:Fm) {t:S} (h:P t.id=false):q9z w M f (rpS P t)=q9z w M f t:=by
 unfold q9z;rw [z8z,w5r h,x2h]
theorem w3s (p:Pg) (tape w:List Int) (M:Mc) (f:Fm) (g:Pr) {it:Item} (h:P it.s.id=false):doM (UA P p) tape w M f (UJ P g) (rpI P it)=doM p tape w M f g it:=by
 unfold doM;have e:(((sheetOf (UA P p)).l[((rpI P it).loop-1).toNat]?).map Item.next).getD 0=(((sheetOf p).l[(it.loop-1).toNat]?).map Item.next).getD 0:=by
  rw [q6a,List.getElem?_map];rw [show (rpI P it).loop=it.loop from rfl];cases (sheetOf p).l[(it.loop-1).toNat]? <;> rfl
 rw [e,show (rpI P it).s=rpS P it.s from rfl,VR,x2h,DX,w5r h,x9o,z1u,x2p,x2p,x2p,w0o];rfl
theorem w4i (p:Pg) (tape w:List Int) (M:Mc) {it:Item} (h:P it.s.id=false):stI (UA P p) tape w M (rpI P it)=stI p tape w M it:=by
 unfold stI;rw [show (rpI P it).s=rpS P it.s from rfl,VR,z8f,z2h,w0y,w2k w M _ h,z2h,show doM (UA P p) tape w M (XR M) (UJ P (prA p (XR M).proc)) (rpI P it)=_ from w3s p tape w M (XR M) _ h]
theorem z4h (p:Pg) (g:Int) (M:Mc):JB (UA P p) g M=JB p g M:=by
 unfold JB;rw [q6a,List.getElem?_map];cases (sheetOf p).l[((XR M).call-1).toNat]? with
 | none=>rfl
 | some it =>
   simp only [Option.map_some];rw [show (rpI P it).s=rpS P it.s from rfl,DX];rfl
theorem w3p {p:Pg} (hc:XS p=true) (hP : ∀ e,liveE p e->P e.1=false) (tape w:List Int) {fuel:Int} {c:Cf} (hG:PE p fuel c) (hI:w0x p c):goC (UA P p) tape w fuel c=goC p tape w fuel c:=by
 cases c with
 | fin M=>rfl
 | back g M=>exact z4h p g M
 | next a M =>
   obtain ⟨hGd,h0,h1,hat⟩:=hG;have hI:InvM p M a:=hI;simp only [goC];by_cases ha:a = -1
   ·rw [if_pos ha,if_pos ha]
   rw [if_neg ha,if_neg ha];by_cases hf:M.steps=fuel
   ·rw [if_pos hf,if_pos hf]
   rw [if_neg hf,if_neg hf];rcases hat with h2|⟨g,it,hg,_,hit,hi,hid⟩
   ·exact absurd h2 ha
   rw [q6a,List.getElem?_map,hit];simp only [Option.map_some];refine w4i p tape w (VK M) ?_;obtain ⟨st,hs⟩:=hGd.top;obtain ⟨g',h3,h4⟩:=hI.pos (XR M).proc a (by rw [hs];exact .top);rw [hg] at h3;cases h3;rw [hid];exact hP (a,[]) ⟨(XR M).proc,g,it.s,hg,BS hi,hid,h4⟩
theorem z1s {p:Pg} (hc:XS p=true) (hP : ∀ e,liveE p e->P e.1=false) (tape w:List Int) {fuel:Int} (h0:0<=fuel) : ∀ n,KM (UA P p) tape w fuel n (UZ (UA P p))=KM p tape w fuel n (UZ p)
 | 0=>z4y p
 | n+1=>by
   obtain ⟨h1,h2⟩:=w0n hc tape w h0 n;rw [VD,VD,z1s hc hP tape w h0 n];exact w3p hc hP tape w h1 h2
theorem w1q {p:Pg} (hc:XS p=true):x1u (UA P p) 0=x1u p 0:=by
 have h1:=JQ (QY hc).1;have h2:=JQ (QY (x9r (P:=P) hc)).1;have e : ∀ q:Pg,x1u q 0=((allR q).map RI.s).map S.id:=fun q=>by
  unfold x1u;rw [List.map_map,List.filter_eq_self.2 (show ∀ x∈allR q,x2u 0 x=true from fun x _=>rfl)];rfl
 rw [e,e,h1,h2,LK,List.map_map];congr 1;funext t;exact x2h t
theorem w1n {p:Pg} (hc:XS p=true) (hP : ∀ e,liveE p e->P e.1=false) (tape:List Int) {fuel:Int} (h0:0<=fuel) {n m:Nat} {M M':Mc} (h:KM p tape (x1u p 0) fuel n (UZ p) = .fin M)
  (h':KM (UA P p) tape (x1u (UA P p) 0) fuel m (UZ (UA P p)) = .fin M'):M'=M:=by
 rw [w1q hc,z1s hc hP tape _ h0] at h';exact z5c p tape _ fuel _ h' h
mutual
def ptS (u:S):S->S
 | .mk id kind labels name proc x has args thn els=>if id=u.id then .mk u.id u.kind u.labels u.name u.proc u.x u.has u.args (ptL u thn) (ptL u els) else .mk id kind labels name proc x has args (ptL u thn) (ptL u els)
def ptL (u:S):List S->List S
 | []=>[]
 | s::r=>ptS u s::ptL u r
end
def x5j (u:S) (f:Pr):Pr:=⟨f.name,f.params,f.vars,ptL u f.body,f.fin⟩
def z7z (u:S) (p:Pg):Pg:=⟨p.globals,p.procs.map (x5j u)⟩
theorem w1p (u s:S):ptS u s=if s.id=u.id then .mk u.id u.kind u.labels u.name u.proc u.x u.has u.args (ptL u s.thn) (ptL u s.els) else .mk s.id s.kind s.labels s.name s.proc s.x s.has s.args (ptL u s.thn) (ptL u s.els):=by
 cases s;rw [ptS];rfl
theorem x2t (u:S) : ∀ l:List S,ptL u l=l.map (ptS u)
 | []=>by rw [ptL];rfl
 | s::r=>by rw [ptL,x2t u r];rfl
theorem PR (u:S) (hu:okC u) : ∀ (k:Nat) (l:List S) (_:cntL l<k) (_:cntL l<=1000000) (_ : ∀ t∈flL l,okC t),SpecP Tryz.prog 95 [eSs l,.agg u.cells] (fun r=>r=eSs (ptL u l)):=by
 intro k;induction k with
 | zero=>intro l h;omega
 | succ k ih =>
   intro l hk hn hok;have hsl:(S.avs l).length=l.length:=by rw [S.avs_eq,length_map]
   have hcl:=x3e l;refine sB DM Tryz.func95 rfl Tryz.call95 ?_;conv=>whnf
   repeat' (first|((first|(refine iM fun _=>?_)|refine dA ?_|refine And.intro rfl ?_|refine aD ?_|refine aR ?_|refine bP ?_|(refine iA fun _=>?_)|refine IdxK.xs (by omega) ?_|refine QF (by omega) ?_|(refine ByteK.at (by omega) ?_)|refine wI ?_);conv=>whnf)|(apply bD<;>intro _<;>first|omega|conv=>whnf)|(apply bE<;>intro _<;>first|omega|conv=>whnf)|(apply bN<;>intro _<;>conv=>whnf)|(apply bB<;>intro _<;>conv=>whnf))
   refine LoopK.inv QU (fun j:Nat=>⟨[(3,.p (.ip u.cells)),(5,.hd 0 0 j),(9,.p (eSs l)),(10,.p (.int .i64 (S.avs l).length)),(11,.p (.int .i64 j))],[(0,.own 40 13 (S.avs ((ptL u l).take j)))]⟩) (fun j=>j<=l.length) (fun j=>l.length-j) 0
    (Le.mk [(0,.own 40 13 [])] (by simp [Chunk.new0];rfl) (by simp) (by simp) (.cons (.refl _) (.cons (.nil mem_cons_self) (.cons (.refl _) (.cons (.refl _) (.cons (.refl _) .nil))))) (.new mem_cons_self .nil)) (zero_le _) ?_
   intro j h2;have hpl:(ptL u l).length=l.length:=by rw [x2t,length_map]
   rcases Nat.lt_or_ge j l.length with hj|hj
   ·have htm:=x5n (List.getElem_mem hj);have hcs:=ZO l[j];have hself:=hok _ (LD l _ (List.getElem_mem hj));have hsub : ∀ t,t∈flL l[j].thn∨t∈flL l[j].els->okC t:=fun t ht=>hok t (by
     have:t∈flS l[j]:=by
      rw [z7o];exact List.mem_cons_of_mem _ (List.mem_append.2 ht)
     have key : ∀ (m:List S) (i:Nat) (h:i<m.length),t∈flS m[i]->t∈flL m:=fun m=>by
      induction m with
      | nil=>intro i h;simp at h
      | cons a r ih =>
        intro i h ht;rw [flL];cases i with
        | zero=>exact List.mem_append.2 (.inl ht)
        | succ i=>exact List.mem_append.2 (.inr (ih i (by simpa using h) ht))
     exact key l j hj this)
    have h5:=UY l[j] hself.1 hself.2.1 hself.2.2.1 hself.2.2.2;have h8:=UY u hu.1 hu.2.1 hu.2.2.1 hu.2.2.2;have h6:=ih l[j].thn (by omega) (by omega) fun t ht=>hsub t (.inl ht);have h7:=ih l[j].els (by omega) (by omega) fun t ht=>hsub t (.inr ht);have hacl:j=(S.avs ((ptL u l).take j)).length:=by rw [S.avs_eq,length_map,length_take];omega
    have hav:S.avs ((ptL u l).take (j+1))=S.avs ((ptL u l).take j)++[.agg (ptS u l[j]).cells]:=by
     rw [S.avs_eq,S.avs_eq,List.take_succ_eq_append_getElem (by omega),List.map_append];simp only [x2t,List.getElem_map];rfl
    rw [w1p] at hav;generalize S.avs ((ptL u l).take j)=acc at hacl hav ⊢;conv=>whnf
    repeat' (first|((first|(refine iM fun _=>?_)|refine dA ?_|refine And.intro rfl ?_|refine aD ?_|refine aR ?_|refine bP ?_|(refine iA fun _=>?_)|refine IdxK.xs (by omega) ?_|refine QF (by omega) ?_|(refine ByteK.at (by omega) ?_)|refine wI ?_|refine cP h5 ?_|refine cP h8 ?_|refine cP h6 ?_|refine cP h7 ?_|refine AppK.mk hacl rfl (by show (j+1)*208<=140737488355328;omega) (by show j+1<=9223372036854775807;omega) (fun x hx=>by rcases List.mem_singleton.1 hx with rfl;exact ⟨rfl,rfl⟩) ?_);conv=>whnf)|(apply bD<;>intro _<;>first|omega|conv=>whnf)|(apply bE<;>intro _<;>first|omega|conv=>whnf)|(apply bN<;>intro _<;>conv=>whnf)|(apply bB<;>intro _<;>conv=>whnf))
    all_goals first
     | exact ⟨j+1,hj,by omega,Le.of_eq (by rw [hav,if_pos (by assumption)];rfl)⟩
     | exact ⟨j+1,hj,by omega,Le.of_eq (by rw [hav,if_neg (by assumption)];rfl)⟩
   ·have hall:(ptL u l).take j=ptL u l:=List.take_of_length_le (by omega);have hjl:j=(S.avs (ptL u l)).length:=by rw [S.avs_eq,length_map];omega
    rw [hall];conv=>whnf
    repeat' (first|((first|(refine iM fun _=>?_)|refine dA ?_|refine And.intro rfl ?_|refine aD ?_|refine aR ?_|refine bP ?_|(refine iA fun _=>?_)|refine IdxK.xs (by omega) ?_|refine QF (by omega) ?_|(refine ByteK.at (by omega) ?_)|refine wI ?_);conv=>whnf)|(apply bD<;>intro _<;>first|omega|conv=>whnf)|(apply bE<;>intro _<;>first|omega|conv=>whnf)|(apply bN<;>intro _<;>conv=>whnf)|(apply bB<;>intro _<;>conv=>whnf))
    exact ⟨_,.hd rfl hjl,rfl⟩
theorem NW (u:S) (hu:okC u) (p:Pg) (hpl:p.procs.length<=1000) (hgl:p.globals.length<=1000000) (hpr : ∀ f∈p.procs,f.vars.length<=1000000∧f.fin.length<=1000000∧f.params.length<=1000000∧cntL f.body<=100000 ∧ ∀ t∈flL f.body,okC t) :
  SpecP Tryz.prog 41 [.agg p.cells,.agg u.cells] (fun r=>r = .agg (z7z u p).cells):=by
 refine sB DF Tryz.func41 rfl Tryz.call41 ?_;conv=>whnf
 have hgt:=ZW p.globals hgl;have hpm:(p.procs.map fun f=>AV.agg f.cells).length=p.procs.length:=length_map _;repeat' (first|((first|(refine iM fun _=>?_)|refine dA ?_|refine And.intro rfl ?_|refine aD ?_|refine aR ?_|refine bP ?_|(refine iA fun _=>?_)|refine IdxK.xs (by omega) ?_|refine QF (by omega) ?_|(refine ByteK.at (by omega) ?_)|refine wI ?_|refine cP hgt ?_);conv=>whnf)|(apply bD<;>intro _<;>first|omega|conv=>whnf)|(apply bE<;>intro _<;>first|omega|conv=>whnf)|(apply bN<;>intro _<;>conv=>whnf)|(apply bB<;>intro _<;>conv=>whnf))
 refine LoopK.inv QU (fun j:Nat=>⟨[(3,.p (.ip u.cells)),(4,.ptr 2 0),(5,.ptr 0 0),(14,.p (.sl (p.procs.map fun f=>AV.agg f.cells))),(15,.p (.int .i64 (p.procs.map fun f=>AV.agg f.cells).length)),(16,.p (.int .i64 j))],[(0,.obj 25 [.p (QP p.globals),.hd 1 0 j]),(2,.obj 25 [.p .nils,.p .nils]),(1,.own 90 5 ((p.procs.take j).map fun f => .agg (x5j u f).cells))]⟩) (fun j=>j<=p.procs.length) (fun j=>p.procs.length-j) 0
  (Le.mk [(1,.own 90 5 [])] (by simp [Chunk.new0];rfl) (by simp) (by simp) (.cons (.refl _) (.cons (.refl _) (.cons (.refl _) (.cons (.refl _) (.cons (.refl _) (.cons (.refl _) .nil)))))) (.cons rfl (.obj (.cons (.refl _) (.cons (.nil mem_cons_self) .nil))) (.cons rfl (.refl _) (.new mem_cons_self .nil)))) (zero_le _) ?_
 intro j h2;rcases Nat.lt_or_ge j p.procs.length with hj|hj
 ·obtain ⟨hv,hfin,hpm2,hcb,hok⟩:=hpr _ (List.getElem_mem hj);have h5:=ZW p.procs[j].vars hv;have h6:=ZW p.procs[j].fin hfin;have h7:=PR u hu (cntL p.procs[j].body+1) p.procs[j].body (by omega) (by omega) hok;have htl:((p.procs.take j).map fun f=>AV.agg (x5j u f).cells).length=j:=by rw [length_map,length_take];omega
  have htk:((p.procs.take (j+1)).map fun f=>AV.agg (x5j u f).cells)=((p.procs.take j).map fun f=>AV.agg (x5j u f).cells)++[.agg (x5j u p.procs[j]).cells]:=by
   rw [List.take_succ_eq_append_getElem hj,List.map_append];rfl
  generalize ((p.procs.take j).map fun f=>AV.agg (x5j u f).cells)=acc at htl htk ⊢;have hpa:(p.procs[j].params.map fun x=>AV.agg x.cells).length=p.procs[j].params.length:=length_map _;conv=>whnf
  repeat' (first|((first|(refine iM fun _=>?_)|refine dA ?_|refine And.intro rfl ?_|refine aD ?_|refine aR ?_|refine bP ?_|(refine iA fun _=>?_)|refine IdxK.xs (by omega) ?_|refine QF (by omega) ?_|(refine ByteK.at (by omega) ?_)|refine wI ?_|refine cP h5 ?_|refine cP h6 ?_|refine cP h7 ?_|refine AppK.mk rfl rfl (by rw [hpa];show (0+p.procs[j].params.length)*24<=140737488355328;omega) (by rw [hpa];show 0+p.procs[j].params.length<=9223372036854775807;omega) (fun x hx=>by obtain ⟨y,_,rfl⟩:=List.mem_map.1 hx;exact ⟨rfl,rfl⟩) ?_);conv=>whnf)|(apply bD<;>intro _<;>first|omega|conv=>whnf)|(apply bE<;>intro _<;>first|omega|conv=>whnf)|(apply bN<;>intro _<;>conv=>whnf)|(apply bB<;>intro _<;>conv=>whnf)|(refine And.intro ?_ ?_<;>conv=>whnf))
  all_goals
   refine x8f QU (k:=4) 41 (x5j u p.procs[j]).cells rfl rfl rfl (fun q u c h1 h2 => ?_) ?_
   ·match q,h1,h2 with
    | 0,h1,h2=>cases h1;cases h2;exact .inl ⟨_,rfl,Sub.refl _⟩
    | 1,h1,h2=>cases h1;cases h2;exact .inr ⟨_,rfl,by simp,rfl⟩
    | 2,h1,h2=>cases h1;cases h2;exact .inl ⟨_,rfl,Sub.refl _⟩
    | 3,h1,h2=>cases h1;cases h2;exact .inl ⟨_,rfl,Sub.refl _⟩
    | 4,h1,h2=>cases h1;cases h2;exact .inl ⟨_,rfl,Sub.refl _⟩
    | q+5,h1,h2=>simp at h1
   conv=>whnf
   repeat' (first|((first|(refine iM fun _=>?_)|refine dA ?_|refine And.intro rfl ?_|refine aD ?_|refine aR ?_|refine bP ?_|(refine iA fun _=>?_)|refine IdxK.xs (by omega) ?_|refine QF (by omega) ?_|(refine ByteK.at (by omega) ?_)|refine wI ?_|refine AppK.mk htl.symm rfl (by show (j+1)*112<=140737488355328;omega) (by show j+1<=9223372036854775807;omega) (fun x hx=>by rcases List.mem_singleton.1 hx with rfl;exact ⟨rfl,rfl⟩) ?_);conv=>whnf)|(apply bD<;>intro _<;>first|omega|conv=>whnf)|(apply bE<;>intro _<;>first|omega|conv=>whnf)|(apply bN<;>intro _<;>conv=>whnf)|(apply bB<;>intro _<;>conv=>whnf))
   exact ⟨j+1,hj,by omega,Le.of_eq (by rw [htk];rfl)⟩
 ·have hA:((p.procs.take j).map fun f=>AV.agg (x5j u f).cells)=((z7z u p).procs.map fun f => .agg f.cells):=by
   rw [List.take_of_length_le hj];show _=(p.procs.map (x5j u)).map _;rw [List.map_map];rfl
  have hcl:j=((p.procs.take j).map fun f=>AV.agg (x5j u f).cells).length:=by rw [length_map,length_take];omega
  generalize ((p.procs.take j).map fun f=>AV.agg (x5j u f).cells)=acc at hA hcl ⊢;conv=>whnf
  repeat' (first|((first|(refine iM fun _=>?_)|refine dA ?_|refine And.intro rfl ?_|refine aD ?_|refine aR ?_|refine bP ?_|(refine iA fun _=>?_)|refine IdxK.xs (by omega) ?_|refine QF (by omega) ?_|(refine ByteK.at (by omega) ?_)|refine wI ?_);conv=>whnf)|(apply bD<;>intro _<;>first|omega|conv=>whnf)|(apply bE<;>intro _<;>first|omega|conv=>whnf)|(apply bN<;>intro _<;>conv=>whnf)|(apply bB<;>intro _<;>conv=>whnf))
  refine ⟨_,.agg (cs:=(z7z u p).cells) rfl fun i l c h1 h3 => ?_,rfl⟩
  match i,h1,h3 with
  | 0,h1,h3=>cases h1;cases h3;exact .p (Sub.refl _)
  | 1,h1,h3 =>
    cases h1;cases h3;show Frz _ _ (.sl ((z7z u p).procs.map fun f => .agg f.cells));rw [<- hA];exact .hd rfl hcl
  | i+2,h1,h3=>simp at h1
theorem UX (l:List Int):SpecP Tryz.prog 152 [XW l,XW l] (fun r=>r = .tt):=by
 refine sB KN Tryz.func152 rfl Tryz.call152 ?_;conv=>whnf
 have hl:(l.map (AV.int .i64)).length=l.length:=length_map _;repeat' (first|((first|(refine iM fun _=>?_)|refine dA ?_|refine And.intro rfl ?_|refine aD ?_|refine aR ?_|refine bP ?_|(refine iA fun _=>?_)|refine IdxK.xs (by omega) ?_|refine QF (by omega) ?_|(refine ByteK.at (by omega) ?_)|refine wI ?_);conv=>whnf)|(apply bD<;>intro _<;>first|omega|conv=>whnf)|(apply bE<;>intro _<;>first|omega|conv=>whnf)|(apply bN<;>intro _<;>conv=>whnf)|(apply bB<;>intro _<;>conv=>whnf))
 all_goals try (exfalso;omega)
 refine LoopK.inv QU (fun j:Nat=>⟨[(0,.p (XW l)),(1,.p (XW l)),(12,.p (.int .i64 (l.map (AV.int .i64)).length)),(13,.p (.int .i64 j))],[]⟩) (fun j=>j<=l.length) (fun j=>l.length-j) 0 (Le.of_eq rfl) (zero_le _) ?_;intro j hj;rcases Nat.lt_or_ge j l.length with hj2|hj2
 ·conv=>whnf
  repeat' (first|((first|(refine iM fun _=>?_)|refine dA ?_|refine And.intro rfl ?_|refine aD ?_|refine aR ?_|refine bP ?_|(refine iA fun _=>?_)|refine IdxK.xs (by omega) ?_|refine QF (by omega) ?_|(refine ByteK.at (by omega) ?_)|refine wI ?_);conv=>whnf)|(apply bD<;>intro _<;>first|omega|conv=>whnf)|(apply bE<;>intro _<;>first|omega|conv=>whnf)|(apply bN<;>intro _<;>conv=>whnf)|(apply bB<;>intro _<;>conv=>whnf))
  all_goals first
   | contradiction
   | (exfalso;simp_all;done)
   | exact ⟨j+1,hj2,by omega,Le.of_eq rfl⟩
 ·conv=>whnf
  repeat' (first|((first|(refine iM fun _=>?_)|refine dA ?_|refine And.intro rfl ?_|refine aD ?_|refine aR ?_|refine bP ?_|(refine iA fun _=>?_)|refine IdxK.xs (by omega) ?_|refine QF (by omega) ?_|(refine ByteK.at (by omega) ?_)|refine wI ?_);conv=>whnf)|(apply bD<;>intro _<;>first|omega|conv=>whnf)|(apply bE<;>intro _<;>first|omega|conv=>whnf)|(apply bN<;>intro _<;>conv=>whnf)|(apply bB<;>intro _<;>conv=>whnf))
  exact ⟨_,.p (Sub.refl _),rfl⟩
theorem GA (l:List (Int×List Int)):SpecP Tryz.prog 97 [.sl (l.map evA),.sl (l.map evA)] (fun r=>r = .tt):=by
 refine sB KU Tryz.func97 rfl Tryz.call97 ?_;conv=>whnf
 have hl:(l.map evA).length=l.length:=length_map _;repeat' (first|((first|(refine iM fun _=>?_)|refine dA ?_|refine And.intro rfl ?_|refine aD ?_|refine aR ?_|refine bP ?_|(refine iA fun _=>?_)|refine IdxK.xs (by omega) ?_|refine QF (by omega) ?_|(refine ByteK.at (by omega) ?_)|refine wI ?_);conv=>whnf)|(apply bD<;>intro _<;>first|omega|conv=>whnf)|(apply bE<;>intro _<;>first|omega|conv=>whnf)|(apply bN<;>intro _<;>conv=>whnf)|(apply bB<;>intro _<;>conv=>whnf))
 all_goals try (exfalso;omega)
 refine LoopK.inv QU (fun j:Nat=>⟨[(0,.p (.sl (l.map evA))),(1,.p (.sl (l.map evA))),(12,.p (.int .i64 (l.map evA).length)),(13,.p (.int .i64 j))],[]⟩) (fun j=>j<=l.length) (fun j=>l.length-j) 0 (Le.of_eq rfl) (zero_le _) ?_;intro j hj;rcases Nat.lt_or_ge j l.length with hj2|hj2
 ·have hE:=UX l[j].2;conv=>whnf
  repeat' (first|((first|(refine iM fun _=>?_)|refine dA ?_|refine And.intro rfl ?_|refine aD ?_|refine aR ?_|refine bP ?_|(refine iA fun _=>?_)|refine IdxK.xs (by omega) ?_|refine QF (by omega) ?_|(refine ByteK.at (by omega) ?_)|refine wI ?_|refine cP hE ?_);conv=>whnf)|(apply bD<;>intro _<;>first|omega|conv=>whnf)|(apply bE<;>intro _<;>first|omega|conv=>whnf)|(apply bN<;>intro _<;>conv=>whnf)|(apply bB<;>intro _<;>conv=>whnf))
  all_goals first
   | contradiction
   | (exfalso;simp_all;done)
   | exact ⟨j+1,hj2,by omega,Le.of_eq rfl⟩
 ·conv=>whnf
  repeat' (first|((first|(refine iM fun _=>?_)|refine dA ?_|refine And.intro rfl ?_|refine aD ?_|refine aR ?_|refine bP ?_|(refine iA fun _=>?_)|refine IdxK.xs (by omega) ?_|refine QF (by omega) ?_|(refine ByteK.at (by omega) ?_)|refine wI ?_);conv=>whnf)|(apply bD<;>intro _<;>first|omega|conv=>whnf)|(apply bE<;>intro _<;>first|omega|conv=>whnf)|(apply bN<;>intro _<;>conv=>whnf)|(apply bB<;>intro _<;>conv=>whnf))
  exact ⟨_,.p (Sub.refl _),rfl⟩
theorem FV (a b c:Int) (o:List Int) (T:AV):SpecP Tryz.prog 96 [.agg [.int .i64 a,.int .i64 b,.int .i64 c,XW o,T],.agg [.int .i64 a,.int .i64 b,.int .i64 c,XW o,T]] (fun r=>r = .tt):=by
 refine sB GF Tryz.func96 rfl Tryz.call96 ?_;conv=>whnf
 have hE:=UX o;repeat' (first|((first|(refine iM fun _=>?_)|refine dA ?_|refine And.intro rfl ?_|refine aD ?_|refine aR ?_|refine bP ?_|(refine iA fun _=>?_)|refine IdxK.xs (by omega) ?_|refine QF (by omega) ?_|(refine ByteK.at (by omega) ?_)|refine wI ?_|refine cP hE ?_);conv=>whnf)|(apply bD<;>intro _<;>first|omega|conv=>whnf)|(apply bE<;>intro _<;>first|omega|conv=>whnf)|(apply bN<;>intro _<;>conv=>whnf)|(apply bB<;>intro _<;>conv=>whnf))
 all_goals first
  | contradiction
  | (exfalso;simp_all;done)
  | exact ⟨_,.p (Sub.refl _),rfl⟩
theorem FA (a b c:Int) (o:List Int) (l:List (Int×List Int)):SpecP Tryz.prog 42 [.agg [.int .i64 a,.int .i64 b,.int .i64 c,XW o,.sl (l.map evA)],.agg [.int .i64 a,.int .i64 b,.int .i64 c,XW o,.sl (l.map evA)]] (fun r=>r = .tt):=by
 refine sB GK Tryz.func42 rfl Tryz.call42 ?_;conv=>whnf
 have hE:=GA l;have hO:=FV a b c o (.sl (l.map evA));repeat' (first|((first|(refine iM fun _=>?_)|refine dA ?_|refine And.intro rfl ?_|refine aD ?_|refine aR ?_|refine bP ?_|(refine iA fun _=>?_)|refine IdxK.xs (by omega) ?_|refine QF (by omega) ?_|(refine ByteK.at (by omega) ?_)|refine wI ?_|refine cP hO ?_|refine cP hE ?_);conv=>whnf)|(apply bD<;>intro _<;>first|omega|conv=>whnf)|(apply bE<;>intro _<;>first|omega|conv=>whnf)|(apply bN<;>intro _<;>conv=>whnf)|(apply bB<;>intro _<;>conv=>whnf))
 all_goals first
  | contradiction
  | (exfalso;simp_all;done)
  | exact ⟨_,.p (Sub.refl _),rfl⟩
def z3b (s:S):S := .mk s.id s.kind s.labels s.name s.proc x5 s.has s.args s.thn s.els
mutual
theorem w2f {P Q:Int->Bool} {s0:S} (hop:s0.x.op≠0) (h1:Q s0.id=true) (h2 : ∀ i,i≠s0.id->Q i=P i) : ∀ s:S,(∀ t∈flS s,t.id=s0.id->t=s0)->ptS (z3b s0) (rpS P s)=rpS Q s
 | .mk id kind labels name proc x has args thn els,h=>by
   have g1:=x4f hop h1 h2 thn fun t ht=>h t (by rw [flS];exact List.mem_cons_of_mem _ (List.mem_append.2 (.inl ht)));have g2:=x4f hop h1 h2 els fun t ht=>h t (by rw [flS];exact List.mem_cons_of_mem _ (List.mem_append.2 (.inr ht)));rw [rpS,rpS,ptS,g1,g2];by_cases hi:id=s0.id
   ·have e:=h (.mk id kind labels name proc x has args thn els) (by rw [flS];exact mem_cons_self) hi;rw [if_pos (show id=(z3b s0).id from hi)];subst e;have hx:rpX Q id x=x5:=by
     unfold rpX;rw [show Q id=true from h1];have:(x.op==0)=false:=by
      have hop:x.op≠0:=hop;simpa using hop
     rw [this];rfl
    rw [hx];rfl
   ·rw [if_neg (show ¬id=(z3b s0).id from hi)];have hx:rpX Q id x=rpX P id x:=by
     unfold rpX;rw [h2 id hi]
    rw [hx]
theorem x4f {P Q:Int->Bool} {s0:S} (hop:s0.x.op≠0) (h1:Q s0.id=true) (h2 : ∀ i,i≠s0.id->Q i=P i) : ∀ l:List S,(∀ t∈flL l,t.id=s0.id->t=s0)->ptL (z3b s0) (rpL P l)=rpL Q l
 | [],h=>by rw [rpL,rpL,ptL]
 | t::r,h=>by
   rw [rpL,rpL,ptL,w2f hop h1 h2 t fun u hu=>h u (by rw [flL];exact List.mem_append.2 (.inl hu)),x4f hop h1 h2 r fun u hu=>h u (by rw [flL];exact List.mem_append.2 (.inr hu))]
end
theorem z9g {P Q:Int->Bool} {s0:S} (hop:s0.x.op≠0) (h1:Q s0.id=true) (h2 : ∀ i,i≠s0.id->Q i=P i) {p:Pg} (h : ∀ t∈WA p,t.id=s0.id->t=s0):z7z (z3b s0) (UA P p)=UA Q p:=by
 unfold z7z UA;simp only [List.map_map];congr 1;refine List.map_congr_left fun f hf => ?_;show x5j (z3b s0) (UJ P f)=UJ Q f;unfold x5j UJ;rw [x4f hop h1 h2 f.body fun t ht=>h t (List.mem_flatMap.2 ⟨f,hf,ht⟩)]
mutual
theorem w2n : ∀ s:S,rpS (fun _=>false) s=s
 | .mk id kind labels name proc x has args thn els=>by rw [rpS,x5b thn,x5b els];rfl
theorem x5b : ∀ l:List S,rpL (fun _=>false) l=l
 | []=>by rw [rpL]
 | t::r=>by rw [rpL,w2n t,x5b r]
end
theorem w0z (p:Pg):UA (fun _=>false) p=p:=by
 unfold UA;have:p.procs.map (UJ fun _=>false)=p.procs:=by
  rw [List.map_congr_left (g:=id) fun f _=>by show UJ _ f=f;unfold UJ;rw [x5b]];simp
 rw [this]
def q8u (p:Pg) (s:S):Bool:=q8b (FL p (YL p s.id).2.1) s.id||s.x.op==0
def q5d (p:Pg) (l:List RI):List Int:=(l.filter fun x => !q8u p x.s).map fun x=>x.s.id
def q7e (p:Pg) (j:Nat):Pg:=UA (q8b (q5d p ((allR p).take j))) p
theorem z8i {p:Pg} {l:List RI} {e:Int×List Int} (hc:XS p=true) (h:liveE p e):q8b (q5d p l) e.1=false:=by
 cases hh:q8b (q5d p l) e.1 with
 | false=>rfl
 | true =>
   unfold q8b at hh;obtain ⟨i,h1,h2⟩:=List.any_eq_true.1 hh;obtain ⟨x,h3,h4⟩:=List.mem_map.1 h1;have h5:=(List.mem_filter.1 h3).2;have h6:x.s.id=e.1:=by simp_all
   unfold q8u at h5;rw [h6,z9y hc h] at h5;cases h5
theorem z3m {p:Pg} (hc:XS p=true) {j:Nat} (hj:j<(allR p).length):q7e p (j+1)=if q8u p (allR p)[j].s then q7e p j else z7z (z3b (allR p)[j].s) (q7e p j):=by
 have hm:=(QY hc).1;have e:q5d p ((allR p).take (j+1))=q5d p ((allR p).take j)++if q8u p (allR p)[j].s then [] else [(allR p)[j].s.id]:=by
  unfold q5d;rw [List.take_succ_eq_append_getElem hj,List.filter_append,List.map_append];congr 1;cases hl:q8u p (allR p)[j].s<;>simp [hl]
 unfold q7e;rw [e];cases hl:q8u p (allR p)[j].s with
 | true=>simp
 | false =>
   simp only [Bool.false_eq_true,if_false];refine (z9g ?_ ?_ ?_ ?_).symm
   ·intro h;unfold q8u at hl;rw [h] at hl;simp at hl
   ·unfold q8b;simp
   ·intro i hi;unfold q8b;simp [List.any_append,hi]
   ·intro t ht hid;have h5:(allR p)[j].s∈WA p:=by
     rw [<- JQ hm];exact List.mem_map_of_mem (List.getElem_mem hj)
    unfold WA at ht h5;obtain ⟨f,hf,ht⟩:=List.mem_flatMap.1 ht;obtain ⟨g,hg,h5⟩:=List.mem_flatMap.1 h5;obtain ⟨k1,hk1,rfl⟩:=List.mem_iff_getElem.1 hf;obtain ⟨k2,hk2,rfl⟩:=List.mem_iff_getElem.1 hg;obtain ⟨i1,u1,u2⟩:=x6v (p:=p) (j:=k1) ht;obtain ⟨i2,v1,v2⟩:=x6v (p:=p) (j:=k2) h5;have e1:=x7l hc (List.getElem?_eq_getElem hk1) u1;have e2:=x7l hc (List.getElem?_eq_getElem hk2) v1;rw [u2,hid] at e1;rw [v2,e1] at e2;have e3:i1=i2:=Option.some.inj e2;rw [<- u2,<- v2,e3]
theorem z6c (p:Pg):q7e p 0=p:=w0z p
theorem z2g {p:Pg} (hf:Fit p) (hc:XS p=true) (j:Nat):(q7e p j).procs.length<=1000∧(q7e p j).globals.length<=1000000 ∧ ∀ f∈(q7e p j).procs,f.vars.length<=1000000∧f.fin.length<=1000000∧f.params.length<=1000000∧cntL f.body<=100000 ∧ ∀ t∈flL f.body,okC t:=by
 have hC:=w1o hf hc;refine ⟨by show (p.procs.map _).length<=1000;rw [length_map];exact hC.procs,hC.globals,fun g hg => ?_⟩;obtain ⟨f,hff,rfl⟩:=List.mem_map.1 hg;obtain ⟨a1,a2,a3,a4,a5⟩:=hC.pr f hff;refine ⟨a1,a2,a3,by show cntL (rpL _ f.body)<=100000;rw [DJ];exact a4,fun t ht => ?_⟩;rw [show (UJ (q8b (q5d p ((allR p).take j))) f).body=rpL _ f.body from rfl,HR] at ht;obtain ⟨s,h1,rfl⟩:=List.mem_map.1 ht;obtain ⟨b1,b2,b3,b4⟩:=(a5 s h1).1;unfold okC;rw [w2e,DC,PA];exact ⟨Nat.le_trans (w1c _ _ _) b1,b2,b3,b4⟩
theorem z8u {p:Pg} (hf:Fit p) (hc:XS p=true) {j:Nat} (hj:j<(allR p).length):okC (z3b (allR p)[j].s):=by
 have hC:=w1o hf hc;have h5:(allR p)[j].s∈WA p:=by
  rw [<- JQ (QY hc).1];exact List.mem_map_of_mem (List.getElem_mem hj)
 unfold WA at h5;obtain ⟨f,hff,h5⟩:=List.mem_flatMap.1 h5;obtain ⟨b1,b2,b3,b4⟩:=((hC.pr f hff).2.2.2.2 _ h5).1;exact ⟨by show wX (.mk 1 5 [] [])<=20000;rw [wX,wXs];omega,b2,b3,b4⟩
theorem z9z {P:Int->Bool} {p:Pg} (hc:XS p=true):(allR (UA P p)).length=(allR p).length:=by
 have h1:=congrArg length (JQ (QY hc).1);have h2:=congrArg length (JQ (QY (x9r (P:=P) hc)).1);rw [LK,length_map,length_map] at h2;rw [length_map] at h1;omega
theorem GZ (p:Pg) (tape:List Int) (fuel:Int):SpecP Tryz.prog 5 [.agg p.cells,XW tape,.int .i64 fuel] (fun r=>r = .tt):=by
 refine sB JM Tryz.func5 rfl Tryz.call5 ?_;conv=>whnf
 cases hfb:z7n p with
 | false =>
   have hno : ¬gPg p<=20000:=by unfold z7n at hfb;simpa using hfb
   repeat' (first|((first|(refine iM fun _=>?_)|refine cP (VV _) ?_|refine dA ?_|refine And.intro rfl ?_|refine aD ?_|refine aR ?_|refine bP ?_|(refine iA fun _=>?_)|refine IdxK.xs (by omega) ?_|refine QF (by omega) ?_|(refine ByteK.at (by omega) ?_)|refine wI ?_|refine cP ZJ ?_);conv=>whnf)|(apply bD<;>intro _<;>first|omega|conv=>whnf)|(apply bE<;>intro _<;>first|omega|conv=>whnf)|(apply bN<;>intro _<;>conv=>whnf)|(apply bB<;>intro _<;>conv=>whnf))
   all_goals first
    | exact ⟨_,.p (Sub.refl _),rfl⟩
    | (exfalso;simp_all;done)
 | true =>
   have hf:Fit p:=w2g hfb;have hfit:gPg p<=20000:=by unfold z7n at hfb;simpa using hfb
   have hC:=FO p hf 100;have htm:(tape.map (AV.int .i64)).length=tape.length:=length_map _;by_cases hok:q8i p 100=true∧0<=fuel∧fuel<=300∧tape.length<=100
   ·obtain ⟨hs,hf0,hf1,htl⟩:=hok;rw [hs] at hC;have hc:XS p=true:=by unfold q8i at hs;rw [Bool.and_eq_true] at hs;exact hs.1
    have hal:=(GN (QY hc).1).len;have hA:=KP p;have hrl:=q4q (allR p);repeat' (first|((first|(refine iM fun _=>?_)|refine cP (VV _) ?_|refine dA ?_|refine And.intro rfl ?_|refine aD ?_|refine aR ?_|refine bP ?_|(refine iA fun _=>?_)|refine IdxK.xs (by omega) ?_|refine QF (by omega) ?_|(refine ByteK.at (by omega) ?_)|refine wI ?_|refine cP ZJ ?_|refine cP hC ?_|refine cP hA ?_);conv=>whnf)|(apply bD<;>intro _<;>first|omega|conv=>whnf)|(apply bE<;>intro _<;>first|omega|conv=>whnf)|(apply bN<;>intro _<;>conv=>whnf)|(apply bB<;>intro _<;>conv=>whnf))
    all_goals try contradiction
    all_goals try (exfalso;omega)
    refine LoopK.inv QU (fun j:Nat=>⟨[(1,.p (XW tape)),(2,.p (.int .i64 fuel)),(3,.p (.ip p.cells)),(7,.ptr 0 0),(34,.p (w0r (allR p))),(35,.p (.int .i64 ((allR p).map fun i=>AV.agg i.cells).length)),(36,.p (.int .i64 j))],[(0,.obj 25 [.p (QP p.globals),.p (.sl ((q7e p j).procs.map fun f => .agg f.cells))])]⟩) (fun j=>j<=(allR p).length) (fun j=>(allR p).length-j) 0 (Le.of_eq (by rw [z6c];rfl)) (zero_le _) ?_;intro j hj;rcases Nat.lt_or_ge j (allR p).length with hj2|hj2
    ·have hst:=z3m hc hj2;have hPo:=FH p (allR p)[j].s.id;have hL:=x5g p hf (YL p (allR p)[j].s.id).2.1;have hH:=NN (FL p (YL p (allR p)[j].s.id).2.1) (allR p)[j].s.id;have hPt:=NW (z3b (allR p)[j].s) (z8u hf hc hj2) (q7e p j) (z2g hf hc j).1 (z2g hf hc j).2.1 (z2g hf hc j).2.2;unfold q8u at hst;generalize q8b (FL p (YL p (allR p)[j].s.id).2.1) (allR p)[j].s.id=hv at *
     conv=>whnf
     repeat' (first|((first|(refine iM fun _=>?_)|refine dA ?_|refine And.intro rfl ?_|refine aD ?_|refine aR ?_|refine bP ?_|(refine iA fun _=>?_)|refine IdxK.xs (by omega) ?_|refine QF (by omega) ?_|(refine ByteK.at (by omega) ?_)|refine wI ?_|refine cP hPo ?_|refine cP hL ?_|refine cP hH ?_|(refine CallK.pure hPt (.cons (Sub.refl _) (.cons (Sub.agg (by repeat' (first|exact SubL.nil|refine SubL.cons ?_ ?_|exact Sub.refl _|exact Sub.nils))) .nil)) ?_;rintro _ rfl));conv=>whnf)|(apply bD<;>intro _<;>first|omega|conv=>whnf)|(apply bE<;>intro _<;>first|omega|conv=>whnf)|(apply bN<;>intro _<;>conv=>whnf)|(apply bB<;>intro _<;>conv=>whnf))
     all_goals first
      | (have e:q7e p (j+1)=q7e p j:=by rw [hst];simp [*]
         exact ⟨j+1,hj2,by omega,Le.of_eq (by rw [e];rfl)⟩)
      | (have e:q7e p (j+1)=z7z (z3b (allR p)[j].s) (q7e p j):=by rw [hst];simp [*]
         exact ⟨j+1,hj2,by omega,Le.of_eq (by rw [e];rfl)⟩)
    ·have hje:j=(allR p).length:=by omega
     have hq1:=w2w (P:=q8b (q5d p ((allR p).take j))) hf;have hq2:=x9r (P:=q8b (q5d p ((allR p).take j))) hc;have hC2:=ZD (q7e p j) hq1;rw [show XS (q7e p j)=true from hq2] at hC2;have hW1:=UR p hf hc tape (by omega) fuel hf0 (by omega) (by omega);have hQ:=fun M:Mc=>FA M.fin M.steps M.reads M.out M.trace;have hW2:=UR (q7e p j) hq1 hq2 tape (by omega) fuel hf0 (by omega) (by unfold q7e;rw [z9z hc];omega);conv=>whnf
     repeat' (first|((first|(refine iM fun _=>?_)|refine dA ?_|refine And.intro rfl ?_|refine aD ?_|refine aR ?_|refine bP ?_|(refine iA fun _=>?_)|refine IdxK.xs (by omega) ?_|refine QF (by omega) ?_|(refine ByteK.at (by omega) ?_)|refine wI ?_|refine cP hC2 ?_|(refine CallK.pure hW1 (.cons (Sub.refl _) (.cons (Sub.refl _) (.cons (Sub.refl _) .nil))) ?_;rintro _ ⟨n,M,hn,rfl⟩)|(refine CallK.pure hW2 (.cons (Sub.refl _) (.cons (Sub.refl _) (.cons (Sub.refl _) .nil))) ?_;rintro _ ⟨n2,M2,hn2,rfl⟩;obtain rfl:M2=M:=w1n hc (fun e he=>z8i hc he) tape hf0 hn hn2)|refine cP (hQ _) ?_);conv=>whnf)|(apply bD<;>intro _<;>first|omega|conv=>whnf)|(apply bE<;>intro _<;>first|omega|conv=>whnf)|(apply bN<;>intro _<;>conv=>whnf)|(apply bB<;>intro _<;>conv=>whnf)|(refine And.intro ?_ ?_<;>conv=>whnf))
     all_goals first
      | contradiction
      | (exfalso;simp_all;done)
      | exact ⟨_,.p (Sub.refl _),rfl⟩
   ·cases hs:q8i p 100;all_goals
     rw [hs] at hC hok;repeat' (first|((first|(refine iM fun _=>?_)|refine cP (VV _) ?_|refine dA ?_|refine And.intro rfl ?_|refine aD ?_|refine aR ?_|refine bP ?_|(refine iA fun _=>?_)|refine IdxK.xs (by omega) ?_|refine QF (by omega) ?_|(refine ByteK.at (by omega) ?_)|refine wI ?_|refine cP ZJ ?_|refine cP hC ?_);conv=>whnf)|(apply bD<;>intro _<;>first|omega|conv=>whnf)|(apply bE<;>intro _<;>first|omega|conv=>whnf)|(apply bN<;>intro _<;>conv=>whnf)|(apply bB<;>intro _<;>conv=>whnf))
     all_goals first
      | contradiction
      | exact ⟨_,.p (Sub.refl _),rfl⟩
      | exact absurd ⟨rfl,by omega,by omega,by omega⟩ hok
end Go.Ab
