/- The law of a program that may be: every step leads from a place to a place. -/
import Derived.Laws.StructEq
import Derived.ChangeKeysEq
import Derived.Test.YtkgbhpcfnpfpcaaGreatAuR7
import Derived.Test.YtkgbhpcfnpfpcaaGreatAuR9
import Derived.Test.YtkgbhpcfnpfpcaaGreatAuR10
import Derived.Test.YtkgbhpcfnpfpcaaGreatAuR13
import Derived.Test.YtkgbhpcfnpfpcaaGreatAuR15
set_option linter.unusedSimpArgs false
set_option linter.unusedVariables false
set_option maxRecDepth 100000
set_option maxHeartbeats 16000000
open List (Nodup drop_eq_nil_of_le foldl_cons getD_eq_getElem?_getD length_map mem_cons mem_cons_of_mem mem_cons_self nodup_append not_mem_nil pairwise_cons)
open Nat (zero_le)
namespace Go.Ab
open Go.Proofs
theorem QM {p:Pg} (h:ZB p=true):GD p=true∧(XQ p).1=0∧(VV p).1=0∧(MZ p).1=0∧(FE p).1=0:=by
 unfold ZB z6m at h;simp only [decide_eq_true_eq] at h;by_cases h1:GD p=false
 ·rw [if_pos h1] at h;cases h
 rw [if_neg h1] at h;by_cases h2:(XQ p).1=0
 ·rw [if_neg (by omega)] at h;by_cases h3:(VV p).1=0
  ·rw [if_neg (by omega)] at h;by_cases h4:(MZ p).1=0
   ·rw [if_neg (by omega)] at h;exact ⟨by simpa using h1,h2,h3,h4,h⟩
   ·rw [if_pos h4] at h;exact absurd h h4
  ·rw [if_pos h3] at h;exact absurd h h3
 ·rw [if_pos h2] at h;exact absurd h h2
theorem LH {f:Pr} : ∀ (l:List Item) (seen:List Str) {s:List Str},GM f l seen = .ok s -> ∀ it∈l,UA f it=true
 | [],_,_,_,it,h=>by cases h
 | a::r,seen,s,h,it,hi=>by
   rw [GM] at h;cases hj:UH seen a.s.labels with
   | none=>rw [hj] at h;cases h
   | some s1 =>
     rw [hj] at h;simp only at h;cases hl:UA f a with
     | false=>rw [hl] at h;cases h
     | true =>
       rw [hl,cond_true] at h;rcases List.mem_cons.1 hi with rfl|hi
       ·exact hl
       ·exact LH r s1 h it hi
theorem q2g {p:Pg} (hs:(XQ p).1=0) (h:(MZ p).1=0) {j:Nat} {f:Pr} (hj:p.procs[j]? = some f) : ∀ it∈itsOf p j f,UA f it=true:=by
 unfold MZ at h;rw [if_neg (by omega)] at h;have hn:(List.range p.procs.length).findSome? (YZ p)=none:=by
  cases hq:(List.range p.procs.length).findSome? (YZ p) with
  | none=>rfl
  | some a=>rw [hq] at h;cases h
 rw [List.findSome?_eq_none_iff] at hn;have hlt:j<p.procs.length:=(List.getElem?_eq_some_iff.1 hj).1;have:=hn j (List.mem_range.2 hlt);unfold YZ at this;rw [hj] at this;simp only at this;cases hr:GM f (itL (j:Nat) 0 (-1) 0 (QE p.procs j) f.body) [] with
 | error id=>rw [hr] at this;cases this
 | ok seen=>exact LH _ _ hr
mutual
theorem z5z : ∀ (t u v:S),u∈flS t->v∈u.thn∨v∈u.els->v∈flS t
 | .mk id kind labels name proc x has args thn els,u,v,h,hv=>by
   rw [flS] at h ⊢;rcases List.mem_cons.1 h with rfl|h
   ·refine mem_cons_of_mem _ (List.mem_append.2 ?_);rcases hv with hv|hv
    ·exact .inl (q4e thn v hv)
    ·exact .inr (q4e els v hv)
   ·rcases List.mem_append.1 h with h|h
    ·exact mem_cons_of_mem _ (List.mem_append.2 (.inl (MA thn u v h hv)))
    ·exact mem_cons_of_mem _ (List.mem_append.2 (.inr (MA els u v h hv)))
theorem MA : ∀ (l:List S) (u v:S),u∈flL l->v∈u.thn∨v∈u.els->v∈flL l
 | [],u,v,h,hv=>by rw [flL] at h;cases h
 | t::r,u,v,h,hv=>by
   rw [flL] at h ⊢;rcases List.mem_append.1 h with h|h
   ·exact List.mem_append.2 (.inl (z5z t u v h hv))
   ·exact List.mem_append.2 (.inr (MA r u v h hv))
end
theorem BC {p:Pg} {j:Nat} {f:Pr} {it:Item} (h:it∈itsOf p j f):it.s∈flL f.body:=by
 unfold itsOf at h;rw [<- BH (j:Nat) 0 (-1) 0 (QE p.procs j) f.body];exact List.mem_map.2 ⟨it,h,rfl⟩
theorem YG {p:Pg} (hm:GD p=true) {j:Nat} {f:Pr} (hj:p.procs[j]? = some f) {t:S} (h:t∈flL f.body):(QE p.procs j:Int)+1<=t.id∧t.id<=(QE p.procs j+QY f.body:Nat):=by
 have h1:=z2q hm hj;have h2:t.id∈q6n (QE p.procs j) (QY f.body):=by
  rw [<- h1];exact List.mem_map.2 ⟨t,h,rfl⟩
 have:=z4k h2;omega
theorem q0t {p:Pg} {j:Nat} {f:Pr} {it:Item} (h:it∈itsOf p j f):okI (QE p.procs j) (QE p.procs j+QY f.body) it.next∧(it.loop=0∨((QE p.procs j:Int)+1<=it.loop∧it.loop<=(QE p.procs j+QY f.body:Nat))) :=
 q5u (j:Nat) _ _ f.body 0 (-1) 0 _ it h (.inl rfl) (.inl rfl) (Nat.le_refl _) (Nat.le_refl _)
theorem KP {p:Pg} {j:Nat} {f:Pr} (hj:p.procs[j]? = some f) {k:Nat} (h1:QE p.procs j<=k) (h2:k<QE p.procs j+QY f.body) : ∃ it,(sheetOf p).l[k]? = some it∧it∈itsOf p j f:=by
 obtain ⟨_,_,_,hlen,hsp⟩:=QJ p;obtain ⟨_,_,hle,hd⟩:=hsp j f hj;have hk:k<(sheetOf p).l.length:=by omega
 refine ⟨(sheetOf p).l[k],List.getElem?_eq_getElem hk,?_⟩;unfold itsOf;rw [<- hd];refine List.mem_iff_getElem?.2 ⟨k-QE p.procs j,?_⟩;rw [List.getElem?_drop,List.getElem?_take,if_pos (by omega),show QE p.procs j+(k-QE p.procs j)=k by omega,List.getElem?_eq_getElem hk]
theorem z8o {p:Pg} (hm:GD p=true) {j:Nat} {f:Pr} (hj:p.procs[j]? = some f) {it:Item} (h:it∈itsOf p j f) (hl:UA f it=true) : ∀ x∈VH (sheetOf p) f it,okI (QE p.procs j) (QE p.procs j+QY f.body) x:=by
 obtain ⟨hnx,hlo⟩:=q0t h;have hs:=BC h;have hid:=YG hm hj hs;have hhead : ∀ (l:List S) (o:Int),(∀ v∈l,v∈it.s.thn∨v∈it.s.els)->okI (QE p.procs j) (QE p.procs j+QY f.body) o->okI (QE p.procs j) (QE p.procs j+QY f.body) (DQ l o):=fun l o hv ho=>by
  cases l with
  | nil=>exact ho
  | cons v r=>exact .inr (YG hm hj (MA f.body it.s v hs (hv v mem_cons_self)))
 have hloop:it.s.kind=7∨it.s.kind=8->(QE p.procs j:Int)+1<=it.loop∧it.loop<=(QE p.procs j+QY f.body:Nat):=fun hk=>by
  unfold UA at hl;rw [if_pos hk] at hl;rcases hlo with h0|h0
  ·rw [h0] at hl;cases hl
  ·exact h0
 intro x hx;unfold VH at hx;split at hx
 ·simp only [mem_cons,not_mem_nil,or_false] at hx;rcases hx with rfl|rfl
  ·exact hhead _ _ (fun v hv => .inl hv) hnx
  ·exact hhead _ _ (fun v hv => .inr hv) hnx
 split at hx
 ·simp only [mem_cons,not_mem_nil,or_false] at hx;rcases hx with rfl|rfl
  ·exact hhead _ _ (fun v hv => .inl hv) (.inr hid)
  ·exact hnx
 split at hx
 ·rename_i hk;have hlp:=hloop (.inl hk);obtain ⟨u,hu1,hu2⟩:=KP hj (k:=(it.loop-1).toNat) (by omega) (by omega);rw [hu1] at hx;rw [List.mem_singleton.1 hx];exact (q0t hu2).1
 split at hx
 ·rename_i hk;rw [List.mem_singleton.1 hx];exact .inr (hloop (.inr hk))
 split at hx
 ·rw [List.mem_singleton.1 hx];exact .inl rfl
 split at hx
 ·rename_i h7 h8 _ hk;rw [List.mem_singleton.1 hx];unfold UA at hl;rw [if_neg (by omega),if_pos hk] at hl;unfold atB at hl ⊢;split
  ·rename_i t ht;exact .inr (YG hm hj (List.mem_of_find?_eq_some ht))
  ·rename_i hn;rw [hn] at hl;simp only at hl;cases hfin:f.fin.any fun s=>it.s.name==s with
   | true=>exact .inl rfl
   | false=>rw [hfin] at hl;cases hl
 ·rw [List.mem_singleton.1 hx];exact hnx
theorem PB {p:Pg} (h:ZB p=true) {j:Nat} {f:Pr} (hj:p.procs[j]? = some f):(∀ it∈itsOf p j f,it.s.kind=7->1<=it.loop∧it.loop<=(sheetOf p).l.length) ∧
  (∀ s∈QF p j f,(s.src=0∨((QE p.procs j:Int)+1<=s.src∧s.src<=(QE p.procs j+QY f.body:Nat)))∧okI (QE p.procs j) (QE p.procs j+QY f.body) s.dst) ∧ ∀ s∈QF p j f,okSt s:=by
 obtain ⟨hm,hs,_,hjm,_⟩:=QM h;have hld:=q2g hs hjm hj;obtain ⟨_,_,_,hlen,hsp⟩:=QJ p;obtain ⟨_,_,hle,_⟩:=hsp j f hj;obtain ⟨_,_,hcn⟩:=WZ hm;have key : ∀ s∈QF p j f,(s.src=0∨((QE p.procs j:Int)+1<=s.src∧s.src<=(QE p.procs j+QY f.body:Nat)))∧okI (QE p.procs j) (QE p.procs j+QY f.body) s.dst:=fun s hx=>by
  unfold QF at hx;rcases List.mem_cons.1 hx with rfl|hx
  ·refine ⟨.inl rfl,?_⟩;show okI _ _ (if QE p.procs j<QE p.procs j+QY f.body then ((QE p.procs j:Nat)+1:Int) else -1);split
   ·exact .inr ⟨by omega,by omega⟩
   ·exact .inl rfl
  ·obtain ⟨it,hit,hz⟩:=List.mem_flatMap.1 hx;obtain ⟨y,hy,rfl⟩:=List.mem_map.1 hz;exact ⟨.inr (YG hm hj (BC hit)),z8o hm hj hit (hld it hit) y hy⟩
 refine ⟨fun it hit hk => ?_,key,fun s hx => ?_⟩
 ·have hl:=hld it hit;unfold UA at hl;rw [if_pos (.inl hk)] at hl;rcases (q0t hit).2 with h0|h0
  ·rw [h0] at hl;cases hl
  ·omega
 ·obtain ⟨h1,h2⟩:=key s hx;unfold okSt okI at *
  omega
def BK (p:Pg) (n:Str):Option Way:=bif ZB p then (match p.procs.find? (fun f=>f.name==n) with
 | some f=>some (QZ p (p.procs.findIdx fun f=>f.name==n) f)
 | none=>none) else none
def w5g:Option Way->AV
 | some w => .ip w.cells
 | none => .nilp
theorem YY {p:Pg} (h:ZB p=true):p.globals.length<=16∧p.procs.length<=16∧cntP p.procs<=200:=WZ (QM h).1
theorem x4x {p:Pg} {n:Str} (h : ¬n∈QD p):idxF (fun f=>f.name==n) p.procs = -1∧p.procs.find? (fun f=>f.name==n)=none:=by
 have h1:p.procs.any (fun f=>f.name==n)=false:=by
  rw [List.any_eq_false];intro f hf hn;exact h (List.mem_map.2 ⟨f,hf,by simpa using hn⟩)
 refine ⟨by unfold idxF;rw [h1];rfl,?_⟩;rw [List.find?_eq_none];intro f hf;have:=List.any_eq_false.1 h1 f hf;simpa using this
theorem q0m {p:Pg} {n:Str} (h:n∈QD p) : ∃ (k:Nat) (hk:k<p.procs.length),idxF (fun f=>f.name==n) p.procs=k∧p.procs.findIdx (fun f=>f.name==n)=k∧p.procs.find? (fun f=>f.name==n)=some p.procs[k]∧p.procs[k].name=n:=by
 obtain ⟨k,hk,h1,h2,h3⟩:=q7q h;refine ⟨k,hk,h1,?_,h2,h3⟩;unfold idxF at h1;cases ha:p.procs.any (fun f=>f.name==n) with
 | true=>rw [ha,cond_true] at h1;omega
 | false=>rw [ha,cond_false] at h1;omega
theorem x8y (p:Pg) (hf:Fit p) (n:Str):SpecP Tryz.prog 100 [.agg p.cells,.str n] (fun r=>r=w5g (BK p n)):=by
 refine sB z3j Tryz.func100 rfl Tryz.call100 ?_;conv=>whnf
 cases hc:ZB p with
 | false =>
   have e:BK p n=none:=by unfold BK;rw [hc];rfl
   have hA : ¬(z6m p).1=0:=by unfold ZB at hc;simpa using hc
   rw [e];repeat' (first|(refine cP (KM p hf) ?_;conv=>whnf)|(apply bE<;>intro _<;>first|omega|conv=>whnf))
   all_goals first
    | exact RetK.p rfl
    | (exfalso;exact hA (by assumption))
 | true =>
   obtain ⟨hg,hpl,hcn⟩:=YY hc;have hA:(z6m p).1=0:=by unfold ZB at hc;simpa using hc
   have hsp:(sheetOf p).p.procs=p.procs:=by rw [(QJ p).1]
   by_cases hn:n∈QD p
   ·obtain ⟨k,hk,h1,h2,h3,h4⟩:=q0m hn;have e:BK p n=some (QZ p k p.procs[k]):=by unfold BK;rw [hc,h3,h2];rfl
    have hkj:p.procs[k]? = some p.procs[k]:=by simp
    obtain ⟨w1,_,w3⟩:=PB hc hkj;rw [e];repeat' (first|((first|refine cP (KM p hf) ?_|refine cP (XO _ _) ?_|(refine CallK.pure (UI p (by omega) (by omega)) (.cons (Sub.refl _) .nil) ?_;rintro _ rfl)|(refine CallK.pure (z7g p k p.procs[k] hkj (by omega) w1 w3) (.cons (Sub.refl _) (.cons (Sub.int h1) .nil)) ?_;rintro _ rfl));conv=>whnf)|(apply bD<;>intro _<;>first|omega|conv=>whnf)|(apply bE<;>intro _<;>first|omega|conv=>whnf))
    all_goals rw [hsp] at *
    all_goals first
     | exact RetK.p rfl
     | (exfalso;omega)
   ·obtain ⟨h1,h2⟩:=x4x hn;have e:BK p n=none:=by unfold BK;rw [hc,h2];rfl
    rw [e];repeat' (first|((first|refine cP (KM p hf) ?_|refine cP (XO _ _) ?_|(refine CallK.pure (UI p (by omega) (by omega)) (.cons (Sub.refl _) .nil) ?_;rintro _ rfl));conv=>whnf)|(apply bD<;>intro _<;>first|omega|conv=>whnf)|(apply bE<;>intro _<;>first|omega|conv=>whnf))
    all_goals rw [hsp] at *
    all_goals first
     | exact RetK.p rfl
     | (exfalso;omega)
theorem DF {p:Pg} {n:Str} {w:Way} (h:BK p n=some w) : ∃ (k:Nat) (f:Pr),p.procs[k]? = some f∧w=QZ p k f∧ZB p=true∧f.name=n∧p.procs.find? (fun f=>f.name==n)=some f:=by
 unfold BK at h;cases hc:ZB p with
 | false=>rw [hc] at h;cases h
 | true =>
   rw [hc,cond_true] at h;by_cases hn:n∈QD p
   ·obtain ⟨k,hk,h1,h2,h3,h4⟩:=q0m hn;rw [h3,h2] at h;cases h;exact ⟨k,p.procs[k],by simp,rfl,rfl,h4,h3⟩
   ·rw [(x4x hn).2] at h;cases h
def w4w (p:Pg) (k:Nat) (f:Pr):Int:=if QE p.procs k<QE p.procs k+QY f.body then ((QE p.procs k:Nat)+1:Int) else -1
def XH (p:Pg) (j:Nat) (n i:Int):Int:=if i=0 then 0 else if i=n-1 then -1 else loI p j+i-1
theorem q6a (w:Way) (f:Pr) (hj:w.p.procs[w.j]? = some f) (hc:cntP w.p.procs<=1000) (hn:0<=w.n∧w.n<=5000) (i:Int) (hi:0<=i∧i<=5000):SpecP Tryz.prog 107 [.ip w.cells,.int .i64 i] (fun r=>r = .int .i64 (XH w.p w.j w.n i)):=by
 refine sB q0r Tryz.func107 rfl Tryz.call107 ?_;conv=>whnf
 obtain ⟨_,_,_,hlen,hsp⟩:=QJ w.p;obtain ⟨hlo,hhi,hle,_⟩:=hsp w.j f hj;repeat' (first|((first|refine dA ?_|refine wI ?_|(refine IdxK.at rfl (WF hlo) rfl ?_));conv=>whnf)|(apply bD<;>intro _<;>first|omega|conv=>whnf))
 all_goals exact RetK.int (by unfold XH loI;(repeat' split)<;>omega)
def z4l (p:Pg) (id:Int):Option S:=((sheetOf p).l[(id-1).toNat]?).map Item.s
def q9u (p:Pg) (some':List Str) (t:Step):Bool:=decide (t.src=0)||match z4l p t.src with
 | some s => !(decide (s.kind=4) && !(some'.any fun x=>s.proc==x))
 | none=>true
def x9p (w:Way) (f:Pr) (some':List Str):Bool :=
 (KW 0 (ZF (QI (QY f.body+2) ((w.real.filter (q9u w.p some')).map (ixP w.p w.j f w.n))).1 [0])).any fun s=>decide (w.n-1=s)
def q5k (p:Pg) (st:List Str×Bool) (k:Nat):List Str×Bool:=match p.procs[k]? with
 | some f=>bif !(st.1.any fun s=>f.name==s)&&x9p (QZ p k f) f st.1 then (st.1++[f.name],true) else st
 | none=>st
def q3m (p:Pg) (out:List Str):List Str×Bool:=(List.range p.procs.length).foldl (q5k p) (out,false)
def x2e (p:Pg):Nat->List Str->List Str
 | 0,out=>out
 | k+1,out=>bif (q3m p out).2 then x2e p k (q3m p out).1 else (q3m p out).1
def q0v (p:Pg) (out:List Str):Nat:=p.procs.countP fun f => !(out.any fun s=>f.name==s)
theorem q1d {α:Type} {p q:α->Bool} : ∀ {l:List α},(∀ x∈l,q x=true->p x=true)->(∃ x∈l,p x=true∧q x=false)->l.countP q<l.countP p
 | [],_,h=>by obtain ⟨x,hx,_⟩:=h;cases hx
 | a::r,h1,h2=>by
   have hle:r.countP q<=r.countP p:=List.countP_mono_left fun x hx=>h1 x (mem_cons_of_mem _ hx);rw [List.countP_cons,List.countP_cons];have ha:=h1 a mem_cons_self;obtain ⟨x,hx,h3,h4⟩:=h2;rcases List.mem_cons.1 hx with rfl|hx
   ·rw [h3,h4];simp;omega
   ·have:=q1d (fun y hy=>h1 y (mem_cons_of_mem _ hy)) ⟨x,hx,h3,h4⟩;cases hq:q a with
    | true=>rw [ha hq];simp;omega
    | false=>cases p a<;>simp<;>omega
theorem x8v {p:Pg} {out:List Str} {f:Pr} (hf:f∈p.procs) (h:(out.any fun s=>f.name==s)=false):q0v p (out++[f.name])<q0v p out:=by
 unfold q0v;refine q1d (fun g _ hg => ?_) ⟨f,hf,by rw [h];rfl,by rw [List.any_append];simp⟩;rw [List.any_append] at hg;cases hq:out.any fun s=>g.name==s with
 | false=>rfl
 | true=>rw [hq] at hg;cases hg
def endsR (p:Pg):List Str:=bif ZB p then YJ (x2e p (p.procs.length+1) []) else []
def NL (a b:Step):Prop:=XE a.src<XE b.src∨(XE a.src=XE b.src∧XE a.dst<XE b.dst)
def z2t (s:Step):Prop:=okSt s∧s.kind=1
theorem JV {a b:Step} (h1:a.src=b.src) (h2:a.dst=b.dst) (h3:a.kind=b.kind):a=b:=by
 cases a;cases b;simp_all
theorem YC {a b:Step}:JT a b=true↔XE a.src<XE b.src∨(XE a.src=XE b.src∧(XE a.dst<XE b.dst∨(XE a.dst=XE b.dst∧a.kind<b.kind))):=by
 have h:JT a b=decide (x1o a b<0):=rfl;rw [h,decide_eq_true_eq];unfold x1o;simp only [orI];split
 ·rename_i h1;rw [UV] at h1;split
  ·rename_i h2;rw [UV] at h2;split
   ·rename_i h3;rw [UV] at h3;omega
   ·rw [GW];omega
  ·rename_i h2;rw [UV] at h2;rw [GW];omega
 ·rename_i h1;rw [UV] at h1;rw [GW];omega
theorem DY (l:List Step):(VS l).Pairwise fun a b=>JT b a=false:=by
 have:=List.pairwise_mergeSort (le:=fun x y => !JT y x) (fun a b c h1 h2=>by
  simp only [Bool.not_eq_true'] at h1 h2 ⊢;rw [Bool.eq_false_iff,ne_eq,YC] at h1 h2 ⊢;omega) (fun a b=>by
  cases h1:JT b a with
  | false=>rfl
  | true =>
    have h2:JT a b=false:=by
     rw [Bool.eq_false_iff,ne_eq,YC];rw [YC] at h1;omega
    rw [h2];rfl) l
 refine List.Pairwise.imp ?_ this;intro a b h;simpa using h
theorem NV {a b:Step} (ha:z2t a) (hb:z2t b):XI a b=true↔a=b:=by
 unfold XI;simp only [Bool.and_eq_true,decide_eq_true_eq];refine ⟨fun h=>JV h.1 h.2 (by rw [ha.2,hb.2]),fun h=>by rw [h];exact ⟨rfl,rfl⟩⟩
theorem z7f {a b:Step} (ha:z2t a) (hb:z2t b) (h:JT b a=false) (hne:a≠b):NL a b:=by
 rw [Bool.eq_false_iff,ne_eq,YC] at h;unfold NL;by_cases h1:XE a.src=XE b.src
 ·by_cases h2:XE a.dst=XE b.dst
  ·exact absurd (JV (YD ha.1.1 hb.1.1 h1) (YD ha.1.2 hb.1.2 h2) (by rw [ha.2,hb.2])) hne
  ·omega
 ·omega
theorem PX {a b c:Step} (h:NL a b) (h':NL b c):NL a c:=by unfold NL at *;omega
theorem HK {a:Step} (h:NL a a):False:=by unfold NL at h;omega
theorem DH : ∀ (l:List Step) (a:Step),z2t a->(∀ s∈l,z2t s)->(a::l).Pairwise (fun a b=>JT b a=false)->(a::XZ a l).Pairwise NL ∧ ∀ s,s∈a::XZ a l↔s∈a::l
 | [],a,_,_,_=>⟨by simp [XZ],by simp [XZ]⟩
 | b::r,a,ha,hl,h=>by
   have hb:=hl b mem_cons_self;have hr : ∀ s∈r,z2t s:=fun s hs=>hl s (mem_cons_of_mem _ hs);rw [pairwise_cons] at h;obtain ⟨h1,h2⟩:=h;obtain ⟨i1,i2⟩:=DH r b hb hr h2;rw [XZ];cases hs:XI b a with
   | true =>
     obtain rfl:=(NV hb ha).1 hs;rw [cond_true];exact ⟨i1,fun s=>by rw [i2];simp⟩
   | false =>
     rw [cond_false];have hne:a≠b:=fun e=>by
      rw [(NV hb ha).2 e.symm] at hs;cases hs
     have hlt:=z7f ha hb (h1 b mem_cons_self) hne;refine ⟨?_,fun s=>by rw [mem_cons,i2,<- mem_cons (a:=s) (b:=a)]⟩;rw [pairwise_cons];refine ⟨fun s hsm => ?_,i1⟩;rcases List.mem_cons.1 hsm with rfl|hsm
     ·exact hlt
     ·exact PX hlt ((List.pairwise_cons.1 i1).1 s hsm)
theorem x7m {l:List Step} (hok : ∀ s∈l,z2t s):(WQ l).Pairwise NL ∧ ∀ s,s∈WQ l↔s∈l:=by
 have hp : ∀ s,s∈VS l↔s∈l:=fun s=>(q0y l).mem_iff;have hs:=DY l;unfold WQ;cases hq:VS l with
 | nil =>
   rw [hq] at hp;exact ⟨by simp [HP],fun s=>by rw [<- hp];simp [HP]⟩
 | cons a r =>
   rw [hq] at hp hs;have hok' : ∀ s∈a::r,z2t s:=fun s h=>hok s ((hp s).1 h);obtain ⟨h1,h2⟩:=DH r a (hok' a mem_cons_self) (fun s h=>hok' s (mem_cons_of_mem _ h)) hs;exact ⟨h1,fun s=>by rw [HP,h2,hp]⟩
theorem q4g : ∀ {l m:List Step},l.Pairwise NL->m.Pairwise NL->(∀ s,s∈l↔s∈m)->l=m
 | [],[],_,_,_=>rfl
 | [],b::m,_,_,h=>by have:=(h b).2 mem_cons_self;cases this
 | a::l,[],_,_,h=>by have:=(h a).1 mem_cons_self;cases this
 | a::l,b::m,hl,hm,h=>by
   rw [pairwise_cons] at hl hm;have hab:a=b:=by
    rcases List.mem_cons.1 ((h a).1 mem_cons_self) with e|ha
    ·exact e
    ·rcases List.mem_cons.1 ((h b).2 mem_cons_self) with e|hb
     ·exact e.symm
     ·exact (HK (PX (hl.1 b hb) (hm.1 a ha))).elim
   subst hab;congr 1;refine q4g hl.2 hm.2 fun s=>⟨fun hs => ?_,fun hs => ?_⟩
   ·rcases List.mem_cons.1 ((h s).1 (mem_cons_of_mem _ hs)) with rfl|h'
    ·exact (HK (hl.1 _ hs)).elim
    ·exact h'
   ·rcases List.mem_cons.1 ((h s).2 (mem_cons_of_mem _ hs)) with rfl|h'
    ·exact (HK (hm.1 _ hs)).elim
    ·exact h'
theorem q7t {p:Pg} (h:ZB p=true) {j:Nat} {f:Pr} (hj:p.procs[j]? = some f) : ∀ s∈QF p j f,z2t s:=by
 obtain ⟨_,_,h3⟩:=PB h hj;intro s hs;refine ⟨h3 s hs,?_⟩;unfold QF at hs;rcases List.mem_cons.1 hs with rfl|hs
 ·rfl
 ·obtain ⟨it,_,hz⟩:=List.mem_flatMap.1 hs;obtain ⟨y,_,rfl⟩:=List.mem_map.1 hz;rfl
theorem FC {p:Pg} (h:ZB p=true) {j:Nat} {f:Pr} (hj:p.procs[j]? = some f):(QZ p j f).real.Pairwise NL ∧ ∀ s,s∈(QZ p j f).real↔s∈QF p j f:=x7m (q7t h hj)
def z6p (p:Pg):Bool:=decide (gPg p<=20000)
theorem z9c {p:Pg} (h:z6p p=true):Fit p:=by
 have:=w2i p;have h1:gPg p<=20000:=by simpa [z6p] using h
 unfold Fit;omega
theorem WA (p:Pg):SpecP Tryz.prog 16 [.agg p.cells] (fun r=>r = .bool (z6p p)):=by
 refine sB HY Tryz.func16 rfl Tryz.call16 ?_;conv=>whnf
 have hl:(p.procs.map fun f=>AV.agg f.cells).length=p.procs.length:=length_map _;have q0:=XN (a:=0+GS p.globals) (by omega);repeat' (refine CallK.pure (XF p.globals 0 (by omega)) (.cons (Sub.refl _) (.cons (Sub.refl _) .nil)) ?_;rintro _ rfl;conv=>whnf)
 refine LoopK.inv QU (fun y:Nat×Int=>⟨[(1,.p (.ip p.cells)),(3,.p (.int .i64 y.2)),(4,.p (.int .i64 y.1))],[]⟩) (fun y=>y.1<=p.procs.length∧(0<=y.2∧y.2<=20001)∧XW (y.2+x1f (p.procs.drop y.1))=XW (gPg p:Nat)) (fun y=>p.procs.length-y.1) (0,XW (0+GS p.globals)) (Le.of_eq rfl) ⟨zero_le _,q0,by
  show XW (XW (0+GS p.globals)+x1f p.procs)=_;rw [XR (by omega)];congr 1;unfold gPg;omega⟩ ?_
 rintro ⟨j,m⟩ ⟨h2,h3,h4⟩;simp only at h2 h3 h4 ⊢;have last : ∀ {x:Int},0<=x∧x<=20001->XW x=XW (gPg p:Nat)->(decide (x<=20000))=z6p p:=fun {x} hx h=>by
  unfold z6p;unfold XW at h;by_cases h1:gPg p<=20000
  ·rw [decide_eq_true h1,decide_eq_true_eq];split at h<;>split at h<;>omega
  ·rw [decide_eq_false h1,decide_eq_false_iff_not];split at h<;>split at h<;>omega
 rcases Nat.lt_or_ge j p.procs.length with hj|hj;rotate_left 1
 ·rw [drop_eq_nil_of_le hj,x1f] at h4;conv=>whnf
  repeat' (first|(refine iM fun _=>?_;conv=>whnf)|(apply bD<;>intro _<;>first|omega|conv=>whnf))
  all_goals exact RetK.bool (last h3 (by rw [<- h4];simp))
 rw [List.drop_eq_getElem_cons hj,x1f] at h4;have hpe:gPr p.procs[j]=1+p.procs[j].name.length+GS p.procs[j].vars+GS p.procs[j].fin+z2n p.procs[j].params+gL p.procs[j].body:=rfl;have q1:=XN (a:=m+(1+p.procs[j].name.length:Nat)) (by omega);have q2:=XN (a:=XW (m+(1+p.procs[j].name.length:Nat))+GS p.procs[j].vars) (by omega);have q3:=XN (a:=XW (XW (m+(1+p.procs[j].name.length:Nat))+GS p.procs[j].vars)+GS p.procs[j].fin) (by omega);conv=>whnf
 repeat' (first|((first|(refine iM fun _=>?_)|refine dA ?_|refine And.intro rfl ?_|(refine iA fun _=>?_)|refine cP (QN p.procs[j].name _ h3) ?_|refine cP (XF p.procs[j].vars _ q1) ?_|refine cP (XF p.procs[j].fin _ q2) ?_);conv=>whnf)|(apply bD<;>intro _<;>first|omega|conv=>whnf))
 rotate_left 1
 ·exact RetK.bool (last h3 (by rw [<- h4,<- VW (by omega) h3.2 (by omega),q6p h3.2]))
 have h5:XW (XW (XW (XW (m+(1+p.procs[j].name.length:Nat))+GS p.procs[j].vars)+GS p.procs[j].fin)+(z2n p.procs[j].params+(gL p.procs[j].body+x1f (p.procs.drop (j+1))):Nat))=XW (gPg p:Nat):=by
  rw [XR (by omega),Int.add_assoc,XR (by omega),Int.add_assoc,XR (by omega),<- h4,hpe];congr 1;omega
 generalize XW (XW (XW (m+(1+p.procs[j].name.length:Nat))+GS p.procs[j].vars)+GS p.procs[j].fin)=m0 at q3 h5 ⊢;have hal:(p.procs[j].params.map fun a=>AV.agg a.cells).length=p.procs[j].params.length:=length_map _;refine LoopK.inv QU (fun y:Nat×Int=>⟨[(1,.p (.ip p.cells)),(3,.p (.int .i64 y.2)),(4,.p (.int .i64 j)),(5,.p (.ip p.procs[j].cells)),(6,.p (.int .i64 y.1))],[]⟩) (fun y=>y.1<=p.procs[j].params.length∧(0<=y.2∧y.2<=20001)∧XW (y.2+(z2n (p.procs[j].params.drop y.1)+(gL p.procs[j].body+x1f (p.procs.drop (j+1))):Nat))=XW (gPg p:Nat)) (fun y=>p.procs[j].params.length-y.1) (0,m0) (Le.of_eq rfl) ⟨zero_le _,q3,h5⟩ ?_;rintro ⟨a,m2⟩ ⟨h6,h7,h8⟩;simp only at h6 h7 h8 ⊢;have fin:XW (m2+(gL p.procs[j].body+x1f (p.procs.drop (j+1)):Nat))=XW (gPg p:Nat)->(0<=XW (m2+gL p.procs[j].body)∧XW (m2+gL p.procs[j].body)<=20001)∧XW (XW (m2+gL p.procs[j].body)+x1f (p.procs.drop (j+1)))=XW (gPg p:Nat):=fun h=>by
  refine ⟨XN (by omega),?_⟩;rw [XR (by omega),<- h];congr 1;omega
 have full:m2>20000->XW (m2+(gL p.procs[j].body+x1f (p.procs.drop (j+1)):Nat))=XW (gPg p:Nat):=fun h=>by
  rw [<- h8,<- VW h h7.2 (by omega),<- VW h h7.2 (by omega)]
 rcases Nat.lt_or_ge a p.procs[j].params.length with ha|ha;rotate_left 1
 ·have h9:XW (m2+(gL p.procs[j].body+x1f (p.procs.drop (j+1)):Nat))=XW (gPg p:Nat):=by
   rw [drop_eq_nil_of_le ha,z2n,Nat.zero_add] at h8;exact h8
  obtain ⟨f1,f2⟩:=fin h9;conv=>whnf
  repeat' (first|((first|(refine iM fun _=>?_)|refine wI ?_|(refine CallK.pure (WP (gL p.procs[j].body+1) p.procs[j].body (by omega) m2 h7) (.cons (Sub.refl _) (.cons (Sub.refl _) .nil)) ?_;rintro _ rfl));conv=>whnf)|(apply bD<;>intro _<;>first|omega|conv=>whnf))
  all_goals exact ⟨(j+1,XW (m2+gL p.procs[j].body)),⟨by simp only;omega,f1,f2⟩,by simp only;omega,Le.of_eq rfl⟩
 rw [List.drop_eq_getElem_cons ha,z2n] at h8;conv=>whnf
 repeat' (first|((first|(refine iM fun _=>?_)|(refine iA fun _=>?_)|refine wI ?_|refine cP (QN p.procs[j].params[a].name _ h7) ?_|(refine CallK.pure (WP (gL p.procs[j].body+1) p.procs[j].body (by omega) m2 h7) (.cons (Sub.refl _) (.cons (Sub.refl _) .nil)) ?_;rintro _ rfl));conv=>whnf)|(apply bD<;>intro _<;>first|omega|conv=>whnf))
 ·have h10:XW (XW (m2+(1+p.procs[j].params[a].name.length:Nat))+(z2n (p.procs[j].params.drop (a+1))+(gL p.procs[j].body+x1f (p.procs.drop (j+1))):Nat))=XW (gPg p:Nat):=by
   rw [XR (by omega),<- h8];congr 1;omega
  exact ⟨(a+1,XW (m2+(1+p.procs[j].params[a].name.length:Nat))),⟨by simp only;omega,XN (by omega),h10⟩,by simp only;omega,Le.of_eq rfl⟩
 ·obtain ⟨f1,f2⟩:=fin (full (by omega));exact ⟨(j+1,XW (m2+gL p.procs[j].body)),⟨by simp only;omega,f1,f2⟩,by simp only;omega,Le.of_eq rfl⟩
inductive SubE:List AV->List AV->Prop
 | nil:SubE [] []
 | cons {a b:AV} {xs ys:List AV} (h:SubL a.cells b.cells) (hs:SubE xs ys):SubE (a::xs) (b::ys)
theorem SubE.get {xs ys:List AV} (h:SubE xs ys):xs.length=ys.length ∧ ∀ (i:Nat) (b:AV),ys[i]? = some b -> ∃ a,xs[i]? = some a∧SubL a.cells b.cells:=by
 induction h with
 | nil=>exact ⟨rfl,by simp⟩
 | cons h hs ih =>
   refine ⟨by simp [ih.1],fun i b hb => ?_⟩;cases i with
   | zero=>simp at hb;subst hb;exact ⟨_,rfl,h⟩
   | succ i=>exact ih.2 i b (by simpa using hb)
theorem Sub.sl {xs ys:List AV} (h:SubE xs ys):Sub (.sl xs) (.sl ys):=fun σ v hr=>by
 obtain ⟨hl,hg⟩:=h.get;cases hr with
 | nilsl =>
   obtain rfl:ys=[]:=by simpa using hl.symm
   exact .nilsl
 | slz b =>
   obtain rfl:ys=[]:=by simpa using hl.symm
   exact .slz b
 | sl _ b off cap sz cells u hb hcap hmax hsz hc hrr =>
   rw [hl];refine .sl ys b off cap sz cells u hb (by omega) hmax (fun i e hi => ?_) (fun i e j c hi hj => ?_) (fun i e j c hi hj => ?_)
   ·obtain ⟨a,h1,h2⟩:=hg i e hi;rw [<- hsz i a h1,h2.1]
   ·obtain ⟨a,h1,h2⟩:=hg i e hi;obtain ⟨d,h3,_⟩:=h2.get hj;exact hc i a j d h1 h3
   ·obtain ⟨a,h1,h2⟩:=hg i e hi;obtain ⟨d,h3,h4⟩:=h2.get hj;exact h4 _ _ (hrr i a j d h1 h3)
theorem MH (n:Int):SpecP Tryz.prog 125 [.int .i64 n] (fun r=>r = .agg (X.mk 1 n [] []).cells):=by
 refine sB DK Tryz.func125 rfl Tryz.call125 ?_;conv=>whnf
 repeat' (refine And.intro rfl ?_;conv=>whnf)
 exact ⟨_,.p (Sub.agg (by repeat' (first|exact SubL.nil|refine SubL.cons ?_ ?_|exact Sub.refl _|exact Sub.nils|exact Sub.ff rfl))),rfl⟩
theorem PA (s:Str):SpecP Tryz.prog 126 [.str s] (fun r=>r = .agg (X.mk 2 0 s []).cells):=by
 refine sB HI Tryz.func126 rfl Tryz.call126 ?_;conv=>whnf
 repeat' (refine And.intro rfl ?_;conv=>whnf)
 exact ⟨_,.p (Sub.agg (by repeat' (first|exact SubL.nil|refine SubL.cons ?_ ?_|exact Sub.refl _|exact Sub.nils|exact Sub.ff rfl))),rfl⟩
theorem JL (op:Int) (a b:X):SpecP Tryz.prog 127 [.int .i64 op,.agg a.cells,.agg b.cells] (fun r=>r = .agg (X.mk op 0 [] [a,b]).cells):=by
 refine sB DJ Tryz.func127 rfl Tryz.call127 ?_;conv=>whnf
 repeat' ((first|refine And.intro rfl ?_|refine aD ?_|refine BJ rfl rfl ?_);conv=>whnf)
 have e:X.avs [a,b]=[.agg a.cells,.agg b.cells]:=by simp only [X.avs,X.av_eq]
 exact ⟨_,.p (Sub.agg (SubL.cons (Sub.refl _) (SubL.cons (Sub.refl _) (SubL.cons (Sub.refl _) (SubL.cons (Sub.of_eq (by show _=AV.sl (X.avs [a,b]);rw [e];rfl)) SubL.nil))))),rfl⟩
def bs (l:List Nat):Str:=l.map fun n=>UInt8.ofNat n
def someP:Pg:=⟨[[103]],[
 ⟨[109,97,105,110],[],[[118]],[
   .mk 1 1 [] [118] [] (.mk 1 2 [] []) false [] [] [],
   .mk 2 4 [] [103] [112] (.mk 0 0 [] []) false [⟨false,[],.mk 1 3 [] []⟩,⟨true,[118],.mk 0 0 [] []⟩] [] [],
   .mk 3 3 [] [] [] (.mk 2 0 [118] []) false [] [] [],
   .mk 4 3 [] [] [] (.mk 2 0 [103] []) false [] [] []],[]⟩,
 ⟨[112],[⟨[120],false⟩,⟨[121],true⟩],[],[
   .mk 5 1 [] [121] [] (.mk 8 0 [] [.mk 2 0 [121] [],.mk 2 0 [120] []]) false [] [] [],
   .mk 6 5 [] [] [] (.mk 12 0 [] [.mk 2 0 [121] [],.mk 1 9 [] []]) false [] [.mk 7 10 [] [101] [] (.mk 0 0 [] []) false [] [] []] [],
   .mk 8 9 [] [] [] (.mk 2 0 [121] []) true [] [] []],[[101]]⟩]⟩
theorem PR:SpecP Tryz.prog 72 [] (fun r=>r = .agg someP.cells):=by
 refine sB FV Tryz.func72 rfl Tryz.call72 ?_;conv=>whnf
 repeat' ((first|refine cP (MH _) ?_|refine cP (PA _) ?_|refine And.intro rfl ?_|refine aD ?_|refine bP ?_|refine BJ rfl rfl ?_|refine cP (JL 8 (.mk 2 0 [121] []) (.mk 2 0 [120] [])) ?_|refine cP (JL 12 (.mk 2 0 [121] []) (.mk 1 9 [] [])) ?_);conv=>whnf)
 exact ⟨_,.p (Sub.agg (by repeat' (first|exact SubL.nil|exact SubE.nil|exact Sub.nils|exact Sub.ff rfl|exact Sub.tt rfl|refine SubL.cons ?_ ?_|refine SubE.cons ?_ ?_|exact Sub.refl _|refine Sub.agg ?_|refine Sub.sl ?_))),rfl⟩
theorem q4s:Fit someP:=by unfold Fit;decide
theorem x3m:ZB someP=true:=by kernel_rfl
def f0:Pr:=someP.procs[0]'(by decide)
def f1:Pr:=someP.procs[1]'(by decide)
theorem w3a:WQ (QF someP 0 f0)=[⟨0,1,1⟩,⟨1,2,1⟩,⟨2,3,1⟩,⟨3,4,1⟩,⟨4,-1,1⟩]:=by
 have h1:QF someP 0 f0=[⟨0,1,1⟩,⟨1,2,1⟩,⟨2,3,1⟩,⟨3,4,1⟩,⟨4,-1,1⟩]:=by kernel_rfl
 unfold WQ VS;rw [h1,List.mergeSort_of_pairwise (by decide)];rfl
theorem w3s:WQ (QF someP 1 f1)=[⟨0,5,1⟩,⟨5,6,1⟩,⟨6,7,1⟩,⟨6,8,1⟩,⟨7,-1,1⟩,⟨8,-1,1⟩]:=by
 have h1:QF someP 1 f1=[⟨0,5,1⟩,⟨5,6,1⟩,⟨6,7,1⟩,⟨6,8,1⟩,⟨7,-1,1⟩,⟨8,-1,1⟩]:=by kernel_rfl
 unfold WQ VS;rw [h1,List.mergeSort_of_pairwise (by decide)];rfl
theorem x4w:BK someP [112]=some (QZ someP 1 f1):=by
 unfold BK;rw [x3m];rfl
def x1z (n k:Int):Int:=if k<1 then 0 else if n.tmod k<0 then n.tmod k+k else n.tmod k
theorem q4m {n k:Int} (hk:0<k):0<=x1z n k∧x1z n k<k:=by
 unfold x1z;have h1:=Int.tmod_lt_of_pos n hk;have h2 : -k<n.tmod k:=by
  rcases Int.le_total 0 n with h|h
  ·have:=Int.tmod_nonneg k h;omega
  ·have h3:=Int.tmod_lt_of_pos (-n) hk;rw [Int.neg_tmod] at h3;omega
 rw [if_neg (by omega)];split<;>omega
theorem NA (n k:Int) (hk:k<=1000000):SpecP Tryz.prog 66 [.int .i64 n,.int .i64 k] (fun r=>r = .int .i64 (x1z n k)):=by
 refine sB DD Tryz.func66 rfl Tryz.call66 ?_;conv=>whnf
 have h1:=fun h:0<k=>q4m (n:=n) h;repeat' (first|(refine And.intro (by omega) ?_;conv=>whnf)|(apply bD<;>intro _<;>first|omega|conv=>whnf))
 all_goals first
  | (refine Wr.i64 (by have:=h1 (by omega);unfold x1z at this;rw [if_neg (by omega),if_pos (by assumption)] at this;omega) (by have:=h1 (by omega);unfold x1z at this;rw [if_neg (by omega),if_pos (by assumption)] at this;omega) ?_
     conv=>whnf
     exact RetK.int (by unfold x1z;rw [if_neg (by assumption),if_pos (by assumption)]))
  | exact RetK.int (by unfold x1z;rw [if_pos (by assumption)])
  | exact RetK.int (by unfold x1z;rw [if_neg (by assumption),if_neg (by assumption)])
def z9u (l:List Int) (x:Int):Bool:=l.any fun y=>decide (x=y)
def UP (p:Pg) (n:Int):Str:=match p.procs[(x1z n p.procs.length).toNat]? with
 | some f=>f.name
 | none=>[]
theorem FW (p:Pg) (n:Int) (hp:p.procs.length<=20000):SpecP Tryz.prog 19 [.agg p.cells,.int .i64 n] (fun r=>r = .str (UP p n)):=by
 refine sB KQ Tryz.func19 rfl Tryz.call19 ?_;conv=>whnf
 have hl:(p.procs.map fun f=>AV.agg f.cells).length=p.procs.length:=length_map _;have hr:=fun h:0<(p.procs.length:Int)=>q4m (n:=n) h;repeat' (first|((first|(refine iM fun _=>?_)|refine dA ?_|(refine CallK.pure (NA n (p.procs.length:Int) (by omega)) (.cons (Sub.refl _) (.cons (Sub.int (by omega)) .nil)) ?_;rintro _ rfl));conv=>whnf)|(apply bD<;>intro _<;>first|omega|conv=>whnf))
 ·refine RetK.p ?_;have h0:p.procs=[]:=List.length_eq_zero_iff.1 (by omega);unfold UP;rw [h0];rfl
 ·obtain ⟨h1,h2⟩:=hr (by omega);have hlt:(x1z n p.procs.length).toNat<p.procs.length:=by omega
  refine IdxK.at (k:=(x1z n p.procs.length).toNat) (e := .agg p.procs[(x1z n p.procs.length).toNat].cells) (by omega) (by rw [List.getElem?_map,List.getElem?_eq_getElem hlt];rfl) rfl ?_;conv=>whnf
  skip
  exact RetK.p (by unfold UP;rw [List.getElem?_eq_getElem hlt])
def w4v (a b:Int):Bool:=bif decide (a = -1)||decide (b = -1) then decide (b = -1) && !decide (a = -1) else decide (a<b)
theorem q9d {α β:Type} {f:α->β} : ∀ {l:List α},(l.map f).Nodup -> ∀ a∈l,∀ b∈l,f a=f b->a=b
 | [],_,a,ha,_,_,_=>by cases ha
 | c::r,h,a,ha,b,hb,e=>by
   rw [List.map_cons,List.nodup_cons] at h;rcases List.mem_cons.1 ha with ha1|ha1
   ·rcases List.mem_cons.1 hb with hb1|hb1
    ·rw [ha1,hb1]
    ·exact (h.1 (List.mem_map.2 ⟨b,hb1,by rw [<- e,ha1]⟩)).elim
   ·rcases List.mem_cons.1 hb with hb1|hb1
    ·exact (h.1 (List.mem_map.2 ⟨a,ha1,by rw [e,hb1]⟩)).elim
    ·exact q9d h.2 a ha1 b hb1 e
theorem x0q {α:Type} [DecidableEq α] : ∀ {l m:List α},l.Nodup->(∀ s∈l,s∈m)->l.length<=m.length
 | [],m,_,_=>zero_le _
 | a::r,m,h,hs=>by
   rw [List.nodup_cons] at h;have ha:=hs a mem_cons_self;have h1:=x0q (m:=m.erase a) h.2 fun s hsr=>(List.mem_erase_of_ne (fun e=>h.1 (by rw [<- e];exact hsr))).2 (hs s (mem_cons_of_mem _ hsr));rw [List.length_erase_of_mem ha] at h1;have:=List.length_pos_of_mem ha;simp only [List.length_cons];omega
theorem x5t (n c:Nat):(q6n n c).Nodup:=by
 unfold q6n Nodup;rw [List.pairwise_map];exact List.Pairwise.imp (fun h e=>h (by omega)) (List.nodup_range' (s:=n+1) (n:=c) (step:=1))
theorem z1i {p:Pg} (hm:GD p=true) {j:Nat} {f:Pr} (hj:p.procs[j]? = some f):(itsOf p j f).map (fun it=>it.s.id)=q6n (QE p.procs j) (QY f.body):=by
 rw [<- z2q hm hj,<- BH (j:Nat) 0 (-1) 0 (QE p.procs j) f.body,List.map_map];rfl
theorem z6e {p:Pg} (hm:GD p=true) {j:Nat} {f:Pr} (hj:p.procs[j]? = some f) {a b:Item} (ha:a∈itsOf p j f) (hb:b∈itsOf p j f) (h:a.s.id=b.s.id):a=b :=
 q9d (f:=fun it:Item=>it.s.id) (by rw [z1i hm hj];exact x5t _ _) a ha b hb h
theorem z8e {p:Pg} {j:Nat} {f:Pr} {t:S} (h:t∈flL f.body) : ∃ it∈itsOf p j f,it.s=t:=by
 rw [<- BH (j:Nat) 0 (-1) 0 (QE p.procs j) f.body] at h;obtain ⟨it,h1,h2⟩:=List.mem_map.1 h;exact ⟨it,h1,h2⟩
inductive Rch {α:Type} (R:α->α->Prop) (a:α):α->Prop
 | refl:Rch R a a
 | tail {b c:α} (h:Rch R a b) (hr:R b c):Rch R a c
theorem Rch.trans {α:Type} {R:α->α->Prop} {a b c:α} (h:Rch R a b) (h':Rch R b c):Rch R a c:=by
 induction h' with
 | refl=>exact h
 | tail _ hr ih=>exact .tail ih hr
theorem Rch.head {α:Type} {R:α->α->Prop} {a b c:α} (hr:R a b) (h:Rch R b c):Rch R a c:=Rch.trans (.tail .refl hr) h
theorem Rch.mono {α:Type} {R R':α->α->Prop} (h : ∀ x y,R x y->R' x y) {a b:α} (hr:Rch R a b):Rch R' a b:=by
 induction hr with
 | refl=>exact .refl
 | tail _ hr ih=>exact .tail ih (h _ _ hr)
theorem Rch.closed {α:Type} {R:α->α->Prop} {S:α->Prop} (hS : ∀ x y,S x->R x y->S y) {a b:α} (ha:S a) (h:Rch R a b):S b:=by
 induction h with
 | refl=>exact ha
 | tail _ hr ih=>exact hS _ _ ih hr
structure WkM (n:Nat) (st:List Bool×List Int):Prop where
 inv:wkInv n st
 mem : ∀ x,x∈st.2↔(0<=x∧x<n)∧st.1.getD x.toNat false=true
theorem WkM.start (n:Nat):WkM n (List.replicate n false,[]):=⟨HA n,fun x=>by
 simp only [not_mem_nil,false_iff,not_and];intro _;rw [getD_eq_getElem?_getD,List.getElem?_replicate];split<;>simp⟩
theorem WkM.see {n:Nat} {st:List Bool×List Int} (h:WkM n st) {b:Int} (hb:0<=b∧b<n):WkM n (UE st b)∧(∀ x,x∈(UE st b).2↔x∈st.2∨x=b)∧st.2 <+: (UE st b).2:=by
 have hi:=DM h.inv hb;cases hs:st.1.getD b.toNat false with
 | true =>
   have e:UE st b=st:=by unfold UE;rw [hs];rfl
   rw [e];refine ⟨h,fun x=>⟨.inl,fun hx => ?_⟩,List.prefix_refl _⟩;rcases hx with hx|rfl
   ·exact hx
   ·exact (h.mem _).2 ⟨hb,hs⟩
 | false =>
   have e:UE st b=(st.1.set b.toNat true,st.2++[b]):=by unfold UE;rw [hs];rfl
   rw [e] at hi ⊢;have hlen:=h.inv.1;refine ⟨⟨hi,fun x => ?_⟩,fun x=>by simp,List.prefix_append _ _⟩;rw [List.mem_append,List.mem_singleton,h.mem];simp only [getD_eq_getElem?_getD,List.getElem?_set];by_cases hx:x=b
   ·subst hx;rw [if_pos rfl,if_pos (by omega)];simp [hb]
   ·constructor
    ·rintro (⟨h1,h2⟩|h2)
     ·refine ⟨h1,?_⟩;rw [if_neg (by omega)];exact h2
     ·exact absurd h2 hx
    ·rintro ⟨h1,h2⟩;rw [if_neg (by omega)] at h2;exact .inl ⟨h1,h2⟩
theorem WkM.fold {n:Nat} : ∀ (l:List Int) {st:List Bool×List Int},WkM n st->(∀ b∈l,0<=b∧b<n)->WkM n (l.foldl UE st)∧(∀ x,x∈(l.foldl UE st).2↔x∈st.2∨x∈l)∧st.2 <+: (l.foldl UE st).2
 | [],st,h,_=>⟨h,fun x=>by simp,List.prefix_refl _⟩
 | b::r,st,h,hl=>by
   obtain ⟨h1,h2,h3⟩:=h.see (hl b mem_cons_self);obtain ⟨h4,h5,h6⟩:=WkM.fold r h1 fun c hc=>hl c (mem_cons_of_mem _ hc);refine ⟨h4,fun x => ?_,h3.trans h6⟩;rw [foldl_cons,h5,h2,mem_cons,or_assoc]
def q7v (rows:List (List Int)) (x y:Int):Prop:=y∈rows.getD x.toNat []
theorem KT {n:Nat} {rows:List (List Int)} (hr:XJ n rows) {x y:Int} (h:q7v rows x y):0<=y∧y<n:=by
 unfold q7v at h;rw [getD_eq_getElem?_getD] at h;cases hq:rows[x.toNat]? with
 | none=>rw [hq] at h;simp at h
 | some r=>rw [hq] at h;exact hr.2 r (List.mem_of_getElem? hq) y h
theorem q2i {α:Type} {l m:List α} (h:l <+: m) {i:Nat} {a:α} (ha:l[i]? = some a):m[i]? = some a:=by
 obtain ⟨t,rfl⟩:=h;rw [List.getElem?_append_left (List.getElem?_eq_some_iff.1 ha).1];exact ha
theorem LT {n:Nat} {rows:List (List Int)} (hr:XJ n rows) : ∀ (k i:Nat) {st:List Bool×List Int},WkM n st->i<=st.2.length->n+1<=k+i->(∀ (m:Nat) (a:Int),m<i->st.2[m]? = some a -> ∀ b,q7v rows a b->b∈st.2) ->
  WkM n (XS rows k i st)∧(∀ x∈st.2,x∈(XS rows k i st).2)∧(∀ x∈(XS rows k i st).2,∀ b,q7v rows x b->b∈(XS rows k i st).2)∧(∀ S:Int->Prop,(∀ x∈st.2,S x)->(∀ x b,S x->q7v rows x b->S b) -> ∀ x∈(XS rows k i st).2,S x)
 | 0,i,st,h,hi,hk,_=>by
   have:=KG h.inv;omega
 | k+1,i,st,h,hi,hk,hc=>by
   rw [XS];split
   ·rename_i a ha;have hlt:=(List.getElem?_eq_some_iff.1 ha).1;have hrow : ∀ b∈rows.getD a.toNat [],0<=b∧b<n:=fun b hb=>KT hr hb;obtain ⟨h1,h2,h3⟩:=h.fold (rows.getD a.toNat []) hrow;obtain ⟨h4,h5,h6,h7⟩:=LT hr k (i+1) h1 (Nat.le_trans hlt h3.length_le) (by omega) fun m c hm hmc b hb=>by
     rw [h2];rcases Nat.lt_or_ge m i with hmi|hmi
     ·have hml:m<st.2.length:=by omega
      have hmc':st.2[m]? = some c:=by
       have:=q2i h3 (List.getElem?_eq_getElem hml);rw [List.getElem?_eq_getElem hml,<- this,hmc]
      exact .inl (hc m c hmi hmc' b hb)
     ·obtain rfl:m=i:=by omega
      have:=q2i h3 ha;rw [this] at hmc;cases hmc;exact .inr hb
    refine ⟨h4,fun x hx=>h5 x ((h2 x).2 (.inl hx)),h6,fun S hS hcl=>h7 S (fun x hx => ?_) hcl⟩;rcases (h2 x).1 hx with hx|hx
    ·exact hS x hx
    ·exact hcl a x (hS a (List.mem_of_getElem? ha)) hx
   ·rename_i ha;have hlen:st.2.length<=i:=List.getElem?_eq_none_iff.1 ha;refine ⟨h,fun x hx=>hx,fun x hx b hb => ?_,fun S hS _=>hS⟩;obtain ⟨m,hm⟩:=List.mem_iff_getElem?.1 hx;exact hc m x (by have:=(List.getElem?_eq_some_iff.1 hm).1;omega) hm b hb
theorem BR {n:Nat} : ∀ (l:List Int) {st:List Bool×List Int},WkM n st->WkM n (l.foldl (fun st a=>bif ZU n a then UE st a else st) st) ∧ ∀ x,x∈(l.foldl (fun st a=>bif ZU n a then UE st a else st) st).2↔x∈st.2∨(x∈l∧ZU n x=true)
 | [],st,h=>⟨h,fun x=>by simp⟩
 | a::r,st,h=>by
   rw [foldl_cons];cases hb:ZU n a with
   | true =>
     obtain ⟨h1,h2,_⟩:=h.see (XL hb);obtain ⟨h3,h4⟩:=BR r h1;rw [cond_true];refine ⟨h3,fun x => ?_⟩;rw [h4,h2,mem_cons];constructor
     ·rintro ((h5|rfl)|⟨h5,h6⟩)
      ·exact .inl h5
      ·exact .inr ⟨.inl rfl,hb⟩
      ·exact .inr ⟨.inr h5,h6⟩
     ·rintro (h5|⟨rfl|h5,h6⟩)
      ·exact .inl (.inl h5)
      ·exact .inl (.inr rfl)
      ·exact .inr ⟨h5,h6⟩
   | false =>
     obtain ⟨h3,h4⟩:=BR r h;rw [cond_false];refine ⟨h3,fun x => ?_⟩;rw [h4,mem_cons];constructor
     ·rintro (h5|⟨h5,h6⟩)
      ·exact .inl h5
      ·exact .inr ⟨.inr h5,h6⟩
     ·rintro (h5|⟨rfl|h5,h6⟩)
      ·exact .inl h5
      ·rw [hb] at h6;cases h6
      ·exact .inr ⟨h5,h6⟩
theorem x4u : ∀ (l:List Bool) (i:Nat) (y:Int),y∈KW i l ↔ ∃ k:Nat,l[k]? = some true∧y=((i+k:Nat):Int)
 | [],i,y=>by simp [KW]
 | b::r,i,y=>by
   have ih:=x4u r (i+1) y;have key:(∃ k:Nat,(b::r)[k]? = some true∧y=((i+k:Nat):Int))↔(b=true∧y=(i:Int)) ∨ ∃ k:Nat,r[k]? = some true∧y=((i+1+k:Nat):Int):=by
    constructor
    ·rintro ⟨k,h1,h2⟩;cases k with
     | zero=>simp at h1;exact .inl ⟨h1,by simpa using h2⟩
     | succ k=>exact .inr ⟨k,by simpa using h1,by rw [h2];omega⟩
    ·rintro (⟨h1,h2⟩|⟨k,h1,h2⟩)
     ·exact ⟨0,by simp [h1],by simpa using h2⟩
     ·exact ⟨k+1,by simpa using h1,by rw [h2];omega⟩
   rw [key,<- ih,KW];cases b<;>simp
theorem q8b {n:Nat} {rows:List (List Int)} (hr:XJ n rows) (l:List Int) (y:Int):y∈KW 0 (ZF rows l) ↔ ∃ a∈l,ZU n a=true∧Rch (q7v rows) a y:=by
 obtain ⟨h1,h2⟩:=BR (n:=n) l (WkM.start n);obtain ⟨h3,h4,h5,h6⟩:=LT hr (rows.length+1) 0 (st:=KK rows.length l) (by rw [hr.1];exact h1) (zero_le _) (by rw [hr.1];omega) (fun m a hm=>by omega);have hst : ∀ x,x∈(KK rows.length l).2↔x∈l∧ZU n x=true:=fun x=>by
  rw [hr.1];unfold KK;rw [h2];simp
 have hmem : ∀ y,y∈KW 0 (ZF rows l)↔y∈(XS rows (rows.length+1) 0 (KK rows.length l)).2:=fun y=>by
  rw [x4u,h3.mem];show (∃ k:Nat,(XS rows (rows.length+1) 0 (KK rows.length l)).1[k]? = some true∧_)↔_;constructor
  ·rintro ⟨k,h7,h8⟩;have hlt:=(List.getElem?_eq_some_iff.1 h7).1;rw [h3.inv.1] at hlt;refine ⟨by omega,?_⟩;rw [h8,getD_eq_getElem?_getD];simp [h7]
  ·rintro ⟨h7,h8⟩;have hlt:y.toNat<(XS rows (rows.length+1) 0 (KK rows.length l)).1.length:=by rw [h3.inv.1];omega
   refine ⟨y.toNat,?_,by omega⟩;rw [getD_eq_getElem?_getD,List.getElem?_eq_getElem hlt] at h8;rw [List.getElem?_eq_getElem hlt];simpa using h8
 rw [hmem];constructor
 ·intro hy;refine h6 (fun y => ∃ a∈l,ZU n a=true∧Rch (q7v rows) a y) (fun x hx => ?_) (fun x b ⟨a,h7,h8,h9⟩ hb=>⟨a,h7,h8,.tail h9 hb⟩) y hy;obtain ⟨h7,h8⟩:=(hst x).1 hx;exact ⟨x,h7,h8,.refl⟩
 ·rintro ⟨a,h7,h8,h9⟩;exact h9.closed (S:=fun y=>y∈(XS rows (rows.length+1) 0 (KK rows.length l)).2) (fun x b hx hb=>h5 x hx b hb) (h4 a ((hst a).2 ⟨h7,h8⟩))
theorem x4b {l:List Int} {k:Nat} {b x:Int}:x∈NU l k b↔x∈l∨x=b:=by
 unfold NU;rw [List.mem_append,mem_cons];have:x∈l↔x∈l.take k∨x∈l.drop k:=by rw [<- List.mem_append,List.take_append_drop]
 rw [this];constructor
 ·rintro (h|h|h)
  ·exact .inl (.inl h)
  ·exact .inr h
  ·exact .inl (.inr h)
 ·rintro ((h|h)|h)
  ·exact .inl h
  ·exact .inr (.inr h)
  ·exact .inr (.inl h)
theorem z5f {n:Nat} {g:List (List Int)×List (List Int)} (hl:g.1.length=n) (e:Int×Int) {x y:Int} (hx:0<=x∧x<n):y∈(q7d n g e).1.getD x.toNat []↔y∈g.1.getD x.toNat []∨((x,y)=e∧ZU n y=true):=by
 rw [q0x];cases hc:(ZU n e.1&&ZU n e.2 && !(g.1.getD e.1.toNat []).contains e.2) with
 | true =>
   simp only [Bool.and_eq_true,Bool.not_eq_true'] at hc;obtain ⟨⟨h1,h2⟩,_⟩:=hc;have h3:=XL h1;rw [cond_true];unfold q4u;rw [getD_eq_getElem?_getD,List.getElem?_set];by_cases he:e.1.toNat=x.toNat
   ·rw [if_pos he,if_pos (by omega)];simp only [Option.getD_some];rw [x4b,<- he];have:x=e.1:=by omega
    constructor
    ·rintro (h|h)
     ·exact .inl h
     ·exact .inr ⟨by rw [this,h],by rw [h];exact h2⟩
    ·rintro (h|⟨h,_⟩)
     ·exact .inl h
     ·exact .inr (by rw [<- h])
   ·rw [if_neg he,<- getD_eq_getElem?_getD];constructor
    ·exact .inl
    ·rintro (h|⟨h,_⟩)
     ·exact h
     ·exact absurd (by rw [<- h]) he
 | false =>
   rw [cond_false];constructor
   ·exact .inl
   ·rintro (h|⟨rfl,h⟩)
    ·exact h
    ·have h1:ZU n x=true:=by unfold ZU;simp [hx]
     simp only [h1,h,Bool.true_and,Bool.not_eq_false'] at hc;simpa using hc
theorem x3y {n:Nat} {g:List (List Int)×List (List Int)} (hl:g.1.length=n) (e:Int×Int):(q7d n g e).1.length=n:=by
 rw [q0x];cases (ZU n e.1&&ZU n e.2 && !(g.1.getD e.1.toNat []).contains e.2) with
 | true=>rw [cond_true];unfold q4u;rw [List.length_set];exact hl
 | false=>exact hl
theorem q7m {n:Nat} {x y:Int} (hx:0<=x∧x<n) : ∀ (l:List (Int×Int)) {g:List (List Int)×List (List Int)},g.1.length=n->(y∈(l.foldl (q7d n) g).1.getD x.toNat []↔y∈g.1.getD x.toNat []∨((x,y)∈l∧ZU n y=true))
 | [],g,_=>by simp
 | e::r,g,h=>by
   rw [foldl_cons,q7m hx r (x3y h e),z5f h e hx,mem_cons];constructor
   ·rintro ((h1|⟨h1,h2⟩)|⟨h1,h2⟩)
    ·exact .inl h1
    ·exact .inr ⟨.inl h1,h2⟩
    ·exact .inr ⟨.inr h1,h2⟩
   ·rintro (h1|⟨h1|h1,h2⟩)
    ·exact .inl (.inl h1)
    ·exact .inl (.inr ⟨h1,h2⟩)
    ·exact .inr ⟨h1,h2⟩
theorem GZ {n:Nat} {l:List (Int×Int)} {x y:Int} (hx:0<=x∧x<n):q7v (QI n l).1 x y↔(x,y)∈l∧ZU n y=true:=by
 unfold q7v QI;rw [q7m hx l (by simp)];have:(List.replicate n ([]:List Int)).getD x.toNat []=[]:=by
  rw [getD_eq_getElem?_getD,List.getElem?_replicate];split<;>rfl
 rw [this];simp
theorem x1t {n:Nat} {l:List (Int×Int)} (h0:0<n) (y:Int):y∈KW 0 (ZF (QI n l).1 [0])↔Rch (fun a b=>(a,b)∈l∧ZU n b=true) 0 y:=by
 rw [q8b (YO n l).1];have hs:ZU n 0=true:=by unfold ZU;simp;omega
 constructor
 ·rintro ⟨a,ha,_,h⟩;obtain rfl:a=0:=by simpa using ha
  exact (h.closed (S:=fun x:Int=>(0<=x∧x<n)∧Rch (fun a b=>(a,b)∈l∧ZU n b=true) 0 x) (fun x y ⟨h1,h2⟩ h3=>by
   have h4:=(GZ h1).1 h3;exact ⟨XL h4.2,.tail h2 h4⟩) ⟨⟨by omega,by omega⟩,.refl⟩).2
 ·intro h;refine ⟨0,by simp,hs,?_⟩;exact (h.closed (S:=fun x:Int=>(0<=x∧x<n)∧Rch (q7v (QI n l).1) 0 x) (fun x y ⟨h1,h2⟩ h3=>⟨XL h3.2,.tail h2 ((GZ h1).2 h3)⟩) ⟨⟨by omega,by omega⟩,.refl⟩).2
def stR (F:List Step) (a b:Int):Prop := ∃ s∈F,s.src=a∧s.dst=b
def plP (p:Pg) (j:Nat) (f:Pr) (x:Int):Prop:=x=0∨x = -1∨((QE p.procs j:Int)+1<=x∧x<=(QE p.procs j+QY f.body:Nat))
def ixI (p:Pg) (j:Nat) (f:Pr) (x:Int):Int:=UO (loI p j) (hiI p j f) (QY f.body+2:Nat) x
theorem HQ {p:Pg} {j:Nat} {f:Pr} {x:Int} (h:plP p j f x):0<=ixI p j f x∧ixI p j f x<(QY f.body+2:Nat):=by
 unfold ixI UO loI hiI;unfold plP at h
 (repeat' split)<;>omega
theorem x0h {p:Pg} {j:Nat} {f:Pr} {x y:Int} (hx:plP p j f x) (hy:plP p j f y) (h:ixI p j f x=ixI p j f y):x=y:=by
 unfold ixI UO loI hiI at h;unfold plP at hx hy
 (repeat' split at h)<;>omega
theorem x6x {p:Pg} {j:Nat} {f:Pr} {F:List Step} (hF : ∀ s∈F,plP p j f s.src∧plP p j f s.dst) {y:Int} (hy:plP p j f y) :
  ixI p j f y∈KW 0 (ZF (QI (QY f.body+2) (F.map (ixP p j f (QY f.body+2:Nat)))).1 [0])↔Rch (stR F) 0 y:=by
 rw [x1t (by omega)];have e0:ixI p j f 0=0:=by unfold ixI UO;rw [if_pos rfl]
 have p0:plP p j f 0 := .inl rfl;constructor
 ·intro h;obtain ⟨z,h1,h2,h3⟩:=h.closed (S:=fun i => ∃ z,plP p j f z∧ixI p j f z=i∧Rch (stR F) 0 z) (by
   rintro a b ⟨z,h1,h2,h3⟩ ⟨h4,_⟩;obtain ⟨s,hs,he⟩:=List.mem_map.1 h4;obtain ⟨h5,h6⟩:=hF s hs;have e1:ixI p j f s.src=a:=congrArg Prod.fst he;have e2:ixI p j f s.dst=b:=congrArg Prod.snd he;have e3:s.src=z:=x0h h5 h1 (by rw [e1,h2]);exact ⟨s.dst,h6,e2,.tail h3 ⟨s,hs,e3,rfl⟩⟩) ⟨0,p0,e0,.refl⟩
  rw [<- x0h h1 hy h2];exact h3
 ·intro h;have:=h.closed (S:=fun z=>plP p j f z∧Rch (fun a b=>(a,b)∈F.map (ixP p j f (QY f.body+2:Nat))∧ZU (QY f.body+2) b=true) 0 (ixI p j f z)) (by
   rintro a b ⟨h1,h2⟩ ⟨s,hs,rfl,rfl⟩;obtain ⟨h5,h6⟩:=hF s hs;refine ⟨h6,.tail h2 ⟨List.mem_map.2 ⟨s,hs,rfl⟩,?_⟩⟩;have:=HQ h6;unfold ZU;simp only [Bool.and_eq_true,decide_eq_true_eq];exact this) ⟨p0,by rw [e0];exact .refl⟩
  exact this.2
theorem WE {p:Pg} (h:ZB p=true) {j:Nat} {f:Pr} (hj:p.procs[j]? = some f) : ∀ s∈(QZ p j f).real,plP p j f s.src∧plP p j f s.dst:=fun s hs=>by
 obtain ⟨_,h2⟩:=FC h hj;obtain ⟨_,h3,_⟩:=PB h hj;obtain ⟨h4,h5⟩:=h3 s ((h2 s).1 hs);unfold okI at h5;unfold plP;omega
def z7e (p:Pg) (k:Nat) (f:Pr) (E:List Str):Prop:=Rch (stR ((QZ p k f).real.filter (q9u p E))) 0 (-1)
theorem q7l {p:Pg} (h:ZB p=true) {k:Nat} {f:Pr} (hj:p.procs[k]? = some f) (E:List Str):x9p (QZ p k f) f E=true↔z7e p k f E:=by
 unfold z7e;rw [<- x6x (p:=p) (j:=k) (f:=f) (fun s hs=>WE h hj s (List.mem_filter.1 hs).1) (y := -1) (.inr (.inl rfl))];unfold x9p;rw [List.any_eq_true];have e1:ixI p k f (-1)=((QY f.body+2:Nat):Int)-1:=by unfold ixI UO;rw [if_neg (by omega),if_pos rfl]
 rw [e1];constructor
 ·rintro ⟨x,h1,h2⟩;have h2:((QY f.body+2:Nat):Int)-1=x:=of_decide_eq_true h2;rw [h2];exact h1
 ·intro h1;exact ⟨_,h1,decide_eq_true rfl⟩
def w4g (E:List Str) (s:Str):Bool:=E.any fun x=>s==x
theorem q6e {E:List Str} {s:Str}:w4g E s=true↔s∈E:=by
 unfold w4g;rw [List.any_eq_true];constructor
 ·rintro ⟨x,h1,h2⟩;have:s=x:=by simpa using h2
  rw [this];exact h1
 ·intro h;exact ⟨s,h,by simp⟩
theorem x7u {p:Pg} {E E':List Str} (h : ∀ s∈E,s∈E') {t:Step} (ht:q9u p E t=true):q9u p E' t=true:=by
 unfold q9u at ht ⊢;rw [Bool.or_eq_true] at ht ⊢;rcases ht with ht|ht
 ·exact .inl ht
 ·refine .inr ?_;split at ht
  ·simp only [Bool.not_eq_true',Bool.and_eq_false_iff,Bool.not_eq_false'] at ht ⊢;rcases ht with ht|ht
   ·exact .inl ht
   ·exact .inr (q6e.2 (h _ (q6e.1 ht)))
  ·rfl
theorem FT {p:Pg} {k:Nat} {f:Pr} {E E':List Str} (h : ∀ s∈E,s∈E') (he:z7e p k f E):z7e p k f E':=by
 refine he.mono fun x y ⟨s,hs,h1,h2⟩=>⟨s,?_,h1,h2⟩;obtain ⟨h3,h4⟩:=List.mem_filter.1 hs;exact List.mem_filter.2 ⟨h3,x7u h h4⟩
theorem PT {p:Pg} : ∀ (l:List Nat) (o:List Str) (b:Bool),(l.foldl (q5k p) (o,b)).2=false->b=false∧(l.foldl (q5k p) (o,b)).1=o ∧ ∀ k∈l,q5k p (o,false) k=(o,false)
 | [],o,b,h=>⟨h,rfl,by simp⟩
 | k::r,o,b,h=>by
   rw [foldl_cons] at h ⊢;have hst:q5k p (o,b) k=(o,b)∨(q5k p (o,b) k).2=true:=by
    unfold q5k;split
    ·rename_i f _;cases (!((o,b).1.any fun s=>f.name==s)&&x9p (QZ p k f) f (o,b).1) with
     | true=>exact .inr rfl
     | false=>exact .inl rfl
    ·exact .inl rfl
   rcases hst with hst|hst
   ·rw [hst] at h ⊢;obtain ⟨h1,h2,h3⟩:=PT r o b h;refine ⟨h1,h2,fun m hm => ?_⟩;rcases List.mem_cons.1 hm with rfl|hm
    ·rw [<- h1];rw [h1] at hst ⊢;exact hst
    ·exact h3 m hm
   ·have:=(PT r (q5k p (o,b) k).1 (q5k p (o,b) k).2 h).1;rw [hst] at this;cases this
def q3r (p:Pg) (out:List Str):Prop := ∀ s∈out,∃ (k:Nat) (f:Pr),p.procs[k]? = some f∧f.name=s∧z7e p k f out
theorem z3c {p:Pg} (hc:ZB p=true) {st:List Str×Bool} (h:q3r p st.1) (k:Nat):q3r p (q5k p st k).1∧q0v p (q5k p st k).1+(q5k p st k).2.toNat<=q0v p st.1+st.2.toNat:=by
 unfold q5k;split
 ·rename_i f hf;cases hq:(!(st.1.any fun s=>f.name==s)&&x9p (QZ p k f) f st.1) with
  | true =>
    rw [cond_true];simp only [Bool.and_eq_true,Bool.not_eq_true'] at hq;have hl:=x8v (p:=p) (out:=st.1) (List.mem_of_getElem? hf) hq.1;have he:=(q7l hc hf st.1).1 hq.2;refine ⟨fun s hs => ?_,?_⟩
    ·rcases List.mem_append.1 hs with hs|hs
     ·obtain ⟨k',f',h1,h2,h3⟩:=h s hs;exact ⟨k',f',h1,h2,FT (fun s hs=>List.mem_append.2 (.inl hs)) h3⟩
     ·obtain rfl:=List.mem_singleton.1 hs;exact ⟨k,f,hf,rfl,FT (fun s hs=>List.mem_append.2 (.inl hs)) he⟩
    ·simp only [Bool.toNat_true];omega
  | false=>exact ⟨h,Nat.le_refl _⟩
 ·exact ⟨h,Nat.le_refl _⟩
theorem x0f {p:Pg} (hc:ZB p=true) : ∀ (l:List Nat) {st:List Str×Bool},q3r p st.1->q3r p (l.foldl (q5k p) st).1∧q0v p (l.foldl (q5k p) st).1+(l.foldl (q5k p) st).2.toNat<=q0v p st.1+st.2.toNat
 | [],st,h=>⟨h,Nat.le_refl _⟩
 | k::r,st,h=>by
   obtain ⟨h1,h2⟩:=z3c hc h k;obtain ⟨h3,h4⟩:=x0f hc r h1;rw [foldl_cons];exact ⟨h3,by omega⟩
theorem q2a {p:Pg} (hc:ZB p=true) : ∀ (k:Nat) {out:List Str},q0v p out<k->q3r p out->q3r p (x2e p k out)∧(∀ s∈out,True) ∧ ∀ (m:Nat) (f:Pr),p.procs[m]? = some f->z7e p m f (x2e p k out)->f.name∈x2e p k out
 | 0,out,h,_=>by omega
 | k+1,out,h,hi=>by
   obtain ⟨h1,h2⟩:=x0f hc (List.range p.procs.length) (st:=(out,false)) hi;rw [x2e];cases hr:(q3m p out).2 with
   | true =>
     rw [cond_true];have hr':((List.range p.procs.length).foldl (q5k p) (out,false)).2=true:=hr;rw [hr'] at h2;simp only [Bool.toNat_true,Bool.toNat_false] at h2;have h3:q0v p (q3m p out).1<k:=by show q0v p ((List.range p.procs.length).foldl (q5k p) (out,false)).1<k;omega
     obtain ⟨h4,_,h5⟩:=q2a hc k h3 h1;exact ⟨h4,fun _ _=>trivial,h5⟩
   | false =>
     rw [cond_false];obtain ⟨_,h3,h4⟩:=PT (List.range p.procs.length) out false hr;have h3:(q3m p out).1=out:=h3;rw [h3];refine ⟨hi,fun _ _=>trivial,fun m f hm he => ?_⟩;have h5:=h4 m (List.mem_range.2 (List.getElem?_eq_some_iff.1 hm).1);unfold q5k at h5;rw [hm] at h5;simp only at h5;cases hq:(out.any fun s=>f.name==s) with
     | true=>exact q6e.1 hq
     | false =>
       rw [hq,(q7l hc hm out).2 he] at h5;have:=congrArg Prod.snd h5;cases this
theorem x8h (p:Pg):q0v p []<=p.procs.length:=List.countP_le_length
theorem x5x {l:List Str} (h:WV l=false):l.Nodup:=by
 unfold WV at h;rw [List.any_eq_false] at h;unfold Nodup;rw [List.pairwise_iff_getElem];intro i j hi hj hij he;have h1:=h j (List.mem_range.2 hj);apply h1;rw [List.any_eq_true];refine ⟨l[i],?_,?_⟩
 ·exact List.mem_iff_getElem.2 ⟨i,by simp;omega,by simp⟩
 ·rw [List.getElem?_eq_getElem hj];simp [he]
theorem x1m {p:Pg} (h:ZB p=true):(QD p).Nodup:=by
 obtain ⟨hm,hs,_⟩:=QM h;unfold XQ at hs;rw [hm,cond_true] at hs;cases hb:ZD p with
 | true=>rw [hb] at hs;cases hs
 | false =>
   unfold ZD at hb;simp only [Bool.or_eq_false_iff] at hb;exact x5x hb.2.1
theorem q6o {p:Pg} (h:ZB p=true) {j k:Nat} {f g:Pr} (hj:p.procs[j]? = some f) (hk:p.procs[k]? = some g) (he:f.name=g.name):j=k∧f=g:=by
 have hn:=x1m h;have h1:(QD p)[j]? = some f.name:=by simp [QD,hj]
 have h2:(QD p)[k]? = some g.name:=by simp [QD,hk]
 rw [he] at h1;have hjl:=(List.getElem?_eq_some_iff.1 h1).1;obtain rfl:j=k:=(List.getElem?_inj hjl hn).1 (h1.trans h2.symm);rw [hj] at hk;exact ⟨rfl,Option.some.inj hk⟩
theorem z2i {p:Pg} (h:ZB p=true) {k:Nat} {f:Pr} (hk:p.procs[k]? = some f):f.name∈endsR p↔z7e p k f (endsR p):=by
 obtain ⟨h1,_,h3⟩:=q2a h (p.procs.length+1) (out:=[]) (by have:=x8h p;omega) (fun s hs=>by cases hs);have e : ∀ s,s∈endsR p↔s∈x2e p (p.procs.length+1) []:=fun s=>by unfold endsR;rw [h,cond_true,q0h]
 rw [e];constructor
 ·intro hm;obtain ⟨k',f',h4,h5,h6⟩:=h1 _ hm;obtain ⟨rfl,rfl⟩:=q6o h hk h4 h5.symm;exact FT (fun s hs=>(e s).2 hs) h6
 ·intro he;exact h3 k f hk (FT (fun s hs=>(e s).1 hs) he)
theorem x5r : ∀ (k:Nat) (l:List S) (_:QY l<k) (_:QY l<=1000000),SpecP Tryz.prog 78 [eSs l] (fun r=>r = .int .i64 (QY l)):=by
 intro k;induction k with
 | zero=>intro l h;omega
 | succ k ih =>
   intro l hk hl;have hll:=S.avs_len l;have hlc:l.length<=QY l:=by
    clear hk hl hll;induction l with
    | nil=>simp
    | cons t r ihr=>rw [QY,WB,List.length_cons];omega
   refine sB q8u Tryz.func78 rfl Tryz.call78 ?_;conv=>whnf
   repeat' (refine iM fun _=>?_;conv=>whnf)
   refine LoopK.inv QU (fun y:Nat×Nat=>⟨[(0,.p (eSs l)),(3,.p (.int .i64 y.2)),(8,.p (.int .i64 (S.avs l).length)),(9,.p (.int .i64 y.1))],[]⟩) (fun y=>y.1<=l.length∧y.2+QY (l.drop y.1)=QY l+(l.length-y.1)) (fun y=>l.length-y.1) (0,l.length) (Le.of_eq (by simp only [S.avs_len];rfl)) ⟨zero_le _,by simp;omega⟩ ?_;rintro ⟨j,n⟩ ⟨h2,h3⟩;simp only at h2 h3 ⊢;rcases Nat.lt_or_ge j l.length with hj|hj
   ·have hst:=BZ hj;have hcs:=WB l[j];have h4:QY (l.drop j)<=QY l:=by
     have : ∀ (l:List S) (j:Nat),QY (l.drop j)<=QY l:=fun l=>by
      induction l with
      | nil=>intro j;simp
      | cons t r ihr =>
        intro j;cases j with
        | zero=>simp
        | succ j=>rw [List.drop_succ_cons,QY];have:=ihr j;omega
     exact this l j
    conv=>whnf
    repeat' (first|((first|refine dA ?_|refine QL (by omega) ?_|refine wI ?_|(refine CallK.pure (ih l[j].thn (by omega) (by omega)) (.cons (Sub.refl _) .nil) ?_;rintro _ rfl)|(refine CallK.pure (ih l[j].els (by omega) (by omega)) (.cons (Sub.refl _) .nil) ?_;rintro _ rfl));conv=>whnf)|(apply bD<;>intro _<;>first|omega|conv=>whnf))
    all_goals exact ⟨(j+1,n+(QY l[j].thn+QY l[j].els)),⟨by simp only;omega,by simp only;omega⟩,by simp only;omega,Le.of_eq rfl⟩
   ·conv=>whnf
    rw [drop_eq_nil_of_le hj,QY] at h3;repeat' (apply bD<;>intro _<;>first|omega|conv=>whnf)
    exact RetK.int (by omega)
theorem x7k (p:Pg) (hc:cntP p.procs<=1000):SpecP Tryz.prog 18 [.agg p.cells] (fun r=>r = .int .i64 (cntP p.procs)):=by
 refine sB q8k Tryz.func18 rfl Tryz.call18 ?_;conv=>whnf
 have hl2:(p.procs.map fun f=>AV.agg f.cells).length=p.procs.length:=length_map _;repeat' (refine iM fun _=>?_;conv=>whnf)
 refine LoopK.inv QU (fun y:Nat×Nat=>⟨[(3,.p (.int .i64 y.2)),(7,.p (.sl (p.procs.map fun f => .agg f.cells))),(8,.p (.int .i64 (p.procs.map fun f=>AV.agg f.cells).length)),(9,.p (.int .i64 y.1))],[]⟩) (fun y=>y.1<=p.procs.length∧y.2+cntP (p.procs.drop y.1)=cntP p.procs) (fun y=>p.procs.length-y.1) (0,0) (Le.of_eq rfl) ⟨zero_le _,by simp⟩ ?_;rintro ⟨j,n⟩ ⟨h2,h3⟩;simp only at h2 h3 ⊢;rcases Nat.lt_or_ge j p.procs.length with hj|hj
 ·have hst:=LW hj;have hcm:=q7w _ _ (List.getElem_mem hj);conv=>whnf
  repeat' (first|((first|refine And.intro rfl ?_|(refine iA fun _=>?_)|refine wI ?_|(refine CallK.pure (x5r (QY p.procs[j].body+1) p.procs[j].body (by omega) (by omega)) (.cons (Sub.refl _) .nil) ?_;rintro _ rfl));conv=>whnf)|(apply bD<;>intro _<;>first|omega|conv=>whnf))
  exact ⟨(j+1,n+QY p.procs[j].body),⟨by simp only;omega,by simp only;omega⟩,by simp only;omega,Le.of_eq rfl⟩
 ·conv=>whnf
  rw [drop_eq_nil_of_le hj,cntP] at h3;repeat' (apply bD<;>intro _<;>first|omega|conv=>whnf)
  exact RetK.int (by omega)
def q8z (p:Pg) (most:Int):Bool:=ZB p&&decide ((cntP p.procs:Int)<=most)
theorem x5z {p:Pg} (h:ZB p=true) {j:Nat} {f:Pr} (hj:p.procs[j]? = some f) {a:Int} (h1:(QE p.procs j:Int)+1<=a) (h2:a<=(QE p.procs j+QY f.body:Nat)) : ∃ t∈flL f.body,z4l p a=some t∧t.id=a:=by
 obtain ⟨it,h3,h4⟩:=KP hj (k:=(a-1).toNat) (by omega) (by omega);refine ⟨it.s,BC h4,by unfold z4l;rw [h3];rfl,?_⟩;obtain ⟨_,_,_,hlen,hsp⟩:=QJ p;obtain ⟨_,_,hle,hd⟩:=hsp j f hj;have hids:=z1i (QM h).1 hj;have h5:(itsOf p j f)[(a-1).toNat-QE p.procs j]? = some it:=by
  unfold itsOf;rw [<- hd,List.getElem?_drop,List.getElem?_take,if_pos (by omega),show QE p.procs j+((a-1).toNat-QE p.procs j)=(a-1).toNat by omega];exact h3
 have h6:((itsOf p j f).map fun it=>it.s.id)[(a-1).toNat-QE p.procs j]? = some it.s.id:=by rw [List.getElem?_map,h5];rfl
 rw [hids] at h6;unfold q6n at h6;rw [List.getElem?_map,List.getElem?_range' (by omega)] at h6;simp at h6;omega
theorem x3f {α:Type} {R:α->α->Prop} (irr : ∀ a,¬R a a) (tr : ∀ a b c,R a b->R b c->R a c) : ∀ {l m:List α},l.Pairwise R->m.Pairwise R->(∀ s,s∈l↔s∈m)->l=m
 | [],[],_,_,_=>rfl
 | [],b::m,_,_,h=>by have:=(h b).2 mem_cons_self;cases this
 | a::l,[],_,_,h=>by have:=(h a).1 mem_cons_self;cases this
 | a::l,b::m,hl,hm,h=>by
   rw [pairwise_cons] at hl hm;have hab:a=b:=by
    rcases List.mem_cons.1 ((h a).1 mem_cons_self) with h1|h1
    ·exact h1
    rcases List.mem_cons.1 ((h b).2 mem_cons_self) with h2|h2
    ·exact h2.symm
    exact absurd (tr _ _ _ (hl.1 b h2) (hm.1 a h1)) (irr a)
   subst hab;rw [x3f irr tr hl.2 hm.2 fun s => ?_];constructor
   ·intro hs;rcases List.mem_cons.1 ((h s).1 (mem_cons_of_mem _ hs)) with rfl|h1
    ·exact absurd (hl.1 s hs) (irr s)
    ·exact h1
   ·intro hs;rcases List.mem_cons.1 ((h s).2 (mem_cons_of_mem _ hs)) with rfl|h1
    ·exact absurd (hm.1 s hs) (irr s)
    ·exact h1
section
variable {α:Type} {R:α->α->Prop} {l out:List α} {i k:Nat}
end
def ordP (a b:Int):Prop:=w4v a b=true
theorem q6z {a b:Int}:ordP a b↔(b = -1∧a ≠ -1)∨(a ≠ -1∧b ≠ -1∧a<b):=by
 unfold ordP w4v;by_cases ha:a = -1<;>by_cases hb:b = -1<;>simp [ha,hb]
theorem z5r (a:Int) : ¬ordP a a:=fun h=>by rw [q6z] at h;omega
theorem ordP.trans (a b c:Int) (h1:ordP a b) (h2:ordP b c):ordP a c:=by rw [q6z] at *;omega
theorem z8k {l m:List Int} (h1:l.Pairwise ordP) (h2:m.Pairwise ordP) (h : ∀ s,s∈l↔s∈m):l=m:=x3f z5r ordP.trans h1 h2 h
theorem z2f {E:Int->Int->Prop} {B:List Int} {u x:Int} (h:Rch E u x) (hu:u∈B) (hx:x∉B) : ∃ z y,z∈B∧E z y∧y∉B∧Rch E u y∧Rch E y x:=by
 induction h with
 | refl=>exact absurd hu hx
 | @tail b c h hr ih =>
   by_cases hb:b∈B
   ·exact ⟨b,c,hb,hr,hx,.tail h hr,.refl⟩
   ·obtain ⟨z,y,h1,h2,h3,h4,h5⟩:=ih hb;exact ⟨z,y,h1,h2,h3,h4,.tail h5 hr⟩
def chainE (E:Int->Int->Prop):List Int->Prop
 | []=>True
 | [_]=>True
 | a::b::r=>E a b∧chainE E (b::r)
theorem HF {E:Int->Int->Prop} : ∀ (l:List Int) {a y:Int},chainE E (l++[a])->y∈l++[a]->Rch E y a
 | [],a,y,_,hy=>by
   simp at hy;rw [hy];exact .refl
 | [b],a,y,h,hy=>by
   simp at hy;rcases hy with rfl|rfl
   ·exact .tail .refl h.1
   ·exact .refl
 | b::c::r,a,y,h,hy=>by
   have h1:chainE E ((c::r)++[a]):=h.2;rcases List.mem_cons.1 hy with rfl|hy
   ·exact .head h.1 (HF (c::r) h1 (by simp))
   ·exact HF (c::r) h1 hy
theorem LI {E:Int->Int->Prop} : ∀ (l:List Int) {a b:Int},chainE E (l++[a])->E a b->chainE E (l++[a]++[b])
 | [],a,b,_,hb=>⟨hb,trivial⟩
 | [c],a,b,h,hb=>⟨h.1,hb,trivial⟩
 | c::d::r,a,b,h,hb=>⟨h.1,LI (d::r) h.2 hb⟩
theorem q4z {E:Int->Int->Prop} : ∀ (l:List Int) {a:Int},chainE E (l++[a])->chainE E l
 | [],_,_=>trivial
 | [_],_,_=>trivial
 | c::d::r,_,h=>⟨h.1,q4z (d::r) h.2⟩
structure DfsI (n:Nat) (E:Int->Int->Prop) (out stack:List Int):Prop where
 nd:(out++stack).Nodup
 rng : ∀ x∈out++stack,0<=x∧x<n
 path:chainE E stack
 cl : ∀ u∈out,∀ v,E u v->v∈out∨v∈stack
 J : ∀ u∈out,∀ x,Rch E u x->x∉out -> ∃ s∈stack,Rch E u s∧Rch E s u∧Rch E s x
 K : ∀ (i:Nat) (r:Int),out[i]? = some r -> ∀ u,Rch E u r->Rch E r u ∨ ∃ u',Rch E u u'∧Rch E u' u∧(u'∉out ∨ ∃ j,i<j∧out[j]? = some u')
theorem DfsI.start (n:Nat) (E:Int->Int->Prop):DfsI n E [] []:=⟨by simp,by simp,trivial,by simp,by simp,by simp⟩
theorem DfsI.push {n:Nat} {E:Int->Int->Prop} {out stack:List Int} (h:DfsI n E out stack) {b:Int} (hb:0<=b∧b<n) (hn:b∉out++stack) (hp:chainE E (stack++[b])):DfsI n E out (stack++[b]):=by
 refine ⟨?_,fun x hx => ?_,hp,fun u hu v hv => ?_,fun u hu x hx hxo => ?_,h.K⟩
 ·rw [<- List.append_assoc,nodup_append];refine ⟨h.nd,by simp,fun x hx y hy => ?_⟩;rw [List.mem_singleton.1 hy];exact fun e=>hn (e▸hx)
 ·rw [<- List.append_assoc] at hx;rcases List.mem_append.1 hx with hx|hx
  ·exact h.rng x hx
  ·rw [List.mem_singleton.1 hx];exact hb
 ·rcases h.cl u hu v hv with h1|h1
  ·exact .inl h1
  ·exact .inr (List.mem_append.2 (.inl h1))
 ·obtain ⟨s,h1,h2⟩:=h.J u hu x hx hxo;exact ⟨s,List.mem_append.2 (.inl h1),h2⟩
theorem DfsI.pop {n:Nat} {E:Int->Int->Prop} {out st:List Int} {a:Int} (h:DfsI n E out (st++[a])) (ha : ∀ v,E a v->v∈out∨v∈st++[a]):DfsI n E (out++[a]) st:=by
 have hnd:=h.nd;rw [nodup_append] at hnd;obtain ⟨hn1,hn2,hn3⟩:=hnd;rw [nodup_append] at hn2;obtain ⟨hn4,_,hn5⟩:=hn2;have hao:a∉out:=fun hm=>hn3 a hm a (by simp) rfl;have hast:a∉st:=fun hm=>hn5 a hm a (by simp) rfl;have hcl : ∀ u∈out++[a],∀ v,E u v->v∈out++[a]∨v∈st:=fun u hu v hv=>by
  have:v∈out∨v∈st++[a]:=by
   rcases List.mem_append.1 hu with hu|hu
   ·exact h.cl u hu v hv
   ·rw [List.mem_singleton.1 hu] at hv;exact ha v hv
  rcases this with h1|h1
  ·exact .inl (List.mem_append.2 (.inl h1))
  ·rcases List.mem_append.1 h1 with h1|h1
   ·exact .inr h1
   ·exact .inl (List.mem_append.2 (.inr h1))
 have hfst : ∀ u∈out++[a],∀ x,Rch E u x->x∉out++[a] -> ∃ y∈st,Rch E u y∧Rch E y x:=fun u hu x hx hxo=>by
  obtain ⟨z,y,h1,h2,h3,h4,h5⟩:=z2f hx hu hxo;rcases hcl z h1 y h2 with h6|h6
  ·exact absurd h6 h3
  ·exact ⟨y,h6,h4,h5⟩
 have hya : ∀ y∈st,Rch E y a:=fun y hy=>HF st h.path (List.mem_append.2 (.inl hy));refine ⟨?_,fun x hx => ?_,q4z st h.path,hcl,fun u hu x hx hxo => ?_,fun i r hi u hu => ?_⟩
 ·rw [List.append_assoc,nodup_append];refine ⟨hn1,?_,fun x hx y hy=>hn3 x hx y (by simp at hy ⊢;exact hy.symm)⟩;rw [nodup_append];refine ⟨by simp,hn4,fun x hx y hy e => ?_⟩;rw [List.mem_singleton.1 hx] at e;exact hast (e▸hy)
 ·refine h.rng x ?_;simp only [List.mem_append,List.mem_singleton] at hx ⊢;rcases hx with (h1|h1)|h1
  ·exact .inl h1
  ·exact .inr (.inr h1)
  ·exact .inr (.inl h1)
 ·obtain ⟨y,h1,h2,h3⟩:=hfst u hu x hx hxo;rcases List.mem_append.1 hu with hu|hu
  ·have hyo:y∉out:=fun hm=>hn3 y hm y (List.mem_append.2 (.inl h1)) rfl;obtain ⟨s,h4,h5,h6,h7⟩:=h.J u hu y h2 hyo;rcases List.mem_append.1 h4 with h4|h4
   ·exact ⟨s,h4,h5,h6,h7.trans h3⟩
   ·rw [List.mem_singleton.1 h4] at h5 h6;exact ⟨y,h1,h2,(hya y h1).trans h6,h3⟩
  ·rw [List.mem_singleton.1 hu] at h2 ⊢;exact ⟨y,h1,h2,hya y h1,h3⟩
 ·rcases Nat.lt_or_ge i out.length with hil|hil
  ·rw [List.getElem?_append_left hil] at hi;rcases h.K i r hi u hu with h1|⟨u',h1,h2,h3⟩
   ·exact .inl h1
   ·refine .inr ⟨u',h1,h2,?_⟩;rcases h3 with h3|⟨j,h3,h4⟩
    ·by_cases hua:u'=a
     ·exact .inr ⟨out.length,hil,by rw [hua];simp⟩
     ·exact .inl fun hm=>by
       rcases List.mem_append.1 hm with hm|hm
       ·exact h3 hm
       ·exact hua (List.mem_singleton.1 hm)
    ·exact .inr ⟨j,h3,by rw [List.getElem?_append_left (List.getElem?_eq_some_iff.1 h4).1];exact h4⟩
  ·have hr:r=a:=by
    have h1:=(List.getElem?_eq_some_iff.1 hi).1;simp at h1;rw [List.getElem?_append_right hil,show i-out.length=0 by omega] at hi;simpa using hi.symm
   subst hr;by_cases hau:Rch E r u
   ·exact .inl hau
   ·right;by_cases huo:u∈out
    ·obtain ⟨s,h4,h5,h6,h7⟩:=h.J u huo r hu hao;rcases List.mem_append.1 h4 with h4|h4
     ·refine ⟨s,h5,h6,.inl fun hm => ?_⟩;rcases List.mem_append.1 hm with hm|hm
      ·exact hn3 s hm s (List.mem_append.2 (.inl h4)) rfl
      ·rw [List.mem_singleton.1 hm] at h4;exact hast h4
     ·rw [List.mem_singleton.1 h4] at h6;exact absurd h6 hau
    ·refine ⟨u,.refl,.refl,.inl fun hm => ?_⟩;rcases List.mem_append.1 hm with hm|hm
     ·exact huo hm
     ·rw [List.mem_singleton.1 hm] at hau;exact hau .refl
structure EndsP (n:Nat) (E:Int->Int->Prop) (es:List Int):Prop where
 nd:es.Nodup
 mem : ∀ x:Int,x∈es↔0<=x∧x<n
 K : ∀ (i:Nat) (r:Int),es[i]? = some r -> ∀ u:Int,0<=u∧u<n->Rch E u r->Rch E r u ∨ ∃ u',Rch E u u'∧Rch E u' u ∧ ∃ j,i<j∧es[j]? = some u'
theorem DfsI.fin {n:Nat} {E:Int->Int->Prop} (hE : ∀ x y,E x y->0<=y∧y<n) {out:List Int} (h:DfsI n E out []) (hall : ∀ x:Int,0<=x∧x<n->x∈out):EndsP n E out:=by
 refine ⟨by simpa using h.nd,fun x=>⟨fun hx=>h.rng x (by simpa using hx),hall x⟩,fun i r hi u hur hu => ?_⟩;rcases h.K i r hi u hu with h1|⟨u',h1,h2,h3⟩
 ·exact .inl h1
 ·refine .inr ⟨u',h1,h2,?_⟩;rcases h3 with h3|h3
  ·exfalso;apply h3;apply hall;cases h1 with
   | refl=>exact hur
   | tail _ hr=>exact hE _ _ hr
  ·exact h3
def sccP (E:Int->Int->Prop) (x y:Int):Prop:=Rch E x y∧Rch E y x
theorem sccP.refl {E:Int->Int->Prop} (x:Int):sccP E x x:=⟨.refl,.refl⟩
theorem sccP.symm {E:Int->Int->Prop} {x y:Int} (h:sccP E x y):sccP E y x:=⟨h.2,h.1⟩
theorem sccP.trans {E:Int->Int->Prop} {x y z:Int} (h:sccP E x y) (h':sccP E y z):sccP E x z:=⟨h.1.trans h'.1,h'.2.trans h.2⟩
def SeenP (E:Int->Int->Prop) (es:List Int) (i:Nat) (x:Int):Prop := ∃ (j:Nat) (y:Int),i<=j∧es[j]? = some y∧sccP E x y
theorem x9z {n:Nat} {E:Int->Int->Prop} (hE : ∀ x y,E x y->(0<=x∧x<n)∧0<=y∧y<n) {es:List Int} (h:EndsP n E es) {i:Nat} {r:Int} (hi:es[i]? = some r) (hr : ¬SeenP E es (i+1) r) (x:Int) :
  Rch (fun a b=>E b a ∧ ¬SeenP E es (i+1) b) r x↔sccP E r x:=by
 have hrr:=(h.mem r).1 (List.mem_of_getElem? hi);constructor
 ·intro hx;have key:(0<=x∧x<n) ∧ ¬SeenP E es (i+1) x∧Rch E x r:=hx.closed (S:=fun x:Int=>(0<=x∧x<n) ∧ ¬SeenP E es (i+1) x∧Rch E x r) (fun a b ⟨h1,h2,h3⟩ ⟨h4,h5⟩=>⟨(hE _ _ h4).1,h5,.head h4 h3⟩) ⟨hrr,hr,.refl⟩;refine ⟨?_,key.2.2⟩;rcases h.K i r hi x key.1 key.2.2 with h1|⟨u',h1,h2,j,h3,h4⟩
  ·exact h1
  ·exact absurd ⟨j,u',h3,h4,h1,h2⟩ key.2.1
 ·rintro ⟨h1,h2⟩;have hns : ∀ y,sccP E r y -> ¬SeenP E es (i+1) y:=fun y hy ⟨j,z,h3,h4,h5⟩=>hr ⟨j,z,h3,h4,hy.trans h5⟩;have key : ∀ {a b:Int},Rch E a b->Rch E r a->Rch E b r->Rch (fun a b=>E b a ∧ ¬SeenP E es (i+1) b) b a:=fun {a b} hab=>by
   induction hab with
   | refl=>intro _ _;exact .refl
   | @tail b c hab hbc ih =>
     intro h3 h4;have h5:Rch E b r := .head hbc h4;exact .head ⟨hbc,hns b ⟨h3.trans hab,h5⟩⟩ (ih h3 h5)
  exact key h2 h1 .refl
theorem x8k {E:Int->Int->Prop} {es:List Int} {i:Nat} {r:Int} (hi:es[i]? = some r) (hr:SeenP E es (i+1) r) (x:Int):SeenP E es i x↔SeenP E es (i+1) x:=by
 constructor
 ·rintro ⟨j,y,h1,h2,h3⟩;rcases Nat.eq_or_lt_of_le h1 with h4|h4
  ·subst h4;rw [hi] at h2;cases h2;obtain ⟨k,z,h5,h6,h7⟩:=hr;exact ⟨k,z,h5,h6,h3.trans h7⟩
  ·exact ⟨j,y,h4,h2,h3⟩
 ·rintro ⟨j,y,h1,h2,h3⟩;exact ⟨j,y,by omega,h2,h3⟩
theorem x0y {E:Int->Int->Prop} {es:List Int} {i:Nat} {r:Int} (hi:es[i]? = some r) (x:Int):SeenP E es i x↔SeenP E es (i+1) x∨sccP E r x:=by
 constructor
 ·rintro ⟨j,y,h1,h2,h3⟩;rcases Nat.eq_or_lt_of_le h1 with h4|h4
  ·subst h4;rw [hi] at h2;cases h2;exact .inr h3.symm
  ·exact .inl ⟨j,y,h4,h2,h3⟩
 ·rintro (⟨j,y,h1,h2,h3⟩|h)
  ·exact ⟨j,y,by omega,h2,h3⟩
  ·exact ⟨i,r,Nat.le_refl _,hi,h.symm⟩
theorem z2o {n:Nat} {E:Int->Int->Prop} {es:List Int} (h:EndsP n E es) {x:Int} (hx:0<=x∧x<n):SeenP E es 0 x:=by
 obtain ⟨j,hj⟩:=List.mem_iff_getElem?.1 ((h.mem x).2 hx);exact ⟨j,x,zero_le _,hj,.refl x⟩
end Go.Ab
