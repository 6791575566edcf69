/- The law of a program that may be: every step leads from a place to a place. -/
import Derived.Laws.StructEq
import Derived.ChangeKeysEq
import Derived.Test.YtiaikoimoonlmaaGreatDomR8
import Derived.Test.YtiaikoimoonlmaaGreatDomR9
import Derived.Test.YtiaikoimoonlmaaGreatDomR10
import Derived.Test.YtiaikoimoonlmaaGreatDomR13
import Derived.Test.YtiaikoimoonlmaaGreatDomR15
set_option linter.unusedSimpArgs false
set_option linter.unusedVariables false
set_option maxRecDepth 100000
set_option maxHeartbeats 16000000
open Array (length_toList)
open List (Nodup drop_eq_nil_of_le foldl_cons getD_eq_getElem?_getD getElem?_drop getElem?_take length_map length_take map_cons mem_cons mem_cons_of_mem mem_cons_self not_mem_nil pairwise_cons)
open Nat (beq zero_le)
namespace Go.Ab
open Go.Proofs
theorem QH {p:Pg} (h:chkB p=true):KG p=true∧(QE p).1=0∧(WS p).1=0∧(DV p).1=0∧(KV p).1=0:=by
 unfold chkB w3d at h;simp only [decide_eq_true_eq] at h;by_cases h1:KG p=false
 ·rw [if_pos h1] at h;cases h
 rw [if_neg h1] at h;by_cases h2:(QE p).1=0
 ·rw [if_neg (by omega)] at h;by_cases h3:(WS p).1=0
  ·rw [if_neg (by omega)] at h;by_cases h4:(DV p).1=0
   ·rw [if_neg (by omega)] at h;exact ⟨by simpa using h1,h2,h3,h4,h⟩
   ·rw [if_pos h4] at h;exact absurd h h4
  ·rw [if_pos h3] at h;exact absurd h h3
 ·rw [if_pos h2] at h;exact absurd h h2
theorem q4x {f:Pr} : ∀ (l:List Item) (seen:List Str) {s:List Str},UV f l seen = .ok s -> ∀ it∈l,WR f it=true
 | [],_,_,_,it,h=>by cases h
 | a::r,seen,s,h,it,hi=>by
   rw [UV] at h;cases hj:VQ seen a.s.labels with
   | none=>rw [hj] at h;cases h
   | some s1 =>
     rw [hj] at h;simp only at h;cases hl:WR f a with
     | false=>rw [hl] at h;cases h
     | true =>
       rw [hl,cond_true] at h;rcases List.mem_cons.1 hi with rfl|hi
       ·exact hl
       ·exact q4x r s1 h it hi
theorem DP {p:Pg} (hs:(QE p).1=0) (h:(DV p).1=0) {j:Nat} {f:Pr} (hj:p.procs[j]? = some f) : ∀ it∈itsOf p j f,WR f it=true:=by
 unfold DV at h;rw [if_neg (by omega)] at h;have hn:(List.range p.procs.length).findSome? (VI p)=none:=by
  cases hq:(List.range p.procs.length).findSome? (VI p) with
  | none=>rfl
  | some a=>rw [hq] at h;cases h
 rw [List.findSome?_eq_none_iff] at hn;have hlt:j<p.procs.length:=(List.getElem?_eq_some_iff.1 hj).1;have:=hn j (List.mem_range.2 hlt);unfold VI at this;rw [hj] at this;simp only at this;cases hr:UV f (itL (j:Nat) 0 (-1) 0 (QD p.procs j) f.body) [] with
 | error id=>rw [hr] at this;cases this
 | ok seen=>exact q4x _ _ hr
mutual
theorem w2f : ∀ (t u v:S),u∈flS t->v∈u.thn∨v∈u.els->v∈flS t
 | .mk id kind labels name proc x has args thn els,u,v,h,hv=>by
   rw [flS] at h ⊢;rcases List.mem_cons.1 h with rfl|h
   ·refine mem_cons_of_mem _ (List.mem_append.2 ?_);rcases hv with hv|hv
    ·exact .inl (FI thn v hv)
    ·exact .inr (FI els v hv)
   ·rcases List.mem_append.1 h with h|h
    ·exact mem_cons_of_mem _ (List.mem_append.2 (.inl (q2u thn u v h hv)))
    ·exact mem_cons_of_mem _ (List.mem_append.2 (.inr (q2u els u v h hv)))
theorem q2u : ∀ (l:List S) (u v:S),u∈flL l->v∈u.thn∨v∈u.els->v∈flL l
 | [],u,v,h,hv=>by rw [flL] at h;cases h
 | t::r,u,v,h,hv=>by
   rw [flL] at h ⊢;rcases List.mem_append.1 h with h|h
   ·exact List.mem_append.2 (.inl (w2f t u v h hv))
   ·exact List.mem_append.2 (.inr (q2u r u v h hv))
end
theorem YI {p:Pg} {j:Nat} {f:Pr} {it:Item} (h:it∈itsOf p j f):it.s∈flL f.body:=by
 unfold itsOf at h;rw [<- DW (j:Nat) 0 (-1) 0 (QD p.procs j) f.body];exact List.mem_map.2 ⟨it,h,rfl⟩
theorem VD {p:Pg} (hm:KG p=true) {j:Nat} {f:Pr} (hj:p.procs[j]? = some f) {t:S} (h:t∈flL f.body):(QD p.procs j:Int)+1<=t.id∧t.id<=(QD p.procs j+cntL f.body:Nat):=by
 have h1:=z7v hm hj;have h2:t.id∈q0m (QD p.procs j) (cntL f.body):=by
  rw [<- h1];exact List.mem_map.2 ⟨t,h,rfl⟩
 have:=FE h2;omega
theorem BW {p:Pg} {j:Nat} {f:Pr} {it:Item} (h:it∈itsOf p j f):okI (QD p.procs j) (QD p.procs j+cntL f.body) it.next∧(it.loop=0∨((QD p.procs j:Int)+1<=it.loop∧it.loop<=(QD p.procs j+cntL f.body:Nat))) :=
 x1q (j:Nat) _ _ f.body 0 (-1) 0 _ it h (.inl rfl) (.inl rfl) (Nat.le_refl _) (Nat.le_refl _)
theorem HY {p:Pg} {j:Nat} {f:Pr} (hj:p.procs[j]? = some f) {k:Nat} (h1:QD p.procs j<=k) (h2:k<QD p.procs j+cntL f.body) : ∃ it,(sheetOf p).l[k]? = some it∧it∈itsOf p j f:=by
 obtain ⟨_,_,_,hlen,hsp⟩:=QU p;obtain ⟨_,_,hle,hd⟩:=hsp j f hj;have hk:k<(sheetOf p).l.length:=by omega
 refine ⟨(sheetOf p).l[k],List.getElem?_eq_getElem hk,?_⟩;unfold itsOf;rw [<- hd];refine List.mem_iff_getElem?.2 ⟨k-QD p.procs j,?_⟩;rw [getElem?_drop,getElem?_take,if_pos (by omega),show QD p.procs j+(k-QD p.procs j)=k by omega,List.getElem?_eq_getElem hk]
theorem w7f {p:Pg} (hm:KG p=true) {j:Nat} {f:Pr} (hj:p.procs[j]? = some f) {it:Item} (h:it∈itsOf p j f) (hl:WR f it=true) : ∀ x∈goesI (sheetOf p) f it,okI (QD p.procs j) (QD p.procs j+cntL f.body) x:=by
 obtain ⟨hnx,hlo⟩:=BW h;have hs:=YI h;have hid:=VD hm hj hs;have hhead : ∀ (l:List S) (o:Int),(∀ v∈l,v∈it.s.thn∨v∈it.s.els)->okI (QD p.procs j) (QD p.procs j+cntL f.body) o->okI (QD p.procs j) (QD p.procs j+cntL f.body) (DG l o):=fun l o hv ho=>by
  cases l with
  | nil=>exact ho
  | cons v r=>exact .inr (VD hm hj (q2u f.body it.s v hs (hv v mem_cons_self)))
 have hloop:it.s.kind=7∨it.s.kind=8->(QD p.procs j:Int)+1<=it.loop∧it.loop<=(QD p.procs j+cntL f.body:Nat):=fun hk=>by
  unfold WR at hl;rw [if_pos hk] at hl;rcases hlo with h0|h0
  ·rw [h0] at hl;cases hl
  ·exact h0
 intro x hx;unfold goesI at hx;split at hx
 ·simp only [mem_cons,not_mem_nil,or_false] at hx;rcases hx with rfl|rfl
  ·exact hhead _ _ (fun v hv => .inl hv) hnx
  ·exact hhead _ _ (fun v hv => .inr hv) hnx
 split at hx
 ·simp only [mem_cons,not_mem_nil,or_false] at hx;rcases hx with rfl|rfl
  ·exact hhead _ _ (fun v hv => .inl hv) (.inr hid)
  ·exact hnx
 split at hx
 ·rename_i hk;have hlp:=hloop (.inl hk);obtain ⟨u,hu1,hu2⟩:=HY hj (k:=(it.loop-1).toNat) (by omega) (by omega);rw [hu1] at hx;rw [List.mem_singleton.1 hx];exact (BW hu2).1
 split at hx
 ·rename_i hk;rw [List.mem_singleton.1 hx];exact .inr (hloop (.inr hk))
 split at hx
 ·rw [List.mem_singleton.1 hx];exact .inl rfl
 split at hx
 ·rename_i h7 h8 _ hk;rw [List.mem_singleton.1 hx];unfold WR at hl;rw [if_neg (by omega),if_pos hk] at hl;unfold atB at hl ⊢;split
  ·rename_i t ht;exact .inr (VD hm hj (List.mem_of_find?_eq_some ht))
  ·rename_i hn;rw [hn] at hl;simp only at hl;cases hfin:f.fin.any fun s=>it.s.name==s with
   | true=>exact .inl rfl
   | false=>rw [hfin] at hl;cases hl
 ·rw [List.mem_singleton.1 hx];exact hnx
theorem DA {p:Pg} (h:chkB p=true) {j:Nat} {f:Pr} (hj:p.procs[j]? = some f):(∀ it∈itsOf p j f,it.s.kind=7->1<=it.loop∧it.loop<=(sheetOf p).l.length) ∧
  (∀ s∈QJ p j f,(s.src=0∨((QD p.procs j:Int)+1<=s.src∧s.src<=(QD p.procs j+cntL f.body:Nat)))∧okI (QD p.procs j) (QD p.procs j+cntL f.body) s.dst) ∧ ∀ s∈QJ p j f,okSt s:=by
 obtain ⟨hm,hs,_,hjm,_⟩:=QH h;have hld:=DP hs hjm hj;obtain ⟨_,_,_,hlen,hsp⟩:=QU p;obtain ⟨_,_,hle,_⟩:=hsp j f hj;obtain ⟨_,_,hcn⟩:=WD hm;have key : ∀ s∈QJ p j f,(s.src=0∨((QD p.procs j:Int)+1<=s.src∧s.src<=(QD p.procs j+cntL f.body:Nat)))∧okI (QD p.procs j) (QD p.procs j+cntL f.body) s.dst:=fun s hx=>by
  unfold QJ at hx;rcases List.mem_cons.1 hx with rfl|hx
  ·refine ⟨.inl rfl,?_⟩;show okI _ _ (if QD p.procs j<QD p.procs j+cntL f.body then ((QD p.procs j:Nat)+1:Int) else -1);split
   ·exact .inr ⟨by omega,by omega⟩
   ·exact .inl rfl
  ·obtain ⟨it,hit,hz⟩:=List.mem_flatMap.1 hx;obtain ⟨y,hy,rfl⟩:=List.mem_map.1 hz;exact ⟨.inr (VD hm hj (YI hit)),w7f hm hj hit (hld it hit) y hy⟩
 refine ⟨fun it hit hk => ?_,key,fun s hx => ?_⟩
 ·have hl:=hld it hit;unfold WR at hl;rw [if_pos (.inl hk)] at hl;rcases (BW hit).2 with h0|h0
  ·rw [h0] at hl;cases hl
  ·omega
 ·obtain ⟨h1,h2⟩:=key s hx;unfold okSt okI at *
  omega
def wayO (p:Pg) (n:Str):Option Way:=bif chkB p then (match p.procs.find? (fun f=>f.name==n) with
 | some f=>some (newWay p (p.procs.findIdx fun f=>f.name==n) f)
 | none=>none) else none
def v5a:Option Way->AV
 | some w => .ip w.cells
 | none => .nilp
theorem WN {p:Pg} (h:chkB p=true):p.globals.length<=16∧p.procs.length<=16∧cntP p.procs<=200:=WD (QH h).1
theorem z0y {p:Pg} {n:Str} (h : ¬n∈procsN p):idxF (fun f=>f.name==n) p.procs = -1∧p.procs.find? (fun f=>f.name==n)=none:=by
 have h1:p.procs.any (fun f=>f.name==n)=false:=by
  rw [List.any_eq_false];intro f hf hn;exact h (List.mem_map.2 ⟨f,hf,by simpa using hn⟩)
 refine ⟨by unfold idxF;rw [h1];rfl,?_⟩;rw [List.find?_eq_none];intro f hf;have:=List.any_eq_false.1 h1 f hf;simpa using this
theorem q4y {p:Pg} {n:Str} (h:n∈procsN p) : ∃ (k:Nat) (hk:k<p.procs.length),idxF (fun f=>f.name==n) p.procs=k∧p.procs.findIdx (fun f=>f.name==n)=k∧p.procs.find? (fun f=>f.name==n)=some p.procs[k]∧p.procs[k].name=n:=by
 obtain ⟨k,hk,h1,h2,h3⟩:=q9w h;refine ⟨k,hk,h1,?_,h2,h3⟩;unfold idxF at h1;cases ha:p.procs.any (fun f=>f.name==n) with
 | true=>rw [ha,cond_true] at h1;omega
 | false=>rw [ha,cond_false] at h1;omega
theorem w6j (p:Pg) (hf:Fit p) (n:Str):SpecP Tryz.prog 93 [.agg p.cells,.str n] (fun r=>r=v5a (wayO p n)):=by
 refine sB w1d Tryz.func93 rfl Tryz.call93 ?_;conv=>whnf
 cases hc:chkB p with
 | false =>
   have e:wayO p n=none:=by unfold wayO;rw [hc];rfl
   have hA : ¬(w3d p).1=0:=by unfold chkB at hc;simpa using hc
   rw [e];repeat' (first|(refine cP (HL p hf) ?_;conv=>whnf)|(apply bE<;>intro _<;>first|omega|conv=>whnf))
   all_goals first
    | exact RetK.p rfl
    | (exfalso;exact hA (by assumption))
 | true =>
   obtain ⟨hg,hpl,hcn⟩:=WN hc;have hA:(w3d p).1=0:=by unfold chkB at hc;simpa using hc
   have hsp:(sheetOf p).p.procs=p.procs:=by rw [(QU p).1]
   by_cases hn:n∈procsN p
   ·obtain ⟨k,hk,h1,h2,h3,h4⟩:=q4y hn;have e:wayO p n=some (newWay p k p.procs[k]):=by unfold wayO;rw [hc,h3,h2];rfl
    have hkj:p.procs[k]? = some p.procs[k]:=by simp
    obtain ⟨w1,_,w3⟩:=DA hc hkj;rw [e];repeat' (first|((first|refine cP (HL p hf) ?_|refine cP (ZV _ _) ?_|(refine CallK.pure (YR p (by omega) (by omega)) (.cons (Sub.refl _) .nil) ?_;rintro _ rfl)|(refine CallK.pure (w7p p k p.procs[k] hkj (by omega) w1 w3) (.cons (Sub.refl _) (.cons (Sub.int h1) .nil)) ?_;rintro _ rfl));conv=>whnf)|(apply bD<;>intro _<;>first|omega|conv=>whnf)|(apply bE<;>intro _<;>first|omega|conv=>whnf))
    all_goals rw [hsp] at *
    all_goals first
     | exact RetK.p rfl
     | (exfalso;omega)
   ·obtain ⟨h1,h2⟩:=z0y hn;have e:wayO p n=none:=by unfold wayO;rw [hc,h2];rfl
    rw [e];repeat' (first|((first|refine cP (HL p hf) ?_|refine cP (ZV _ _) ?_|(refine CallK.pure (YR p (by omega) (by omega)) (.cons (Sub.refl _) .nil) ?_;rintro _ rfl));conv=>whnf)|(apply bD<;>intro _<;>first|omega|conv=>whnf)|(apply bE<;>intro _<;>first|omega|conv=>whnf))
    all_goals rw [hsp] at *
    all_goals first
     | exact RetK.p rfl
     | (exfalso;omega)
theorem x5m {p:Pg} {n:Str} {w:Way} (h:wayO p n=some w) : ∃ (k:Nat) (f:Pr),p.procs[k]? = some f∧w=newWay p k f∧chkB p=true∧f.name=n∧p.procs.find? (fun f=>f.name==n)=some f:=by
 unfold wayO at h;cases hc:chkB p with
 | false=>rw [hc] at h;cases h
 | true =>
   rw [hc,cond_true] at h;by_cases hn:n∈procsN p
   ·obtain ⟨k,hk,h1,h2,h3,h4⟩:=q4y hn;rw [h3,h2] at h;cases h;exact ⟨k,p.procs[k],by simp,rfl,rfl,h4,h3⟩
   ·rw [(z0y hn).2] at h;cases h
def w6w (p:Pg) (k:Nat) (f:Pr):Int:=if QD p.procs k<QD p.procs k+cntL f.body then ((QD p.procs k:Nat)+1:Int) else -1
def QM (p:Pg) (j:Nat) (n i:Int):Int:=if i=0 then 0 else if i=n-1 then -1 else loI p j+i-1
theorem GX (w:Way) (f:Pr) (hj:w.p.procs[w.j]? = some f) (hc:cntP w.p.procs<=1000) (hn:0<=w.n∧w.n<=5000) (i:Int) (hi:0<=i∧i<=5000):SpecP Tryz.prog 94 [.ip w.cells,.int .i64 i] (fun r=>r = .int .i64 (QM w.p w.j w.n i)):=by
 refine sB q3j Tryz.func94 rfl Tryz.call94 ?_;conv=>whnf
 obtain ⟨_,_,_,hlen,hsp⟩:=QU w.p;obtain ⟨hlo,hhi,hle,_⟩:=hsp w.j f hj;repeat' (first|((first|refine dA ?_|refine wI ?_|(refine IdxK.at rfl (VU hlo) rfl ?_));conv=>whnf)|(apply bD<;>intro _<;>first|omega|conv=>whnf))
 all_goals exact RetK.int (by unfold QM loI;(repeat' split)<;>omega)
def w3o (p:Pg) (id:Int):Option S:=((sheetOf p).l[(id-1).toNat]?).map Item.s
def x5o (p:Pg) (some':List Str) (t:Step):Bool:=decide (t.src=0)||match w3o p t.src with
 | some s => !(decide (s.kind=4) && !(some'.any fun x=>s.proc==x))
 | none=>true
def z6t (w:Way) (f:Pr) (some':List Str):Bool :=
 (HZ 0 (ZR (XQ (cntL f.body+2) ((w.real.filter (x5o w.p some')).map (ixP w.p w.j f w.n))).1 [0])).any fun s=>decide (w.n-1=s)
def x1u (p:Pg) (st:List Str×Bool) (k:Nat):List Str×Bool:=match p.procs[k]? with
 | some f=>bif !(st.1.any fun s=>f.name==s)&&z6t (newWay p k f) f st.1 then (st.1++[f.name],true) else st
 | none=>st
def q8v (p:Pg) (out:List Str):List Str×Bool:=(List.range p.procs.length).foldl (x1u p) (out,false)
def x6l (p:Pg):Nat->List Str->List Str
 | 0,out=>out
 | k+1,out=>bif (q8v p out).2 then x6l p k (q8v p out).1 else (q8v p out).1
def q4o (p:Pg) (out:List Str):Nat:=p.procs.countP fun f => !(out.any fun s=>f.name==s)
theorem q3u {α:Type} {p q:α->Bool} : ∀ {l:List α},(∀ x∈l,q x=true->p x=true)->(∃ x∈l,p x=true∧q x=false)->l.countP q<l.countP p
 | [],_,h=>by obtain ⟨x,hx,_⟩:=h;cases hx
 | a::r,h1,h2=>by
   have hle:r.countP q<=r.countP p:=List.countP_mono_left fun x hx=>h1 x (mem_cons_of_mem _ hx);rw [List.countP_cons,List.countP_cons];have ha:=h1 a mem_cons_self;obtain ⟨x,hx,h3,h4⟩:=h2;rcases List.mem_cons.1 hx with rfl|hx
   ·rw [h3,h4];simp;omega
   ·have:=q3u (fun y hy=>h1 y (mem_cons_of_mem _ hy)) ⟨x,hx,h3,h4⟩;cases hq:q a with
    | true=>rw [ha hq];simp;omega
    | false=>cases p a<;>simp<;>omega
theorem z6f {p:Pg} {out:List Str} {f:Pr} (hf:f∈p.procs) (h:(out.any fun s=>f.name==s)=false):q4o p (out++[f.name])<q4o p out:=by
 unfold q4o;refine q3u (fun g _ hg => ?_) ⟨f,hf,by rw [h];rfl,by rw [List.any_append];simp⟩;rw [List.any_append] at hg;cases hq:out.any fun s=>g.name==s with
 | false=>rfl
 | true=>rw [hq] at hg;cases hg
def endsR (p:Pg):List Str:=bif chkB p then YO (x6l p (p.procs.length+1) []) else []
def LK (a b:Step):Prop:=XI a.src<XI b.src∨(XI a.src=XI b.src∧XI a.dst<XI b.dst)
def w1g (s:Step):Prop:=okSt s∧s.kind=1
theorem KY {a b:Step} (h1:a.src=b.src) (h2:a.dst=b.dst) (h3:a.kind=b.kind):a=b:=by
 cases a;cases b;simp_all
theorem KX {a b:Step}:GK a b=true↔XI a.src<XI b.src∨(XI a.src=XI b.src∧(XI a.dst<XI b.dst∨(XI a.dst=XI b.dst∧a.kind<b.kind))):=by
 have h:GK a b=decide (x8p a b<0):=rfl;rw [h,decide_eq_true_eq];unfold x8p;simp only [orI];split
 ·rename_i h1;rw [YJ] at h1;split
  ·rename_i h2;rw [YJ] at h2;split
   ·rename_i h3;rw [YJ] at h3;omega
   ·rw [FG];omega
  ·rename_i h2;rw [YJ] at h2;rw [FG];omega
 ·rename_i h1;rw [YJ] at h1;rw [FG];omega
theorem PK (l:List Step):(UG l).Pairwise fun a b=>GK b a=false:=by
 have:=List.pairwise_mergeSort (le:=fun x y => !GK y x) (fun a b c h1 h2=>by
  simp only [Bool.not_eq_true'] at h1 h2 ⊢;rw [Bool.eq_false_iff,ne_eq,KX] at h1 h2 ⊢;omega) (fun a b=>by
  cases h1:GK b a with
  | false=>rfl
  | true =>
    have h2:GK a b=false:=by
     rw [Bool.eq_false_iff,ne_eq,KX];rw [KX] at h1;omega
    rw [h2];rfl) l
 refine List.Pairwise.imp ?_ this;intro a b h;simpa using h
theorem q0c {a b:Step} (ha:w1g a) (hb:w1g b):ZZ a b=true↔a=b:=by
 unfold ZZ;simp only [Bool.and_eq_true,decide_eq_true_eq];refine ⟨fun h=>KY h.1 h.2 (by rw [ha.2,hb.2]),fun h=>by rw [h];exact ⟨rfl,rfl⟩⟩
theorem w7c {a b:Step} (ha:w1g a) (hb:w1g b) (h:GK b a=false) (hne:a≠b):LK a b:=by
 rw [Bool.eq_false_iff,ne_eq,KX] at h;unfold LK;by_cases h1:XI a.src=XI b.src
 ·by_cases h2:XI a.dst=XI b.dst
  ·exact absurd (KY (KU ha.1.1 hb.1.1 h1) (KU ha.1.2 hb.1.2 h2) (by rw [ha.2,hb.2])) hne
  ·omega
 ·omega
theorem LQ {a b c:Step} (h:LK a b) (h':LK b c):LK a c:=by unfold LK at *;omega
theorem KE {a:Step} (h:LK a a):False:=by unfold LK at h;omega
theorem PR : ∀ (l:List Step) (a:Step),w1g a->(∀ s∈l,w1g s)->(a::l).Pairwise (fun a b=>GK b a=false)->(a::XW a l).Pairwise LK ∧ ∀ s,s∈a::XW a l↔s∈a::l
 | [],a,_,_,_=>⟨by simp [XW],by simp [XW]⟩
 | b::r,a,ha,hl,h=>by
   have hb:=hl b mem_cons_self;have hr : ∀ s∈r,w1g s:=fun s hs=>hl s (mem_cons_of_mem _ hs);rw [pairwise_cons] at h;obtain ⟨h1,h2⟩:=h;obtain ⟨i1,i2⟩:=PR r b hb hr h2;rw [XW];cases hs:ZZ b a with
   | true =>
     obtain rfl:=(q0c hb ha).1 hs;rw [cond_true];exact ⟨i1,fun s=>by rw [i2];simp⟩
   | false =>
     rw [cond_false];have hne:a≠b:=fun e=>by
      rw [(q0c hb ha).2 e.symm] at hs;cases hs
     have hlt:=w7c ha hb (h1 b mem_cons_self) hne;refine ⟨?_,fun s=>by rw [mem_cons,i2,<- mem_cons (a:=s) (b:=a)]⟩;rw [pairwise_cons];refine ⟨fun s hsm => ?_,i1⟩;rcases List.mem_cons.1 hsm with rfl|hsm
     ·exact hlt
     ·exact LQ hlt ((List.pairwise_cons.1 i1).1 s hsm)
theorem z4w {l:List Step} (hok : ∀ s∈l,w1g s):(WU l).Pairwise LK ∧ ∀ s,s∈WU l↔s∈l:=by
 have hp : ∀ s,s∈UG l↔s∈l:=fun s=>(q3z l).mem_iff;have hs:=PK l;unfold WU;cases hq:UG l with
 | nil =>
   rw [hq] at hp;exact ⟨by simp [DC],fun s=>by rw [<- hp];simp [DC]⟩
 | cons a r =>
   rw [hq] at hp hs;have hok' : ∀ s∈a::r,w1g s:=fun s h=>hok s ((hp s).1 h);obtain ⟨h1,h2⟩:=PR r a (hok' a mem_cons_self) (fun s h=>hok' s (mem_cons_of_mem _ h)) hs;exact ⟨h1,fun s=>by rw [DC,h2,hp]⟩
theorem q8m : ∀ {l m:List Step},l.Pairwise LK->m.Pairwise LK->(∀ s,s∈l↔s∈m)->l=m
 | [],[],_,_,_=>rfl
 | [],b::m,_,_,h=>by have:=(h b).2 mem_cons_self;cases this
 | a::l,[],_,_,h=>by have:=(h a).1 mem_cons_self;cases this
 | a::l,b::m,hl,hm,h=>by
   rw [pairwise_cons] at hl hm;have hab:a=b:=by
    rcases List.mem_cons.1 ((h a).1 mem_cons_self) with e|ha
    ·exact e
    ·rcases List.mem_cons.1 ((h b).2 mem_cons_self) with e|hb
     ·exact e.symm
     ·exact (KE (LQ (hl.1 b hb) (hm.1 a ha))).elim
   subst hab;congr 1;refine q8m hl.2 hm.2 fun s=>⟨fun hs => ?_,fun hs => ?_⟩
   ·rcases List.mem_cons.1 ((h s).1 (mem_cons_of_mem _ hs)) with rfl|h'
    ·exact (KE (hl.1 _ hs)).elim
    ·exact h'
   ·rcases List.mem_cons.1 ((h s).2 (mem_cons_of_mem _ hs)) with rfl|h'
    ·exact (KE (hm.1 _ hs)).elim
    ·exact h'
theorem x4k {p:Pg} (h:chkB p=true) {j:Nat} {f:Pr} (hj:p.procs[j]? = some f) : ∀ s∈QJ p j f,w1g s:=by
 obtain ⟨_,_,h3⟩:=DA h hj;intro s hs;refine ⟨h3 s hs,?_⟩;unfold QJ at hs;rcases List.mem_cons.1 hs with rfl|hs
 ·rfl
 ·obtain ⟨it,_,hz⟩:=List.mem_flatMap.1 hs;obtain ⟨y,_,rfl⟩:=List.mem_map.1 hz;rfl
theorem WG {p:Pg} (h:chkB p=true) {j:Nat} {f:Pr} (hj:p.procs[j]? = some f):(newWay p j f).real.Pairwise LK ∧ ∀ s,s∈(newWay p j f).real↔s∈QJ p j f:=z4w (x4k h hj)
theorem w3e {p:Pg} (h:chkB p=true) {j:Nat} {f:Pr} (hj:p.procs[j]? = some f) {s:Step} (hs:s∈QJ p j f):s=⟨0,w6w p j f,1⟩∨(1<=s.src∧s.src<=9223372036854775806):=by
 obtain ⟨_,_,hcn⟩:=WN h;obtain ⟨_,_,_,hlen,hsp⟩:=QU p;obtain ⟨_,_,hle,_⟩:=hsp j f hj;unfold QJ at hs;rcases List.mem_cons.1 hs with rfl|hs
 ·exact .inl rfl
 ·obtain ⟨it,hit,hz⟩:=List.mem_flatMap.1 hs;obtain ⟨y,_,rfl⟩:=List.mem_map.1 hz;have:=VD (QH h).1 hj (YI hit);refine .inr ?_;simp only;omega
def w5l (p:Pg):Bool:=decide (gPg p<=20000)
theorem v0l {p:Pg} (h:w5l p=true):Fit p:=by
 have:=v4d p;have h1:gPg p<=20000:=by simpa [w5l] using h
 unfold Fit;omega
theorem VF (p:Pg):SpecP Tryz.prog 16 [.agg p.cells] (fun r=>r = .bool (w5l p)):=by
 refine sB BE Tryz.func16 rfl Tryz.call16 ?_;conv=>whnf
 have hl:(p.procs.map fun f=>AV.agg f.cells).length=p.procs.length:=length_map _;have q0:=XM (a:=0+DL p.globals) (by omega);repeat' (refine CallK.pure (XF p.globals 0 (by omega)) (.cons (Sub.refl _) (.cons (Sub.refl _) .nil)) ?_;rintro _ rfl;conv=>whnf)
 refine LoopK.inv QV (fun y:Nat×Int=>⟨[(1,.p (.ip p.cells)),(3,.p (.int .i64 y.2)),(4,.p (.int .i64 y.1))],[]⟩) (fun y=>y.1<=p.procs.length∧(0<=y.2∧y.2<=20001)∧XU (y.2+x7a (p.procs.drop y.1))=XU (gPg p:Nat)) (fun y=>p.procs.length-y.1) (0,XU (0+DL p.globals)) (Le.of_eq rfl) ⟨zero_le _,q0,by
  show XU (XU (0+DL p.globals)+x7a p.procs)=_;rw [XE (by omega)];congr 1;unfold gPg;omega⟩ ?_
 rintro ⟨j,m⟩ ⟨h2,h3,h4⟩;simp only at h2 h3 h4 ⊢;have last : ∀ {x:Int},0<=x∧x<=20001->XU x=XU (gPg p:Nat)->(decide (x<=20000))=w5l p:=fun {x} hx h=>by
  unfold w5l;unfold XU at h;by_cases h1:gPg p<=20000
  ·rw [decide_eq_true h1,decide_eq_true_eq];split at h<;>split at h<;>omega
  ·rw [decide_eq_false h1,decide_eq_false_iff_not];split at h<;>split at h<;>omega
 rcases Nat.lt_or_ge j p.procs.length with hj|hj;rotate_left 1
 ·rw [drop_eq_nil_of_le hj,x7a] at h4;conv=>whnf
  repeat' (first|(refine iM fun _=>?_;conv=>whnf)|(apply bD<;>intro _<;>first|omega|conv=>whnf))
  all_goals exact RetK.bool (last h3 (by rw [<- h4];simp))
 rw [List.drop_eq_getElem_cons hj,x7a] at h4;have hpe:gPr p.procs[j]=1+p.procs[j].name.length+DL p.procs[j].vars+DL p.procs[j].fin+w1k p.procs[j].params+gL p.procs[j].body:=rfl;have q1:=XM (a:=m+(1+p.procs[j].name.length:Nat)) (by omega);have q2:=XM (a:=XU (m+(1+p.procs[j].name.length:Nat))+DL p.procs[j].vars) (by omega);have q3:=XM (a:=XU (XU (m+(1+p.procs[j].name.length:Nat))+DL p.procs[j].vars)+DL p.procs[j].fin) (by omega);conv=>whnf
 repeat' (first|((first|(refine iM fun _=>?_)|refine dA ?_|refine And.intro rfl ?_|(refine iA fun _=>?_)|refine cP (QR p.procs[j].name _ h3) ?_|refine cP (XF p.procs[j].vars _ q1) ?_|refine cP (XF p.procs[j].fin _ q2) ?_);conv=>whnf)|(apply bD<;>intro _<;>first|omega|conv=>whnf))
 rotate_left 1
 ·exact RetK.bool (last h3 (by rw [<- h4,<- VE (by omega) h3.2 (by omega),q9g h3.2]))
 have h5:XU (XU (XU (XU (m+(1+p.procs[j].name.length:Nat))+DL p.procs[j].vars)+DL p.procs[j].fin)+(w1k p.procs[j].params+(gL p.procs[j].body+x7a (p.procs.drop (j+1))):Nat))=XU (gPg p:Nat):=by
  rw [XE (by omega),Int.add_assoc,XE (by omega),Int.add_assoc,XE (by omega),<- h4,hpe];congr 1;omega
 generalize XU (XU (XU (m+(1+p.procs[j].name.length:Nat))+DL p.procs[j].vars)+DL p.procs[j].fin)=m0 at q3 h5 ⊢;have hal:(p.procs[j].params.map fun a=>AV.agg a.cells).length=p.procs[j].params.length:=length_map _;refine LoopK.inv QV (fun y:Nat×Int=>⟨[(1,.p (.ip p.cells)),(3,.p (.int .i64 y.2)),(4,.p (.int .i64 j)),(5,.p (.ip p.procs[j].cells)),(6,.p (.int .i64 y.1))],[]⟩) (fun y=>y.1<=p.procs[j].params.length∧(0<=y.2∧y.2<=20001)∧XU (y.2+(w1k (p.procs[j].params.drop y.1)+(gL p.procs[j].body+x7a (p.procs.drop (j+1))):Nat))=XU (gPg p:Nat)) (fun y=>p.procs[j].params.length-y.1) (0,m0) (Le.of_eq rfl) ⟨zero_le _,q3,h5⟩ ?_;rintro ⟨a,m2⟩ ⟨h6,h7,h8⟩;simp only at h6 h7 h8 ⊢;have fin:XU (m2+(gL p.procs[j].body+x7a (p.procs.drop (j+1)):Nat))=XU (gPg p:Nat)->(0<=XU (m2+gL p.procs[j].body)∧XU (m2+gL p.procs[j].body)<=20001)∧XU (XU (m2+gL p.procs[j].body)+x7a (p.procs.drop (j+1)))=XU (gPg p:Nat):=fun h=>by
  refine ⟨XM (by omega),?_⟩;rw [XE (by omega),<- h];congr 1;omega
 have full:m2>20000->XU (m2+(gL p.procs[j].body+x7a (p.procs.drop (j+1)):Nat))=XU (gPg p:Nat):=fun h=>by
  rw [<- h8,<- VE h h7.2 (by omega),<- VE h h7.2 (by omega)]
 rcases Nat.lt_or_ge a p.procs[j].params.length with ha|ha;rotate_left 1
 ·have h9:XU (m2+(gL p.procs[j].body+x7a (p.procs.drop (j+1)):Nat))=XU (gPg p:Nat):=by
   rw [drop_eq_nil_of_le ha,w1k,Nat.zero_add] at h8;exact h8
  obtain ⟨f1,f2⟩:=fin h9;conv=>whnf
  repeat' (first|((first|(refine iM fun _=>?_)|refine wI ?_|(refine CallK.pure (VZ (gL p.procs[j].body+1) p.procs[j].body (by omega) m2 h7) (.cons (Sub.refl _) (.cons (Sub.refl _) .nil)) ?_;rintro _ rfl));conv=>whnf)|(apply bD<;>intro _<;>first|omega|conv=>whnf))
  all_goals exact ⟨(j+1,XU (m2+gL p.procs[j].body)),⟨by simp only;omega,f1,f2⟩,by simp only;omega,Le.of_eq rfl⟩
 rw [List.drop_eq_getElem_cons ha,w1k] at h8;conv=>whnf
 repeat' (first|((first|(refine iM fun _=>?_)|(refine iA fun _=>?_)|refine wI ?_|refine cP (QR p.procs[j].params[a].name _ h7) ?_|(refine CallK.pure (VZ (gL p.procs[j].body+1) p.procs[j].body (by omega) m2 h7) (.cons (Sub.refl _) (.cons (Sub.refl _) .nil)) ?_;rintro _ rfl));conv=>whnf)|(apply bD<;>intro _<;>first|omega|conv=>whnf))
 ·have h10:XU (XU (m2+(1+p.procs[j].params[a].name.length:Nat))+(w1k (p.procs[j].params.drop (a+1))+(gL p.procs[j].body+x7a (p.procs.drop (j+1))):Nat))=XU (gPg p:Nat):=by
   rw [XE (by omega),<- h8];congr 1;omega
  exact ⟨(a+1,XU (m2+(1+p.procs[j].params[a].name.length:Nat))),⟨by simp only;omega,XM (by omega),h10⟩,by simp only;omega,Le.of_eq rfl⟩
 ·obtain ⟨f1,f2⟩:=fin (full (by omega));exact ⟨(j+1,XU (m2+gL p.procs[j].body)),⟨by simp only;omega,f1,f2⟩,by simp only;omega,Le.of_eq rfl⟩
inductive SubE:List AV->List AV->Prop
 | nil:SubE [] []
 | cons {a b:AV} {xs ys:List AV} (h:SubL a.cells b.cells) (hs:SubE xs ys):SubE (a::xs) (b::ys)
theorem SubE.get {xs ys:List AV} (h:SubE xs ys):xs.length=ys.length ∧ ∀ (i:Nat) (b:AV),ys[i]? = some b -> ∃ a,xs[i]? = some a∧SubL a.cells b.cells:=by
 induction h with
 | nil=>exact ⟨rfl,by simp⟩
 | cons h hs ih =>
   refine ⟨by simp [ih.1],fun i b hb => ?_⟩;cases i with
   | zero=>simp at hb;subst hb;exact ⟨_,rfl,h⟩
   | succ i=>exact ih.2 i b (by simpa using hb)
theorem Sub.sl {xs ys:List AV} (h:SubE xs ys):Sub (.sl xs) (.sl ys):=fun σ v hr=>by
 obtain ⟨hl,hg⟩:=h.get;cases hr with
 | nilsl =>
   obtain rfl:ys=[]:=by simpa using hl.symm
   exact .nilsl
 | slz b =>
   obtain rfl:ys=[]:=by simpa using hl.symm
   exact .slz b
 | sl _ b off cap sz cells u hb hcap hmax hsz hc hrr =>
   rw [hl];refine .sl ys b off cap sz cells u hb (by omega) hmax (fun i e hi => ?_) (fun i e j c hi hj => ?_) (fun i e j c hi hj => ?_)
   ·obtain ⟨a,h1,h2⟩:=hg i e hi;rw [<- hsz i a h1,h2.1]
   ·obtain ⟨a,h1,h2⟩:=hg i e hi;obtain ⟨d,h3,_⟩:=h2.get hj;exact hc i a j d h1 h3
   ·obtain ⟨a,h1,h2⟩:=hg i e hi;obtain ⟨d,h3,h4⟩:=h2.get hj;exact h4 _ _ (hrr i a j d h1 h3)
theorem UU (n:Int):SpecP Tryz.prog 120 [.int .i64 n] (fun r=>r = .agg (X.mk 1 n [] []).cells):=by
 refine sB PY Tryz.func120 rfl Tryz.call120 ?_;conv=>whnf
 repeat' (refine And.intro rfl ?_;conv=>whnf)
 exact ⟨_,.p (Sub.agg (by repeat' (first|exact SubL.nil|refine SubL.cons ?_ ?_|exact Sub.refl _|exact Sub.nils|exact Sub.ff rfl))),rfl⟩
theorem LH (s:Str):SpecP Tryz.prog 121 [.str s] (fun r=>r = .agg (X.mk 2 0 s []).cells):=by
 refine sB BG Tryz.func121 rfl Tryz.call121 ?_;conv=>whnf
 repeat' (refine And.intro rfl ?_;conv=>whnf)
 exact ⟨_,.p (Sub.agg (by repeat' (first|exact SubL.nil|refine SubL.cons ?_ ?_|exact Sub.refl _|exact Sub.nils|exact Sub.ff rfl))),rfl⟩
theorem GH (op:Int) (a b:X):SpecP Tryz.prog 122 [.int .i64 op,.agg a.cells,.agg b.cells] (fun r=>r = .agg (X.mk op 0 [] [a,b]).cells):=by
 refine sB NY Tryz.func122 rfl Tryz.call122 ?_;conv=>whnf
 repeat' ((first|refine And.intro rfl ?_|refine aD ?_|refine MX rfl rfl ?_);conv=>whnf)
 have e:X.avs [a,b]=[.agg a.cells,.agg b.cells]:=by simp only [X.avs,X.av_eq]
 exact ⟨_,.p (Sub.agg (SubL.cons (Sub.refl _) (SubL.cons (Sub.refl _) (SubL.cons (Sub.refl _) (SubL.cons (Sub.of_eq (by show _=AV.sl (X.avs [a,b]);rw [e];rfl)) SubL.nil))))),rfl⟩
def bs (l:List Nat):Str:=l.map fun n=>UInt8.ofNat n
def someP:Pg:=⟨[[103]],[
 ⟨[109,97,105,110],[],[[118]],[
   .mk 1 1 [] [118] [] (.mk 1 2 [] []) false [] [] [],
   .mk 2 4 [] [103] [112] (.mk 0 0 [] []) false [⟨false,[],.mk 1 3 [] []⟩,⟨true,[118],.mk 0 0 [] []⟩] [] [],
   .mk 3 3 [] [] [] (.mk 2 0 [118] []) false [] [] [],
   .mk 4 3 [] [] [] (.mk 2 0 [103] []) false [] [] []],[]⟩,
 ⟨[112],[⟨[120],false⟩,⟨[121],true⟩],[],[
   .mk 5 1 [] [121] [] (.mk 8 0 [] [.mk 2 0 [121] [],.mk 2 0 [120] []]) false [] [] [],
   .mk 6 5 [] [] [] (.mk 12 0 [] [.mk 2 0 [121] [],.mk 1 9 [] []]) false [] [.mk 7 10 [] [101] [] (.mk 0 0 [] []) false [] [] []] [],
   .mk 8 9 [] [] [] (.mk 2 0 [121] []) true [] [] []],[[101]]⟩]⟩
theorem LN:SpecP Tryz.prog 68 [] (fun r=>r = .agg someP.cells):=by
 refine sB BL Tryz.func68 rfl Tryz.call68 ?_;conv=>whnf
 repeat' ((first|refine cP (UU _) ?_|refine cP (LH _) ?_|refine And.intro rfl ?_|refine aD ?_|refine bP ?_|refine MX rfl rfl ?_|refine cP (GH 8 (.mk 2 0 [121] []) (.mk 2 0 [120] [])) ?_|refine cP (GH 12 (.mk 2 0 [121] []) (.mk 1 9 [] [])) ?_);conv=>whnf)
 exact ⟨_,.p (Sub.agg (by repeat' (first|exact SubL.nil|exact SubE.nil|exact Sub.nils|exact Sub.ff rfl|exact Sub.tt rfl|refine SubL.cons ?_ ?_|refine SubE.cons ?_ ?_|exact Sub.refl _|refine Sub.agg ?_|refine Sub.sl ?_))),rfl⟩
theorem q9o:Fit someP:=by unfold Fit;decide
theorem q2m:chkB someP=true:=by kernel_rfl
def f0:Pr:=someP.procs[0]'(by decide)
def f1:Pr:=someP.procs[1]'(by decide)
theorem v3l:WU (QJ someP 0 f0)=[⟨0,1,1⟩,⟨1,2,1⟩,⟨2,3,1⟩,⟨3,4,1⟩,⟨4,-1,1⟩]:=by
 have h1:QJ someP 0 f0=[⟨0,1,1⟩,⟨1,2,1⟩,⟨2,3,1⟩,⟨3,4,1⟩,⟨4,-1,1⟩]:=by kernel_rfl
 unfold WU UG;rw [h1,List.mergeSort_of_pairwise (by decide)];rfl
theorem v2e:WU (QJ someP 1 f1)=[⟨0,5,1⟩,⟨5,6,1⟩,⟨6,7,1⟩,⟨6,8,1⟩,⟨7,-1,1⟩,⟨8,-1,1⟩]:=by
 have h1:QJ someP 1 f1=[⟨0,5,1⟩,⟨5,6,1⟩,⟨6,7,1⟩,⟨6,8,1⟩,⟨7,-1,1⟩,⟨8,-1,1⟩]:=by kernel_rfl
 unfold WU UG;rw [h1,List.mergeSort_of_pairwise (by decide)];rfl
theorem z1v:wayO someP [112]=some (newWay someP 1 f1):=by
 unfold wayO;rw [q2m];rfl
def z6q (n k:Int):Int:=if k<1 then 0 else if n.tmod k<0 then n.tmod k+k else n.tmod k
theorem x9w {n k:Int} (hk:0<k):0<=z6q n k∧z6q n k<k:=by
 unfold z6q;have h1:=Int.tmod_lt_of_pos n hk;have h2 : -k<n.tmod k:=by
  rcases Int.le_total 0 n with h|h
  ·have:=Int.tmod_nonneg k h;omega
  ·have h3:=Int.tmod_lt_of_pos (-n) hk;rw [Int.neg_tmod] at h3;omega
 rw [if_neg (by omega)];split<;>omega
theorem q1d (n k:Int) (hk:k<=1000000):SpecP Tryz.prog 55 [.int .i64 n,.int .i64 k] (fun r=>r = .int .i64 (z6q n k)):=by
 refine sB NX Tryz.func55 rfl Tryz.call55 ?_;conv=>whnf
 have h1:=fun h:0<k=>x9w (n:=n) h;repeat' (first|(refine And.intro (by omega) ?_;conv=>whnf)|(apply bD<;>intro _<;>first|omega|conv=>whnf))
 all_goals first
  | (refine Wr.i64 (by have:=h1 (by omega);unfold z6q at this;rw [if_neg (by omega),if_pos (by assumption)] at this;omega) (by have:=h1 (by omega);unfold z6q at this;rw [if_neg (by omega),if_pos (by assumption)] at this;omega) ?_
     conv=>whnf
     exact RetK.int (by unfold z6q;rw [if_neg (by assumption),if_pos (by assumption)]))
  | exact RetK.int (by unfold z6q;rw [if_pos (by assumption)])
  | exact RetK.int (by unfold z6q;rw [if_neg (by assumption),if_neg (by assumption)])
def w7t (l:List Int) (x:Int):Bool:=l.any fun y=>decide (x=y)
theorem ML (l:List Int) (x:Int):SpecP Tryz.prog 103 [QA l,.int .i64 x] (fun r=>r = .bool (w7t l x)):=by
 refine sB BX Tryz.func103 rfl Tryz.call103 ?_;conv=>whnf
 repeat' (refine iM fun _=>?_;conv=>whnf)
 have hl:(l.map (AV.int .i64)).length=l.length:=length_map _;refine LoopK.inv QV (fun j:Nat=>⟨[(1,.p (.int .i64 x)),(7,.p (QA l)),(8,.p (.int .i64 (l.map (AV.int .i64)).length)),(9,.p (.int .i64 j))],[]⟩) (fun j=>j<=l.length∧(l.drop j).any (fun y=>decide (x=y))=w7t l x) (fun j=>l.length-j) 0 (Le.of_eq rfl) ⟨zero_le _,rfl⟩ ?_;rintro j ⟨h2,h3⟩;rcases Nat.lt_or_ge j l.length with hj|hj
 ·conv=>whnf
  repeat' (first|((first|(refine iA fun _=>?_)|refine wI ?_);conv=>whnf)|(apply bD<;>intro _<;>first|omega|conv=>whnf))
  all_goals first
   | exact RetK.tt (by rw [<- h3,x6c hj (by simp_all)])
   | exact ⟨j+1,⟨hj,by rw [q8s hj (by simp;omega)];exact h3⟩,by omega,Le.of_eq rfl⟩
 ·conv=>whnf
  repeat' (apply bD<;>intro _<;>first|omega|conv=>whnf)
  exact RetK.ff (by rw [<- h3,MS hj])
theorem x5s {α β:Type} {f:α->β} : ∀ {l:List α},(l.map f).Nodup -> ∀ a∈l,∀ b∈l,f a=f b->a=b
 | [],_,a,ha,_,_,_=>by cases ha
 | c::r,h,a,ha,b,hb,e=>by
   rw [map_cons,List.nodup_cons] at h;rcases List.mem_cons.1 ha with ha1|ha1
   ·rcases List.mem_cons.1 hb with hb1|hb1
    ·rw [ha1,hb1]
    ·exact (h.1 (List.mem_map.2 ⟨b,hb1,by rw [<- e,ha1]⟩)).elim
   ·rcases List.mem_cons.1 hb with hb1|hb1
    ·exact (h.1 (List.mem_map.2 ⟨a,ha1,by rw [e,hb1]⟩)).elim
    ·exact x5s h.2 a ha1 b hb1 e
theorem NC {α:Type} [DecidableEq α] : ∀ {l m:List α},l.Nodup->(∀ s∈l,s∈m)->l.length<=m.length
 | [],m,_,_=>zero_le _
 | a::r,m,h,hs=>by
   rw [List.nodup_cons] at h;have ha:=hs a mem_cons_self;have h1:=NC (m:=m.erase a) h.2 fun s hsr=>(List.mem_erase_of_ne (fun e=>h.1 (by rw [<- e];exact hsr))).2 (hs s (mem_cons_of_mem _ hsr));rw [List.length_erase_of_mem ha] at h1;have:=List.length_pos_of_mem ha;simp only [List.length_cons];omega
theorem LR (n c:Nat):(q0m n c).Nodup:=by
 unfold q0m Nodup;rw [List.pairwise_map];exact List.Pairwise.imp (fun h e=>h (by omega)) (List.nodup_range' (s:=n+1) (n:=c) (step:=1))
theorem z7b {p:Pg} (hm:KG p=true) {j:Nat} {f:Pr} (hj:p.procs[j]? = some f):(itsOf p j f).map (fun it=>it.s.id)=q0m (QD p.procs j) (cntL f.body):=by
 rw [<- z7v hm hj,<- DW (j:Nat) 0 (-1) 0 (QD p.procs j) f.body,List.map_map];rfl
theorem w5b {p:Pg} (hm:KG p=true) {j:Nat} {f:Pr} (hj:p.procs[j]? = some f) {a b:Item} (ha:a∈itsOf p j f) (hb:b∈itsOf p j f) (h:a.s.id=b.s.id):a=b :=
 x5s (f:=fun it:Item=>it.s.id) (by rw [z7b hm hj];exact LR _ _) a ha b hb h
theorem w9j {p:Pg} {j:Nat} {f:Pr} {t:S} (h:t∈flL f.body) : ∃ it∈itsOf p j f,it.s=t:=by
 rw [<- DW (j:Nat) 0 (-1) 0 (QD p.procs j) f.body] at h;obtain ⟨it,h1,h2⟩:=List.mem_map.1 h;exact ⟨it,h1,h2⟩
theorem w2q {l:List Step} (h:l.Pairwise LK):l.Nodup:=h.imp fun h e=>by subst e;exact KE h
theorem w3u {l:List Int} {x:Int}:w7t l x=true↔x∈l:=by
 unfold w7t;rw [List.any_eq_true];refine ⟨fun ⟨y,h1,h2⟩=>by simp at h2;exact h2▸h1,fun h=>⟨x,h,by simp⟩⟩
theorem z1u {n c:Nat} {a:Int} (h1:(n:Int)+1<=a) (h2:a<=(n+c:Nat)):a∈q0m n c:=by
 unfold q0m;refine List.mem_map.2 ⟨a.toNat,List.mem_range'.2 ⟨a.toNat-(n+1),by omega,by omega⟩,by omega⟩
inductive Rch {α:Type} (R:α->α->Prop) (a:α):α->Prop
 | refl:Rch R a a
 | tail {b c:α} (h:Rch R a b) (hr:R b c):Rch R a c
theorem Rch.trans {α:Type} {R:α->α->Prop} {a b c:α} (h:Rch R a b) (h':Rch R b c):Rch R a c:=by
 induction h' with
 | refl=>exact h
 | tail _ hr ih=>exact .tail ih hr
theorem Rch.head {α:Type} {R:α->α->Prop} {a b c:α} (hr:R a b) (h:Rch R b c):Rch R a c:=Rch.trans (.tail .refl hr) h
theorem Rch.mono {α:Type} {R R':α->α->Prop} (h : ∀ x y,R x y->R' x y) {a b:α} (hr:Rch R a b):Rch R' a b:=by
 induction hr with
 | refl=>exact .refl
 | tail _ hr ih=>exact .tail ih (h _ _ hr)
theorem Rch.closed {α:Type} {R:α->α->Prop} {S:α->Prop} (hS : ∀ x y,S x->R x y->S y) {a b:α} (ha:S a) (h:Rch R a b):S b:=by
 induction h with
 | refl=>exact ha
 | tail _ hr ih=>exact hS _ _ ih hr
structure WkM (n:Nat) (st:List Bool×List Int):Prop where
 inv:wkInv n st
 mem : ∀ x,x∈st.2↔(0<=x∧x<n)∧st.1.getD x.toNat false=true
theorem WkM.start (n:Nat):WkM n (List.replicate n false,[]):=⟨BC n,fun x=>by
 simp only [not_mem_nil,false_iff,not_and];intro _;rw [getD_eq_getElem?_getD,List.getElem?_replicate];split<;>simp⟩
theorem WkM.see {n:Nat} {st:List Bool×List Int} (h:WkM n st) {b:Int} (hb:0<=b∧b<n):WkM n (YN st b)∧(∀ x,x∈(YN st b).2↔x∈st.2∨x=b)∧st.2 <+: (YN st b).2:=by
 have hi:=PP h.inv hb;cases hs:st.1.getD b.toNat false with
 | true =>
   have e:YN st b=st:=by unfold YN;rw [hs];rfl
   rw [e];refine ⟨h,fun x=>⟨.inl,fun hx => ?_⟩,List.prefix_refl _⟩;rcases hx with hx|rfl
   ·exact hx
   ·exact (h.mem _).2 ⟨hb,hs⟩
 | false =>
   have e:YN st b=(st.1.set b.toNat true,st.2++[b]):=by unfold YN;rw [hs];rfl
   rw [e] at hi ⊢;have hlen:=h.inv.1;refine ⟨⟨hi,fun x => ?_⟩,fun x=>by simp,List.prefix_append _ _⟩;rw [List.mem_append,List.mem_singleton,h.mem];simp only [getD_eq_getElem?_getD,List.getElem?_set];by_cases hx:x=b
   ·subst hx;rw [if_pos rfl,if_pos (by omega)];simp [hb]
   ·constructor
    ·rintro (⟨h1,h2⟩|h2)
     ·refine ⟨h1,?_⟩;rw [if_neg (by omega)];exact h2
     ·exact absurd h2 hx
    ·rintro ⟨h1,h2⟩;rw [if_neg (by omega)] at h2;exact .inl ⟨h1,h2⟩
theorem WkM.fold {n:Nat} : ∀ (l:List Int) {st:List Bool×List Int},WkM n st->(∀ b∈l,0<=b∧b<n)->WkM n (l.foldl YN st)∧(∀ x,x∈(l.foldl YN st).2↔x∈st.2∨x∈l)∧st.2 <+: (l.foldl YN st).2
 | [],st,h,_=>⟨h,fun x=>by simp,List.prefix_refl _⟩
 | b::r,st,h,hl=>by
   obtain ⟨h1,h2,h3⟩:=h.see (hl b mem_cons_self);obtain ⟨h4,h5,h6⟩:=WkM.fold r h1 fun c hc=>hl c (mem_cons_of_mem _ hc);refine ⟨h4,fun x => ?_,h3.trans h6⟩;rw [foldl_cons,h5,h2,mem_cons,or_assoc]
def x1h (rows:List (List Int)) (x y:Int):Prop:=y∈rows.getD x.toNat []
theorem HH {n:Nat} {rows:List (List Int)} (hr:XK n rows) {x y:Int} (h:x1h rows x y):0<=y∧y<n:=by
 unfold x1h at h;rw [getD_eq_getElem?_getD] at h;cases hq:rows[x.toNat]? with
 | none=>rw [hq] at h;simp at h
 | some r=>rw [hq] at h;exact hr.2 r (List.mem_of_getElem? hq) y h
theorem q8q {α:Type} {l m:List α} (h:l <+: m) {i:Nat} {a:α} (ha:l[i]? = some a):m[i]? = some a:=by
 obtain ⟨t,rfl⟩:=h;rw [List.getElem?_append_left (List.getElem?_eq_some_iff.1 ha).1];exact ha
theorem q3i {n:Nat} {rows:List (List Int)} (hr:XK n rows) : ∀ (k i:Nat) {st:List Bool×List Int},WkM n st->i<=st.2.length->n+1<=k+i->(∀ (m:Nat) (a:Int),m<i->st.2[m]? = some a -> ∀ b,x1h rows a b->b∈st.2) ->
  WkM n (XT rows k i st)∧(∀ x∈st.2,x∈(XT rows k i st).2)∧(∀ x∈(XT rows k i st).2,∀ b,x1h rows x b->b∈(XT rows k i st).2)∧(∀ S:Int->Prop,(∀ x∈st.2,S x)->(∀ x b,S x->x1h rows x b->S b) -> ∀ x∈(XT rows k i st).2,S x)
 | 0,i,st,h,hi,hk,_=>by
   have:=HV h.inv;omega
 | k+1,i,st,h,hi,hk,hc=>by
   rw [XT];split
   ·rename_i a ha;have hlt:=(List.getElem?_eq_some_iff.1 ha).1;have hrow : ∀ b∈rows.getD a.toNat [],0<=b∧b<n:=fun b hb=>HH hr hb;obtain ⟨h1,h2,h3⟩:=h.fold (rows.getD a.toNat []) hrow;obtain ⟨h4,h5,h6,h7⟩:=q3i hr k (i+1) h1 (Nat.le_trans hlt h3.length_le) (by omega) fun m c hm hmc b hb=>by
     rw [h2];rcases Nat.lt_or_ge m i with hmi|hmi
     ·have hml:m<st.2.length:=by omega
      have hmc':st.2[m]? = some c:=by
       have:=q8q h3 (List.getElem?_eq_getElem hml);rw [List.getElem?_eq_getElem hml,<- this,hmc]
      exact .inl (hc m c hmi hmc' b hb)
     ·obtain rfl:m=i:=by omega
      have:=q8q h3 ha;rw [this] at hmc;cases hmc;exact .inr hb
    refine ⟨h4,fun x hx=>h5 x ((h2 x).2 (.inl hx)),h6,fun S hS hcl=>h7 S (fun x hx => ?_) hcl⟩;rcases (h2 x).1 hx with hx|hx
    ·exact hS x hx
    ·exact hcl a x (hS a (List.mem_of_getElem? ha)) hx
   ·rename_i ha;have hlen:st.2.length<=i:=List.getElem?_eq_none_iff.1 ha;refine ⟨h,fun x hx=>hx,fun x hx b hb => ?_,fun S hS _=>hS⟩;obtain ⟨m,hm⟩:=List.mem_iff_getElem?.1 hx;exact hc m x (by have:=(List.getElem?_eq_some_iff.1 hm).1;omega) hm b hb
theorem MT {n:Nat} : ∀ (l:List Int) {st:List Bool×List Int},WkM n st->WkM n (l.foldl (fun st a=>bif ZP n a then YN st a else st) st) ∧ ∀ x,x∈(l.foldl (fun st a=>bif ZP n a then YN st a else st) st).2↔x∈st.2∨(x∈l∧ZP n x=true)
 | [],st,h=>⟨h,fun x=>by simp⟩
 | a::r,st,h=>by
   rw [foldl_cons];cases hb:ZP n a with
   | true =>
     obtain ⟨h1,h2,_⟩:=h.see (XA hb);obtain ⟨h3,h4⟩:=MT r h1;rw [cond_true];refine ⟨h3,fun x => ?_⟩;rw [h4,h2,mem_cons];constructor
     ·rintro ((h5|rfl)|⟨h5,h6⟩)
      ·exact .inl h5
      ·exact .inr ⟨.inl rfl,hb⟩
      ·exact .inr ⟨.inr h5,h6⟩
     ·rintro (h5|⟨rfl|h5,h6⟩)
      ·exact .inl (.inl h5)
      ·exact .inl (.inr rfl)
      ·exact .inr ⟨h5,h6⟩
   | false =>
     obtain ⟨h3,h4⟩:=MT r h;rw [cond_false];refine ⟨h3,fun x => ?_⟩;rw [h4,mem_cons];constructor
     ·rintro (h5|⟨h5,h6⟩)
      ·exact .inl h5
      ·exact .inr ⟨.inr h5,h6⟩
     ·rintro (h5|⟨rfl|h5,h6⟩)
      ·exact .inl h5
      ·rw [hb] at h6;cases h6
      ·exact .inr ⟨h5,h6⟩
theorem z0l : ∀ (l:List Bool) (i:Nat) (y:Int),y∈HZ i l ↔ ∃ k:Nat,l[k]? = some true∧y=((i+k:Nat):Int)
 | [],i,y=>by simp [HZ]
 | b::r,i,y=>by
   have ih:=z0l r (i+1) y;have key:(∃ k:Nat,(b::r)[k]? = some true∧y=((i+k:Nat):Int))↔(b=true∧y=(i:Int)) ∨ ∃ k:Nat,r[k]? = some true∧y=((i+1+k:Nat):Int):=by
    constructor
    ·rintro ⟨k,h1,h2⟩;cases k with
     | zero=>simp at h1;exact .inl ⟨h1,by simpa using h2⟩
     | succ k=>exact .inr ⟨k,by simpa using h1,by rw [h2];omega⟩
    ·rintro (⟨h1,h2⟩|⟨k,h1,h2⟩)
     ·exact ⟨0,by simp [h1],by simpa using h2⟩
     ·exact ⟨k+1,by simpa using h1,by rw [h2];omega⟩
   rw [key,<- ih,HZ];cases b<;>simp
theorem x3u {n:Nat} {rows:List (List Int)} (hr:XK n rows) (l:List Int) (y:Int):y∈HZ 0 (ZR rows l) ↔ ∃ a∈l,ZP n a=true∧Rch (x1h rows) a y:=by
 obtain ⟨h1,h2⟩:=MT (n:=n) l (WkM.start n);obtain ⟨h3,h4,h5,h6⟩:=q3i hr (rows.length+1) 0 (st:=HO rows.length l) (by rw [hr.1];exact h1) (zero_le _) (by rw [hr.1];omega) (fun m a hm=>by omega);have hst : ∀ x,x∈(HO rows.length l).2↔x∈l∧ZP n x=true:=fun x=>by
  rw [hr.1];unfold HO;rw [h2];simp
 have hmem : ∀ y,y∈HZ 0 (ZR rows l)↔y∈(XT rows (rows.length+1) 0 (HO rows.length l)).2:=fun y=>by
  rw [z0l,h3.mem];show (∃ k:Nat,(XT rows (rows.length+1) 0 (HO rows.length l)).1[k]? = some true∧_)↔_;constructor
  ·rintro ⟨k,h7,h8⟩;have hlt:=(List.getElem?_eq_some_iff.1 h7).1;rw [h3.inv.1] at hlt;refine ⟨by omega,?_⟩;rw [h8,getD_eq_getElem?_getD];simp [h7]
  ·rintro ⟨h7,h8⟩;have hlt:y.toNat<(XT rows (rows.length+1) 0 (HO rows.length l)).1.length:=by rw [h3.inv.1];omega
   refine ⟨y.toNat,?_,by omega⟩;rw [getD_eq_getElem?_getD,List.getElem?_eq_getElem hlt] at h8;rw [List.getElem?_eq_getElem hlt];simpa using h8
 rw [hmem];constructor
 ·intro hy;refine h6 (fun y => ∃ a∈l,ZP n a=true∧Rch (x1h rows) a y) (fun x hx => ?_) (fun x b ⟨a,h7,h8,h9⟩ hb=>⟨a,h7,h8,.tail h9 hb⟩) y hy;obtain ⟨h7,h8⟩:=(hst x).1 hx;exact ⟨x,h7,h8,.refl⟩
 ·rintro ⟨a,h7,h8,h9⟩;exact h9.closed (S:=fun y=>y∈(XT rows (rows.length+1) 0 (HO rows.length l)).2) (fun x b hx hb=>h5 x hx b hb) (h4 a ((hst a).2 ⟨h7,h8⟩))
theorem x9y {l:List Int} {k:Nat} {b x:Int}:x∈q0a l k b↔x∈l∨x=b:=by
 unfold q0a;rw [List.mem_append,mem_cons];have:x∈l↔x∈l.take k∨x∈l.drop k:=by rw [<- List.mem_append,List.take_append_drop]
 rw [this];constructor
 ·rintro (h|h|h)
  ·exact .inl (.inl h)
  ·exact .inr h
  ·exact .inl (.inr h)
 ·rintro ((h|h)|h)
  ·exact .inl h
  ·exact .inr (.inr h)
  ·exact .inr (.inl h)
theorem w4v {n:Nat} {g:List (List Int)×List (List Int)} (hl:g.1.length=n) (e:Int×Int) {x y:Int} (hx:0<=x∧x<n):y∈(x2y n g e).1.getD x.toNat []↔y∈g.1.getD x.toNat []∨((x,y)=e∧ZP n y=true):=by
 rw [q3w];cases hc:(ZP n e.1&&ZP n e.2 && !(g.1.getD e.1.toNat []).contains e.2) with
 | true =>
   simp only [Bool.and_eq_true,Bool.not_eq_true'] at hc;obtain ⟨⟨h1,h2⟩,_⟩:=hc;have h3:=XA h1;rw [cond_true];unfold q8u;rw [getD_eq_getElem?_getD,List.getElem?_set];by_cases he:e.1.toNat=x.toNat
   ·rw [if_pos he,if_pos (by omega)];simp only [Option.getD_some];rw [x9y,<- he];have:x=e.1:=by omega
    constructor
    ·rintro (h|h)
     ·exact .inl h
     ·exact .inr ⟨by rw [this,h],by rw [h];exact h2⟩
    ·rintro (h|⟨h,_⟩)
     ·exact .inl h
     ·exact .inr (by rw [<- h])
   ·rw [if_neg he,<- getD_eq_getElem?_getD];constructor
    ·exact .inl
    ·rintro (h|⟨h,_⟩)
     ·exact h
     ·exact absurd (by rw [<- h]) he
 | false =>
   rw [cond_false];constructor
   ·exact .inl
   ·rintro (h|⟨rfl,h⟩)
    ·exact h
    ·have h1:ZP n x=true:=by unfold ZP;simp [hx]
     simp only [h1,h,Bool.true_and,Bool.not_eq_false'] at hc;simpa using hc
theorem z0i {n:Nat} {g:List (List Int)×List (List Int)} (hl:g.1.length=n) (e:Int×Int):(x2y n g e).1.length=n:=by
 rw [q3w];cases (ZP n e.1&&ZP n e.2 && !(g.1.getD e.1.toNat []).contains e.2) with
 | true=>rw [cond_true];unfold q8u;rw [List.length_set];exact hl
 | false=>exact hl
theorem x3e {n:Nat} {x y:Int} (hx:0<=x∧x<n) : ∀ (l:List (Int×Int)) {g:List (List Int)×List (List Int)},g.1.length=n->(y∈(l.foldl (x2y n) g).1.getD x.toNat []↔y∈g.1.getD x.toNat []∨((x,y)∈l∧ZP n y=true))
 | [],g,_=>by simp
 | e::r,g,h=>by
   rw [foldl_cons,x3e hx r (z0i h e),w4v h e hx,mem_cons];constructor
   ·rintro ((h1|⟨h1,h2⟩)|⟨h1,h2⟩)
    ·exact .inl h1
    ·exact .inr ⟨.inl h1,h2⟩
    ·exact .inr ⟨.inr h1,h2⟩
   ·rintro (h1|⟨h1|h1,h2⟩)
    ·exact .inl (.inl h1)
    ·exact .inl (.inr ⟨h1,h2⟩)
    ·exact .inr ⟨h1,h2⟩
theorem FN {n:Nat} {l:List (Int×Int)} {x y:Int} (hx:0<=x∧x<n):x1h (XQ n l).1 x y↔(x,y)∈l∧ZP n y=true:=by
 unfold x1h XQ;rw [x3e hx l (by simp)];have:(List.replicate n ([]:List Int)).getD x.toNat []=[]:=by
  rw [getD_eq_getElem?_getD,List.getElem?_replicate];split<;>rfl
 rw [this];simp
theorem x8s {n:Nat} {l:List (Int×Int)} (h0:0<n) (y:Int):y∈HZ 0 (ZR (XQ n l).1 [0])↔Rch (fun a b=>(a,b)∈l∧ZP n b=true) 0 y:=by
 rw [x3u (JS n l).1];have hs:ZP n 0=true:=by unfold ZP;simp;omega
 constructor
 ·rintro ⟨a,ha,_,h⟩;obtain rfl:a=0:=by simpa using ha
  exact (h.closed (S:=fun x:Int=>(0<=x∧x<n)∧Rch (fun a b=>(a,b)∈l∧ZP n b=true) 0 x) (fun x y ⟨h1,h2⟩ h3=>by
   have h4:=(FN h1).1 h3;exact ⟨XA h4.2,.tail h2 h4⟩) ⟨⟨by omega,by omega⟩,.refl⟩).2
 ·intro h;refine ⟨0,by simp,hs,?_⟩;exact (h.closed (S:=fun x:Int=>(0<=x∧x<n)∧Rch (x1h (XQ n l).1) 0 x) (fun x y ⟨h1,h2⟩ h3=>⟨XA h3.2,.tail h2 ((FN h1).2 h3)⟩) ⟨⟨by omega,by omega⟩,.refl⟩).2
def stR (F:List Step) (a b:Int):Prop := ∃ s∈F,s.src=a∧s.dst=b
def plP (p:Pg) (j:Nat) (f:Pr) (x:Int):Prop:=x=0∨x = -1∨((QD p.procs j:Int)+1<=x∧x<=(QD p.procs j+cntL f.body:Nat))
def ixI (p:Pg) (j:Nat) (f:Pr) (x:Int):Int:=VA (loI p j) (hiI p j f) (cntL f.body+2:Nat) x
theorem ZF {p:Pg} {j:Nat} {f:Pr} {x:Int} (h:plP p j f x):0<=ixI p j f x∧ixI p j f x<(cntL f.body+2:Nat):=by
 unfold ixI VA loI hiI;unfold plP at h
 (repeat' split)<;>omega
theorem GT {p:Pg} {j:Nat} {f:Pr} {x y:Int} (hx:plP p j f x) (hy:plP p j f y) (h:ixI p j f x=ixI p j f y):x=y:=by
 unfold ixI VA loI hiI at h;unfold plP at hx hy
 (repeat' split at h)<;>omega
theorem z2e {p:Pg} {j:Nat} {f:Pr} {F:List Step} (hF : ∀ s∈F,plP p j f s.src∧plP p j f s.dst) {y:Int} (hy:plP p j f y) :
  ixI p j f y∈HZ 0 (ZR (XQ (cntL f.body+2) (F.map (ixP p j f (cntL f.body+2:Nat)))).1 [0])↔Rch (stR F) 0 y:=by
 rw [x8s (by omega)];have e0:ixI p j f 0=0:=by unfold ixI VA;rw [if_pos rfl]
 have p0:plP p j f 0 := .inl rfl;constructor
 ·intro h;obtain ⟨z,h1,h2,h3⟩:=h.closed (S:=fun i => ∃ z,plP p j f z∧ixI p j f z=i∧Rch (stR F) 0 z) (by
   rintro a b ⟨z,h1,h2,h3⟩ ⟨h4,_⟩;obtain ⟨s,hs,he⟩:=List.mem_map.1 h4;obtain ⟨h5,h6⟩:=hF s hs;have e1:ixI p j f s.src=a:=congrArg Prod.fst he;have e2:ixI p j f s.dst=b:=congrArg Prod.snd he;have e3:s.src=z:=GT h5 h1 (by rw [e1,h2]);exact ⟨s.dst,h6,e2,.tail h3 ⟨s,hs,e3,rfl⟩⟩) ⟨0,p0,e0,.refl⟩
  rw [<- GT h1 hy h2];exact h3
 ·intro h;have:=h.closed (S:=fun z=>plP p j f z∧Rch (fun a b=>(a,b)∈F.map (ixP p j f (cntL f.body+2:Nat))∧ZP (cntL f.body+2) b=true) 0 (ixI p j f z)) (by
   rintro a b ⟨h1,h2⟩ ⟨s,hs,rfl,rfl⟩;obtain ⟨h5,h6⟩:=hF s hs;refine ⟨h6,.tail h2 ⟨List.mem_map.2 ⟨s,hs,rfl⟩,?_⟩⟩;have:=ZF h6;unfold ZP;simp only [Bool.and_eq_true,decide_eq_true_eq];exact this) ⟨p0,by rw [e0];exact .refl⟩
  exact this.2
theorem WP {p:Pg} (h:chkB p=true) {j:Nat} {f:Pr} (hj:p.procs[j]? = some f) : ∀ s∈(newWay p j f).real,plP p j f s.src∧plP p j f s.dst:=fun s hs=>by
 obtain ⟨_,h2⟩:=WG h hj;obtain ⟨_,h3,_⟩:=DA h hj;obtain ⟨h4,h5⟩:=h3 s ((h2 s).1 hs);unfold okI at h5;unfold plP;omega
def w9w (p:Pg) (k:Nat) (f:Pr) (E:List Str):Prop:=Rch (stR ((newWay p k f).real.filter (x5o p E))) 0 (-1)
theorem x3a {p:Pg} (h:chkB p=true) {k:Nat} {f:Pr} (hj:p.procs[k]? = some f) (E:List Str):z6t (newWay p k f) f E=true↔w9w p k f E:=by
 unfold w9w;rw [<- z2e (p:=p) (j:=k) (f:=f) (fun s hs=>WP h hj s (List.mem_filter.1 hs).1) (y := -1) (.inr (.inl rfl))];unfold z6t;rw [List.any_eq_true];have e1:ixI p k f (-1)=((cntL f.body+2:Nat):Int)-1:=by unfold ixI VA;rw [if_neg (by omega),if_pos rfl]
 rw [e1];constructor
 ·rintro ⟨x,h1,h2⟩;have h2:((cntL f.body+2:Nat):Int)-1=x:=of_decide_eq_true h2;rw [h2];exact h1
 ·intro h1;exact ⟨_,h1,decide_eq_true rfl⟩
def v5h (E:List Str) (s:Str):Bool:=E.any fun x=>s==x
theorem q9b {E:List Str} {s:Str}:v5h E s=true↔s∈E:=by
 unfold v5h;rw [List.any_eq_true];constructor
 ·rintro ⟨x,h1,h2⟩;have:s=x:=by simpa using h2
  rw [this];exact h1
 ·intro h;exact ⟨s,h,by simp⟩
theorem z3u {p:Pg} {E E':List Str} (h : ∀ s∈E,s∈E') {t:Step} (ht:x5o p E t=true):x5o p E' t=true:=by
 unfold x5o at ht ⊢;rw [Bool.or_eq_true] at ht ⊢;rcases ht with ht|ht
 ·exact .inl ht
 ·refine .inr ?_;split at ht
  ·simp only [Bool.not_eq_true',Bool.and_eq_false_iff,Bool.not_eq_false'] at ht ⊢;rcases ht with ht|ht
   ·exact .inl ht
   ·exact .inr (q9b.2 (h _ (q9b.1 ht)))
  ·rfl
theorem PC {p:Pg} {k:Nat} {f:Pr} {E E':List Str} (h : ∀ s∈E,s∈E') (he:w9w p k f E):w9w p k f E':=by
 refine he.mono fun x y ⟨s,hs,h1,h2⟩=>⟨s,?_,h1,h2⟩;obtain ⟨h3,h4⟩:=List.mem_filter.1 hs;exact List.mem_filter.2 ⟨h3,z3u h h4⟩
theorem q0q {p:Pg} : ∀ (l:List Nat) (o:List Str) (b:Bool),(l.foldl (x1u p) (o,b)).2=false->b=false∧(l.foldl (x1u p) (o,b)).1=o ∧ ∀ k∈l,x1u p (o,false) k=(o,false)
 | [],o,b,h=>⟨h,rfl,by simp⟩
 | k::r,o,b,h=>by
   rw [foldl_cons] at h ⊢;have hst:x1u p (o,b) k=(o,b)∨(x1u p (o,b) k).2=true:=by
    unfold x1u;split
    ·rename_i f _;cases (!((o,b).1.any fun s=>f.name==s)&&z6t (newWay p k f) f (o,b).1) with
     | true=>exact .inr rfl
     | false=>exact .inl rfl
    ·exact .inl rfl
   rcases hst with hst|hst
   ·rw [hst] at h ⊢;obtain ⟨h1,h2,h3⟩:=q0q r o b h;refine ⟨h1,h2,fun m hm => ?_⟩;rcases List.mem_cons.1 hm with rfl|hm
    ·rw [<- h1];rw [h1] at hst ⊢;exact hst
    ·exact h3 m hm
   ·have:=(q0q r (x1u p (o,b) k).1 (x1u p (o,b) k).2 h).1;rw [hst] at this;cases this
def q7s (p:Pg) (out:List Str):Prop := ∀ s∈out,∃ (k:Nat) (f:Pr),p.procs[k]? = some f∧f.name=s∧w9w p k f out
theorem w2g {p:Pg} (hc:chkB p=true) {st:List Str×Bool} (h:q7s p st.1) (k:Nat):q7s p (x1u p st k).1∧q4o p (x1u p st k).1+(x1u p st k).2.toNat<=q4o p st.1+st.2.toNat:=by
 unfold x1u;split
 ·rename_i f hf;cases hq:(!(st.1.any fun s=>f.name==s)&&z6t (newWay p k f) f st.1) with
  | true =>
    rw [cond_true];simp only [Bool.and_eq_true,Bool.not_eq_true'] at hq;have hl:=z6f (p:=p) (out:=st.1) (List.mem_of_getElem? hf) hq.1;have he:=(x3a hc hf st.1).1 hq.2;refine ⟨fun s hs => ?_,?_⟩
    ·rcases List.mem_append.1 hs with hs|hs
     ·obtain ⟨k',f',h1,h2,h3⟩:=h s hs;exact ⟨k',f',h1,h2,PC (fun s hs=>List.mem_append.2 (.inl hs)) h3⟩
     ·obtain rfl:=List.mem_singleton.1 hs;exact ⟨k,f,hf,rfl,PC (fun s hs=>List.mem_append.2 (.inl hs)) he⟩
    ·simp only [Bool.toNat_true];omega
  | false=>exact ⟨h,Nat.le_refl _⟩
 ·exact ⟨h,Nat.le_refl _⟩
theorem x5e {p:Pg} (hc:chkB p=true) : ∀ (l:List Nat) {st:List Str×Bool},q7s p st.1->q7s p (l.foldl (x1u p) st).1∧q4o p (l.foldl (x1u p) st).1+(l.foldl (x1u p) st).2.toNat<=q4o p st.1+st.2.toNat
 | [],st,h=>⟨h,Nat.le_refl _⟩
 | k::r,st,h=>by
   obtain ⟨h1,h2⟩:=w2g hc h k;obtain ⟨h3,h4⟩:=x5e hc r h1;rw [foldl_cons];exact ⟨h3,by omega⟩
theorem q8g {p:Pg} (hc:chkB p=true) : ∀ (k:Nat) {out:List Str},q4o p out<k->q7s p out->q7s p (x6l p k out)∧(∀ s∈out,True) ∧ ∀ (m:Nat) (f:Pr),p.procs[m]? = some f->w9w p m f (x6l p k out)->f.name∈x6l p k out
 | 0,out,h,_=>by omega
 | k+1,out,h,hi=>by
   obtain ⟨h1,h2⟩:=x5e hc (List.range p.procs.length) (st:=(out,false)) hi;rw [x6l];cases hr:(q8v p out).2 with
   | true =>
     rw [cond_true];have hr':((List.range p.procs.length).foldl (x1u p) (out,false)).2=true:=hr;rw [hr'] at h2;simp only [Bool.toNat_true,Bool.toNat_false] at h2;have h3:q4o p (q8v p out).1<k:=by show q4o p ((List.range p.procs.length).foldl (x1u p) (out,false)).1<k;omega
     obtain ⟨h4,_,h5⟩:=q8g hc k h3 h1;exact ⟨h4,fun _ _=>trivial,h5⟩
   | false =>
     rw [cond_false];obtain ⟨_,h3,h4⟩:=q0q (List.range p.procs.length) out false hr;have h3:(q8v p out).1=out:=h3;rw [h3];refine ⟨hi,fun _ _=>trivial,fun m f hm he => ?_⟩;have h5:=h4 m (List.mem_range.2 (List.getElem?_eq_some_iff.1 hm).1);unfold x1u at h5;rw [hm] at h5;simp only at h5;cases hq:(out.any fun s=>f.name==s) with
     | true=>exact q9b.1 hq
     | false =>
       rw [hq,(x3a hc hm out).2 he] at h5;have:=congrArg Prod.snd h5;cases this
theorem z7u (p:Pg):q4o p []<=p.procs.length:=List.countP_le_length
theorem q9c {l:List Str} (h:ZW l=false):l.Nodup:=by
 unfold ZW at h;rw [List.any_eq_false] at h;unfold Nodup;rw [List.pairwise_iff_getElem];intro i j hi hj hij he;have h1:=h j (List.mem_range.2 hj);apply h1;rw [List.any_eq_true];refine ⟨l[i],?_,?_⟩
 ·exact List.mem_iff_getElem.2 ⟨i,by simp;omega,by simp⟩
 ·rw [List.getElem?_eq_getElem hj];simp [he]
theorem x6p {p:Pg} (h:chkB p=true):(procsN p).Nodup:=by
 obtain ⟨hm,hs,_⟩:=QH h;unfold QE at hs;rw [hm,cond_true] at hs;cases hb:XR p with
 | true=>rw [hb] at hs;cases hs
 | false =>
   unfold XR at hb;simp only [Bool.or_eq_false_iff] at hb;exact q9c hb.2.1
theorem x1i {p:Pg} (h:chkB p=true) {j k:Nat} {f g:Pr} (hj:p.procs[j]? = some f) (hk:p.procs[k]? = some g) (he:f.name=g.name):j=k∧f=g:=by
 have hn:=x6p h;have h1:(procsN p)[j]? = some f.name:=by simp [procsN,hj]
 have h2:(procsN p)[k]? = some g.name:=by simp [procsN,hk]
 rw [he] at h1;have hjl:=(List.getElem?_eq_some_iff.1 h1).1;obtain rfl:j=k:=(List.getElem?_inj hjl hn).1 (h1.trans h2.symm);rw [hj] at hk;exact ⟨rfl,Option.some.inj hk⟩
theorem w5x {p:Pg} (h:chkB p=true) {k:Nat} {f:Pr} (hk:p.procs[k]? = some f):f.name∈endsR p↔w9w p k f (endsR p):=by
 obtain ⟨h1,_,h3⟩:=q8g h (p.procs.length+1) (out:=[]) (by have:=z7u p;omega) (fun s hs=>by cases hs);have e : ∀ s,s∈endsR p↔s∈x6l p (p.procs.length+1) []:=fun s=>by unfold endsR;rw [h,cond_true,q5h]
 rw [e];constructor
 ·intro hm;obtain ⟨k',f',h4,h5,h6⟩:=h1 _ hm;obtain ⟨rfl,rfl⟩:=x1i h hk h4 h5.symm;exact PC (fun s hs=>(e s).2 hs) h6
 ·intro he;exact h3 k f hk (PC (fun s hs=>(e s).1 hs) he)
theorem z4q : ∀ (k:Nat) (l:List S) (_:cntL l<k) (_:cntL l<=1000000),SpecP Tryz.prog 74 [eSs l] (fun r=>r = .int .i64 (cntL l)):=by
 intro k;induction k with
 | zero=>intro l h;omega
 | succ k ih =>
   intro l hk hl;have hll:=S.avs_len l;have hlc:l.length<=cntL l:=by
    clear hk hl hll;induction l with
    | nil=>simp
    | cons t r ihr=>rw [cntL,ZS,List.length_cons];omega
   refine sB x2m Tryz.func74 rfl Tryz.call74 ?_;conv=>whnf
   repeat' (refine iM fun _=>?_;conv=>whnf)
   refine LoopK.inv QV (fun y:Nat×Nat=>⟨[(0,.p (eSs l)),(3,.p (.int .i64 y.2)),(8,.p (.int .i64 (S.avs l).length)),(9,.p (.int .i64 y.1))],[]⟩) (fun y=>y.1<=l.length∧y.2+cntL (l.drop y.1)=cntL l+(l.length-y.1)) (fun y=>l.length-y.1) (0,l.length) (Le.of_eq (by simp only [S.avs_len];rfl)) ⟨zero_le _,by simp;omega⟩ ?_;rintro ⟨j,n⟩ ⟨h2,h3⟩;simp only at h2 h3 ⊢;rcases Nat.lt_or_ge j l.length with hj|hj
   ·have hst:=NP hj;have hcs:=ZS l[j];have h4:cntL (l.drop j)<=cntL l:=by
     have : ∀ (l:List S) (j:Nat),cntL (l.drop j)<=cntL l:=fun l=>by
      induction l with
      | nil=>intro j;simp
      | cons t r ihr =>
        intro j;cases j with
        | zero=>simp
        | succ j=>rw [List.drop_succ_cons,cntL];have:=ihr j;omega
     exact this l j
    conv=>whnf
    repeat' (first|((first|refine dA ?_|refine QB (by omega) ?_|refine wI ?_|(refine CallK.pure (ih l[j].thn (by omega) (by omega)) (.cons (Sub.refl _) .nil) ?_;rintro _ rfl)|(refine CallK.pure (ih l[j].els (by omega) (by omega)) (.cons (Sub.refl _) .nil) ?_;rintro _ rfl));conv=>whnf)|(apply bD<;>intro _<;>first|omega|conv=>whnf))
    all_goals exact ⟨(j+1,n+(cntL l[j].thn+cntL l[j].els)),⟨by simp only;omega,by simp only;omega⟩,by simp only;omega,Le.of_eq rfl⟩
   ·conv=>whnf
    rw [drop_eq_nil_of_le hj,cntL] at h3;repeat' (apply bD<;>intro _<;>first|omega|conv=>whnf)
    exact RetK.int (by omega)
theorem z4r (p:Pg) (hc:cntP p.procs<=1000):SpecP Tryz.prog 18 [.agg p.cells] (fun r=>r = .int .i64 (cntP p.procs)):=by
 refine sB x3i Tryz.func18 rfl Tryz.call18 ?_;conv=>whnf
 have hl2:(p.procs.map fun f=>AV.agg f.cells).length=p.procs.length:=length_map _;repeat' (refine iM fun _=>?_;conv=>whnf)
 refine LoopK.inv QV (fun y:Nat×Nat=>⟨[(3,.p (.int .i64 y.2)),(7,.p (.sl (p.procs.map fun f => .agg f.cells))),(8,.p (.int .i64 (p.procs.map fun f=>AV.agg f.cells).length)),(9,.p (.int .i64 y.1))],[]⟩) (fun y=>y.1<=p.procs.length∧y.2+cntP (p.procs.drop y.1)=cntP p.procs) (fun y=>p.procs.length-y.1) (0,0) (Le.of_eq rfl) ⟨zero_le _,by simp⟩ ?_;rintro ⟨j,n⟩ ⟨h2,h3⟩;simp only at h2 h3 ⊢;rcases Nat.lt_or_ge j p.procs.length with hj|hj
 ·have hst:=q4b hj;have hcm:=FM _ _ (List.getElem_mem hj);conv=>whnf
  repeat' (first|((first|refine And.intro rfl ?_|(refine iA fun _=>?_)|refine wI ?_|(refine CallK.pure (z4q (cntL p.procs[j].body+1) p.procs[j].body (by omega) (by omega)) (.cons (Sub.refl _) .nil) ?_;rintro _ rfl));conv=>whnf)|(apply bD<;>intro _<;>first|omega|conv=>whnf))
  exact ⟨(j+1,n+cntL p.procs[j].body),⟨by simp only;omega,by simp only;omega⟩,by simp only;omega,Le.of_eq rfl⟩
 ·conv=>whnf
  rw [drop_eq_nil_of_le hj,cntP] at h3;repeat' (apply bD<;>intro _<;>first|omega|conv=>whnf)
  exact RetK.int (by omega)
def x5i (p:Pg) (most:Int):Bool:=chkB p&&decide ((cntP p.procs:Int)<=most)
theorem q2k {p:Pg} (h:chkB p=true) {j:Nat} {f:Pr} (hj:p.procs[j]? = some f) {a:Int} (h1:(QD p.procs j:Int)+1<=a) (h2:a<=(QD p.procs j+cntL f.body:Nat)) : ∃ t∈flL f.body,w3o p a=some t∧t.id=a:=by
 obtain ⟨it,h3,h4⟩:=HY hj (k:=(a-1).toNat) (by omega) (by omega);refine ⟨it.s,YI h4,by unfold w3o;rw [h3];rfl,?_⟩;obtain ⟨_,_,_,hlen,hsp⟩:=QU p;obtain ⟨_,_,hle,hd⟩:=hsp j f hj;have hids:=z7b (QH h).1 hj;have h5:(itsOf p j f)[(a-1).toNat-QD p.procs j]? = some it:=by
  unfold itsOf;rw [<- hd,getElem?_drop,getElem?_take,if_pos (by omega),show QD p.procs j+((a-1).toNat-QD p.procs j)=(a-1).toNat by omega];exact h3
 have h6:((itsOf p j f).map fun it=>it.s.id)[(a-1).toNat-QD p.procs j]? = some it.s.id:=by rw [List.getElem?_map,h5];rfl
 rw [hids] at h6;unfold q0m at h6;rw [List.getElem?_map,List.getElem?_range' (by omega)] at h6;simp at h6;omega
theorem x0r {l:List Str} {v:Str}:(l.any fun s=>v==s)=true↔v∈l:=by
 rw [List.any_eq_true];constructor
 ·rintro ⟨s,h1,h2⟩
  rwa [show v=s by simpa using h2]
 ·exact fun h=>⟨v,h,by simp⟩
section
variable {α:Type} {R:α->α->Prop} {l out:List α} {i k:Nat}
end
def z2y (k t:Nat) (cs:List AV):List (Nat×LV)->(List (Nat×LV)->Prop)->Prop
 | [],K=>K []
 | (j,l)::r,K=>bif beq j t then z2y k t cs r fun r=>K ((j,.p (.agg cs))::r) else UY (l.kill k) fun l=>z2y k t cs r fun r=>K ((j,l)::r)
theorem LJ {k t:Nat} {cs:List AV} : ∀ {sl:List (Nat×LV)} {K:List (Nat×LV)->Prop},z2y k t cs sl K -> ∃ sl',K sl' ∧ ∀ i,getS sl' i=(getS sl i).kill k∨(i=t∧getS sl' i = .p (.agg cs))
 | [],_,h=>⟨[],h,fun _ => .inl rfl⟩
 | (j,l)::r,K,h=>by
   unfold z2y at h;cases hb:beq j t with
   | true =>
     rw [hb,cond_true] at h;have hj:j=t:=Nat.eq_of_beq_eq_true hb;obtain ⟨sl',hK,hs⟩:=LJ h;refine ⟨_,hK,fun i => ?_⟩;simp only [getS];cases hi:j==i with
     | true=>exact .inr ⟨by rw [<- hj];exact (by simpa using hi:j=i).symm,rfl⟩
     | false=>exact hs i
   | false =>
     rw [hb,cond_false,XJ] at h;obtain ⟨sl',hK,hs⟩:=LJ h;refine ⟨_,hK,fun i => ?_⟩;simp only [getS];cases hi:j==i with
     | true=>exact .inl rfl
     | false=>exact hs i
theorem w1z {N:Nat} {s:St} {k:Nat} {e:TypeId} {sz:Nat} {es:List AV} {t:Nat} {ls:List LV} {cs:List AV} (hg:getH s.H k=some (.own e sz es)) (ht:getS s.sl t = .agg ls) (hln:ls.length=cs.length)
  (hcs : ∀ (j:Nat) (l:LV) (c:AV),ls[j]? = some l->cs[j]? = some c->(∃ a,l = .p a∧Sub a c)∨(∃ n,l = .hd k 0 n∧n=es.length∧c = .sl es)) {K:St->Prop} (h:z2y k t cs s.sl fun sl=>DJ k s.H fun H=>K ⟨sl,H⟩) : ∃ s',K s'∧Le N s s':=by
 obtain ⟨sl,h,hsl⟩:=LJ h;obtain ⟨H,h,hsub,hH⟩:=DQ h;have agg : ∀ {σ τ:Mem} {β:Lab} {v:Value},σ.le τ->RepL σ β (.agg ls) v->(∀ v,RepL σ β (.hd k 0 es.length) v->Rep τ (.sl es) v)->Rep τ (.agg cs) v:=fun {σ τ β v} hle hv hrow=>by
  cases hv with
  | agg _ vs u hn hc hrr =>
    refine Rep.agg cs vs u (by rw [hn,hln]) (fun j c hj => ?_) fun j c hj => ?_
    ·have hlt:j<ls.length:=by rw [hln];exact (List.getElem?_eq_some_iff.1 hj).1
     exact hc j _ (List.getElem?_eq_getElem hlt)
    ·have hlt:j<ls.length:=by rw [hln];exact (List.getElem?_eq_some_iff.1 hj).1
     have h1:=hrr j _ (List.getElem?_eq_getElem hlt);rcases hcs j _ c (List.getElem?_eq_getElem hlt) hj with ⟨a,h2,h3⟩|⟨n,h2,rfl,rfl⟩
     ·rw [h2] at h1;cases h1 with
      | p hp=>exact h3 _ _ (hp.mono hle)
     ·rw [h2] at h1;exact hrow _ h1
 refine ⟨_,h,fun σ β a w hr => ?_⟩;rcases WK.1 (hr.heap.chunks k _ (QY hg)) with ⟨hb0,rfl⟩|⟨i,vs,hi,hisz,hh,hn,hle',hmax,hE⟩
 ·refine ⟨σ,β,⟨hr.size,hr.defers,fun j => ?_,⟨hr.heap.mem,fun j c' hj => ?_,hsub.nodup hr.heap.nodup,fun j hj=>hr.heap.apart j (hsub.subset hj),fun j hj j' hj'=>hr.heap.inj j (hsub.subset hj) j' (hsub.subset hj')⟩⟩,Mem.le_refl σ,Frm.refl _ _,fun _ h0 h1=>absurd h0 h1,fun b ⟨j,hj,r⟩ => .inl ⟨j,hsub.subset hj,r⟩,fun _ _ _=>rfl⟩
  ·show RepL σ β (getS sl j) _;have hv:=hr.slots j;rcases hsl j with he|⟨rfl,h2⟩
   ·rw [he];exact hv.kill k
   ·rw [h2];rw [ht] at hv;refine .p (agg (Mem.le_refl σ) hv fun v hv => ?_);rcases hv.hdI with ⟨_,_,_,he⟩|⟨i,_,hk,_⟩
    ·rw [he];exact .nilsl
    ·rw [hb0] at hk;cases hk
  ·obtain ⟨_,c,h2,rfl⟩:=hH j c' hj;exact (hr.heap.chunks j c h2).kill k
 ·refine hr.lay hi (QC hg) hh (fun τ hle hτ j v hv => ?_) (fun τ hle hτ j c' hj => ?_) (hsub.nodup hr.heap.nodup)
  ·show RepL τ β (getS sl j) v;rcases hsl j with he|⟨rfl,h2⟩
   ·rw [he];exact (hv.kill k).mono hle
   ·rw [h2];rw [ht] at hv;refine .p (agg hle hv fun v hv => ?_);rcases hv.hdI with ⟨hk,_⟩|⟨i',oo,hk,hl,ho,rfl⟩
    ·rw [hi] at hk;cases hk
    ·rw [hi] at hk;cases hk;have hoo:oo=0:=by
      rcases ho with ho|ho
      ·simpa using ho
      ·omega
     subst hoo;obtain ⟨u,hu⟩ : ∃ u:Nat->Nat->Value,∀ (m:Nat) (x:AV) (j:Nat) (c:AV),es[m]? = some x->x.cells[j]? = some c->vs[m*sz+j]? = some (u m j)∧Rep σ c (u m j):=by
      refine ⟨fun m j=>(vs[m*sz+j]?).getD undef,fun m x j c hx hj => ?_⟩;obtain ⟨v,h1,h2⟩:=hE.rep m x j c hx hj;rw [getElem?_take] at h1;split at h1
      ·have h1':vs[m*sz+j]? = some v:=by simpa using h1
       exact ⟨by simp [h1'],by simpa [h1'] using h2⟩
      ·cases h1
     exact .sl es i.blk 0 _ sz vs u hτ (by omega) (by omega) hE.size (fun m x j c hx hj=>by simpa using (hu m x j c hx hj).1) fun m x j c hx hj=>(hu m x j c hx hj).2.mono hle
  ·obtain ⟨h1,c,h2,rfl⟩:=hH j c' hj;exact ⟨h1,c,h2,fun hold=>(hold.kill k).mono hle fun _ _ _ _=>rfl⟩
theorem z5v {P:Program} {T:Tab} {N:Nat} {o:Oper} {K:St->Prop} {s:St} (hT:TabOK P T) {k:Nat} {e:TypeId} {sz:Nat} {es:List AV} (t:Nat) {ls:List LV} (cs:List AV) (hg:getH s.H k=some (.own e sz es)) (ht:getS s.sl t = .agg ls) (hln:ls.length=cs.length)
  (hcs : ∀ (j:Nat) (l:LV) (c:AV),ls[j]? = some l->cs[j]? = some c->(∃ a,l = .p a∧Sub a c)∨(∃ n,l = .hd k 0 n∧n=es.length∧c = .sl es)) (h:z2y k t cs s.sl fun sl=>DJ k s.H fun H=>opW P T N ⟨sl,H⟩ o K):OpK P N s o K:=⟨fun σ β a w hr Q=>by
 obtain ⟨s1,h1,hle⟩:=w1z (N:=N) hg ht hln hcs (K:=fun s'=>opW P T N s' o K) h;obtain ⟨σ1,β1,hr1,hl1⟩:=hle σ β a w hr;exact Oper.wp_mono (fun a' w' ⟨σ',β',s2,hK,hr',hl⟩=>⟨σ',β',s2,hK,hr',hl1.trans hl⟩) (HB hT h1 hr1 Q)⟩
theorem w5u {P:Program} {T:Tab} {N:Nat} (hT:TabOK P T) {s:St} {o:Oper} {K:St->Prop} {t:TypeId} {x v:Operand} (hop:o.op = .store t x v) (hd:o.dst=none) {k a off:Nat} (hx:QT s.sl x = .ext k (.rptr a off)) {u:AV} (hv:QT s.sl v = .p u) (hone:u.one=true) (huc:u.cells=[u])
  {e e2:TypeId} {rows:List (List AV)} {hole:List Nat} (hg:getH s.H k=some (.ext (.mat e e2 1 rows hole))) {it:TyI} (ht:T.get t=some it) (hsz:it.size=1) {row:List AV} (hrow:rows[a]? = some row) (hnh:a∉hole) (hoff:off<row.length)
  (h:q6k s.H k (.ext (.mat e e2 1 (rows.set a (row.set off u)) hole)) fun H=>K ⟨s.sl,H⟩):OpK P N s o K:=by
 refine ⟨fun σ β ac w hr Q => ?_⟩;obtain ⟨H',hK,h1,h2,h3⟩:=UT hr.heap.nodup h;have hx':=QQ hr.slots x;have hv':=QQ hr.slots v;rw [hx] at hx';rw [hv] at hv';have hk1:=QC hg;generalize hxe:ac.eval x=xv at hx';generalize hve:ac.eval v=vv at hv';cases hv' with
 | p hvr =>
 cases hx' with
 | ext _ _ i _ hi hdx =>
 obtain ⟨b,c,hsub,rfl⟩:=hdx;rcases hr.heap.chunks k _ (QY hg) with ⟨h0,_⟩|⟨i',vs,hi',hisz,hh,hvs,hle,hmax,hsl',hdis,hrows⟩
 ·rw [hi] at h0;cases h0
 rw [hi] at hi';cases hi';have hb:i.has b := .inr ⟨c,List.mem_of_getElem? hsub⟩;rcases (hrows a row hrow).2 hnh with ⟨h4,_⟩|⟨b',c',ws,h4,h5,h6,h7,h8,h9,h10⟩
 ·rw [hsub] at h4;cases h4
 rw [hsub] at h4;cases h4;have hone':vv.oneCell'=true:=hvr.oneCell hone;have hcells:vv.cells = #[vv]:=by cases vv<;>first|rfl|simp [Value.oneCell'] at hone'
 have hoffw:off<ws.size:=by omega
 let ws':Array Value:=(ws.toList.take off++[vv]++ws.toList.drop (off+1)).toArray;have hrun:(execOp ac.eval o).run P w = .ok .skip (w.setRow b ws'):=by
  have hst:=run_storeCells_at P b off e2 [vv] 0 ws w h6 (by simp;omega) (by simpa using hone');simp only [Nat.add_zero,List.length_singleton] at hst;have hsize:=(hT _ _ ht).sizeOf;simp [execOp,hop,Instr.storeAt,Instr.sureAddr,hxe,hve,storeVar,hsize,hsz,hcells,hst,ws']
 have hcell : ∀ p,ws'[p]? = if p=off then some vv else ws[p]? := fun p=>by
  simp only [ws',List.getElem?_toArray];by_cases g1:p<off
  ·rw [if_neg (by omega),List.append_assoc,List.getElem?_append_left (by simp;omega),getElem?_take,if_pos g1];simp
  ·by_cases g2:p=off
   ·subst g2;rw [if_pos rfl,List.append_assoc,List.getElem?_append_right (by simp;omega)];simp only [length_take,length_toList];rw [show p-min p ws.size=0 by omega];rfl
   ·rw [if_neg g2,List.getElem?_append_right (by simp;omega)];simp only [List.length_append,length_take,length_toList,List.length_singleton,getElem?_drop,Array.getElem?_toList];congr 1;omega
 have hother : ∀ b',b'≠b->(w.setRow b ws').heap[b']? = w.heap[b']? := fun b' hb'=>setRow_other w b b' ws' hb';have hal:a<rows.length:=(List.getElem?_eq_some_iff.1 hrow).1;obtain ⟨h11,h12⟩:=x4i hr.heap hk1 hi hb (vs:=ws') h1 h2 (fun d hd=>h3 d hd▸by
  refine .inr ⟨i,vs,hi,hisz,(hother _ (hdis a b c hsub).1).trans hh,hvs,by simpa using hle,hmax,by simpa using hsl',hdis,fun a' row' hra=>⟨fun hin => ?_,fun hnin => ?_⟩⟩
  ·by_cases g:a'=a
   ·subst g;exact absurd hin hnh
   ·rw [List.getElem?_set_ne (Ne.symm g)] at hra;exact (hrows a' row' hra).1 hin
  ·by_cases g:a'=a
   ·subst g;rw [List.getElem?_set_self hal] at hra;cases hra;refine .inr ⟨b,c,ws',hsub,by simpa using h5,setRow_heap w b ws _ e2 _ h6,?_,by simpa using h8,h9,fun m y hy => ?_⟩
    ·simp only [ws',List.size_toArray,List.length_append,length_take,List.length_drop,length_toList,List.length_singleton];omega
    ·by_cases gm:m=off
     ·subst gm;rw [List.getElem?_set_self hoff] at hy;cases hy;refine ⟨by rw [huc];rfl,fun j c' hj => ?_⟩;rw [huc] at hj
      match j,hj with
      | 0,hj=>cases hj;exact ⟨vv,by rw [Nat.mul_one,Nat.add_zero,hcell,if_pos rfl],hvr⟩
      | j+1,hj=>simp at hj
     ·rw [List.getElem?_set_ne (Ne.symm gm)] at hy;obtain ⟨g1,g2⟩:=h10 m y hy;refine ⟨g1,fun j c' hj => ?_⟩;obtain ⟨u',g3,g4⟩:=g2 j c' hj;have hj0:j=0:=by
       have:=(List.getElem?_eq_some_iff.1 hj).1;omega
      subst hj0;exact ⟨u',by rw [hcell,if_neg (by omega)];exact g3,g4⟩
   ·rw [List.getElem?_set_ne (Ne.symm g)] at hra;rcases (hrows a' row' hra).2 hnin with g1|⟨b1,c1,ws1,g1,g2,g3,g4⟩
    ·exact .inl g1
    ·refine .inr ⟨b1,c1,ws1,g1,g2,(hother b1 fun he => ?_).trans g3,g4⟩;subst he;exact g ((hdis a b1 c hsub).2 a' c1 g1))
 refine PU hrun ⟨σ,β,⟨s.sl,H'⟩,hK,⟨?_,?_,?_,h11⟩,h12⟩
 ·rw [hd];exact hr.size
 ·rw [hd];exact hr.defers
 ·rw [hd];exact hr.slots
theorem z4p {s:St} {k k2:Nat} {c c2:Chunk} {K:St->Prop} (h:GS s k k2 c c2 K) : ∃ s2,K s2∧GS s k k2 c c2 fun s3=>s3=s2:=by
 unfold GS at h ⊢;obtain ⟨sl,h1,_⟩:=VP (by rfl) h;have key : ∀ {f:LV->LV} {l:List (Nat×LV)} {K:List (Nat×LV)->Prop},q4u f l K↔K (l.map fun x=>(x.1,f x.2)):=fun {f} l=>by
  induction l with
  | nil=>intro K;rfl
  | cons x r ih=>intro K;simp only [q4u,XJ,ih,map_cons]
 have key2 : ∀ {f:LV->LV} {c:Chunk} {H:Heap},∃ H',∀ K:Heap->Prop,q1l k k2 f c H K↔K H':=fun {f c} H=>by
  induction H with
  | nil=>exact ⟨[],fun K=>Iff.rfl⟩
  | cons x r ih =>
    obtain ⟨H',hH'⟩:=ih;obtain ⟨j,d⟩:=x;simp only [q1l,FK];cases j==k2 with
    | true=>exact ⟨H',fun K=>by simp only [cond_true];exact hH' _⟩
    | false =>
      cases j==k with
      | true=>exact ⟨(j,c)::H',fun K=>by simp only [cond_true,cond_false];exact hH' _⟩
      | false=>exact ⟨(j,d.mapL f)::H',fun K=>by simp only [cond_false];exact hH' _⟩
 rw [key] at h;simp only [key];obtain ⟨H',hH'⟩:=key2 (f:=LV.xkill k) (c:=c) (H:=s.H);rw [hH'] at h;exact ⟨_,h,(hH' _).2 rfl⟩
theorem OpK.focus {P:Program} {T:Tab} {N:Nat} (hT:TabOK P T) {s:St} {o:Oper} {K:St->Prop} (t k a k2:Nat) {e e2 sz:Nat} {rows:List (List AV)} {hole:List Nat} {row:List AV} (hu:WM k2 s=true) (hg:getH s.H k=some (.ext (.mat e e2 sz rows hole)))
  (hrow:rows[a]? = some row) (hnh:a∉hole) (hpin:WY k=false) (ht:getS s.sl t = .ext k (.row a row.length))
  (h:GS s k k2 (.ext (.mat e e2 sz rows (a::hole))) (.own e2 sz row) fun s2=>opW P T N ⟨(t,.hd k2 0 row.length)::s2.sl,s2.H⟩ o K):OpK P N s o K:=by
 obtain ⟨s2,h,he⟩:=z4p h;refine ⟨fun σ β ac w hr Q => ?_⟩;obtain ⟨β',hr',hl,hrep,hrow'⟩:=x9j hr hu hg hrow hnh hpin he;have hr2:Rel N σ β' ⟨(t,.hd k2 0 row.length)::s2.sl,s2.H⟩ ac w:=⟨hr'.size,hr'.defers,fun i=>by
  show RepL σ β' (getS ((t,.hd k2 0 row.length)::s2.sl) i) _;simp only [getS];cases hi:t==i with
  | true =>
    have:t=i:=by simpa using hi
    subst this;have h1:=hr.slots t;rw [ht] at h1;exact hrow' _ h1
  | false=>exact hr'.slots i,hr'.heap⟩
 exact Oper.wp_mono (fun a' w' ⟨σ',β'',s3,hK,hr3,hl3⟩=>⟨σ',β'',s3,hK,hr3,hl.trans hl3⟩) (HB hT h hr2 Q)
theorem z7a {α:Type} {l m:List α} {j:Nat} (h:l.take j=m.take j) (hl:j<l.length) (hm:j<m.length) (he:l[j]=m[j]):l.take (j+1)=m.take (j+1):=by
 rw [List.take_succ_eq_append_getElem hl,List.take_succ_eq_append_getElem hm,h,he]
theorem w3b {α:Type} {l m:List α} {j:Nat} (h:l.take j=m.take j) (hl:l.length<=j) (hm:m.length<=j):l=m:=by
 rwa [List.take_of_length_le hl,List.take_of_length_le hm] at h
end Go.Ab
