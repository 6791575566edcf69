/- The law of a program that may be: its statements are numbered in order; where they go on is a place of it. -/
import Derived.Test.YtlhblcpmfnkjpaaGreatDomA9
import Derived.Test.YtlhblcpmfnkjpaaGreatDomA12
set_option linter.unusedSimpArgs false
set_option linter.unusedVariables false
set_option maxRecDepth 100000
set_option maxHeartbeats 16000000
open List (drop_eq_nil_of_le flatMap_cons length_append length_map map_cons mem_cons mem_cons_of_mem mem_cons_self pairwise_cons)
open Nat (zero_le)
namespace Go.Ab
open Go.Proofs
def YR (n c:Nat):List Int:=(List.range' (n+1) c).map fun (k:Nat)=>(k:Int)
theorem FJ (n a b:Nat):YR n (a+b)=YR n a++YR (n+a) b:=by
 unfold YR;rw [<- List.map_append,show n+a+1=n+1+1*a by omega,List.range'_append]
theorem w6t (n:Nat):YR n 1=[((n+1:Nat):Int)]:=by simp [YR]
mutual
theorem w5e (nest:Int) : ∀ (t:S) {n:Nat} {m:Int},q7x nest n t=some m->(flS t).map S.id=YR n (ZV t)
 | .mk id kind labels name proc x has args thn els,n,m,h=>by
   simp only [q7x] at h;split at h
   ·cases h
   split at h
   ·cases h
   rename_i hid;cases hn:namesB labels<;>rw [hn] at h
   ·cases h
   cases hf:WE (.mk id kind labels name proc x has args thn els)<;>rw [hf] at h
   ·cases h
   simp only [cond_true] at h;split at h
   ·rename_i m1 h1;have h1':ZB (nest+1) ((n+1:Nat):Int) thn=some m1:=by rw [<- h1];rfl
    have h2:=ZC _ _ thn h1';have h3:=JW (nest+1) thn h1';have h':ZB (nest+1) ((n+1+QV thn:Nat):Int) els=some m:=by rw [<- h,h2];rfl
    have h4:=JW (nest+1) els h';rw [flS,ZV,map_cons,List.map_append,h3,h4,show 1+QV thn+QV els=1+(QV thn+QV els) by omega,FJ,w6t,FJ];have:id=((n+1:Nat):Int):=by omega
    rw [show (S.mk id kind labels name proc x has args thn els).id=id from rfl,this];rfl
   ·cases h
theorem JW (nest:Int) : ∀ (l:List S) {n:Nat} {m:Int},ZB nest n l=some m->(flL l).map S.id=YR n (QV l)
 | [],n,m,h=>by rw [flL,QV];rfl
 | t::r,n,m,h=>by
   simp only [ZB] at h;split at h
   ·cases h
   split at h
   ·rename_i m1 h1;have h2:=JY _ _ t h1;have h3:=w5e nest t h1;have h':ZB nest ((n+ZV t:Nat):Int) r=some m:=by rw [<- h,h2];rfl
    have h4:=JW nest r h';rw [flL,QV,List.map_append,h3,h4,FJ]
   ·cases h
end
theorem x2t : ∀ (l:List Pr) {n:Nat} {m:Int},XE n l=some m -> ∀ (j:Nat) (f:Pr),l[j]? = some f->(flL f.body).map S.id=YR (n+QR l j) (QV f.body)
 | [],_,_,_,j,f,hj=>by simp at hj
 | g::r,n,m,h,j,f,hj=>by
   rw [XE] at h;cases hm:GW g<;>rw [hm] at h
   ·cases h
   simp only [cond_true] at h;split at h
   ·rename_i m1 h1;cases j with
    | zero =>
      simp at hj;subst hj;exact JW 1 g.body h1
    | succ j =>
      have h2:=ZC _ _ g.body h1;have h':XE ((n+QV g.body:Nat):Int) r=some m:=by rw [<- h,h2];rfl
      have:=x2t r h' j f (by simpa using hj);rw [QR,this,Nat.add_assoc]
   ·cases h
theorem x3t {p:Pg} (h:VB p=true) {j:Nat} {f:Pr} (hj:p.procs[j]? = some f):(flL f.body).map S.id=YR (QR p.procs j) (QV f.body):=by
 unfold VB at h;simp only [Bool.and_eq_true] at h;cases hm:XE 0 p.procs with
 | none=>rw [hm] at h;cases h.2
 | some m =>
   have:=x2t p.procs (n:=0) hm j f hj;simpa using this
theorem YX {n c:Nat} {a:Int} (h:a∈YR n c):(n:Int)+1<=a∧a<=n+c:=by
 unfold YR at h;obtain ⟨k,hk,rfl⟩:=List.mem_map.1 h;rw [List.mem_range'] at hk;obtain ⟨i,hi,rfl⟩:=hk;omega
def okI (lo hi:Nat) (x:Int):Prop:=x = -1∨((lo:Int)+1<=x∧x<=hi)
mutual
theorem w8t (proc:Int) (lo hi:Nat) : ∀ (t:S) (up nx loop:Int) (n:Nat) (it:Item),it∈itS proc up nx loop n t->okI lo hi nx->(loop=0∨((lo:Int)+1<=loop∧loop<=hi))->lo<=n->n+ZV t<=hi ->
  okI lo hi it.next∧(it.loop=0∨((lo:Int)+1<=it.loop∧it.loop<=hi))
 | .mk id kind labels name pr x has args thn els,up,nx,loop,n,it,h,h1,h2,h3,h4=>by
   rw [itS] at h;rw [ZV] at h4;rcases List.mem_cons.1 h with rfl|h
   ·exact ⟨h1,h2⟩
   ·have h5:okI lo hi (if kind=6 then ((n:Int)+1) else nx):=by
     split
     ·exact .inr ⟨by omega,by omega⟩
     ·exact h1
    have h6:(if kind=6 then ((n:Int)+1) else loop)=0∨((lo:Int)+1<=(if kind=6 then ((n:Int)+1) else loop)∧(if kind=6 then ((n:Int)+1) else loop)<=hi):=by
     split
     ·exact .inr ⟨by omega,by omega⟩
     ·exact h2
    rcases List.mem_append.1 h with h|h
    ·exact x5t proc lo hi thn _ _ _ _ it h h5 h6 (by omega) (by omega)
    ·exact x5t proc lo hi els _ _ _ _ it h h5 h6 (by omega) (by omega)
theorem x5t (proc:Int) (lo hi:Nat) : ∀ (l:List S) (up nx loop:Int) (n:Nat) (it:Item),it∈itL proc up nx loop n l->okI lo hi nx->(loop=0∨((lo:Int)+1<=loop∧loop<=hi))->lo<=n->n+QV l<=hi ->
  okI lo hi it.next∧(it.loop=0∨((lo:Int)+1<=it.loop∧it.loop<=hi))
 | [],up,nx,loop,n,it,h,h1,h2,h3,h4=>by rw [itL] at h;cases h
 | t::r,up,nx,loop,n,it,h,h1,h2,h3,h4=>by
   rw [itL] at h;rw [QV] at h4;rcases List.mem_append.1 h with h|h
   ·refine w8t proc lo hi t _ _ _ _ it h ?_ h2 h3 (by omega);cases r with
    | nil=>exact h1
    | cons u r =>
      have:1<=QV (u::r):=by rw [QV,WB];omega
      exact .inr ⟨by simp;omega,by simp;omega⟩
   ·exact x5t proc lo hi r _ _ _ _ it h h1 h2 (by omega) (by omega)
end
theorem x4y : ∀ (l:List S) (v:S),v∈l->v∈flL l
 | [],v,h=>by cases h
 | t::r,v,h=>by
   rw [flL];rcases List.mem_cons.1 h with rfl|h
   ·refine List.mem_append.2 (.inl ?_);rw [w7m];exact mem_cons_self
   ·exact List.mem_append.2 (.inr (x4y r v h))
theorem QF {p:Pg} (h:XG p=true):VB p=true∧(QA p).1=0∧(VM p).1=0∧(NI p).1=0∧(HP p).1=0:=by
 unfold XG w3a at h;simp only [decide_eq_true_eq] at h;by_cases h1:VB p=false
 ·rw [if_pos h1] at h;cases h
 rw [if_neg h1] at h;by_cases h2:(QA p).1=0
 ·rw [if_neg (by omega)] at h;by_cases h3:(VM p).1=0
  ·rw [if_neg (by omega)] at h;by_cases h4:(NI p).1=0
   ·rw [if_neg (by omega)] at h;exact ⟨by simpa using h1,h2,h3,h4,h⟩
   ·rw [if_pos h4] at h;exact absurd h h4
  ·rw [if_pos h3] at h;exact absurd h h3
 ·rw [if_pos h2] at h;exact absurd h h2
theorem q9n {f:Pr} : ∀ (l:List Item) (seen:List Str) {s:List Str},YP f l seen = .ok s -> ∀ it∈l,VJ f it=true
 | [],_,_,_,it,h=>by cases h
 | a::r,seen,s,h,it,hi=>by
   rw [YP] at h;cases hj:VO seen a.s.labels with
   | none=>rw [hj] at h;cases h
   | some s1 =>
     rw [hj] at h;simp only at h;cases hl:VJ f a with
     | false=>rw [hl] at h;cases h
     | true =>
       rw [hl,cond_true] at h;rcases List.mem_cons.1 hi with rfl|hi
       ·exact hl
       ·exact q9n r s1 h it hi
theorem MN {p:Pg} (hs:(QA p).1=0) (h:(NI p).1=0) {j:Nat} {f:Pr} (hj:p.procs[j]? = some f) : ∀ it∈itsOf p j f,VJ f it=true:=by
 unfold NI at h;rw [if_neg (by omega)] at h;have hn:(List.range p.procs.length).findSome? (YH p)=none:=by
  cases hq:(List.range p.procs.length).findSome? (YH p) with
  | none=>rfl
  | some a=>rw [hq] at h;cases h
 rw [List.findSome?_eq_none_iff] at hn;have hlt:j<p.procs.length:=(List.getElem?_eq_some_iff.1 hj).1;have:=hn j (List.mem_range.2 hlt);unfold YH at this;rw [hj] at this;simp only at this;cases hr:YP f (itL (j:Nat) 0 (-1) 0 (QR p.procs j) f.body) [] with
 | error id=>rw [hr] at this;cases this
 | ok seen=>exact q9n _ _ hr
mutual
theorem w6v : ∀ (t u v:S),u∈flS t->v∈u.thn∨v∈u.els->v∈flS t
 | .mk id kind labels name proc x has args thn els,u,v,h,hv=>by
   rw [flS] at h ⊢;rcases List.mem_cons.1 h with rfl|h
   ·refine mem_cons_of_mem _ (List.mem_append.2 ?_);rcases hv with hv|hv
    ·exact .inl (x4y thn v hv)
    ·exact .inr (x4y els v hv)
   ·rcases List.mem_append.1 h with h|h
    ·exact mem_cons_of_mem _ (List.mem_append.2 (.inl (q6a thn u v h hv)))
    ·exact mem_cons_of_mem _ (List.mem_append.2 (.inr (q6a els u v h hv)))
theorem q6a : ∀ (l:List S) (u v:S),u∈flL l->v∈u.thn∨v∈u.els->v∈flL l
 | [],u,v,h,hv=>by rw [flL] at h;cases h
 | t::r,u,v,h,hv=>by
   rw [flL] at h ⊢;rcases List.mem_append.1 h with h|h
   ·exact List.mem_append.2 (.inl (w6v t u v h hv))
   ·exact List.mem_append.2 (.inr (q6a r u v h hv))
end
theorem LO {p:Pg} {j:Nat} {f:Pr} {it:Item} (h:it∈itsOf p j f):it.s∈flL f.body:=by
 unfold itsOf at h;rw [<- q0g (j:Nat) 0 (-1) 0 (QR p.procs j) f.body];exact List.mem_map.2 ⟨it,h,rfl⟩
theorem YT {p:Pg} (hm:VB p=true) {j:Nat} {f:Pr} (hj:p.procs[j]? = some f) {t:S} (h:t∈flL f.body):(QR p.procs j:Int)+1<=t.id∧t.id<=(QR p.procs j+QV f.body:Nat):=by
 have h1:=x3t hm hj;have h2:t.id∈YR (QR p.procs j) (QV f.body):=by
  rw [<- h1];exact List.mem_map.2 ⟨t,h,rfl⟩
 have:=YX h2;omega
theorem BH {p:Pg} {j:Nat} {f:Pr} {it:Item} (h:it∈itsOf p j f):okI (QR p.procs j) (QR p.procs j+QV f.body) it.next∧(it.loop=0∨((QR p.procs j:Int)+1<=it.loop∧it.loop<=(QR p.procs j+QV f.body:Nat))) :=
 x5t (j:Nat) _ _ f.body 0 (-1) 0 _ it h (.inl rfl) (.inl rfl) (Nat.le_refl _) (Nat.le_refl _)
theorem q0a {p:Pg} {j:Nat} {f:Pr} (hj:p.procs[j]? = some f) {k:Nat} (h1:QR p.procs j<=k) (h2:k<QR p.procs j+QV f.body) : ∃ it,(sheetOf p).l[k]? = some it∧it∈itsOf p j f:=by
 obtain ⟨_,_,_,hlen,hsp⟩:=QJ p;obtain ⟨_,_,hle,hd⟩:=hsp j f hj;have hk:k<(sheetOf p).l.length:=by omega
 refine ⟨(sheetOf p).l[k],List.getElem?_eq_getElem hk,?_⟩;unfold itsOf;rw [<- hd];refine List.mem_iff_getElem?.2 ⟨k-QR p.procs j,?_⟩;rw [List.getElem?_drop,List.getElem?_take,if_pos (by omega),show QR p.procs j+(k-QR p.procs j)=k by omega,List.getElem?_eq_getElem hk]
theorem w9f {p:Pg} (hm:VB p=true) {j:Nat} {f:Pr} (hj:p.procs[j]? = some f) {it:Item} (h:it∈itsOf p j f) (hl:VJ f it=true) : ∀ x∈goesI (sheetOf p) f it,okI (QR p.procs j) (QR p.procs j+QV f.body) x:=by
 obtain ⟨hnx,hlo⟩:=BH h;have hs:=LO h;have hid:=YT hm hj hs;have hhead : ∀ (l:List S) (o:Int),(∀ v∈l,v∈it.s.thn∨v∈it.s.els)->okI (QR p.procs j) (QR p.procs j+QV f.body) o->okI (QR p.procs j) (QR p.procs j+QV f.body) (q6v l o):=fun l o hv ho=>by
  cases l with
  | nil=>exact ho
  | cons v r=>exact .inr (YT hm hj (q6a f.body it.s v hs (hv v mem_cons_self)))
 have hloop:it.s.kind=7∨it.s.kind=8->(QR p.procs j:Int)+1<=it.loop∧it.loop<=(QR p.procs j+QV f.body:Nat):=fun hk=>by
  unfold VJ at hl;rw [if_pos hk] at hl;rcases hlo with h0|h0
  ·rw [h0] at hl;cases hl
  ·exact h0
 intro x hx;unfold goesI at hx;split at hx
 ·simp only [mem_cons,List.not_mem_nil,or_false] at hx;rcases hx with rfl|rfl
  ·exact hhead _ _ (fun v hv => .inl hv) hnx
  ·exact hhead _ _ (fun v hv => .inr hv) hnx
 split at hx
 ·simp only [mem_cons,List.not_mem_nil,or_false] at hx;rcases hx with rfl|rfl
  ·exact hhead _ _ (fun v hv => .inl hv) (.inr hid)
  ·exact hnx
 split at hx
 ·rename_i hk;have hlp:=hloop (.inl hk);obtain ⟨u,hu1,hu2⟩:=q0a hj (k:=(it.loop-1).toNat) (by omega) (by omega);rw [hu1] at hx;rw [List.mem_singleton.1 hx];exact (BH hu2).1
 split at hx
 ·rename_i hk;rw [List.mem_singleton.1 hx];exact .inr (hloop (.inr hk))
 split at hx
 ·rw [List.mem_singleton.1 hx];exact .inl rfl
 split at hx
 ·rename_i h7 h8 _ hk;rw [List.mem_singleton.1 hx];unfold VJ at hl;rw [if_neg (by omega),if_pos hk] at hl;unfold atB at hl ⊢;split
  ·rename_i t ht;exact .inr (YT hm hj (List.mem_of_find?_eq_some ht))
  ·rename_i hn;rw [hn] at hl;simp only at hl;cases hfin:f.fin.any fun s=>it.s.name==s with
   | true=>exact .inl rfl
   | false=>rw [hfin] at hl;cases hl
 ·rw [List.mem_singleton.1 hx];exact hnx
theorem PT {p:Pg} (h:XG p=true) {j:Nat} {f:Pr} (hj:p.procs[j]? = some f):(∀ it∈itsOf p j f,it.s.kind=7->1<=it.loop∧it.loop<=(sheetOf p).l.length) ∧
  (∀ s∈QK p j f,(s.src=0∨((QR p.procs j:Int)+1<=s.src∧s.src<=(QR p.procs j+QV f.body:Nat)))∧okI (QR p.procs j) (QR p.procs j+QV f.body) s.dst) ∧ ∀ s∈QK p j f,okSt s:=by
 obtain ⟨hm,hs,_,hjm,_⟩:=QF h;have hld:=MN hs hjm hj;obtain ⟨_,_,_,hlen,hsp⟩:=QJ p;obtain ⟨_,_,hle,_⟩:=hsp j f hj;obtain ⟨_,_,hcn⟩:=ZG hm;have key : ∀ s∈QK p j f,(s.src=0∨((QR p.procs j:Int)+1<=s.src∧s.src<=(QR p.procs j+QV f.body:Nat)))∧okI (QR p.procs j) (QR p.procs j+QV f.body) s.dst:=fun s hx=>by
  unfold QK at hx;rcases List.mem_cons.1 hx with rfl|hx
  ·refine ⟨.inl rfl,?_⟩;show okI _ _ (if QR p.procs j<QR p.procs j+QV f.body then ((QR p.procs j:Nat)+1:Int) else -1);split
   ·exact .inr ⟨by omega,by omega⟩
   ·exact .inl rfl
  ·obtain ⟨it,hit,hz⟩:=List.mem_flatMap.1 hx;obtain ⟨y,hy,rfl⟩:=List.mem_map.1 hz;exact ⟨.inr (YT hm hj (LO hit)),w9f hm hj hit (hld it hit) y hy⟩
 refine ⟨fun it hit hk => ?_,key,fun s hx => ?_⟩
 ·have hl:=hld it hit;unfold VJ at hl;rw [if_pos (.inl hk)] at hl;rcases (BH hit).2 with h0|h0
  ·rw [h0] at hl;cases hl
  ·omega
 ·obtain ⟨h1,h2⟩:=key s hx;unfold okSt okI at *
  omega
def DR (p:Pg) (n:Str):Option Way:=bif XG p then (match p.procs.find? (fun f=>f.name==n) with
 | some f=>some (QQ p (p.procs.findIdx fun f=>f.name==n) f)
 | none=>none) else none
def v5i:Option Way->AV
 | some w => .ip w.cells
 | none => .nilp
theorem KU {p:Pg} (h:XG p=true):p.globals.length<=16∧p.procs.length<=16∧cntP p.procs<=200:=ZG (QF h).1
theorem z4b {p:Pg} {n:Str} (h : ¬n∈procsN p):x2y (fun f=>f.name==n) p.procs = -1∧p.procs.find? (fun f=>f.name==n)=none:=by
 have h1:p.procs.any (fun f=>f.name==n)=false:=by
  rw [List.any_eq_false];intro f hf hn;exact h (List.mem_map.2 ⟨f,hf,by simpa using hn⟩)
 refine ⟨by unfold x2y;rw [h1];rfl,?_⟩;rw [List.find?_eq_none];intro f hf;have:=List.any_eq_false.1 h1 f hf;simpa using this
theorem z9l {p:Pg} {n:Str} (h:n∈procsN p) : ∃ (k:Nat) (hk:k<p.procs.length),x2y (fun f=>f.name==n) p.procs=k∧p.procs.findIdx (fun f=>f.name==n)=k∧p.procs.find? (fun f=>f.name==n)=some p.procs[k]∧p.procs[k].name=n:=by
 obtain ⟨k,hk,h1,h2,h3⟩:=q0s h;refine ⟨k,hk,h1,?_,h2,h3⟩;unfold x2y at h1;cases ha:p.procs.any (fun f=>f.name==n) with
 | true=>rw [ha,cond_true] at h1;omega
 | false=>rw [ha,cond_false] at h1;omega
theorem w7l (p:Pg) (hf:Fit p) (n:Str):SpecP Tryz.prog 102 [.agg p.cells,.str n] (fun r=>r=v5i (DR p n)):=by
 refine sB w4q Tryz.func102 rfl Tryz.call102 ?_;conv=>whnf
 cases hc:XG p with
 | false =>
   have e:DR p n=none:=by unfold DR;rw [hc];rfl
   have hA : ¬(w3a p).1=0:=by unfold XG at hc;simpa using hc
   rw [e];repeat' (first|(refine cP (q2k p hf) ?_;conv=>whnf)|(apply bE<;>intro _<;>first|omega|conv=>whnf))
   all_goals first
    | exact RetK.p rfl
    | (exfalso;exact hA (by assumption))
 | true =>
   obtain ⟨hg,hpl,hcn⟩:=KU hc;have hA:(w3a p).1=0:=by unfold XG at hc;simpa using hc
   have hsp:(sheetOf p).p.procs=p.procs:=by rw [(QJ p).1]
   by_cases hn:n∈procsN p
   ·obtain ⟨k,hk,h1,h2,h3,h4⟩:=z9l hn;have e:DR p n=some (QQ p k p.procs[k]):=by unfold DR;rw [hc,h3,h2];rfl
    have hkj:p.procs[k]? = some p.procs[k]:=by simp
    obtain ⟨w1,_,w3⟩:=PT hc hkj;rw [e];repeat' (first|((first|refine cP (q2k p hf) ?_|refine cP (UZ _ _) ?_|(refine CallK.pure (FP p (by omega) (by omega)) (.cons (Sub.refl _) .nil) ?_;rintro _ rfl)|(refine CallK.pure (w9y p k p.procs[k] hkj (by omega) w1 w3) (.cons (Sub.refl _) (.cons (Sub.int h1) .nil)) ?_;rintro _ rfl));conv=>whnf)|(apply bD<;>intro _<;>first|omega|conv=>whnf)|(apply bE<;>intro _<;>first|omega|conv=>whnf))
    all_goals rw [hsp] at *
    all_goals first
     | exact RetK.p rfl
     | (exfalso;omega)
   ·obtain ⟨h1,h2⟩:=z4b hn;have e:DR p n=none:=by unfold DR;rw [hc,h2];rfl
    rw [e];repeat' (first|((first|refine cP (q2k p hf) ?_|refine cP (UZ _ _) ?_|(refine CallK.pure (FP p (by omega) (by omega)) (.cons (Sub.refl _) .nil) ?_;rintro _ rfl));conv=>whnf)|(apply bD<;>intro _<;>first|omega|conv=>whnf)|(apply bE<;>intro _<;>first|omega|conv=>whnf))
    all_goals rw [hsp] at *
    all_goals first
     | exact RetK.p rfl
     | (exfalso;omega)
theorem KD {p:Pg} {n:Str} {w:Way} (h:DR p n=some w) : ∃ (k:Nat) (f:Pr),p.procs[k]? = some f∧w=QQ p k f∧XG p=true∧f.name=n∧p.procs.find? (fun f=>f.name==n)=some f:=by
 unfold DR at h;cases hc:XG p with
 | false=>rw [hc] at h;cases h
 | true =>
   rw [hc,cond_true] at h;by_cases hn:n∈procsN p
   ·obtain ⟨k,hk,h1,h2,h3,h4⟩:=z9l hn;rw [h3,h2] at h;cases h;exact ⟨k,p.procs[k],by simp,rfl,rfl,h4,h3⟩
   ·rw [(z4b hn).2] at h;cases h
def w8m (p:Pg) (k:Nat) (f:Pr):Int:=if QR p.procs k<QR p.procs k+QV f.body then ((QR p.procs k:Nat)+1:Int) else -1
def QN (p:Pg) (j:Nat) (n i:Int):Int:=if i=0 then 0 else if i=n-1 then -1 else loI p j+i-1
theorem DZ (w:Way) (f:Pr) (hj:w.p.procs[w.j]? = some f) (hc:cntP w.p.procs<=1000) (hn:0<=w.n∧w.n<=5000) (i:Int) (hi:0<=i∧i<=5000):SpecP Tryz.prog 103 [.ip w.cells,.int .i64 i] (fun r=>r = .int .i64 (QN w.p w.j w.n i)):=by
 refine sB q8e Tryz.func103 rfl Tryz.call103 ?_;conv=>whnf
 obtain ⟨_,_,_,hlen,hsp⟩:=QJ w.p;obtain ⟨hlo,hhi,hle,_⟩:=hsp w.j f hj;repeat' (first|((first|refine dA ?_|refine wI ?_|(refine IdxK.at rfl (UY hlo) rfl ?_));conv=>whnf)|(apply bD<;>intro _<;>first|omega|conv=>whnf))
 all_goals exact RetK.int (by unfold QN loI;(repeat' split)<;>omega)
theorem DrawK.le {P:Program} {T:Tab} {N:Nat} {ops:Array Oper} {info:Info} {id:Nat} {K:St->Prop} {s s':St} (hle:Le N s s') (h:DrawK P T N info id ops K s'):DrawK P T N info id ops K s:=by
 refine ⟨⟨fun σ β a w hr => ?_⟩⟩;obtain ⟨σ1,β1,hr1,hl1⟩:=hle σ β a w hr;refine Code.wp_mono (fun e a' w' hk => ?_) (h.ok.ok σ1 β1 a w hr1);obtain ⟨σ',β',s2,hk,hr',hl⟩:=hk;exact ⟨σ',β',s2,hk,hr',hl1.trans hl⟩
def w9j (p:Pg) (id:Int):Option S:=((sheetOf p).l[(id-1).toNat]?).map Item.s
def q0c (a b:Step):Prop:=ZW a.src<ZW b.src∨(ZW a.src=ZW b.src∧ZW a.dst<ZW b.dst)
def w3s (s:Step):Prop:=okSt s∧s.kind=1
theorem YQ {a b:Step} (h1:a.src=b.src) (h2:a.dst=b.dst) (h3:a.kind=b.kind):a=b:=by
 cases a;cases b;simp_all
theorem HI {a b:Step}:DN a b=true↔ZW a.src<ZW b.src∨(ZW a.src=ZW b.src∧(ZW a.dst<ZW b.dst∨(ZW a.dst=ZW b.dst∧a.kind<b.kind))):=by
 have h:DN a b=decide (z2t a b<0):=rfl;rw [h,decide_eq_true_eq];unfold z2t;simp only [orI];split
 ·rename_i h1;rw [JR] at h1;split
  ·rename_i h2;rw [JR] at h2;split
   ·rename_i h3;rw [JR] at h3;omega
   ·rw [NW];omega
  ·rename_i h2;rw [JR] at h2;rw [NW];omega
 ·rename_i h1;rw [JR] at h1;rw [NW];omega
theorem q1u (l:List Step):(YC l).Pairwise fun a b=>DN b a=false:=by
 have:=List.pairwise_mergeSort (le:=fun x y => !DN y x) (fun a b c h1 h2=>by
  simp only [Bool.not_eq_true'] at h1 h2 ⊢;rw [Bool.eq_false_iff,ne_eq,HI] at h1 h2 ⊢;omega) (fun a b=>by
  cases h1:DN b a with
  | false=>rfl
  | true =>
    have h2:DN a b=false:=by
     rw [Bool.eq_false_iff,ne_eq,HI];rw [HI] at h1;omega
    rw [h2];rfl) l
 refine List.Pairwise.imp ?_ this;intro a b h;simpa using h
theorem q5z {a b:Step} (ha:w3s a) (hb:w3s b):ZF a b=true↔a=b:=by
 unfold ZF;simp only [Bool.and_eq_true,decide_eq_true_eq];refine ⟨fun h=>YQ h.1 h.2 (by rw [ha.2,hb.2]),fun h=>by rw [h];exact ⟨rfl,rfl⟩⟩
theorem v0u {a b:Step} (ha:w3s a) (hb:w3s b) (h:DN b a=false) (hne:a≠b):q0c a b:=by
 rw [Bool.eq_false_iff,ne_eq,HI] at h;unfold q0c;by_cases h1:ZW a.src=ZW b.src
 ·by_cases h2:ZW a.dst=ZW b.dst
  ·exact absurd (YQ (FX ha.1.1 hb.1.1 h1) (FX ha.1.2 hb.1.2 h2) (by rw [ha.2,hb.2])) hne
  ·omega
 ·omega
theorem q4v {a b c:Step} (h:q0c a b) (h':q0c b c):q0c a c:=by unfold q0c at *;omega
theorem FT {a:Step} (h:q0c a a):False:=by unfold q0c at h;omega
theorem q2z : ∀ (l:List Step) (a:Step),w3s a->(∀ s∈l,w3s s)->(a::l).Pairwise (fun a b=>DN b a=false)->(a::XY a l).Pairwise q0c ∧ ∀ s,s∈a::XY a l↔s∈a::l
 | [],a,_,_,_=>⟨by simp [XY],by simp [XY]⟩
 | b::r,a,ha,hl,h=>by
   have hb:=hl b mem_cons_self;have hr : ∀ s∈r,w3s s:=fun s hs=>hl s (mem_cons_of_mem _ hs);rw [pairwise_cons] at h;obtain ⟨h1,h2⟩:=h;obtain ⟨i1,i2⟩:=q2z r b hb hr h2;rw [XY];cases hs:ZF b a with
   | true =>
     obtain rfl:=(q5z hb ha).1 hs;rw [cond_true];exact ⟨i1,fun s=>by rw [i2];simp⟩
   | false =>
     rw [cond_false];have hne:a≠b:=fun e=>by
      rw [(q5z hb ha).2 e.symm] at hs;cases hs
     have hlt:=v0u ha hb (h1 b mem_cons_self) hne;refine ⟨?_,fun s=>by rw [mem_cons,i2,<- mem_cons (a:=s) (b:=a)]⟩;rw [pairwise_cons];refine ⟨fun s hsm => ?_,i1⟩;rcases List.mem_cons.1 hsm with rfl|hsm
     ·exact hlt
     ·exact q4v hlt ((List.pairwise_cons.1 i1).1 s hsm)
theorem z7m {l:List Step} (hok : ∀ s∈l,w3s s):(ZL l).Pairwise q0c ∧ ∀ s,s∈ZL l↔s∈l:=by
 have hp : ∀ s,s∈YC l↔s∈l:=fun s=>(q9g l).mem_iff;have hs:=q1u l;unfold ZL;cases hq:YC l with
 | nil =>
   rw [hq] at hp;exact ⟨by simp [LK],fun s=>by rw [<- hp];simp [LK]⟩
 | cons a r =>
   rw [hq] at hp hs;have hok' : ∀ s∈a::r,w3s s:=fun s h=>hok s ((hp s).1 h);obtain ⟨h1,h2⟩:=q2z r a (hok' a mem_cons_self) (fun s h=>hok' s (mem_cons_of_mem _ h)) hs;exact ⟨h1,fun s=>by rw [LK,h2,hp]⟩
theorem x1e : ∀ {l m:List Step},l.Pairwise q0c->m.Pairwise q0c->(∀ s,s∈l↔s∈m)->l=m
 | [],[],_,_,_=>rfl
 | [],b::m,_,_,h=>by have:=(h b).2 mem_cons_self;cases this
 | a::l,[],_,_,h=>by have:=(h a).1 mem_cons_self;cases this
 | a::l,b::m,hl,hm,h=>by
   rw [pairwise_cons] at hl hm;have hab:a=b:=by
    rcases List.mem_cons.1 ((h a).1 mem_cons_self) with e|ha
    ·exact e
    ·rcases List.mem_cons.1 ((h b).2 mem_cons_self) with e|hb
     ·exact e.symm
     ·exact (FT (q4v (hl.1 b hb) (hm.1 a ha))).elim
   subst hab;congr 1;refine x1e hl.2 hm.2 fun s=>⟨fun hs => ?_,fun hs => ?_⟩
   ·rcases List.mem_cons.1 ((h s).1 (mem_cons_of_mem _ hs)) with rfl|h'
    ·exact (FT (hl.1 _ hs)).elim
    ·exact h'
   ·rcases List.mem_cons.1 ((h s).2 (mem_cons_of_mem _ hs)) with rfl|h'
    ·exact (FT (hm.1 _ hs)).elim
    ·exact h'
theorem x8e {p:Pg} (h:XG p=true) {j:Nat} {f:Pr} (hj:p.procs[j]? = some f) : ∀ s∈QK p j f,w3s s:=by
 obtain ⟨_,_,h3⟩:=PT h hj;intro s hs;refine ⟨h3 s hs,?_⟩;unfold QK at hs;rcases List.mem_cons.1 hs with rfl|hs
 ·rfl
 ·obtain ⟨it,_,hz⟩:=List.mem_flatMap.1 hs;obtain ⟨y,_,rfl⟩:=List.mem_map.1 hz;rfl
theorem VI {p:Pg} (h:XG p=true) {j:Nat} {f:Pr} (hj:p.procs[j]? = some f):(QQ p j f).real.Pairwise q0c ∧ ∀ s,s∈(QQ p j f).real↔s∈QK p j f:=z7m (x8e h hj)
theorem w5b {p:Pg} (h:XG p=true) {j:Nat} {f:Pr} (hj:p.procs[j]? = some f) {s:Step} (hs:s∈QK p j f):s=⟨0,w8m p j f,1⟩∨(1<=s.src∧s.src<=9223372036854775806):=by
 obtain ⟨_,_,hcn⟩:=KU h;obtain ⟨_,_,_,hlen,hsp⟩:=QJ p;obtain ⟨_,_,hle,_⟩:=hsp j f hj;unfold QK at hs;rcases List.mem_cons.1 hs with rfl|hs
 ·exact .inl rfl
 ·obtain ⟨it,hit,hz⟩:=List.mem_flatMap.1 hs;obtain ⟨y,_,rfl⟩:=List.mem_map.1 hz;have:=YT (QF h).1 hj (LO hit);refine .inr ?_;simp only;omega
theorem w5v {p:Pg} (h:XG p=true) {j:Nat} {f:Pr} (hj:p.procs[j]? = some f):w8m p j f=q6v f.body (-1):=by
 have h1:=x3t (QF h).1 hj;unfold w8m;cases hb:f.body with
 | nil=>rw [QV,if_neg (by omega)];rfl
 | cons t r =>
   rw [hb,flL,w7m] at h1;have h3:1<=QV (t::r):=by rw [QV,WB];omega
   rw [if_pos (by omega)];have h4:=congrArg (fun l=>l[0]?) h1;simp only [List.cons_append,map_cons] at h4;unfold YR at h4;rw [List.getElem?_map,List.getElem?_range' (by omega)] at h4;simp at h4;show _=t.id;omega
theorem KT (c:UInt8):SpecP Tryz.prog 258 [.int .u8 c.toNat] (fun r=>r = .bool (JV c)):=by
 refine sB NT Tryz.func258 rfl Tryz.call258 ?_;conv=>whnf
 repeat' (apply bD<;>intro _<;>first|omega|conv=>whnf)
 ·exact RetK.bool (by simp_all [JV];try omega)
 ·exact RetK.ff (by simp_all [JV];try omega)
theorem q2d (c:UInt8):SpecP Tryz.prog 259 [.int .u8 c.toNat] (fun r=>r = .bool (LN c)):=by
 refine sB NO Tryz.func259 rfl Tryz.call259 ?_;conv=>whnf
 repeat' (apply bD<;>intro _<;>first|omega|conv=>whnf)
 ·exact RetK.bool (by simp_all [LN];try omega)
 ·exact RetK.ff (by simp_all [LN];try omega)
def wordsL:List Str:=[[103,108,111,98,97,108],[112,114,111,99],[118,97,114],[114,101,102],[105,102],[101,108,115,101],[119,104,105,108,101],[98,114,101,97,107],[99,111,110,116,105,110,117,101],[114,101,116,117,114,110],[103,111,116,111],[114,101,97,100],[112,114,105,110,116]]
theorem q1q:SpecP Tryz.prog 321 [] (fun r=>r=QM wordsL):=by
 refine sB MK Tryz.func321 rfl Tryz.call321 ?_;conv=>whnf
 repeat' ((first|refine And.intro rfl ?_|refine aD ?_|refine BsK.pureL rfl rfl ?_);conv=>whnf)
 exact RetK.p rfl
theorem z8g (s:Str):q5c s=wordsL.any fun w=>w==s:=by
 rw [Bool.eq_iff_iff];unfold q5c wordsL;simp only [Bool.or_eq_true,decide_eq_true_eq,List.any_cons,List.any_nil,Bool.or_false,beq_iff_eq,or_assoc,@eq_comm _ s]
theorem q4h (s:Str):SpecP Tryz.prog 260 [.str s] (fun r=>r = .bool (q5c s)):=by
 refine sB MC Tryz.func260 rfl Tryz.call260 ?_;conv=>whnf
 rw [z8g];repeat' ((first|(refine iM fun _=>?_)|refine cP q1q ?_);conv=>whnf)
 have hlb:wordsL.length<=1000:=by decide
 generalize wordsL=l at hlb ⊢;have hl:(l.map AV.str).length=l.length:=length_map _;refine LoopK.inv QX (fun j:Nat=>⟨[(0,.p (.str s)),(5,.p (QM l)),(6,.p (.int .i64 (l.map AV.str).length)),(7,.p (.int .i64 j))],[]⟩) (fun j=>j<=l.length∧(l.drop j).any (fun w=>w==s)=l.any fun w=>w==s) (fun j=>l.length-j) 0 (Le.of_eq rfl) ⟨zero_le _,rfl⟩ ?_;rintro j ⟨h2,h3⟩;conv=>whnf
 repeat' (first|((first|(refine iA fun _=>?_)|refine wI ?_);conv=>whnf)|(apply bD<;>intro _<;>first|omega|conv=>whnf)|(apply bB<;>intro _<;>conv=>whnf))
 ·exact RetK.tt (by rw [<- h3,q4w (p:=fun w=>w==s) (by omega) (by assumption)])
 ·exact ⟨j+1,⟨by omega,by rw [<- h3,q5s (p:=fun w=>w==s) (by omega) (by assumption)]⟩,by omega,Le.of_eq rfl⟩
 ·exact RetK.ff (by rw [<- h3,PW (by omega)])
theorem z1f {s:Str} {i:Nat} (h:s.length<=i):KJ s i=i:=q3w fun hi=>by omega
theorem XA (s:Str):SpecP Tryz.prog 172 [.str s] (fun r=>r = .bool (isName s)):=by
 refine sB q0u Tryz.func172 rfl Tryz.call172 ?_;conv=>whnf
 by_cases hs:s=[]
 ·subst hs;have e:isName []=false:=by unfold isName;rw [dif_neg (by simp)]
  rw [e];repeat' (first|(refine iM fun _=>?_;conv=>whnf)|(apply bD<;>intro _<;>first|omega|conv=>whnf)|(apply bB<;>intro _<;>conv=>whnf))
  all_goals first
   | exact RetK.ff rfl
   | (exfalso;simp_all;done)
 have hlen:0<s.length:=List.length_pos_iff.2 hs;have hsb:(s==(⟨#[]⟩:ByteArray).data.toList)=false:=by simpa using hs
 repeat' (first|((first|(refine iM fun _=>?_)|refine cP (KT _) ?_|(refine ByteK.at (by omega) ?_));conv=>whnf)|(apply bD<;>intro _<;>first|omega|conv=>whnf)|(apply bN<;>intro _<;>conv=>whnf)|(apply bB<;>intro _<;>conv=>whnf))
 ·exfalso;rename_i h;rw [hsb] at h;cases h
 ·exact RetK.ff (by unfold isName;rw [dif_neg (by omega)])
 rotate_left 1
 ·exact RetK.ff (by unfold isName;rw [dif_pos (by omega)];simp_all)
 have hl0:JV s[0]=true:=by assumption
 have hle:s.length<=8:=by omega
 have e0:KJ s 0=KJ s 1:=(NX hlen (by unfold w4c;rw [hl0];rfl)).symm;have en:isName s=(decide (KJ s 1=s.length) && !q5c s):=by
  unfold isName;rw [dif_pos (by omega),hl0,e0];rfl
 refine LoopK.inv QX (fun j:Nat=>⟨[(0,.p (.str s)),(3,.p (.int .i64 j))],[]⟩) (fun j=>1<=j∧j<=s.length∧KJ s j=KJ s 1) (fun j=>s.length-j) 1 (Le.of_eq rfl) ⟨Nat.le_refl _,hlen,rfl⟩ ?_;rintro j ⟨h1,h2,h3⟩;conv=>whnf
 repeat' (first|((first|(refine iM fun _=>?_)|refine cP (KT _) ?_|refine cP (q2d _) ?_|refine cP (q4h _) ?_|(refine ByteK.at (by omega) ?_)|refine wI ?_);conv=>whnf)|(apply bD<;>intro _<;>first|omega|conv=>whnf)|(apply bN<;>intro _<;>conv=>whnf))
 all_goals first
  | exact ⟨j+1,⟨by omega,by omega,by rw [NX (by omega) (by simp_all [w4c])];exact h3⟩,by omega,Le.of_eq rfl⟩
  | exact RetK.ff (by rw [en,<- h3,q3w fun _=>by simp_all [w4c]];simp;omega)
  | exact RetK.bool (by rw [en,<- h3,z1f (by omega),show j=s.length by omega];simp)
theorem UG (l:List Str):SpecP Tryz.prog 171 [QM l] (fun r=>r = .bool (namesB l)):=by
 refine sB ND Tryz.func171 rfl Tryz.call171 ?_;conv=>whnf
 refine iM fun _=>?_;conv=>whnf
 refine LoopK.inv QX (fun j:Nat=>⟨[(5,.p (QM l)),(6,.p (.int .i64 (l.map AV.str).length)),(7,.p (.int .i64 j))],[]⟩) (fun j=>j<=l.length∧(l.drop j).all isName=namesB l) (fun j=>l.length-j) 0 (Le.of_eq rfl) ⟨zero_le _,rfl⟩ ?_;rintro j ⟨h2,h3⟩;have hl:(l.map AV.str).length=l.length:=length_map _;conv=>whnf
 repeat' (first|((first|refine cP (XA _) ?_|(refine iA fun _=>?_)|refine wI ?_);conv=>whnf)|(apply bD<;>intro _<;>first|omega|conv=>whnf)|(apply bN<;>intro _<;>conv=>whnf))
 ·exact ⟨j+1,⟨by omega,by rw [GY (by omega) (by assumption)];exact h3⟩,by omega,Le.of_eq rfl⟩
 ·exact RetK.ff (by rw [<- h3,q1y (by omega) (by assumption)])
 ·exact RetK.tt (by rw [<- h3,GM (by omega)])
theorem q1s (op:Int):SpecP Tryz.prog 319 [.int .i64 op] (fun r=>r = .int .i64 (q6p op)):=by
 refine sB MW Tryz.func319 rfl Tryz.call319 ?_;conv=>whnf
 repeat' (apply bD<;>intro _<;>first|omega|conv=>whnf)
 all_goals exact RetK.int (by unfold q6p;(repeat' split)<;>omega)
theorem HY (x:X):SpecP Tryz.prog 261 [.agg x.cells] (fun r=>r = .bool (noneB x)):=by
 refine sB LI Tryz.func261 rfl Tryz.call261 ?_;conv=>whnf
 repeat' (first|(refine iM fun _=>?_;conv=>whnf)|(apply bD<;>intro _<;>first|omega|conv=>whnf)|(apply bB<;>intro _<;>conv=>whnf))
 all_goals have hk:((X.avs x.kids).length:Int)=x.kids.length:=by rw [X.avs_len]
 all_goals first
  | exact RetK.ff (by simp_all [noneB];done)
  | exact RetK.bool (by simp_all [noneB];done)
def HJ (x:X):Bool:=decide (q6p x.op=(x.kids.length:Int))&&(decide (x.op=1)||decide (x.n=0))&&decide (0<=x.n)&&(decide (x.op=2) == !(x.name==[]))&&((x.name==[])||isName x.name)
def NB:Nat->X->Bool
 | 0,_=>true
 | k+1,x=>HJ x&&x.kids.all (NB k)
theorem z2o : ∀ (l:List X) (y:X),y∈l->wX y<=wXs l
 | [],y,h=>by cases h
 | a::r,y,h=>by
   rw [wXs];rcases List.mem_cons.1 h with rfl|h
   ·omega
   ·have:=z2o r y h;omega
theorem HV : ∀ (k:Nat) (x:X) (_:wX x<k),SpecP Tryz.prog 253 [.agg x.cells] (fun r=>r = .bool (NB k x)):=by
 intro k;induction k with
 | zero=>intro x h;omega
 | succ k ih =>
   intro x hx;have hxe:wX x=1+wXs x.kids:=by cases x;rw [wX];rfl
   have hk:((X.avs x.kids).length:Int)=x.kids.length:=by rw [X.avs_len]
   refine sB q0d Tryz.func253 rfl Tryz.call253 ?_;conv=>whnf
   repeat' (first|((first|(refine iM fun _=>?_)|refine cP (q1s _) ?_|refine cP (XA _) ?_|refine dA ?_|refine WN QX rfl rfl rfl rfl rfl ?_);conv=>whnf)|(apply bD<;>intro _<;>first|omega|conv=>whnf)|(apply bE<;>intro _<;>first|omega|conv=>whnf)|(apply bN<;>intro _<;>conv=>whnf))
   all_goals simp only [show (ByteArray.mk #[]).data.toList=[] from rfl] at *
   all_goals first
    | (refine RetK.ff ?_
       rw [NB,Bool.and_eq_false_iff];left;unfold HJ;rw [show decide (0<=x.n)=false from decide_eq_false (by omega)];simp
       done)
    | (refine RetK.ff ?_
       rw [NB,Bool.and_eq_false_iff];left;rename_i h;have hq:(decide (x.op=2) == !(x.name==[]))=false:=by
        have e:decide (x.op=2)=(x.op==2):=rfl;rw [e]
        revert h
        cases (x.op==2)<;>cases (x.name==[])<;>decide
       unfold HJ;rw [hq];simp
       done)
    | (refine RetK.ff ?_
       rw [NB,Bool.and_eq_false_iff];left;simp_all [HJ]
       done)
    | (refine RetK.ff ?_
       rw [NB,Bool.and_eq_false_iff];left;simp_all [HJ];omega)
    | (have h0:HJ x=true:=by first
        | (simp_all [HJ];done)
        | (simp_all [HJ];omega)
       rw [show NB (k+1) x=x.kids.all (NB k) by rw [NB,h0];rfl])
   all_goals
    clear h0;refine LoopK.inv QX (fun j:Nat=>⟨[(1,.p (.ip x.cells)),(48,.p (.int .i64 (X.avs x.kids).length)),(49,.p (.int .i64 j))],[]⟩) (fun j=>j<=x.kids.length∧(x.kids.drop j).all (NB k)=x.kids.all (NB k)) (fun j=>x.kids.length-j) 0 (Le.of_eq rfl) ⟨zero_le _,rfl⟩ ?_;rintro j ⟨h2,h3⟩;rcases Nat.lt_or_ge j x.kids.length with hj|hj
    ·have hw:=z2o x.kids _ (List.getElem_mem hj);conv=>whnf
     repeat' (first|((first|refine IdxK.xs (by omega) ?_|refine wI ?_|(refine CallK.pure (ih (x.kids[j]'hj) (by omega)) (.cons (Sub.refl _) .nil) ?_;rintro _ rfl));conv=>whnf)|(apply bD<;>intro _<;>first|omega|conv=>whnf)|(apply bN<;>intro _<;>conv=>whnf))
     ·exact ⟨j+1,⟨by omega,by rw [GY (by omega) (by assumption)];exact h3⟩,by omega,Le.of_eq rfl⟩
     ·exact RetK.ff (by rw [<- h3,q1y (by omega) (by assumption)])
    ·conv=>whnf
     repeat' (apply bD<;>intro _<;>first|omega|conv=>whnf)
     exact RetK.tt (by rw [<- h3,GM (by omega)])
def z8z:List Nat->Nat
 | []=>0
 | a::r=>max a (z8z r)
def HO:Nat->X->Nat
 | 0,_=>1
 | m+1,x=>1+z8z (x.kids.map (HO m))
theorem z2j {l:List Nat} {m:Nat} (h : ∀ a∈l,a<=m):z8z l<=m:=by
 induction l with
 | nil=>exact zero_le _
 | cons a r ih =>
   have:=ih fun b hb=>h b (mem_cons_of_mem _ hb);have:=h a mem_cons_self;rw [z8z];omega
theorem x6u : ∀ (m:Nat) (x:X),HO m x<=m+1
 | 0,_=>Nat.le_refl _
 | m+1,x=>by
   rw [HO];have:z8z (x.kids.map (HO m))<=m+1:=z2j fun a ha=>by
    obtain ⟨y,_,rfl⟩:=List.mem_map.1 ha;exact x6u m y
   omega
theorem HN : ∀ (m:Nat) (_:m<=1000) (x:X),SpecP Tryz.prog 252 [.agg x.cells,.int .i64 m] (fun r=>r = .int .i64 (HO m x)):=by
 intro m;induction m with
 | zero =>
   intro _ x;refine sB JN Tryz.func252 rfl Tryz.call252 ?_;conv=>whnf
   repeat' (apply bD<;>intro _<;>first|omega|conv=>whnf)
   exact RetK.int rfl
 | succ m ih =>
   intro hm x;have hk:((X.avs x.kids).length:Int)=x.kids.length:=by rw [X.avs_len]
   refine sB JN Tryz.func252 rfl Tryz.call252 ?_;conv=>whnf
   repeat' (apply bD<;>intro _<;>first|omega|conv=>whnf)
   have hmx:z8z (x.kids.map (HO m))<=m+1:=z2j fun a ha=>by
    obtain ⟨y,_,rfl⟩:=List.mem_map.1 ha;exact x6u m y
   refine LoopK.inv QX (fun y:Nat×Nat=>⟨[(1,.p (.int .i64 (m+1:Nat))),(2,.p (.ip x.cells)),(5,.p (.int .i64 y.2)),(6,.p (.int .i64 y.1))],[]⟩) (fun y=>y.1<=x.kids.length∧y.2<=m+1∧max y.2 (z8z ((x.kids.drop y.1).map (HO m)))=z8z (x.kids.map (HO m))) (fun y=>x.kids.length-y.1) (0,0) (Le.of_eq rfl) ⟨zero_le _,zero_le _,by simp⟩ ?_;rintro ⟨j,d⟩ ⟨h2,h3,h4⟩;simp only at h2 h3 h4 ⊢;rcases Nat.lt_or_ge j x.kids.length with hj|hj
   ·rw [List.drop_eq_getElem_cons hj,map_cons,z8z] at h4;have hd:=x6u m x.kids[j];conv=>whnf
    repeat' (first|((first|(refine iM fun _=>?_)|refine IdxK.xs (by omega) ?_|refine wI ?_|(refine CallK.pure (ih (by omega) (x.kids[j]'hj)) (.cons (Sub.refl _) (.cons (Sub.int (by omega)) .nil)) ?_;rintro _ rfl));conv=>whnf)|(apply bD<;>intro _<;>first|omega|conv=>whnf))
    all_goals first
     | exact ⟨(j+1,HO m x.kids[j]),⟨by simp only;omega,by simp only;omega,by simp only;omega⟩,by simp only;omega,Le.of_eq rfl⟩
     | exact ⟨(j+1,d),⟨by simp only;omega,by simp only;omega,by simp only;omega⟩,by simp only;omega,Le.of_eq rfl⟩
     | exact RetK.int (by rw [HO];omega)
   ·rw [drop_eq_nil_of_le hj,List.map_nil,z8z] at h4;conv=>whnf
    repeat' (first|((first|(refine iM fun _=>?_)|refine wI ?_);conv=>whnf)|(apply bD<;>intro _<;>first|omega|conv=>whnf))
    exact RetK.int (by rw [HO];omega)
def mayXR (x:X):Bool:=decide (HO 20 x<=20)&&NB (wX x+1) x
theorem YI (x:X):SpecP Tryz.prog 166 [.agg x.cells] (fun r=>r = .bool (mayXR x)):=by
 refine sB UL Tryz.func166 rfl Tryz.call166 ?_;conv=>whnf
 repeat' (first|((first|(refine CallK.pure (HN 20 (by omega) x) (.cons (Sub.refl _) (.cons (Sub.refl _) .nil)) ?_;rintro _ rfl)|(refine CallK.pure (HV (wX x+1) x (by omega)) (.cons (Sub.refl _) .nil) ?_;rintro _ rfl));conv=>whnf)|(apply bD<;>intro _<;>first|omega|conv=>whnf))
 all_goals first
  | exact RetK.bool (by unfold mayXR;rw [decide_eq_true (by omega)];rfl)
  | exact RetK.ff (by unfold mayXR;rw [decide_eq_false (by omega)];rfl)
theorem q3t : ∀ (n:Nat) (x:X),VU n x=true->HO n x<=n ∧ ∀ k,NB k x=true
 | 0,x,h=>by rw [VU] at h;cases h
 | n+1,x,h=>by
   rw [VU] at h;simp only [Bool.and_eq_true,decide_eq_true_eq] at h;obtain ⟨h1,h2⟩:=h;have hkids:(∀ y∈x.kids,VU n y=true)∧HJ x=true:=by
    split at h2
    ·rename_i ho;simp only [Bool.and_eq_true,decide_eq_true_eq] at h2;have hk0:x.kids=[]:=by
      rw [ho] at h1;have:q6p 1=0:=by decide
      rw [this] at h1;exact List.length_eq_zero_iff.1 (by omega)
     refine ⟨by rw [hk0];simp,?_⟩;unfold HJ;rw [h1,ho,h2.2];simp [h2.1]
    split at h2
    ·rename_i ho;simp only [Bool.and_eq_true,decide_eq_true_eq] at h2;have hk0:x.kids=[]:=by
      rw [ho] at h1;have:q6p 2=0:=by decide
      rw [this] at h1;exact List.length_eq_zero_iff.1 (by omega)
     have hne:(x.name==[])=false:=by
      cases hq:x.name with
      | nil =>
        have:=h2.2;rw [hq] at this;unfold isName at this;rw [dif_neg (by simp)] at this;cases this
      | cons a r=>rfl
     refine ⟨by rw [hk0];simp,?_⟩;unfold HJ;rw [h1,ho,h2.2,hne,h2.1];simp
    ·rename_i ho1 ho2;simp only [Bool.and_eq_true,decide_eq_true_eq,List.all_eq_true] at h2;refine ⟨h2.2,?_⟩;unfold HJ;rw [h1,h2.1.1,h2.1.2];simp [ho1,ho2]
   refine ⟨?_,fun k => ?_⟩
   ·rw [HO];have:z8z (x.kids.map (HO n))<=n:=z2j fun a ha=>by
     obtain ⟨y,hy,rfl⟩:=List.mem_map.1 ha;exact (q3t n y (hkids.1 y hy)).1
    omega
   ·cases k with
    | zero=>rfl
    | succ k =>
      rw [NB,hkids.2,Bool.true_and,List.all_eq_true];exact fun y hy=>(q3t n y (hkids.1 y hy)).2 k
theorem w1b {x:X} (h:w3k x=true):mayXR x=true:=by
 obtain ⟨h1,h2⟩:=q3t 20 x h;unfold mayXR;rw [decide_eq_true h1,h2];rfl
def argR (a:Arg):Bool:=bif a.ref then isName a.name&&noneB a.x else (a.name==[])&&mayXR a.x
theorem q6x (a:Arg):SpecP Tryz.prog 262 [.agg a.cells] (fun r=>r = .bool (argR a)):=by
 refine sB q1g Tryz.func262 rfl Tryz.call262 ?_;conv=>whnf
 repeat' (first|((first|refine cP (XA _) ?_|refine cP (HY _) ?_|refine cP (YI _) ?_);conv=>whnf)|(apply bB<;>intro _<;>conv=>whnf))
 all_goals simp only [show (ByteArray.mk #[]).data.toList=[] from rfl] at *
 all_goals first
  | exact RetK.bool (by simp_all [argR])
  | exact RetK.ff (by simp_all [argR])
theorem w9b {a:Arg} (h:q2l a=true):argR a=true:=by
 unfold q2l YE DB at h;unfold argR;cases hr:a.ref with
 | true =>
   rw [hr] at h;simpa using h
 | false =>
   rw [hr] at h;simp only [cond_false,Bool.not_false,cond_true,Bool.and_eq_true] at h;rw [h.1,w1b h.2];rfl
def oneOk (s:S):Bool:=WE s&&namesB s.labels
def hasXB (s:S):Bool:=decide (s.kind=1)||decide (s.kind=3)||decide (s.kind=5)||decide (s.kind=6)||(decide (s.kind=9)&&s.has)
structure OneF (s:S):Prop where
 labels:namesB s.labels=true
 lo:1<=s.kind
 hi:s.kind<=10
 x:hasXB s=true->mayXR s.x=true
 nox:hasXB s=false->noneB s.x=true
 has:s.has=true->s.kind=9
 name:s.kind=1∨s.kind=2∨s.kind=10->isName s.name=true
 noname : ¬(s.kind=1∨s.kind=2∨s.kind=10)->(s.name==[])=true∨(s.kind=4∧isName s.name=true)
 proc:s.kind=4->isName s.proc=true
 noproc:s.kind≠4->(s.proc==[])=true
 args:s.args.all argR=true
 noargs:s.kind≠4->s.args.length=0
 thn:s.thn.length=0∨s.kind=5∨s.kind=6
 els:s.els.length=0∨s.kind=5
theorem q3s {s:Str} (h:isName s=true):(s==[])=false:=by
 cases s with
 | nil=>unfold isName at h;rw [dif_neg (by simp)] at h;cases h
 | cons a r=>rfl
theorem YU {s:S} (h:oneOk s=true):OneF s:=by
 unfold oneOk at h;rw [Bool.and_eq_true] at h;obtain ⟨h,hlab⟩:=h;have hargs:s.args.all q2l=true->s.args.all argR=true:=fun h=>by
  rw [List.all_eq_true] at h ⊢;exact fun a ha=>w9b (h a ha)
 have key : ∀ (k:Int) (f:Flds),s.kind=k->q1f s.kind s.has (s.name==[])=some f->f.has=false∧(f.thn=false->s.thn.length=0)∧(f.els=false->s.els.length=0)∧(s.kind≠4->s.args.length=0)∧YE s.name f.name=true∧YE s.proc f.proc=true∧DB s.x f.x=true∧s.args.all argR=true:=fun k f hk hf=>by
  rw [x2w hf] at h;simp only [Bool.and_eq_true,Bool.not_eq_true',Bool.or_eq_false_iff,Bool.and_eq_false_iff,Bool.not_eq_false',decide_eq_false_iff_not,decide_eq_true_eq] at h;obtain ⟨⟨⟨⟨⟨⟨⟨h1,h2⟩,h3⟩,h4⟩,h5⟩,h6⟩,h7⟩,h8⟩:=h;refine ⟨h1,fun hq => ?_,fun hq => ?_,fun hq => ?_,h5,h6,h7,hargs h8⟩
  ·rcases h2 with h2|h2
   ·rw [hq] at h2;cases h2
   ·omega
  ·rcases h3 with h3|h3
   ·rw [hq] at h3;cases h3
   ·omega
  ·rcases h4 with h4|h4
   ·exact absurd h4 hq
   ·omega
 have hkind:s.kind=1∨s.kind=2∨s.kind=3∨s.kind=4∨s.kind=5∨s.kind=6∨s.kind=7∨s.kind=8∨s.kind=9∨s.kind=10:=by
  unfold WE at h;split at h
  ·cases h
  ·rename_i f hf;unfold q1f at hf
   (repeat' split at hf)<;>first|(cases hf;done)|omega
 have fin : ∀ (k:Int) (f:Flds),s.kind=k->q1f s.kind s.has (s.name==[])=some f->(1<=k∧k<=10)->f.x=hasXB s->(s.has=true->f.has=true∨k=9)->((k=1∨k=2∨k=10)->f.name=true)->(¬(k=1∨k=2∨k=10)->f.name=false∨(k=4∧f.name = !(s.name==[])))->f.proc=decide (k=4)->(f.thn=true->k=5∨k=6)->(f.els=true->k=5)->OneF s:=fun k f hk hf hkk hfx hfh hfn hfnn hfp hft hfe=>by
  obtain ⟨h1,h2,h3,h4,h5,h6,h7,h8⟩:=key k f hk hf;unfold DB at h7;refine ⟨hlab,by omega,by omega,fun hq => ?_,fun hq => ?_,fun hq => ?_,fun hq => ?_,fun hq => ?_,fun hq => ?_,fun hq => ?_,h8,h4,?_,?_⟩
  ·rw [hfx,hq] at h7;exact w1b h7
  ·rw [hfx,hq] at h7;exact h7
  ·rcases hfh hq with h9|h9
   ·rw [h1] at h9;cases h9
   ·omega
  ·rw [hfn (by omega)] at h5;exact h5
  ·rcases hfnn (by omega) with h9|⟨h9,h10⟩
   ·rw [h9] at h5;exact .inl h5
   ·cases hq2:s.name==[] with
    | true=>exact .inl rfl
    | false =>
      rw [h10,hq2] at h5;exact .inr ⟨by omega,h5⟩
  ·rw [hfp,decide_eq_true (by omega)] at h6;exact h6
  ·rw [hfp,decide_eq_false (by omega)] at h6;exact h6
  ·cases ht:f.thn with
   | true=>exact .inr (by have:=hft ht;omega)
   | false=>exact .inl (h2 ht)
  ·cases he:f.els with
   | true=>exact .inr (by have:=hfe he;omega)
   | false=>exact .inl (h3 he)
 rcases hkind with hk|hk|hk|hk|hk|hk|hk|hk|hk|hk
 ·exact fin 1 ⟨true,false,true,s.has,false,false⟩ hk (by rw [hk];rfl) (by omega) (by unfold hasXB;rw [hk];rfl) (fun h => .inl h) (fun _=>rfl) (fun h=>absurd (by omega) h) rfl (fun h=>by cases h) (fun h=>by cases h)
 ·exact fin 2 ⟨true,false,false,s.has,false,false⟩ hk (by rw [hk];rfl) (by omega) (by unfold hasXB;rw [hk];rfl) (fun h => .inl h) (fun _=>rfl) (fun h=>absurd (by omega) h) rfl (fun h=>by cases h) (fun h=>by cases h)
 ·exact fin 3 ⟨false,false,true,s.has,false,false⟩ hk (by rw [hk];rfl) (by omega) (by unfold hasXB;rw [hk];rfl) (fun h => .inl h) (fun h=>by omega) (fun _ => .inl rfl) rfl (fun h=>by cases h) (fun h=>by cases h)
 ·exact fin 4 ⟨!(s.name==[]),true,false,s.has,false,false⟩ hk (by rw [hk];rfl) (by omega) (by unfold hasXB;rw [hk];rfl) (fun h => .inl h) (fun h=>by omega) (fun _ => .inr ⟨rfl,rfl⟩) rfl (fun h=>by cases h) (fun h=>by cases h)
 ·exact fin 5 ⟨false,false,true,s.has,true,true⟩ hk (by rw [hk];rfl) (by omega) (by unfold hasXB;rw [hk];rfl) (fun h => .inl h) (fun h=>by omega) (fun _ => .inl rfl) rfl (fun _ => .inl rfl) (fun _=>rfl)
 ·exact fin 6 ⟨false,false,true,s.has,true,false⟩ hk (by rw [hk];rfl) (by omega) (by unfold hasXB;rw [hk];rfl) (fun h => .inl h) (fun h=>by omega) (fun _ => .inl rfl) rfl (fun _ => .inr rfl) (fun h=>by cases h)
 ·exact fin 7 ⟨false,false,false,s.has,false,false⟩ hk (by rw [hk];rfl) (by omega) (by unfold hasXB;rw [hk];rfl) (fun h => .inl h) (fun h=>by omega) (fun _ => .inl rfl) rfl (fun h=>by cases h) (fun h=>by cases h)
 ·exact fin 8 ⟨false,false,false,s.has,false,false⟩ hk (by rw [hk];rfl) (by omega) (by unfold hasXB;rw [hk];rfl) (fun h => .inl h) (fun h=>by omega) (fun _ => .inl rfl) rfl (fun h=>by cases h) (fun h=>by cases h)
 ·exact fin 9 ⟨false,false,s.has,false,false,false⟩ hk (by rw [hk];rfl) (by omega) (by unfold hasXB;rw [hk];cases s.has<;>rfl) (fun _ => .inr rfl) (fun h=>by omega) (fun _ => .inl rfl) rfl (fun h=>by cases h) (fun h=>by cases h)
 ·exact fin 10 ⟨true,false,false,s.has,false,false⟩ hk (by rw [hk];rfl) (by omega) (by unfold hasXB;rw [hk];rfl) (fun h => .inl h) (fun _=>rfl) (fun h=>absurd (by omega) h) rfl (fun h=>by cases h) (fun h=>by cases h)
structure RI where
 s:S
 deep:Int
 inn:Int
 els:Bool
def RI.cells (i:RI):List AV:=i.s.cells++[.int .i64 i.deep,.int .i64 i.inn,.bool i.els]
def KW (l:List RI):AV := .sl (l.map fun i => .agg i.cells)
def flF:Nat->Int->Bool->List S->List RI->List RI
 | 0,i,e,l,out=>l.foldl (fun o s=>if o.length<=200 then o++[⟨s,13,i,e⟩] else o) out
 | m+1,i,e,l,out=>l.foldl (fun o s=>if o.length<=200 then flF m s.id true s.els (flF m s.id false s.thn (o++[⟨s,13-((m+1:Nat):Int),i,e⟩])) else o) out
theorem PP : ∀ (m:Nat) (i:Int) (e:Bool) (l:List S) (out:List RI),out.length<=(flF m i e l out).length∧(flF m i e l out).length<=max out.length 201
 | 0,i,e,[],out=>by show out.length<=out.length∧_;exact ⟨Nat.le_refl _,Nat.le_max_left _ _⟩
 | m+1,i,e,[],out=>by show out.length<=out.length∧_;exact ⟨Nat.le_refl _,Nat.le_max_left _ _⟩
 | 0,i,e,s::r,out=>by
   have h:=PP 0 i e r (if out.length<=200 then out++[⟨s,13,i,e⟩] else out);show out.length<=(flF 0 i e r (if out.length<=200 then out++[⟨s,13,i,e⟩] else out)).length∧(flF 0 i e r (if out.length<=200 then out++[⟨s,13,i,e⟩] else out)).length<=_;split at h
   ·rw [if_pos (by assumption)];simp only [length_append,List.length_singleton] at h;omega
   ·rw [if_neg (by assumption)];exact h
 | m+1,i,e,s::r,out=>by
   have h:=PP (m+1) i e r (if out.length<=200 then flF m s.id true s.els (flF m s.id false s.thn (out++[⟨s,13-((m+1:Nat):Int),i,e⟩])) else out);show out.length<=(flF (m+1) i e r (if out.length<=200 then flF m s.id true s.els (flF m s.id false s.thn (out++[⟨s,13-((m+1:Nat):Int),i,e⟩])) else out)).length∧(flF (m+1) i e r (if out.length<=200 then flF m s.id true s.els (flF m s.id false s.thn (out++[⟨s,13-((m+1:Nat):Int),i,e⟩])) else out)).length<=_;split at h
   ·rw [if_pos (by assumption)];have h1:=PP m s.id false s.thn (out++[⟨s,13-((m+1:Nat):Int),i,e⟩]);have h2:=PP m s.id true s.els (flF m s.id false s.thn (out++[⟨s,13-((m+1:Nat):Int),i,e⟩]));simp only [length_append,List.length_singleton] at h1;omega
   ·rw [if_neg (by assumption)];exact h
mutual
def fuS (d i:Int) (e:Bool):S->List RI
 | .mk id kind labels name proc x has args thn els=>⟨.mk id kind labels name proc x has args thn els,d,i,e⟩::(fuL (d+1) id false thn++fuL (d+1) id true els)
def fuL (d i:Int) (e:Bool):List S->List RI
 | []=>[]
 | t::r=>fuS d i e t++fuL d i e r
end
theorem x2f (d i:Int) (e:Bool) (t:S):fuS d i e t=⟨t,d,i,e⟩::(fuL (d+1) t.id false t.thn++fuL (d+1) t.id true t.els):=by
 cases t;rw [fuS];rfl
mutual
theorem v4r (d i:Int) (e:Bool) : ∀ t:S,(fuS d i e t).map RI.s=flS t
 | .mk id kind labels name proc x has args thn els=>by
   rw [fuS,flS,map_cons,List.map_append,NA _ _ _ thn,NA _ _ _ els]
theorem NA (d i:Int) (e:Bool) : ∀ l:List S,(fuL d i e l).map RI.s=flL l
 | []=>by rw [fuL,flL];rfl
 | t::r=>by rw [fuL,flL,List.map_append,v4r _ _ _ t,NA _ _ _ r]
end
theorem ZR (d i:Int) (e:Bool) (l:List S):(fuL d i e l).length=QV l:=by
 rw [<- x0z,<- NA d i e l,length_map]
theorem ZP {nest seen m:Int} {s:S} (h:q7x nest seen s=some m):oneOk s=true∧s.id=seen+1 ∧ ∃ m1,ZB (nest+1) (seen+1) s.thn=some m1∧ZB (nest+1) m1 s.els=some m:=by
 rw [w3z] at h;split at h
 ·cases h
 split at h
 ·cases h
 rename_i hid;cases hn:namesB s.labels<;>rw [hn] at h
 ·cases h
 cases hf:WE s<;>rw [hf] at h
 ·cases h
 simp only [cond_true] at h;split at h
 ·rename_i m1 h1;exact ⟨by unfold oneOk;rw [hn,hf];rfl,by omega,m1,h1,h⟩
 ·cases h
theorem XS {nest seen m:Int} {s:S} {r:List S} (h:ZB nest seen (s::r)=some m):nest<=12 ∧ ∃ m1,q7x nest seen s=some m1∧ZB nest m1 r=some m:=by
 rw [ZB] at h;split at h
 ·cases h
 rename_i h0;split at h
 ·rename_i m1 h1;exact ⟨by omega,m1,h1,h⟩
 ·cases h
mutual
theorem v1i (d i:Int) (e:Bool) : ∀ (t:S) {n m:Int},d<=12->q7x d n t=some m -> ∀ x∈fuS d i e t,x.deep<=12∧oneOk x.s=true
 | .mk id kind labels name proc x has args thn els,n,m,hd,h,y,hy=>by
   obtain ⟨h1,_,m1,h2,h3⟩:=ZP h;rw [fuS] at hy;rcases List.mem_cons.1 hy with rfl|hy
   ·exact ⟨hd,h1⟩
   ·rcases List.mem_append.1 hy with hy|hy
    ·exact z4s _ _ _ thn h2 y hy
    ·exact z4s _ _ _ els h3 y hy
theorem z4s (d i:Int) (e:Bool) : ∀ (l:List S) {n m:Int},ZB d n l=some m -> ∀ x∈fuL d i e l,x.deep<=12∧oneOk x.s=true
 | [],n,m,h,y,hy=>by rw [fuL] at hy;cases hy
 | t::r,n,m,h,y,hy=>by
   obtain ⟨h1,m1,h2,h3⟩:=XS h;rw [fuL] at hy;rcases List.mem_append.1 hy with hy|hy
   ·exact v1i _ _ _ t h1 h2 y hy
   ·exact z4s _ _ _ r h3 y hy
end
theorem v2z : ∀ (k:Nat) (l:List S) (i:Int) (e:Bool) (out:List RI) (seen m:Int),ZB (13-(k:Int)) seen l=some m->out.length+QV l<=200->flF k i e l out=out++fuL (13-(k:Int)) i e l:=by
 intro k;induction k with
 | zero =>
   intro l i e out seen m h hl;cases l with
   | nil=>rw [fuL,List.append_nil];rfl
   | cons s r =>
     have:=(XS h).1;simp at this
 | succ k ih =>
   intro l;induction l with
   | nil=>intro i e out seen m h hl;rw [fuL,List.append_nil];rfl
   | cons s r ihr =>
     intro i e out seen m h hl;obtain ⟨h1,m1,h2,h3⟩:=XS h;obtain ⟨_,_,m2,h4,h5⟩:=ZP h2;have ed:(13:Int)-((k+1:Nat):Int)+1=13-(k:Int):=by omega
     rw [ed] at h4 h5;rw [QV,WB] at hl;show flF (k+1) i e r (if out.length<=200 then flF k s.id true s.els (flF k s.id false s.thn (out++[⟨s,13-((k+1:Nat):Int),i,e⟩])) else out)=_;rw [if_pos (by omega),ih s.thn s.id false _ _ _ h4 (by simp;omega),ih s.els s.id true _ _ _ h5 (by simp [ZR];omega),ihr i e _ _ _ h3 (by simp [ZR];omega),fuL,x2f,ed];simp
def VN (f:Pr):List RI:=flF 12 0 false f.body []
def BD (l:List Pr) (out:List RI):List RI:=l.foldl (fun o f=>if o.length<=200 then o++VN f else o) out
def allR (p:Pg):List RI:=BD p.procs []
def flatU (f:Pr):List RI:=fuL 1 0 false f.body
theorem q9w : ∀ (l:List Pr) {n m:Int},XE n l=some m -> ∀ f∈l,GW f=true ∧ ∃ a b,ZB 1 a f.body=some b
 | [],_,_,_,f,hf=>by cases hf
 | g::r,n,m,h,f,hf=>by
   rw [XE] at h;cases hm:GW g<;>rw [hm] at h
   ·cases h
   simp only [cond_true] at h;split at h
   ·rename_i m1 h1;rcases List.mem_cons.1 hf with rfl|hf
    ·exact ⟨hm,_,_,h1⟩
    ·exact q9w r h f hf
   ·cases h
theorem q4m {p:Pg} (h:VB p=true):p.globals.length<=16∧p.procs.length<=16∧namesB p.globals=true ∧ ∀ f∈p.procs,GW f=true ∧ ∃ a b,ZB 1 a f.body=some b:=by
 unfold VB at h;simp only [Bool.and_eq_true,decide_eq_true_eq] at h;obtain ⟨⟨⟨h1,h2⟩,h3⟩,h4⟩:=h;refine ⟨h1,h2,h3,?_⟩;cases hm:XE 0 p.procs with
 | none=>rw [hm] at h4;cases h4
 | some m=>exact q9w p.procs hm
theorem FO : ∀ (l:List Pr) (f:Pr),f∈l->QV f.body<=cntP l
 | [],f,h=>by cases h
 | g::r,f,h=>by
   rw [cntP];rcases List.mem_cons.1 h with rfl|h
   ·omega
   ·have:=FO r f h;omega
theorem JZ {p:Pg} (h:VB p=true) {f:Pr} (hf:f∈p.procs):VN f=flatU f:=by
 obtain ⟨_,_,_,h4⟩:=q4m h;obtain ⟨_,a,b,h5⟩:=h4 f hf;have h6:=(ZG h).2.2;have h7:=FO _ f hf;have:=v2z 12 f.body 0 false [] a b h5 (by simp;omega);simpa [VN,flatU] using this
theorem z4d : ∀ (l:List Pr) (out:List RI),(∀ f∈l,VN f=flatU f)->out.length+cntP l<=200->BD l out=out++l.flatMap flatU
 | [],out,_,_=>by show out=_;simp
 | f::r,out,h,hl=>by
   rw [cntP] at hl;show BD r (if out.length<=200 then out++VN f else out)=_;have e:=ZR 1 0 false f.body;rw [if_pos (by omega),h f mem_cons_self,z4d r _ (fun g hg=>h g (mem_cons_of_mem _ hg)) (by simp only [flatU,length_append,e];omega)];simp
theorem x5x {p:Pg} (h:VB p=true):allR p=p.procs.flatMap flatU:=by
 have:=z4d p.procs [] (fun f hf=>JZ h hf) (by have:=(ZG h).2.2;simpa using this);simpa [allR] using this
theorem z9s {p:Pg} (h:VB p=true) : ∀ x∈p.procs.flatMap flatU,x.deep<=12∧oneOk x.s=true:=by
 intro x hx;obtain ⟨f,hf,hx⟩:=List.mem_flatMap.1 hx;obtain ⟨_,_,_,h4⟩:=q4m h;obtain ⟨_,a,b,h5⟩:=h4 f hf;exact z4s 1 0 false f.body h5 x hx
theorem q2f : ∀ (l:List Pr) {n:Nat} {m:Int},XE n l=some m->(l.flatMap fun f=>flL f.body).map S.id=YR n (cntP l)
 | [],n,m,_=>by rw [cntP];rfl
 | g::r,n,m,h=>by
   rw [XE] at h;cases hm:GW g<;>rw [hm] at h
   ·cases h
   simp only [cond_true] at h;split at h
   ·rename_i m1 h1;have h2:=ZC _ _ g.body h1;have h':XE ((n+QV g.body:Nat):Int) r=some m:=by rw [<- h,h2];rfl
    have h3:=q2f r h';rw [flatMap_cons,List.map_append,JW 1 g.body h1,h3,cntP,FJ]
   ·cases h
theorem w7a (l:List Pr):(l.flatMap flatU).map RI.s=l.flatMap fun f=>flL f.body:=by
 induction l with
 | nil=>rfl
 | cons f r ih =>
   rw [flatMap_cons,flatMap_cons,List.map_append,ih];congr 1;exact NA _ _ _ _
theorem q2g (l:List Pr):(l.flatMap flatU).length=cntP l:=by
 induction l with
 | nil=>rfl
 | cons f r ih=>rw [flatMap_cons,length_append,ih,cntP];congr 1;exact ZR _ _ _ _
theorem w4z {p:Pg} (h:VB p=true) {k:Nat} {x:RI} (hk:(p.procs.flatMap flatU)[k]? = some x):x.s.id=(k:Int)+1:=by
 unfold VB at h;simp only [Bool.and_eq_true,decide_eq_true_eq] at h;cases hm:XE 0 p.procs with
 | none=>rw [hm] at h;cases h.2
 | some m =>
   have h1:=q2f p.procs (n:=0) hm;rw [<- w7a] at h1;have h2:(((p.procs.flatMap flatU).map RI.s).map S.id)[k]? = some x.s.id:=by simp [hk]
   rw [h1] at h2;unfold YR at h2;have hlt:k<cntP p.procs:=by rw [<- q2g];exact (List.getElem?_eq_some_iff.1 hk).1
   rw [List.getElem?_map,List.getElem?_range' hlt] at h2;simp at h2;omega
def riH (t:Nat) (out:List RI):Heap:=[(2000,.own t 16 (out.map fun i => .agg i.cells))]
theorem w9l {t:Nat} {out:List RI} {x:RI}:riH t (out++[x])=[(2000,.own t 16 ((out.map fun i => .agg i.cells)++[.agg x.cells]))]:=by simp [riH]
theorem WK (l:List RI):(l.map fun i=>AV.agg i.cells).length=l.length:=length_map _
theorem w5s {i:Int} {e:Bool} {l:List S} {j:Nat} {o:List RI} (hj:j<l.length) (h:o.length<=200):flF 0 i e (l.drop j) o=flF 0 i e (l.drop (j+1)) (o++[⟨l[j],13,i,e⟩]):=by
 rw [QH hj];show flF 0 i e (l.drop (j+1)) (if o.length<=200 then _ else _)=_;rw [if_pos h]
theorem v0w {m:Nat} {i:Int} {e:Bool} {l:List S} {j:Nat} {o:List RI} (hj:j<l.length) (h:o.length<=200):flF (m+1) i e (l.drop j) o=flF (m+1) i e (l.drop (j+1)) (flF m l[j].id true l[j].els (flF m l[j].id false l[j].thn (o++[RI.mk l[j] (13-((m+1:Nat):Int)) i e]))):=by
 rw [QH hj];show flF (m+1) i e (l.drop (j+1)) (if o.length<=200 then _ else _)=_;rw [if_pos h]
theorem q7z : ∀ (m:Nat) {i:Int} {e:Bool} {l:List S} {o:List RI},¬o.length<=200->flF m i e l o=o
 | 0,i,e,[],o,_=>rfl
 | m+1,i,e,[],o,_=>rfl
 | 0,i,e,s::r,o,h=>by
   show flF 0 i e r (if o.length<=200 then _ else o)=o;rw [if_neg h];exact q7z 0 h
 | m+1,i,e,s::r,o,h=>by
   show flF (m+1) i e r (if o.length<=200 then _ else o)=o;rw [if_neg h];exact q7z (m+1) h
theorem z9f (m:Nat) {i:Int} {e:Bool} {o:List RI}:flF m i e [] o=o:=by cases m<;>rfl
theorem q3n : ∀ (m:Nat) (_:m<=12) (l:List S) (i:Int) (e:Bool) (out:List RI),
  SpecH Tryz.prog 158 [.p (eSs l),.p (.int .i64 (13-(m:Int))),.p (.int .i64 i),.p (.bool e),.hd 2000 0 out.length] (riH 42 out)
   (fun r H=>r = .hd 2000 0 (flF m i e l out).length∧H=riH 42 (flF m i e l out)):=by
 intro m;induction m with
 | zero =>
   intro _ l i e out;have hll:=S.avs_len l;refine sH JI Tryz.func158 rfl Tryz.call158 ?_;conv=>whnf
   skip
   refine LoopK.inv QX (fun x:Nat×List RI=>⟨[(0,.p (eSs l)),(1,.p (.int .i64 (13-((0:Nat):Int)))),(2,.p (.int .i64 i)),(3,.p (.bool e)),(4,.hd 2000 0 x.2.length),(11,.p (.int .i64 x.1))],riH 42 x.2⟩) (fun x=>x.1<=l.length∧flF 0 i e (l.drop x.1) x.2=flF 0 i e l out) (fun x=>l.length-x.1) (0,out) (Le.of_eq rfl) ⟨zero_le _,rfl⟩ ?_;rintro ⟨j,o⟩ ⟨h2,h3⟩;simp only at h2 h3 ⊢;have hol:=WK o;rcases Nat.lt_or_ge j l.length with hj|hj
   ·conv=>whnf
    repeat' (first|((first|(refine iM fun _=>?_)|refine And.intro rfl ?_|refine aD ?_|refine bP ?_|refine DD (by omega) ?_|refine wI ?_|refine AppK.mk (by simp) rfl (by show (o.length+1)*232<=140737488355328;omega) (by show o.length+1<=9223372036854775807;omega) (fun x hx=>by rcases List.mem_singleton.1 hx with rfl;exact ⟨rfl,rfl⟩) ?_);conv=>whnf)|(apply bD<;>intro _<;>first|omega|conv=>whnf))
    ·exact ⟨(j+1,o++[⟨l[j],13,i,e⟩]),⟨hj,by rw [<- h3,w5s hj (by omega)]⟩,by simp only;omega,Le.of_eq (by simp only [w9l,length_append,List.length_singleton];rfl)⟩
    ·rw [q7z 0 (by omega)] at h3;exact ⟨_,.refl _,by rw [<- h3];exact ⟨rfl,rfl⟩⟩
   ·conv=>whnf
    repeat' (first|(refine iM fun _=>?_;conv=>whnf)|(apply bD<;>intro _<;>first|omega|conv=>whnf))
    rw [drop_eq_nil_of_le hj,z9f] at h3;exact ⟨_,.refl _,by rw [<- h3];exact ⟨rfl,rfl⟩⟩
 | succ m ih =>
   intro hm l i e out;have hll:=S.avs_len l;refine sH JI Tryz.func158 rfl Tryz.call158 ?_;conv=>whnf
   skip
   refine LoopK.inv QX (fun x:Nat×List RI=>⟨[(0,.p (eSs l)),(1,.p (.int .i64 (13-((m+1:Nat):Int)))),(2,.p (.int .i64 i)),(3,.p (.bool e)),(4,.hd 2000 0 x.2.length),(11,.p (.int .i64 x.1))],riH 42 x.2⟩) (fun x=>x.1<=l.length∧flF (m+1) i e (l.drop x.1) x.2=flF (m+1) i e l out) (fun x=>l.length-x.1) (0,out) (Le.of_eq rfl) ⟨zero_le _,rfl⟩ ?_;rintro ⟨j,o⟩ ⟨h2,h3⟩;simp only at h2 h3 ⊢;have hol:=WK o;rcases Nat.lt_or_ge j l.length with hj|hj
   ·conv=>whnf
    repeat' (first|((first|(refine iM fun _=>?_)|refine dA ?_|refine And.intro rfl ?_|refine aD ?_|refine bP ?_|refine DD (by omega) ?_|refine wI ?_|refine AppK.mk (by simp) rfl (by show (o.length+1)*232<=140737488355328;omega) (by show o.length+1<=9223372036854775807;omega) (fun x hx=>by rcases List.mem_singleton.1 hx with rfl;exact ⟨rfl,rfl⟩) ?_);conv=>whnf)|(apply bD<;>intro _<;>first|omega|conv=>whnf))
    ·refine CallK.heap [(2000,2000)] 0 (ArgsH.cons (LSub.refl _) (ArgsH.cons (LSub.p (Sub.int (by omega))) (ArgsH.cons (LSub.refl _) (ArgsH.cons (LSub.p (Sub.ff rfl)) (ArgsH.cons (LSub.of_eq (by rw [length_append];rfl)) ArgsH.nil))))) (by exact BlksH.cons (j:=2000) rfl rfl (CSub.of_eq (by rw [List.map_append];first|done|rfl)) BlksH.nil) (ih (by omega) l[j].thn l[j].id false (o++[RI.mk l[j] (13-((m+1:Nat):Int)) i e])) rfl rfl ?_;rintro l' H' ⟨rfl,rfl⟩;conv=>whnf
     repeat' ((first|refine dA ?_|refine DD (by omega) ?_|refine wI ?_);conv=>whnf)
     refine CallK.heap [(2000,2000)] 0 (ArgsH.cons (LSub.refl _) (ArgsH.cons (LSub.p (Sub.int (by omega))) (ArgsH.cons (LSub.refl _) (ArgsH.cons (LSub.p (Sub.tt rfl)) (ArgsH.cons (LSub.refl _) ArgsH.nil))))) (by exact BlksH.cons (j:=2000) rfl rfl (CSub.refl _) BlksH.nil) (ih (by omega) l[j].els l[j].id true (flF m l[j].id false l[j].thn (o++[RI.mk l[j] (13-((m+1:Nat):Int)) i e]))) rfl rfl ?_;rintro l' H' ⟨rfl,rfl⟩;conv=>whnf
     repeat' (refine wI ?_;conv=>whnf)
     exact ⟨(j+1,flF m l[j].id true l[j].els (flF m l[j].id false l[j].thn (o++[RI.mk l[j] (13-((m+1:Nat):Int)) i e]))),⟨hj,by rw [<- h3,v0w hj (by omega)]⟩,by simp only;omega,Le.of_eq rfl⟩
    ·rw [q7z (m+1) (by omega)] at h3;exact ⟨_,.refl _,by rw [<- h3];exact ⟨rfl,rfl⟩⟩
   ·conv=>whnf
    repeat' (first|(refine iM fun _=>?_;conv=>whnf)|(apply bD<;>intro _<;>first|omega|conv=>whnf))
    rw [drop_eq_nil_of_le hj,z9f] at h3;exact ⟨_,.refl _,by rw [<- h3];exact ⟨rfl,rfl⟩⟩
theorem XX (f:Pr):SpecP Tryz.prog 89 [.agg f.cells] (fun r=>r=KW (VN f)):=by
 refine sB q0f Tryz.func89 rfl Tryz.call89 ?_;conv=>whnf
 skip
 refine CallK.nil 5 42 16 rfl (.cons rfl (.cons rfl (.cons rfl (.cons rfl (.row .nil))))) ?_;refine CallK.heap [(2000,5)] 0 (by repeat' (first|exact ArgsH.nil|refine ArgsH.cons ?_ ?_|exact LSub.refl _|exact LSub.p Sub.nils|exact LSub.p (Sub.tt rfl)|exact LSub.p (Sub.ff rfl)|exact LSub.p (Sub.int (by omega)))) (by refine BlksH.cons (j:=5) rfl rfl ?_ ?_;exact CSub.refl _;exact BlksH.nil) (q3n 12 (by omega) f.body 0 false []) rfl rfl ?_;rintro l' H' ⟨rfl,rfl⟩;conv=>whnf
 exact ⟨_,.hd rfl (by simp [VN]),rfl⟩
theorem z7w {l:List Pr} {j:Nat} {o:List RI} (hj:j<l.length) (h:o.length<=200):BD (l.drop j) o=BD (l.drop (j+1)) (o++VN l[j]):=by
 rw [QH hj];show BD (l.drop (j+1)) (if o.length<=200 then _ else _)=_;rw [if_pos h]
theorem x1i : ∀ {l:List Pr} {o:List RI},¬o.length<=200->BD l o=o
 | [],o,_=>rfl
 | f::r,o,h=>by
   show BD r (if o.length<=200 then _ else o)=o;rw [if_neg h];exact x1i h
theorem GO (f:Pr):(VN f).length<=201:=by
 have:=(PP 12 0 false f.body []).2;simpa [VN] using this
theorem YB (p:Pg):SpecP Tryz.prog 61 [.agg p.cells] (fun r=>r=KW (allR p)):=by
 refine sB q0o Tryz.func61 rfl Tryz.call61 ?_;conv=>whnf
 repeat' (refine iM fun _=>?_;conv=>whnf)
 have hl2:(p.procs.map fun f=>AV.agg f.cells).length=p.procs.length:=length_map _;refine LoopK.inv QX (fun x:Nat×List RI=>⟨[(3,.hd 1 0 x.2.length),(7,.p (.sl (p.procs.map fun f => .agg f.cells))),(8,.p (.int .i64 (p.procs.map fun f=>AV.agg f.cells).length)),(9,.p (.int .i64 x.1))],[(1,.own 42 16 (x.2.map fun i => .agg i.cells))]⟩) (fun x=>x.1<=p.procs.length∧x.2.length<=200∧BD (p.procs.drop x.1) x.2=allR p) (fun x=>p.procs.length-x.1) (0,[])
  (Le.mk [(1,.own 42 16 [])] (by simp [Chunk.new0];rfl) (by simp) (by simp) (.cons (.nil mem_cons_self) (.cons (.refl _) (.cons (.refl _) (.cons (.refl _) .nil)))) (.new mem_cons_self .nil)) ⟨zero_le _,zero_le _,rfl⟩ ?_
 rintro ⟨j,o⟩ ⟨h2,h4,h3⟩;simp only at h2 h3 h4 ⊢;have hol:=WK o;rcases Nat.lt_or_ge j p.procs.length with hj|hj
 ·have hfl:=GO p.procs[j];have hst:=fun (h:o.length<=200)=>z7w hj h;have hF:=XX p.procs[j];generalize hL:VN p.procs[j]=L at hfl hst hF;have hfl2:=WK L;conv=>whnf
  repeat' (first|((first|(refine iM fun _=>?_)|refine And.intro rfl ?_|refine aD ?_|(refine iA fun _=>?_)|refine wI ?_|refine cP hF ?_|refine AppK.mk (by simp) rfl (by rw [hfl2];show (o.length+L.length)*232<=140737488355328;omega) (by rw [hfl2];show o.length+L.length<=9223372036854775807;omega) (fun x hx=>by obtain ⟨y,_,rfl⟩:=List.mem_map.1 hx;exact ⟨rfl,rfl⟩) ?_);conv=>whnf)|(apply bD<;>intro _<;>first|omega|conv=>whnf))
  ·refine ⟨_,.hd rfl (by simp),?_⟩;rw [<- h3,hst h4,x1i (by simp;omega),<- List.map_append];rfl
  ·exact ⟨(j+1,o++L),⟨hj,by simp;omega,by rw [<- h3,hst h4]⟩,by simp only;omega,Le.of_eq (by simp only [length_append,List.map_append,length_map];rfl)⟩
 ·conv=>whnf
  repeat' (apply bD<;>intro _<;>first|omega|conv=>whnf)
  rw [drop_eq_nil_of_le hj] at h3;refine ⟨_,.hd rfl (by simp),?_⟩;rw [<- h3];simp [KW,BD]
def z7a (n k:Int):Int:=if k<1 then 0 else if n.tmod k<0 then n.tmod k+k else n.tmod k
theorem z3a {n k:Int} (hk:0<k):0<=z7a n k∧z7a n k<k:=by
 unfold z7a;have h1:=Int.tmod_lt_of_pos n hk;have h2 : -k<n.tmod k:=by
  rcases Int.le_total 0 n with h|h
  ·have:=Int.tmod_nonneg k h;omega
  ·have h3:=Int.tmod_lt_of_pos (-n) hk;rw [Int.neg_tmod] at h3;omega
 rw [if_neg (by omega)];split<;>omega
theorem q6w (n k:Int) (hk:k<=1000000):SpecP Tryz.prog 77 [.int .i64 n,.int .i64 k] (fun r=>r = .int .i64 (z7a n k)):=by
 refine sB q3j Tryz.func77 rfl Tryz.call77 ?_;conv=>whnf
 have h1:=fun h:0<k=>z3a (n:=n) h;repeat' (first|(refine And.intro (by omega) ?_;conv=>whnf)|(apply bD<;>intro _<;>first|omega|conv=>whnf))
 all_goals first
  | (refine Wr.i64 (by have:=h1 (by omega);unfold z7a at this;rw [if_neg (by omega),if_pos (by assumption)] at this;omega) (by have:=h1 (by omega);unfold z7a at this;rw [if_neg (by omega),if_pos (by assumption)] at this;omega) ?_
     conv=>whnf
     exact RetK.int (by unfold z7a;rw [if_neg (by assumption),if_pos (by assumption)]))
  | exact RetK.int (by unfold z7a;rw [if_pos (by assumption)])
  | exact RetK.int (by unfold z7a;rw [if_neg (by assumption),if_neg (by assumption)])
def UO (l:List Int) (x:Int):Bool:=l.any fun y=>decide (x=y)
theorem XQ (l:List Int) (x:Int):SpecP Tryz.prog 101 [QD l,.int .i64 x] (fun r=>r = .bool (UO l x)):=by
 refine sB LD Tryz.func101 rfl Tryz.call101 ?_;conv=>whnf
 repeat' (refine iM fun _=>?_;conv=>whnf)
 have hl:(l.map (AV.int .i64)).length=l.length:=length_map _;refine LoopK.inv QX (fun j:Nat=>⟨[(1,.p (.int .i64 x)),(7,.p (QD l)),(8,.p (.int .i64 (l.map (AV.int .i64)).length)),(9,.p (.int .i64 j))],[]⟩) (fun j=>j<=l.length∧(l.drop j).any (fun y=>decide (x=y))=UO l x) (fun j=>l.length-j) 0 (Le.of_eq rfl) ⟨zero_le _,rfl⟩ ?_;rintro j ⟨h2,h3⟩;rcases Nat.lt_or_ge j l.length with hj|hj
 ·conv=>whnf
  repeat' (first|((first|(refine iA fun _=>?_)|refine wI ?_);conv=>whnf)|(apply bD<;>intro _<;>first|omega|conv=>whnf))
  all_goals first
   | exact RetK.tt (by rw [<- h3,q4w hj (by simp_all)])
   | exact ⟨j+1,⟨hj,by rw [q5s hj (by simp;omega)];exact h3⟩,by omega,Le.of_eq rfl⟩
 ·conv=>whnf
  repeat' (apply bD<;>intro _<;>first|omega|conv=>whnf)
  exact RetK.ff (by rw [<- h3,PW hj])
def inS (l:List Str) (x:Str):Bool:=l.any fun y=>y==x
theorem QE (l:List Str) (x:Str):SpecP Tryz.prog 41 [QM l,.str x] (fun r=>r = .bool (inS l x)):=by
 refine sB q4z Tryz.func41 rfl Tryz.call41 ?_;conv=>whnf
 repeat' (refine iM fun _=>?_;conv=>whnf)
 have hl:(l.map AV.str).length=l.length:=length_map _;refine LoopK.inv QX (fun j:Nat=>⟨[(0,.p (QM l)),(1,.p (.str x)),(7,.p (.int .i64 (l.map AV.str).length)),(8,.p (.int .i64 j))],[]⟩) (fun j=>j<=l.length∧(l.drop j).any (fun y=>y==x)=inS l x) (fun j=>l.length-j) 0 (Le.of_eq rfl) ⟨zero_le _,rfl⟩ ?_;rintro j ⟨h2,h3⟩;rcases Nat.lt_or_ge j l.length with hj|hj
 ·conv=>whnf
  repeat' (first|((first|(refine iA fun _=>?_)|refine wI ?_);conv=>whnf)|(apply bD<;>intro _<;>first|omega|conv=>whnf)|(apply bB<;>intro _<;>conv=>whnf))
  ·exact RetK.tt (by rw [<- h3,q4w hj (by assumption)])
  ·exact ⟨j+1,⟨hj,by rw [q5s hj (by assumption)];exact h3⟩,by omega,Le.of_eq rfl⟩
 ·conv=>whnf
  repeat' (apply bD<;>intro _<;>first|omega|conv=>whnf)
  exact RetK.ff (by rw [<- h3,PW hj])
def WA (p:Pg) (n:Int):Str:=match p.procs[(z7a n p.procs.length).toNat]? with
 | some f=>f.name
 | none=>[]
theorem q0b (p:Pg) (n:Int) (hp:p.procs.length<=20000):SpecP Tryz.prog 19 [.agg p.cells,.int .i64 n] (fun r=>r = .str (WA p n)):=by
 refine sB BW Tryz.func19 rfl Tryz.call19 ?_;conv=>whnf
 have hl:(p.procs.map fun f=>AV.agg f.cells).length=p.procs.length:=length_map _;have hr:=fun h:0<(p.procs.length:Int)=>z3a (n:=n) h;repeat' (first|((first|(refine iM fun _=>?_)|refine dA ?_|(refine CallK.pure (q6w n (p.procs.length:Int) (by omega)) (.cons (Sub.refl _) (.cons (Sub.int (by omega)) .nil)) ?_;rintro _ rfl));conv=>whnf)|(apply bD<;>intro _<;>first|omega|conv=>whnf))
 ·refine RetK.p ?_;have h0:p.procs=[]:=List.length_eq_zero_iff.1 (by omega);unfold WA;rw [h0];rfl
 ·obtain ⟨h1,h2⟩:=hr (by omega);have hlt:(z7a n p.procs.length).toNat<p.procs.length:=by omega
  refine IdxK.at (k:=(z7a n p.procs.length).toNat) (e := .agg p.procs[(z7a n p.procs.length).toNat].cells) (by omega) (by rw [List.getElem?_map,List.getElem?_eq_getElem hlt];rfl) rfl ?_;conv=>whnf
  skip
  exact RetK.p (by unfold WA;rw [List.getElem?_eq_getElem hlt])
def w5c (a b:Int):Bool:=bif decide (a = -1)||decide (b = -1) then decide (b = -1) && !decide (a = -1) else decide (a<b)
theorem JT (a b:Int):SpecP Tryz.prog 251 [.int .i64 a,.int .i64 b] (fun r=>r = .bool (w5c a b)):=by
 refine sB PX Tryz.func251 rfl Tryz.call251 ?_;conv=>whnf
 repeat' (apply bD<;>intro _<;>first|omega|conv=>whnf)
 all_goals first
  | exact RetK.bool (by unfold w5c;simp_all)
  | exact RetK.ff (by unfold w5c;simp_all)
  | exact RetK.bool (by unfold w5c;simp_all;omega)
theorem q1t {α β:Type} {f:α->β} : ∀ {l:List α},(l.map f).Nodup -> ∀ a∈l,∀ b∈l,f a=f b->a=b
 | [],_,a,ha,_,_,_=>by cases ha
 | c::r,h,a,ha,b,hb,e=>by
   rw [map_cons,List.nodup_cons] at h;rcases List.mem_cons.1 ha with ha1|ha1
   ·rcases List.mem_cons.1 hb with hb1|hb1
    ·rw [ha1,hb1]
    ·exact (h.1 (List.mem_map.2 ⟨b,hb1,by rw [<- e,ha1]⟩)).elim
   ·rcases List.mem_cons.1 hb with hb1|hb1
    ·exact (h.1 (List.mem_map.2 ⟨a,ha1,by rw [e,hb1]⟩)).elim
    ·exact q1t h.2 a ha1 b hb1 e
theorem ZE {α:Type} [DecidableEq α] : ∀ {l m:List α},l.Nodup->(∀ s∈l,s∈m)->l.length<=m.length
 | [],m,_,_=>zero_le _
 | a::r,m,h,hs=>by
   rw [List.nodup_cons] at h;have ha:=hs a mem_cons_self;have h1:=ZE (m:=m.erase a) h.2 fun s hsr=>(List.mem_erase_of_ne (fun e=>h.1 (by rw [<- e];exact hsr))).2 (hs s (mem_cons_of_mem _ hsr));rw [List.length_erase_of_mem ha] at h1;have:=List.length_pos_of_mem ha;simp only [List.length_cons];omega
theorem HR (n c:Nat):(YR n c).Nodup:=by
 unfold YR List.Nodup;rw [List.pairwise_map];exact List.Pairwise.imp (fun h e=>h (by omega)) (List.nodup_range' (s:=n+1) (n:=c) (step:=1))
theorem w0d {p:Pg} (hm:VB p=true) {j:Nat} {f:Pr} (hj:p.procs[j]? = some f):(itsOf p j f).map (fun it=>it.s.id)=YR (QR p.procs j) (QV f.body):=by
 rw [<- x3t hm hj,<- q0g (j:Nat) 0 (-1) 0 (QR p.procs j) f.body,List.map_map];rfl
theorem w8q {p:Pg} (hm:VB p=true) {j:Nat} {f:Pr} (hj:p.procs[j]? = some f) {a b:Item} (ha:a∈itsOf p j f) (hb:b∈itsOf p j f) (h:a.s.id=b.s.id):a=b :=
 q1t (f:=fun it:Item=>it.s.id) (by rw [w0d hm hj];exact HR _ _) a ha b hb h
theorem w4b {p:Pg} {j:Nat} {f:Pr} {t:S} (h:t∈flL f.body) : ∃ it∈itsOf p j f,it.s=t:=by
 rw [<- q0g (j:Nat) 0 (-1) 0 (QR p.procs j) f.body] at h;obtain ⟨it,h1,h2⟩:=List.mem_map.1 h;exact ⟨it,h1,h2⟩
theorem x8r (sh:Sheet) (f:Pr) (it:Item):1<=(goesI sh f it).length∧(goesI sh f it).length<=2∧((goesI sh f it).length=2->it.s.kind=5∨it.s.kind=6):=by
 unfold goesI;split
 ·rename_i h;exact ⟨by simp,by simp,fun _ => .inl h⟩
 split
 ·rename_i h;exact ⟨by simp,by simp,fun _ => .inr h⟩
 split
 ·simp
 split
 ·simp
 split
 ·simp
 split<;>simp
theorem z5g {l:List Step} (h:l.Pairwise q0c):l.Nodup:=h.imp fun h e=>by subst e;exact FT h
theorem XD {l:List Int} {x:Int}:UO l x=true↔x∈l:=by
 unfold UO;rw [List.any_eq_true];refine ⟨fun ⟨y,h1,h2⟩=>by simp at h2;exact h2▸h1,fun h=>⟨x,h,by simp⟩⟩
theorem x3s {n c:Nat} {a:Int} (h1:(n:Int)+1<=a) (h2:a<=(n+c:Nat)):a∈YR n c:=by
 unfold YR;refine List.mem_map.2 ⟨a.toNat,List.mem_range'.2 ⟨a.toNat-(n+1),by omega,by omega⟩,by omega⟩
end Go.Ab
