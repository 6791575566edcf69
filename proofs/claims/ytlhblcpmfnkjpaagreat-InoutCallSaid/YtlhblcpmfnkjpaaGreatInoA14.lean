/- The law of a program that may be: every step leads from a place to a place. -/
import Derived.Laws.StructEq
import Derived.ChangeKeysEq
import Derived.Test.YtlhblcpmfnkjpaaGreatInoA8
import Derived.Test.YtlhblcpmfnkjpaaGreatInoA10
import Derived.Test.YtlhblcpmfnkjpaaGreatInoA13
set_option linter.unusedSimpArgs false
set_option linter.unusedVariables false
set_option maxRecDepth 100000
set_option maxHeartbeats 16000000
open List (Nodup drop_eq_nil_of_le foldl_cons getD_eq_getElem?_getD length_append length_map mem_cons mem_cons_of_mem mem_cons_self not_mem_nil pairwise_cons)
open Nat (zero_le)
namespace Go.Ab
open Go.Proofs
theorem QP {p:Pg} (h:QO p=true):YS p=true∧(XX p).1=0∧(UZ p).1=0∧(q3m p).1=0∧(LJ p).1=0:=by
 unfold QO z9r at h;simp only [decide_eq_true_eq] at h;by_cases h1:YS p=false
 ·rw [if_pos h1] at h;cases h
 rw [if_neg h1] at h;by_cases h2:(XX p).1=0
 ·rw [if_neg (by omega)] at h;by_cases h3:(UZ p).1=0
  ·rw [if_neg (by omega)] at h;by_cases h4:(q3m p).1=0
   ·rw [if_neg (by omega)] at h;exact ⟨by simpa using h1,h2,h3,h4,h⟩
   ·rw [if_pos h4] at h;exact absurd h h4
  ·rw [if_pos h3] at h;exact absurd h h3
 ·rw [if_pos h2] at h;exact absurd h h2
theorem q4o {f:Pr} : ∀ (l:List Item) (seen:List Str) {s:List Str},BY f l seen = .ok s -> ∀ it∈l,JX f it=true
 | [],_,_,_,it,h=>by cases h
 | a::r,seen,s,h,it,hi=>by
   rw [BY] at h;cases hj:YD seen a.s.labels with
   | none=>rw [hj] at h;cases h
   | some s1 =>
     rw [hj] at h;simp only at h;cases hl:JX f a with
     | false=>rw [hl] at h;cases h
     | true =>
       rw [hl,cond_true] at h;rcases List.mem_cons.1 hi with rfl|hi
       ·exact hl
       ·exact q4o r s1 h it hi
theorem q8z {p:Pg} (hs:(XX p).1=0) (h:(q3m p).1=0) {j:Nat} {f:Pr} (hj:p.procs[j]? = some f) : ∀ it∈itsOf p j f,JX f it=true:=by
 unfold q3m at h;rw [if_neg (by omega)] at h;have hn:(List.range p.procs.length).findSome? (JW p)=none:=by
  cases hq:(List.range p.procs.length).findSome? (JW p) with
  | none=>rfl
  | some a=>rw [hq] at h;cases h
 rw [List.findSome?_eq_none_iff] at hn;have hlt:j<p.procs.length:=(List.getElem?_eq_some_iff.1 hj).1;have:=hn j (List.mem_range.2 hlt);unfold JW at this;rw [hj] at this;simp only at this;cases hr:BY f (itL (j:Nat) 0 (-1) 0 (QL p.procs j) f.body) [] with
 | error id=>rw [hr] at this;cases this
 | ok seen=>exact q4o _ _ hr
mutual
theorem w0n : ∀ (t u v:S),u∈flS t->v∈u.thn∨v∈u.els->v∈flS t
 | .mk id kind labels name proc x has args thn els,u,v,h,hv=>by
   rw [flS] at h ⊢;rcases List.mem_cons.1 h with rfl|h
   ·refine mem_cons_of_mem _ (List.mem_append.2 ?_);rcases hv with hv|hv
    ·exact .inl (ML thn v hv)
    ·exact .inr (ML els v hv)
   ·rcases List.mem_append.1 h with h|h
    ·exact mem_cons_of_mem _ (List.mem_append.2 (.inl (q4w thn u v h hv)))
    ·exact mem_cons_of_mem _ (List.mem_append.2 (.inr (q4w els u v h hv)))
theorem q4w : ∀ (l:List S) (u v:S),u∈flL l->v∈u.thn∨v∈u.els->v∈flL l
 | [],u,v,h,hv=>by rw [flL] at h;cases h
 | t::r,u,v,h,hv=>by
   rw [flL] at h ⊢;rcases List.mem_append.1 h with h|h
   ·exact List.mem_append.2 (.inl (w0n t u v h hv))
   ·exact List.mem_append.2 (.inr (q4w r u v h hv))
end
theorem x1q {p:Pg} {j:Nat} {f:Pr} {it:Item} (h:it∈itsOf p j f):it.s∈flL f.body:=by
 unfold itsOf at h;rw [<- MJ (j:Nat) 0 (-1) 0 (QL p.procs j) f.body];exact List.mem_map.2 ⟨it,h,rfl⟩
theorem WT {p:Pg} (hm:YS p=true) {j:Nat} {f:Pr} (hj:p.procs[j]? = some f) {t:S} (h:t∈flL f.body):(QL p.procs j:Int)+1<=t.id∧t.id<=(QL p.procs j+cntL f.body:Nat):=by
 have h1:=z4a hm hj;have h2:t.id∈KE (QL p.procs j) (cntL f.body):=by
  rw [<- h1];exact List.mem_map.2 ⟨t,h,rfl⟩
 have:=w0j h2;omega
theorem q7j {p:Pg} {j:Nat} {f:Pr} {it:Item} (h:it∈itsOf p j f):okI (QL p.procs j) (QL p.procs j+cntL f.body) it.next∧(it.loop=0∨((QL p.procs j:Int)+1<=it.loop∧it.loop<=(QL p.procs j+cntL f.body:Nat))) :=
 x1i (j:Nat) _ _ f.body 0 (-1) 0 _ it h (.inl rfl) (.inl rfl) (Nat.le_refl _) (Nat.le_refl _)
theorem x6k {p:Pg} {j:Nat} {f:Pr} (hj:p.procs[j]? = some f) {k:Nat} (h1:QL p.procs j<=k) (h2:k<QL p.procs j+cntL f.body) : ∃ it,(sheetOf p).l[k]? = some it∧it∈itsOf p j f:=by
 obtain ⟨_,_,_,hlen,hsp⟩:=QJ p;obtain ⟨_,_,hle,hd⟩:=hsp j f hj;have hk:k<(sheetOf p).l.length:=by omega
 refine ⟨(sheetOf p).l[k],List.getElem?_eq_getElem hk,?_⟩;unfold itsOf;rw [<- hd];refine List.mem_iff_getElem?.2 ⟨k-QL p.procs j,?_⟩;rw [List.getElem?_drop,List.getElem?_take,if_pos (by omega),show QL p.procs j+(k-QL p.procs j)=k by omega,List.getElem?_eq_getElem hk]
theorem w5f {p:Pg} (hm:YS p=true) {j:Nat} {f:Pr} (hj:p.procs[j]? = some f) {it:Item} (h:it∈itsOf p j f) (hl:JX f it=true) : ∀ x∈KF (sheetOf p) f it,okI (QL p.procs j) (QL p.procs j+cntL f.body) x:=by
 obtain ⟨hnx,hlo⟩:=q7j h;have hs:=x1q h;have hid:=WT hm hj hs;have hhead : ∀ (l:List S) (o:Int),(∀ v∈l,v∈it.s.thn∨v∈it.s.els)->okI (QL p.procs j) (QL p.procs j+cntL f.body) o->okI (QL p.procs j) (QL p.procs j+cntL f.body) (z3h l o):=fun l o hv ho=>by
  cases l with
  | nil=>exact ho
  | cons v r=>exact .inr (WT hm hj (q4w f.body it.s v hs (hv v mem_cons_self)))
 have hloop:it.s.kind=7∨it.s.kind=8->(QL p.procs j:Int)+1<=it.loop∧it.loop<=(QL p.procs j+cntL f.body:Nat):=fun hk=>by
  unfold JX at hl;rw [if_pos hk] at hl;rcases hlo with h0|h0
  ·rw [h0] at hl;cases hl
  ·exact h0
 intro x hx;unfold KF at hx;split at hx
 ·simp only [mem_cons,not_mem_nil,or_false] at hx;rcases hx with rfl|rfl
  ·exact hhead _ _ (fun v hv => .inl hv) hnx
  ·exact hhead _ _ (fun v hv => .inr hv) hnx
 split at hx
 ·simp only [mem_cons,not_mem_nil,or_false] at hx;rcases hx with rfl|rfl
  ·exact hhead _ _ (fun v hv => .inl hv) (.inr hid)
  ·exact hnx
 split at hx
 ·rename_i hk;have hlp:=hloop (.inl hk);obtain ⟨u,hu1,hu2⟩:=x6k hj (k:=(it.loop-1).toNat) (by omega) (by omega);rw [hu1] at hx;rw [List.mem_singleton.1 hx];exact (q7j hu2).1
 split at hx
 ·rename_i hk;rw [List.mem_singleton.1 hx];exact .inr (hloop (.inr hk))
 split at hx
 ·rw [List.mem_singleton.1 hx];exact .inl rfl
 split at hx
 ·rename_i h7 h8 _ hk;rw [List.mem_singleton.1 hx];unfold JX at hl;rw [if_neg (by omega),if_pos hk] at hl;unfold atB at hl ⊢;split
  ·rename_i t ht;exact .inr (WT hm hj (List.mem_of_find?_eq_some ht))
  ·rename_i hn;rw [hn] at hl;simp only at hl;cases hfin:f.fin.any fun s=>it.s.name==s with
   | true=>exact .inl rfl
   | false=>rw [hfin] at hl;cases hl
 ·rw [List.mem_singleton.1 hx];exact hnx
theorem NW {p:Pg} (h:QO p=true) {j:Nat} {f:Pr} (hj:p.procs[j]? = some f):(∀ it∈itsOf p j f,it.s.kind=7->1<=it.loop∧it.loop<=(sheetOf p).l.length) ∧
  (∀ s∈QK p j f,(s.src=0∨((QL p.procs j:Int)+1<=s.src∧s.src<=(QL p.procs j+cntL f.body:Nat)))∧okI (QL p.procs j) (QL p.procs j+cntL f.body) s.dst) ∧ ∀ s∈QK p j f,okSt s:=by
 obtain ⟨hm,hs,_,hjm,_⟩:=QP h;have hld:=q8z hs hjm hj;obtain ⟨_,_,_,hlen,hsp⟩:=QJ p;obtain ⟨_,_,hle,_⟩:=hsp j f hj;obtain ⟨_,_,hcn⟩:=WD hm;have key : ∀ s∈QK p j f,(s.src=0∨((QL p.procs j:Int)+1<=s.src∧s.src<=(QL p.procs j+cntL f.body:Nat)))∧okI (QL p.procs j) (QL p.procs j+cntL f.body) s.dst:=fun s hx=>by
  unfold QK at hx;rcases List.mem_cons.1 hx with rfl|hx
  ·refine ⟨.inl rfl,?_⟩;show okI _ _ (if QL p.procs j<QL p.procs j+cntL f.body then ((QL p.procs j:Nat)+1:Int) else -1);split
   ·exact .inr ⟨by omega,by omega⟩
   ·exact .inl rfl
  ·obtain ⟨it,hit,hz⟩:=List.mem_flatMap.1 hx;obtain ⟨y,hy,rfl⟩:=List.mem_map.1 hz;exact ⟨.inr (WT hm hj (x1q hit)),w5f hm hj hit (hld it hit) y hy⟩
 refine ⟨fun it hit hk => ?_,key,fun s hx => ?_⟩
 ·have hl:=hld it hit;unfold JX at hl;rw [if_pos (.inl hk)] at hl;rcases (q7j hit).2 with h0|h0
  ·rw [h0] at hl;cases hl
  ·omega
 ·obtain ⟨h1,h2⟩:=key s hx;unfold okSt okI at *
  omega
def x5t (p:Pg) (n:Str):Option Way:=bif QO p then (match p.procs.find? (fun f=>f.name==n) with
 | some f=>some (QQ p (p.procs.findIdx fun f=>f.name==n) f)
 | none=>none) else none
def v3b:Option Way->AV
 | some w => .ip w.cells
 | none => .nilp
theorem ZZ {p:Pg} (h:QO p=true):p.globals.length<=16∧p.procs.length<=16∧cntP p.procs<=200:=WD (QP h).1
theorem z2z {p:Pg} {n:Str} (h : ¬n∈QH p):q0y (fun f=>f.name==n) p.procs = -1∧p.procs.find? (fun f=>f.name==n)=none:=by
 have h1:p.procs.any (fun f=>f.name==n)=false:=by
  rw [List.any_eq_false];intro f hf hn;exact h (List.mem_map.2 ⟨f,hf,by simpa using hn⟩)
 refine ⟨by unfold q0y;rw [h1];rfl,?_⟩;rw [List.find?_eq_none];intro f hf;have:=List.any_eq_false.1 h1 f hf;simpa using this
theorem q4s {p:Pg} {n:Str} (h:n∈QH p) : ∃ (k:Nat) (hk:k<p.procs.length),q0y (fun f=>f.name==n) p.procs=k∧p.procs.findIdx (fun f=>f.name==n)=k∧p.procs.find? (fun f=>f.name==n)=some p.procs[k]∧p.procs[k].name=n:=by
 obtain ⟨k,hk,h1,h2,h3⟩:=x2o h;refine ⟨k,hk,h1,?_,h2,h3⟩;unfold q0y at h1;cases ha:p.procs.any (fun f=>f.name==n) with
 | true=>rw [ha,cond_true] at h1;omega
 | false=>rw [ha,cond_false] at h1;omega
theorem w8b (p:Pg) (hf:Fit p) (n:Str):SpecP Tryz.prog 102 [.agg p.cells,.str n] (fun r=>r=v3b (x5t p n)):=by
 refine sB w2j Tryz.func102 rfl Tryz.call102 ?_;conv=>whnf
 cases hc:QO p with
 | false =>
   have e:x5t p n=none:=by unfold x5t;rw [hc];rfl
   have hA : ¬(z9r p).1=0:=by unfold QO at hc;simpa using hc
   rw [e];repeat' (first|(refine cP (YP p hf) ?_;conv=>whnf)|(apply bE<;>intro _<;>first|omega|conv=>whnf))
   all_goals first
    | exact RetK.p rfl
    | (exfalso;exact hA (by assumption))
 | true =>
   obtain ⟨hg,hpl,hcn⟩:=ZZ hc;have hA:(z9r p).1=0:=by unfold QO at hc;simpa using hc
   have hsp:(sheetOf p).p.procs=p.procs:=by rw [(QJ p).1]
   by_cases hn:n∈QH p
   ·obtain ⟨k,hk,h1,h2,h3,h4⟩:=q4s hn;have e:x5t p n=some (QQ p k p.procs[k]):=by unfold x5t;rw [hc,h3,h2];rfl
    have hkj:p.procs[k]? = some p.procs[k]:=by simp
    obtain ⟨w1,_,w3⟩:=NW hc hkj;rw [e];repeat' (first|((first|refine cP (YP p hf) ?_|refine cP (XL _ _) ?_|(refine CallK.pure (US p (by omega) (by omega)) (.cons (Sub.refl _) .nil) ?_;rintro _ rfl)|(refine CallK.pure (x8r p k p.procs[k] hkj (by omega) w1 w3) (.cons (Sub.refl _) (.cons (Sub.int h1) .nil)) ?_;rintro _ rfl));conv=>whnf)|(apply bD<;>intro _<;>first|omega|conv=>whnf)|(apply bE<;>intro _<;>first|omega|conv=>whnf))
    all_goals rw [hsp] at *
    all_goals first
     | exact RetK.p rfl
     | (exfalso;omega)
   ·obtain ⟨h1,h2⟩:=z2z hn;have e:x5t p n=none:=by unfold x5t;rw [hc,h2];rfl
    rw [e];repeat' (first|((first|refine cP (YP p hf) ?_|refine cP (XL _ _) ?_|(refine CallK.pure (US p (by omega) (by omega)) (.cons (Sub.refl _) .nil) ?_;rintro _ rfl));conv=>whnf)|(apply bD<;>intro _<;>first|omega|conv=>whnf)|(apply bE<;>intro _<;>first|omega|conv=>whnf))
    all_goals rw [hsp] at *
    all_goals first
     | exact RetK.p rfl
     | (exfalso;omega)
theorem q5w {p:Pg} {n:Str} {w:Way} (h:x5t p n=some w) : ∃ (k:Nat) (f:Pr),p.procs[k]? = some f∧w=QQ p k f∧QO p=true∧f.name=n∧p.procs.find? (fun f=>f.name==n)=some f:=by
 unfold x5t at h;cases hc:QO p with
 | false=>rw [hc] at h;cases h
 | true =>
   rw [hc,cond_true] at h;by_cases hn:n∈QH p
   ·obtain ⟨k,hk,h1,h2,h3,h4⟩:=q4s hn;rw [h3,h2] at h;cases h;exact ⟨k,p.procs[k],by simp,rfl,rfl,h4,h3⟩
   ·rw [(z2z hn).2] at h;cases h
def v2r (p:Pg) (k:Nat) (f:Pr):Int:=if QL p.procs k<QL p.procs k+cntL f.body then ((QL p.procs k:Nat)+1:Int) else -1
def XK (p:Pg) (j:Nat) (n i:Int):Int:=if i=0 then 0 else if i=n-1 then -1 else loI p j+i-1
theorem GI (w:Way) (f:Pr) (hj:w.p.procs[w.j]? = some f) (hc:cntP w.p.procs<=1000) (hn:0<=w.n∧w.n<=5000) (i:Int) (hi:0<=i∧i<=5000):SpecP Tryz.prog 103 [.ip w.cells,.int .i64 i] (fun r=>r = .int .i64 (XK w.p w.j w.n i)):=by
 refine sB q6e Tryz.func103 rfl Tryz.call103 ?_;conv=>whnf
 obtain ⟨_,_,_,hlen,hsp⟩:=QJ w.p;obtain ⟨hlo,hhi,hle,_⟩:=hsp w.j f hj;repeat' (first|((first|refine dA ?_|refine wI ?_|(refine IdxK.at rfl (VY hlo) rfl ?_));conv=>whnf)|(apply bD<;>intro _<;>first|omega|conv=>whnf))
 all_goals exact RetK.int (by unfold XK loI;(repeat' split)<;>omega)
theorem q9x (l:List Int) : ∀ b:List Bool,(KP l b).length=b.length:=by
 induction l with
 | nil=>intro b;rfl
 | cons a r ih =>
   intro b;show (KP r (b.set a.toNat true)).length=b.length;rw [ih,List.length_set]
def z7s (w:Way):List Int:=((List.range' 1 (w.n-2).toNat).filter fun i=>w.live.getD i false).map fun (i:Nat)=>XK w.p w.j w.n i
def z2g (p:Pg) (n:Str):List Int:=match x5t p n with
 | some w=>z7s w
 | none=>[]
theorem w0y (p:Pg) (hf:Fit p) (n:Str):SpecP Tryz.prog 40 [.agg p.cells,.str n] (fun r=>r=ZM (z2g p n)):=by
 refine sB z3f Tryz.func40 rfl Tryz.call40 ?_;conv=>whnf
 have hW:=w8b p hf n;unfold z2g;cases hw:x5t p n with
 | none =>
   rw [hw] at hW;repeat' (refine cP hW ?_;conv=>whnf)
   exact ⟨_,.p Sub.nils,rfl⟩
 | some w =>
   obtain ⟨k,f,hkj,hwe,hc,_⟩:=q5w hw;obtain ⟨_,_,hcn⟩:=ZZ hc;obtain ⟨_,_,_,_,hsp⟩:=QJ p;obtain ⟨_,_,hle,_⟩:=hsp k f hkj;have hwp:w.p=p:=by rw [hwe];rfl
   have hwj:w.j=k:=by rw [hwe];rfl
   have hwn:w.n=(cntL f.body+2:Nat):=by rw [hwe];rfl
   have hwl:w.live.length=cntL f.body+2:=by rw [hwe];show (KP _ (List.replicate (cntL f.body+2) false)).length=_;rw [q9x];simp
   have hwj':w.p.procs[w.j]? = some f:=by rw [hwp,hwj];exact hkj
   have hcn':cntP w.p.procs<=1000:=by rw [hwp];omega
   rw [hw] at hW;clear hwe hw;repeat' (refine cP hW ?_;conv=>whnf)
   refine LoopK.inv QY (fun x:Nat×List Int=>⟨[(5,.p (.ip w.cells)),(6,.hd 0 0 x.2.length),(7,.p (.int .i64 x.1))],[(0,.own 3 1 (x.2.map (.int .i64)))]⟩)
    (fun x=>1<=x.1∧x.1<=cntL f.body+1∧x.2.length<=x.1∧x.2++(((List.range' x.1 (cntL f.body+1-x.1)).filter fun i=>w.live.getD i false).map fun (i:Nat)=>XK w.p w.j w.n i)=z7s w) (fun x=>cntL f.body+1-x.1) (1,[])
    (Le.mk [(0,.own 3 1 [])] (by simp [Chunk.new0];rfl) (by simp) (by simp) (.cons (.refl _) (.cons (.nil mem_cons_self) (.cons (.of_eq rfl) .nil))) (.new mem_cons_self .nil))
    ⟨Nat.le_refl _,by simp only;omega,by simp,by unfold z7s;rw [hwn,show ((cntL f.body+2:Nat)-2:Int).toNat=cntL f.body+1-1 by omega];rfl⟩ ?_
   rintro ⟨i,acc⟩ ⟨h1,h2,h3,h4⟩;simp only at h1 h2 h3 h4 ⊢;rcases Nat.lt_or_ge i (cntL f.body+1) with hi|hi;rotate_left 1
   ·rw [show cntL f.body+1-i=0 by omega] at h4;simp only [List.range'_zero,List.filter_nil,List.map_nil,List.append_nil] at h4;subst h4;conv=>whnf
    repeat' (first|(refine wI ?_;conv=>whnf)|(apply bD<;>intro _<;>first|omega|conv=>whnf))
    all_goals first
     | exact ⟨_,.hd rfl (by simp),rfl⟩
     | (exfalso;omega)
   have hil:i<w.live.length:=by omega
   rw [show cntL f.body+1-i=cntL f.body+1-(i+1)+1 by omega,List.range'_succ,List.filter_cons] at h4;have hpl:=GI w f hwj' hcn' (by omega) i (by omega);cases hl:w.live.getD i false with
   | true =>
     have hle:(w.live.map bv)[i]? = some .tt:=by
      have:w.live[i]=true:=by simpa [hil] using hl
      simp [hil,this,bv]
     rw [hl] at h4;conv=>whnf
     repeat' (first|((first|refine And.intro rfl ?_|refine aD ?_|refine bP ?_|refine wI ?_|(refine IdxK.at rfl hle rfl ?_)|refine cP hpl ?_|refine ZJ (by simp) (by simp;omega) ?_);conv=>whnf)|(apply bD<;>intro _<;>first|omega|conv=>whnf))
     all_goals first
      | exact ⟨(i+1,acc++[XK w.p w.j w.n i]),⟨by simp only;omega,by simp only;omega,by simp;omega,by simpa using h4⟩,by simp only;omega,Le.of_eq (by simp only [length_append,List.map_append];rfl)⟩
      | (exfalso;omega)
   | false =>
     have hle:(w.live.map bv)[i]? = some .ff:=by
      have:w.live[i]=false:=by simpa [hil] using hl
      simp [hil,this,bv]
     rw [hl] at h4;conv=>whnf
     repeat' (first|((first|refine wI ?_|(refine IdxK.at rfl hle rfl ?_));conv=>whnf)|(apply bD<;>intro _<;>first|omega|conv=>whnf))
     all_goals first
      | exact ⟨(i+1,acc),⟨by simp only;omega,by simp only;omega,by simp only;omega,by simpa using h4⟩,by simp only;omega,Le.of_eq rfl⟩
      | (exfalso;omega)
theorem FA (l:List Int) (v:Int):SpecP Tryz.prog 270 [ZM l,.int .i64 v] (fun r=>r = .int .i64 (q0y (fun s=>decide (v=s)) l)):=by
 refine sB GJ Tryz.func270 rfl Tryz.call270 ?_;conv=>whnf
 refine iM fun _=>?_;have hl:(l.map (AV.int .i64)).length=l.length:=length_map _;conv=>whnf
 refine LoopK.inv QY (fun j:Nat=>⟨[(0,.p (ZM l)),(1,.p (.int .i64 v)),(7,.p (.int .i64 (l.map (AV.int .i64)).length)),(8,.p (.int .i64 j))],[]⟩) (fun j=>j<=l.length∧(l.drop j).any (fun s=>decide (v=s))=l.any (fun s=>decide (v=s))∧l.findIdx (fun s=>decide (v=s))=j+(l.drop j).findIdx (fun s=>decide (v=s))) (fun j=>l.length-j) 0 (Le.of_eq rfl) ⟨zero_le _,rfl,by simp⟩ ?_;rintro j ⟨h2,h3,h4⟩;conv=>whnf
 repeat' (first|((first|(refine iA fun _=>?_)|refine wI ?_);conv=>whnf)|(apply bD<;>intro _<;>first|omega|conv=>whnf))
 ·exact RetK.int (q4f (p:=fun s=>decide (v=s)) (by omega) (decide_eq_true (by assumption)) h3 h4).symm
 ·exact ⟨j+1,⟨by omega,by rw [<- h3,LG (p:=fun s=>decide (v=s)) (by omega) (decide_eq_false (by assumption))],by rw [h4,w0i (p:=fun s=>decide (v=s)) (by omega) (decide_eq_false (by assumption))];omega⟩,by omega,Le.of_eq rfl⟩
 ·exact RetK.int (by rw [x1f];rw [<- h3,GX (by omega)])
theorem JA (l:List Int) (v:Int):SpecP Tryz.prog 179 [ZM l,.int .i64 v] (fun r=>r = .bool (l.any fun s=>decide (v=s))):=by
 refine sB YC Tryz.func179 rfl Tryz.call179 ?_;conv=>whnf
 repeat' (refine cP (FA _ _) ?_;conv=>whnf)
 exact RetK.bool q1g
theorem DrawK.le {P:Program} {T:Tab} {N:Nat} {ops:Array Oper} {info:Info} {id:Nat} {K:St->Prop} {s s':St} (hle:Le N s s') (h:DrawK P T N info id ops K s'):DrawK P T N info id ops K s:=by
 refine ⟨⟨fun σ β a w hr => ?_⟩⟩;obtain ⟨σ1,β1,hr1,hl1⟩:=hle σ β a w hr;refine Code.wp_mono (fun e a' w' hk => ?_) (h.ok.ok σ1 β1 a w hr1);obtain ⟨σ',β',s2,hk,hr',hl⟩:=hk;exact ⟨σ',β',s2,hk,hr',hl1.trans hl⟩
theorem DZ : ∀ (a:Step) (l:List Step) (s:Step),s∈QA a l->s∈l
 | _,[],_,h=>by rw [QA] at h;cases h
 | a,b::r,s,h=>by
   rw [QA] at h;cases hb:XI b a with
   | true=>rw [hb] at h;exact mem_cons_of_mem _ (DZ b r s h)
   | false =>
     rw [hb] at h;rcases List.mem_cons.1 h with rfl|h
     ·exact mem_cons_self
     ·exact mem_cons_of_mem _ (DZ b r s h)
theorem z8e {l:List Step} {s:Step} (h:s∈ZH l):s∈l:=by
 unfold ZH at h;have:s∈VP l:=by
  cases hq:VP l with
  | nil=>rw [hq] at h;cases h
  | cons a r =>
    rw [hq] at h;rcases List.mem_cons.1 h with rfl|h
    ·exact mem_cons_self
    ·exact mem_cons_of_mem _ (DZ a r s h)
 exact (PQ l).mem_iff.1 this
def z9l (p:Pg) (id:Int):Option S:=((sheetOf p).l[(id-1).toNat]?).map Item.s
def q7l (p:Pg) (some':List Str) (t:Step):Bool:=decide (t.src=0)||match z9l p t.src with
 | some s => !(decide (s.kind=4) && !(some'.any fun x=>s.proc==x))
 | none=>true
def x2i (w:Way) (f:Pr) (some':List Str):Bool :=
 (HX 0 (ZU (QS (cntL f.body+2) ((w.real.filter (q7l w.p some')).map (ixP w.p w.j f w.n))).1 [0])).any fun s=>decide (w.n-1=s)
theorem x4w (w:Way) (f:Pr) (hj:w.p.procs[w.j]? = some f) (hc:cntP w.p.procs<=200) (hn:w.n=(cntL f.body+2:Nat)) (hr : ∀ t∈w.real,t.src=0∨(1<=t.src∧t.src<=(sheetOf w.p).l.length)) (hlen:w.real.length<=100000) (some':List Str):SpecP Tryz.prog 108 [.ip w.cells,eStrs some'] (fun r=>r = .bool (x2i w f some')):=by
 refine sB q7e Tryz.func108 rfl Tryz.call108 ?_;conv=>whnf
 obtain ⟨_,_,_,hsl,hsp⟩:=QJ w.p;obtain ⟨_,_,hle,_⟩:=hsp w.j f hj;have hl:(w.real.map fun s=>AV.agg s.cells).length=w.real.length:=length_map _;repeat' (refine iM fun _=>?_;conv=>whnf)
 refine LoopK.inv QY (fun x:Nat×List Step=>⟨[(0,.p (.ip w.cells)),(1,.p (eStrs some')),(5,.hd 0 0 x.2.length),(12,.p (UL w.real)),(13,.p (.int .i64 (w.real.map fun s=>AV.agg s.cells).length)),(14,.p (.int .i64 x.1))],[(0,.own 156 3 (avS x.2))]⟩)
  (fun x=>x.1<=w.real.length∧x.2.length<=x.1∧x.2++(w.real.drop x.1).filter (q7l w.p some')=w.real.filter (q7l w.p some')) (fun x=>w.real.length-x.1) (0,[])
  (Le.mk [(0,.own 156 3 [])] (by simp [Chunk.new0];rfl) (by simp) (by simp) (.cons (.refl _) (.cons (.refl _) (.cons (.nil mem_cons_self) (.cons (.refl _) (.cons (.refl _) (.cons (.refl _) .nil)))))) (.new mem_cons_self .nil))
  ⟨zero_le _,Nat.le_refl _,rfl⟩ ?_
 rintro ⟨i,acc⟩ ⟨h2,h3,h4⟩;simp only at h2 h3 h4 ⊢;rcases Nat.lt_or_ge i w.real.length with hi|hi;rotate_left 1
 ·rw [drop_eq_nil_of_le hi,List.filter_nil,List.append_nil] at h4;unfold x2i;rw [<- h4];conv=>whnf
  repeat' (apply bD<;>intro _<;>first|omega|conv=>whnf)
  have hacl:acc.length<=1000000:=by omega
  refine DrawK.le (s':=⟨[(0,.p (.ip w.cells)),(5,.p (UL acc))],[]⟩) ?_ ?_
  ·obtain ⟨s',⟨k1,k2,k3⟩,hle⟩:=Le.row (N:=Tryz.f108.ntmps) (s:=⟨[(0,.p (.ip w.cells)),(1,.p (eStrs some')),(5,.hd 0 0 acc.length),(12,.p (UL w.real)),(13,.p (.int .i64 (w.real.map fun s=>AV.agg s.cells).length)),(14,.p (.int .i64 i)),(15,.p (.bool (decide ((i:Int)<(w.real.map fun s=>AV.agg s.cells).length))))],[(0,.own 156 3 (avS acc))]⟩) (k:=0) (zs:=[5]) rfl (K:=fun s=>getS s.sl 0 = .p (.ip w.cells)∧getS s.sl 5 = .p (UL acc)∧s.H=[]) ⟨by simp [avS],rfl,rfl,rfl⟩;exact hle.trans (Le.mk [] (by simp) (by simp) (by simp) (.cons (by rw [k1];exact .refl _) (.cons (by rw [k2];exact .refl _) .nil)) .nil)
  have hgi:=YB (cntL f.body+2) (acc.map (ixP w.p w.j f w.n));repeat' (first|((first|refine cP (JA _ _) ?_|refine dA ?_|refine And.intro rfl ?_|refine aD ?_|refine bP ?_|refine wI ?_|(refine CallK.pure (MH w f (cntL f.body+2) hn hj (by omega) (by omega) acc hacl) (.cons (Sub.refl _) (.cons (Sub.refl _) .nil)) ?_;rintro _ rfl)|(refine CallK.pure (KZ (cntL f.body+2) (by omega) _ hgi.1 [0] (by simp)) (.cons (Sub.refl _) (.cons (Sub.refl _) .nil)) ?_;rintro _ rfl));conv=>whnf)|(refine And.intro ?_ ?_<;>conv=>whnf))
  all_goals exact RetK.bool rfl
 rw [List.drop_eq_getElem_cons hi,List.filter_cons] at h4;have hsrc:=hr _ (List.getElem_mem hi);conv=>whnf
 have hidx : ¬w.real[i].src=0 -> ∃ u:Item,((sheetOf w.p).l.map fun i=>AV.agg i.cells)[(w.real[i].src-1).toNat]? = some (.agg u.cells)∧z9l w.p w.real[i].src=some u.s:=fun h=>by
  have hlt:(w.real[i].src-1).toNat<(sheetOf w.p).l.length:=by omega
  exact ⟨_,by rw [List.getElem?_map,List.getElem?_eq_getElem hlt];rfl,by unfold z9l;rw [List.getElem?_eq_getElem hlt];rfl⟩
 repeat' (first|((first|refine cP (QZ _ _) ?_|refine dA ?_|refine And.intro rfl ?_|refine aD ?_|refine bP ?_|(refine iA fun _=>?_)|refine wI ?_|refine AppK.mk (by simp [avS]) rfl (by show (acc.length+1)*24<=140737488355328;omega) (by show acc.length+1<=9223372036854775807;omega) (fun x hx=>by rcases List.mem_singleton.1 hx with rfl;exact ⟨rfl,rfl⟩) ?_|(obtain ⟨u,hu1,hu2⟩:=hidx (by assumption);refine IdxK.at (by omega) hu1 rfl ?_));conv=>whnf)|(apply bD<;>intro _<;>first|omega|conv=>whnf)|(apply bE<;>intro _<;>first|omega|conv=>whnf)|(apply bN<;>intro _<;>conv=>whnf))
 all_goals first
  | exact ⟨(i+1,acc++[w.real[i]]),⟨by simp only;omega,by simp;omega,by
     have hk:q7l w.p some' w.real[i]=true:=by unfold q7l;simp [*];done
     rw [if_pos hk] at h4;simpa using h4⟩,by simp only;omega,Le.of_eq (by simp only [avS,length_append,List.map_append];rfl)⟩
  | exact ⟨(i+1,acc),⟨by simp only;omega,by simp only;omega,by
     have hk : ¬q7l w.p some' w.real[i]=true:=by unfold q7l;simp [*];done
     rw [if_neg hk] at h4;exact h4⟩,by simp only;omega,Le.of_eq rfl⟩
def w6v (p:Pg) (st:List Str×Bool) (k:Nat):List Str×Bool:=match p.procs[k]? with
 | some f=>bif !(st.1.any fun s=>f.name==s)&&x2i (QQ p k f) f st.1 then (st.1++[f.name],true) else st
 | none=>st
def q2d (p:Pg) (out:List Str):List Str×Bool:=(List.range p.procs.length).foldl (w6v p) (out,false)
def x1a (p:Pg):Nat->List Str->List Str
 | 0,out=>out
 | k+1,out=>bif (q2d p out).2 then x1a p k (q2d p out).1 else (q2d p out).1
def q0p (p:Pg) (out:List Str):Nat:=p.procs.countP fun f => !(out.any fun s=>f.name==s)
theorem q5u {α:Type} {p q:α->Bool} : ∀ {l:List α},(∀ x∈l,q x=true->p x=true)->(∃ x∈l,p x=true∧q x=false)->l.countP q<l.countP p
 | [],_,h=>by obtain ⟨x,hx,_⟩:=h;cases hx
 | a::r,h1,h2=>by
   have hle:r.countP q<=r.countP p:=List.countP_mono_left fun x hx=>h1 x (mem_cons_of_mem _ hx);rw [List.countP_cons,List.countP_cons];have ha:=h1 a mem_cons_self;obtain ⟨x,hx,h3,h4⟩:=h2;rcases List.mem_cons.1 hx with rfl|hx
   ·rw [h3,h4];simp;omega
   ·have:=q5u (fun y hy=>h1 y (mem_cons_of_mem _ hy)) ⟨x,hx,h3,h4⟩;cases hq:q a with
    | true=>rw [ha hq];simp;omega
    | false=>cases p a<;>simp<;>omega
theorem z6v {p:Pg} {out:List Str} {f:Pr} (hf:f∈p.procs) (h:(out.any fun s=>f.name==s)=false):q0p p (out++[f.name])<q0p p out:=by
 unfold q0p;refine q5u (fun g _ hg => ?_) ⟨f,hf,by rw [h];rfl,by rw [List.any_append];simp⟩;rw [List.any_append] at hg;cases hq:out.any fun s=>g.name==s with
 | false=>rfl
 | true=>rw [hq] at hg;cases hg
def q8y (p:Pg):List Str:=bif QO p then UH (x1a p (p.procs.length+1) []) else []
theorem w0b (p:Pg) (hf:Fit p):SpecP Tryz.prog 45 [.agg p.cells] (fun r=>r=eStrs (q8y p)):=by
 refine sB z3q Tryz.func45 rfl Tryz.call45 ?_;conv=>whnf
 cases hc:QO p with
 | false =>
   have e:q8y p=[]:=by unfold q8y;rw [hc];rfl
   have hA : ¬(z9r p).1=0:=by unfold QO at hc;simpa using hc
   rw [e];repeat' (first|(refine cP (YP p hf) ?_;conv=>whnf)|(apply bE<;>intro _<;>first|omega|conv=>whnf))
   all_goals first
    | exact ⟨_,.p Sub.nils,rfl⟩
    | (exfalso;exact hA (by assumption))
 | true =>
   obtain ⟨hg,hpl,hcn⟩:=ZZ hc;have hA:(z9r p).1=0:=by unfold QO at hc;simpa using hc
   have e:q8y p=UH (x1a p (p.procs.length+1) []):=by unfold q8y;rw [hc];rfl
   rw [e];repeat' (first|((first|refine cP (YP p hf) ?_|(refine CallK.pure (US p (by omega) (by omega)) (.cons (Sub.refl _) .nil) ?_;rintro _ rfl));conv=>whnf)|(apply bE<;>intro _<;>first|omega|conv=>whnf))
   have hl:(p.procs.map fun f=>AV.agg f.cells).length=p.procs.length:=length_map _;have hl0:q0p p []<=p.procs.length:=List.countP_le_length;refine LoopK.inv QY (fun x:List Str×Bool=>⟨[(1,.p (.ip p.cells)),(3,.p (.ip (sheetOf p).cells)),(4,.hd 0 0 x.1.length),(5,.p (bv x.2))],[(0,.own 9 1 (x.1.map .str))]⟩)
    (fun x=>x.1.length+q0p p x.1<=p.procs.length∧(x.2=true -> ∃ k,q0p p x.1<k∧x1a p k x.1=x1a p (p.procs.length+1) [])∧(x.2=false->x.1=x1a p (p.procs.length+1) [])) (fun x=>2*q0p p x.1+x.2.toNat) ([],true)
    (Le.mk [(0,.own 9 1 [])] (by simp [Chunk.new0];rfl) (by simp) (by simp) (.cons (.refl _) (.cons (.refl _) (.cons (.nil mem_cons_self) (.cons (.refl _) .nil)))) (.new mem_cons_self .nil))
    ⟨by simpa using hl0,fun _=>⟨p.procs.length+1,by show q0p p []<_;omega,rfl⟩,by simp⟩ ?_
   rintro ⟨out,more⟩ ⟨h1,h2,h3⟩;simp only at h1 h2 h3 ⊢;cases more with
   | false =>
     have h3:=h3 rfl;rw [<- h3];conv=>whnf
     repeat' (refine CallK.heap [(1000,0)] 0 (by repeat' (first|exact ArgsH.nil|refine ArgsH.cons ?_ ?_|exact LSub.refl _|exact LSub.p Sub.nils|exact LSub.p (Sub.tt rfl)|exact LSub.p (Sub.ff rfl)|exact LSub.p (Sub.int (by omega)))) (by refine BlksH.cons (j:=0) rfl rfl ?_ ?_;exact CSub.refl _;exact BlksH.nil) (YG out (by omega)) rfl rfl ?_;rintro l' H' ⟨rfl,rfl⟩;conv=>whnf)
     exact ⟨_,.hd rfl (by simp [WV]),rfl⟩
   | true =>
     obtain ⟨k,hk1,hk2⟩:=h2 rfl;clear h2 h3;conv=>whnf
     repeat' (refine iM fun _=>?_;conv=>whnf)
     refine LoopK.inv QY (fun x:Nat×List Str×Bool=>⟨[(1,.p (.ip p.cells)),(3,.p (.ip (sheetOf p).cells)),(4,.hd 0 0 x.2.1.length),(5,.p (bv x.2.2)),(15,.p (.sl (p.procs.map fun f => .agg f.cells))),(16,.p (.int .i64 (p.procs.map fun f=>AV.agg f.cells).length)),(17,.p (.int .i64 x.1))],[(0,.own 9 1 (x.2.1.map .str))]⟩)
      (fun x=>x.1<=p.procs.length∧((List.range p.procs.length).drop x.1).foldl (w6v p) x.2=q2d p out∧x.2.1.length+q0p p x.2.1<=p.procs.length∧q0p p x.2.1+x.2.2.toNat<=q0p p out∧(x.2.2=false->x.2.1=out)) (fun x=>p.procs.length-x.1) (0,out,false) (Le.of_eq rfl) ⟨zero_le _,rfl,h1,Nat.le_refl _,fun _=>rfl⟩ ?_
     rintro ⟨m,o,b⟩ ⟨h4,h5,h6,h7,h8⟩;simp only at h4 h5 h6 h7 h8 ⊢;rcases Nat.lt_or_ge m p.procs.length with hm|hm;rotate_left 1
     ·rw [drop_eq_nil_of_le (by simpa using hm),List.foldl_nil] at h5;obtain ⟨k',rfl⟩ : ∃ k',k=k'+1:=⟨k-1,by omega⟩;rw [x1a,<- h5] at hk2;conv=>whnf
      repeat' (apply bD<;>intro _<;>first|omega|conv=>whnf)
      cases b with
      | true=>exact ⟨(o,true),⟨h6,fun _=>⟨k',by show q0p p o<k';simp only [Bool.toNat_true] at h7;omega,hk2⟩,by simp⟩,by simp only [Bool.toNat_true] at h7 ⊢;omega,lE⟩
      | false=>exact ⟨(o,false),⟨h6,by simp,fun _=>hk2⟩,by simp only [Bool.toNat_true,Bool.toNat_false] at h7 ⊢;omega,lE⟩
     have hmr:m<(List.range p.procs.length).length:=by simpa using hm
     rw [List.drop_eq_getElem_cons hmr,foldl_cons,List.getElem_range] at h5;have hkj:p.procs[m]? = some p.procs[m]:=by simp
     obtain ⟨w1,w2,w3⟩:=NW hc hkj;obtain ⟨_,_,_,hsl,hsp⟩:=QJ p;obtain ⟨_,_,hle,_⟩:=hsp m _ hkj;have hreal : ∀ t∈(QQ p m p.procs[m]).real,t.src=0∨(1<=t.src∧t.src<=(sheetOf p).l.length):=fun t ht=>by
      have:=(w2 t (z8e ht)).1;omega
     have hrl:(QQ p m p.procs[m]).real.length<=100000:=by
      have h9:=q5d (QK p m p.procs[m]);have h10:=DQ p m p.procs[m];show (ZH (QK p m p.procs[m])).length<=100000;omega
     have hE:=x4w (QQ p m p.procs[m]) p.procs[m] hkj hcn rfl hreal hrl o;have hst:w6v p (o,b) m=bif !(o.any fun s=>p.procs[m].name==s)&&x2i (QQ p m p.procs[m]) p.procs[m] o then (o++[p.procs[m].name],true) else (o,b):=by unfold w6v;rw [hkj]
     rw [hst] at h5;conv=>whnf
     repeat' (first|((first|refine And.intro rfl ?_|refine aD ?_|refine bP ?_|(refine iA fun _=>?_)|refine wI ?_|(refine QI (QZ o p.procs[m].name) (.cons (.hd rfl (by simp)) (.cons (.p (Sub.refl _)) .nil)) (by rintro _ rfl;rfl) ?_;rintro _ rfl)|(refine CallK.pure (x8r p m p.procs[m] hkj (by omega) w1 w3) (.cons (Sub.refl _) (.cons (Sub.refl _) .nil)) ?_;rintro _ rfl)|(refine QI hE (.cons (.p (Sub.refl _)) (.cons (.hd rfl (by simp)) .nil)) (by rintro _ rfl;rfl) ?_;rintro _ rfl)|refine QC (by simp) (by rw [length_map];omega) ?_);conv=>whnf)|(apply bD<;>intro _<;>first|omega|conv=>whnf)|(apply bN<;>intro _<;>conv=>whnf)|(apply bB<;>intro _<;>conv=>whnf))
     all_goals first
      | (have e1:(!(o.any fun s=>p.procs[m].name==s)&&x2i (QQ p m p.procs[m]) p.procs[m] o)=true:=by simp [*];done
         rw [e1,cond_true] at h5;have h9:=z6v (p:=p) (out:=o) (f:=p.procs[m]) (List.getElem_mem hm) (by assumption);exact ⟨(m+1,o++[p.procs[m].name],true),⟨by simp only;omega,h5,by simp;omega,by show q0p p (o++[p.procs[m].name])+1<=_;omega,by simp⟩,by simp only;omega,Le.of_eq (by simp only [length_append,List.map_append];rfl)⟩)
      | (have e1:(!(o.any fun s=>p.procs[m].name==s)&&x2i (QQ p m p.procs[m]) p.procs[m] o)=false:=by simp [*];done
         rw [e1,cond_false] at h5;exact ⟨(m+1,o,b),⟨by simp only;omega,h5,h6,h7,h8⟩,by simp only;omega,Le.of_eq rfl⟩)
def q1n (a b:Step):Prop:=ZW a.src<ZW b.src∨(ZW a.src=ZW b.src∧ZW a.dst<ZW b.dst)
def z9m (s:Step):Prop:=okSt s∧s.kind=1
theorem KC {a b:Step} (h1:a.src=b.src) (h2:a.dst=b.dst) (h3:a.kind=b.kind):a=b:=by
 cases a;cases b;simp_all
theorem KL {a b:Step}:HZ a b=true↔ZW a.src<ZW b.src∨(ZW a.src=ZW b.src∧(ZW a.dst<ZW b.dst∨(ZW a.dst=ZW b.dst∧a.kind<b.kind))):=by
 have h:HZ a b=decide (x9z a b<0):=rfl;rw [h,decide_eq_true_eq];unfold x9z;simp only [orI];split
 ·rename_i h1;rw [YH] at h1;split
  ·rename_i h2;rw [YH] at h2;split
   ·rename_i h3;rw [YH] at h3;omega
   ·rw [DH];omega
  ·rename_i h2;rw [YH] at h2;rw [DH];omega
 ·rename_i h1;rw [YH] at h1;rw [DH];omega
theorem ME (l:List Step):(VP l).Pairwise fun a b=>HZ b a=false:=by
 have:=List.pairwise_mergeSort (le:=fun x y => !HZ y x) (fun a b c h1 h2=>by
  simp only [Bool.not_eq_true'] at h1 h2 ⊢;rw [Bool.eq_false_iff,ne_eq,KL] at h1 h2 ⊢;omega) (fun a b=>by
  cases h1:HZ b a with
  | false=>rfl
  | true =>
    have h2:HZ a b=false:=by
     rw [Bool.eq_false_iff,ne_eq,KL];rw [KL] at h1;omega
    rw [h2];rfl) l
 refine List.Pairwise.imp ?_ this;intro a b h;simpa using h
theorem q2a {a b:Step} (ha:z9m a) (hb:z9m b):XI a b=true↔a=b:=by
 unfold XI;simp only [Bool.and_eq_true,decide_eq_true_eq];refine ⟨fun h=>KC h.1 h.2 (by rw [ha.2,hb.2]),fun h=>by rw [h];exact ⟨rfl,rfl⟩⟩
theorem w4o {a b:Step} (ha:z9m a) (hb:z9m b) (h:HZ b a=false) (hne:a≠b):q1n a b:=by
 rw [Bool.eq_false_iff,ne_eq,KL] at h;unfold q1n;by_cases h1:ZW a.src=ZW b.src
 ·by_cases h2:ZW a.dst=ZW b.dst
  ·exact absurd (KC (KX ha.1.1 hb.1.1 h1) (KX ha.1.2 hb.1.2 h2) (by rw [ha.2,hb.2])) hne
  ·omega
 ·omega
theorem q1k {a b c:Step} (h:q1n a b) (h':q1n b c):q1n a c:=by unfold q1n at *;omega
theorem GC {a:Step} (h:q1n a a):False:=by unfold q1n at h;omega
theorem MW : ∀ (l:List Step) (a:Step),z9m a->(∀ s∈l,z9m s)->(a::l).Pairwise (fun a b=>HZ b a=false)->(a::QA a l).Pairwise q1n ∧ ∀ s,s∈a::QA a l↔s∈a::l
 | [],a,_,_,_=>⟨by simp [QA],by simp [QA]⟩
 | b::r,a,ha,hl,h=>by
   have hb:=hl b mem_cons_self;have hr : ∀ s∈r,z9m s:=fun s hs=>hl s (mem_cons_of_mem _ hs);rw [pairwise_cons] at h;obtain ⟨h1,h2⟩:=h;obtain ⟨i1,i2⟩:=MW r b hb hr h2;rw [QA];cases hs:XI b a with
   | true =>
     obtain rfl:=(q2a hb ha).1 hs;rw [cond_true];exact ⟨i1,fun s=>by rw [i2];simp⟩
   | false =>
     rw [cond_false];have hne:a≠b:=fun e=>by
      rw [(q2a hb ha).2 e.symm] at hs;cases hs
     have hlt:=w4o ha hb (h1 b mem_cons_self) hne;refine ⟨?_,fun s=>by rw [mem_cons,i2,<- mem_cons (a:=s) (b:=a)]⟩;rw [pairwise_cons];refine ⟨fun s hsm => ?_,i1⟩;rcases List.mem_cons.1 hsm with rfl|hsm
     ·exact hlt
     ·exact q1k hlt ((List.pairwise_cons.1 i1).1 s hsm)
theorem z4q {l:List Step} (hok : ∀ s∈l,z9m s):(ZH l).Pairwise q1n ∧ ∀ s,s∈ZH l↔s∈l:=by
 have hp : ∀ s,s∈VP l↔s∈l:=fun s=>(PQ l).mem_iff;have hs:=ME l;unfold ZH;cases hq:VP l with
 | nil =>
   rw [hq] at hp;exact ⟨by simp [PW],fun s=>by rw [<- hp];simp [PW]⟩
 | cons a r =>
   rw [hq] at hp hs;have hok' : ∀ s∈a::r,z9m s:=fun s h=>hok s ((hp s).1 h);obtain ⟨h1,h2⟩:=MW r a (hok' a mem_cons_self) (fun s h=>hok' s (mem_cons_of_mem _ h)) hs;exact ⟨h1,fun s=>by rw [PW,h2,hp]⟩
theorem q9r : ∀ {l m:List Step},l.Pairwise q1n->m.Pairwise q1n->(∀ s,s∈l↔s∈m)->l=m
 | [],[],_,_,_=>rfl
 | [],b::m,_,_,h=>by have:=(h b).2 mem_cons_self;cases this
 | a::l,[],_,_,h=>by have:=(h a).1 mem_cons_self;cases this
 | a::l,b::m,hl,hm,h=>by
   rw [pairwise_cons] at hl hm;have hab:a=b:=by
    rcases List.mem_cons.1 ((h a).1 mem_cons_self) with e|ha
    ·exact e
    ·rcases List.mem_cons.1 ((h b).2 mem_cons_self) with e|hb
     ·exact e.symm
     ·exact (GC (q1k (hl.1 b hb) (hm.1 a ha))).elim
   subst hab;congr 1;refine q9r hl.2 hm.2 fun s=>⟨fun hs => ?_,fun hs => ?_⟩
   ·rcases List.mem_cons.1 ((h s).1 (mem_cons_of_mem _ hs)) with rfl|h'
    ·exact (GC (hl.1 _ hs)).elim
    ·exact h'
   ·rcases List.mem_cons.1 ((h s).2 (mem_cons_of_mem _ hs)) with rfl|h'
    ·exact (GC (hm.1 _ hs)).elim
    ·exact h'
theorem x4i {p:Pg} (h:QO p=true) {j:Nat} {f:Pr} (hj:p.procs[j]? = some f) : ∀ s∈QK p j f,z9m s:=by
 obtain ⟨_,_,h3⟩:=NW h hj;intro s hs;refine ⟨h3 s hs,?_⟩;unfold QK at hs;rcases List.mem_cons.1 hs with rfl|hs
 ·rfl
 ·obtain ⟨it,_,hz⟩:=List.mem_flatMap.1 hs;obtain ⟨y,_,rfl⟩:=List.mem_map.1 hz;rfl
theorem LQ {p:Pg} (h:QO p=true) {j:Nat} {f:Pr} (hj:p.procs[j]? = some f):(QQ p j f).real.Pairwise q1n ∧ ∀ s,s∈(QQ p j f).real↔s∈QK p j f:=z4q (x4i h hj)
theorem w1y {p:Pg} (h:QO p=true) {j:Nat} {f:Pr} (hj:p.procs[j]? = some f) {s:Step} (hs:s∈QK p j f):s=⟨0,v2r p j f,1⟩∨(1<=s.src∧s.src<=9223372036854775806):=by
 obtain ⟨_,_,hcn⟩:=ZZ h;obtain ⟨_,_,_,hlen,hsp⟩:=QJ p;obtain ⟨_,_,hle,_⟩:=hsp j f hj;unfold QK at hs;rcases List.mem_cons.1 hs with rfl|hs
 ·exact .inl rfl
 ·obtain ⟨it,hit,hz⟩:=List.mem_flatMap.1 hs;obtain ⟨y,_,rfl⟩:=List.mem_map.1 hz;have:=WT (QP h).1 hj (x1q hit);refine .inr ?_;simp only;omega
def z7f (p:Pg):Bool:=decide (gPg p<=20000)
theorem w4k {p:Pg} (h:z7f p=true):Fit p:=by
 have:=w9o p;have h1:gPg p<=20000:=by simpa [z7f] using h
 unfold Fit;omega
theorem QE (p:Pg):SpecP Tryz.prog 16 [.agg p.cells] (fun r=>r = .bool (z7f p)):=by
 refine sB PO Tryz.func16 rfl Tryz.call16 ?_;conv=>whnf
 have hl:(p.procs.map fun f=>AV.agg f.cells).length=p.procs.length:=length_map _;have q0:=XT (a:=0+BF p.globals) (by omega);repeat' (refine CallK.pure (XD p.globals 0 (by omega)) (.cons (Sub.refl _) (.cons (Sub.refl _) .nil)) ?_;rintro _ rfl;conv=>whnf)
 refine LoopK.inv QY (fun y:Nat×Int=>⟨[(1,.p (.ip p.cells)),(3,.p (.int .i64 y.2)),(4,.p (.int .i64 y.1))],[]⟩) (fun y=>y.1<=p.procs.length∧(0<=y.2∧y.2<=20001)∧XU (y.2+x8h (p.procs.drop y.1))=XU (gPg p:Nat)) (fun y=>p.procs.length-y.1) (0,XU (0+BF p.globals)) (Le.of_eq rfl) ⟨zero_le _,q0,by
  show XU (XU (0+BF p.globals)+x8h p.procs)=_;rw [XS (by omega)];congr 1;unfold gPg;omega⟩ ?_
 rintro ⟨j,m⟩ ⟨h2,h3,h4⟩;simp only at h2 h3 h4 ⊢;have last : ∀ {x:Int},0<=x∧x<=20001->XU x=XU (gPg p:Nat)->(decide (x<=20000))=z7f p:=fun {x} hx h=>by
  unfold z7f;unfold XU at h;by_cases h1:gPg p<=20000
  ·rw [decide_eq_true h1,decide_eq_true_eq];split at h<;>split at h<;>omega
  ·rw [decide_eq_false h1,decide_eq_false_iff_not];split at h<;>split at h<;>omega
 rcases Nat.lt_or_ge j p.procs.length with hj|hj;rotate_left 1
 ·rw [drop_eq_nil_of_le hj,x8h] at h4;conv=>whnf
  repeat' (first|(refine iM fun _=>?_;conv=>whnf)|(apply bD<;>intro _<;>first|omega|conv=>whnf))
  all_goals exact RetK.bool (last h3 (by rw [<- h4];simp))
 rw [List.drop_eq_getElem_cons hj,x8h] at h4;have hpe:gPr p.procs[j]=1+p.procs[j].name.length+BF p.procs[j].vars+BF p.procs[j].fin+z9n p.procs[j].params+gL p.procs[j].body:=rfl;have q1:=XT (a:=m+(1+p.procs[j].name.length:Nat)) (by omega);have q2:=XT (a:=XU (m+(1+p.procs[j].name.length:Nat))+BF p.procs[j].vars) (by omega);have q3:=XT (a:=XU (XU (m+(1+p.procs[j].name.length:Nat))+BF p.procs[j].vars)+BF p.procs[j].fin) (by omega);conv=>whnf
 repeat' (first|((first|(refine iM fun _=>?_)|refine dA ?_|refine And.intro rfl ?_|(refine iA fun _=>?_)|refine cP (QM p.procs[j].name _ h3) ?_|refine cP (XD p.procs[j].vars _ q1) ?_|refine cP (XD p.procs[j].fin _ q2) ?_);conv=>whnf)|(apply bD<;>intro _<;>first|omega|conv=>whnf))
 rotate_left 1
 ·exact RetK.bool (last h3 (by rw [<- h4,<- UW (by omega) h3.2 (by omega),x1s h3.2]))
 have h5:XU (XU (XU (XU (m+(1+p.procs[j].name.length:Nat))+BF p.procs[j].vars)+BF p.procs[j].fin)+(z9n p.procs[j].params+(gL p.procs[j].body+x8h (p.procs.drop (j+1))):Nat))=XU (gPg p:Nat):=by
  rw [XS (by omega),Int.add_assoc,XS (by omega),Int.add_assoc,XS (by omega),<- h4,hpe];congr 1;omega
 generalize XU (XU (XU (m+(1+p.procs[j].name.length:Nat))+BF p.procs[j].vars)+BF p.procs[j].fin)=m0 at q3 h5 ⊢;have hal:(p.procs[j].params.map fun a=>AV.agg a.cells).length=p.procs[j].params.length:=length_map _;refine LoopK.inv QY (fun y:Nat×Int=>⟨[(1,.p (.ip p.cells)),(3,.p (.int .i64 y.2)),(4,.p (.int .i64 j)),(5,.p (.ip p.procs[j].cells)),(6,.p (.int .i64 y.1))],[]⟩) (fun y=>y.1<=p.procs[j].params.length∧(0<=y.2∧y.2<=20001)∧XU (y.2+(z9n (p.procs[j].params.drop y.1)+(gL p.procs[j].body+x8h (p.procs.drop (j+1))):Nat))=XU (gPg p:Nat)) (fun y=>p.procs[j].params.length-y.1) (0,m0) (Le.of_eq rfl) ⟨zero_le _,q3,h5⟩ ?_;rintro ⟨a,m2⟩ ⟨h6,h7,h8⟩;simp only at h6 h7 h8 ⊢;have fin:XU (m2+(gL p.procs[j].body+x8h (p.procs.drop (j+1)):Nat))=XU (gPg p:Nat)->(0<=XU (m2+gL p.procs[j].body)∧XU (m2+gL p.procs[j].body)<=20001)∧XU (XU (m2+gL p.procs[j].body)+x8h (p.procs.drop (j+1)))=XU (gPg p:Nat):=fun h=>by
  refine ⟨XT (by omega),?_⟩;rw [XS (by omega),<- h];congr 1;omega
 have full:m2>20000->XU (m2+(gL p.procs[j].body+x8h (p.procs.drop (j+1)):Nat))=XU (gPg p:Nat):=fun h=>by
  rw [<- h8,<- UW h h7.2 (by omega),<- UW h h7.2 (by omega)]
 rcases Nat.lt_or_ge a p.procs[j].params.length with ha|ha;rotate_left 1
 ·have h9:XU (m2+(gL p.procs[j].body+x8h (p.procs.drop (j+1)):Nat))=XU (gPg p:Nat):=by
   rw [drop_eq_nil_of_le ha,z9n,Nat.zero_add] at h8;exact h8
  obtain ⟨f1,f2⟩:=fin h9;conv=>whnf
  repeat' (first|((first|(refine iM fun _=>?_)|refine wI ?_|(refine CallK.pure (VZ (gL p.procs[j].body+1) p.procs[j].body (by omega) m2 h7) (.cons (Sub.refl _) (.cons (Sub.refl _) .nil)) ?_;rintro _ rfl));conv=>whnf)|(apply bD<;>intro _<;>first|omega|conv=>whnf))
  all_goals exact ⟨(j+1,XU (m2+gL p.procs[j].body)),⟨by simp only;omega,f1,f2⟩,by simp only;omega,Le.of_eq rfl⟩
 rw [List.drop_eq_getElem_cons ha,z9n] at h8;conv=>whnf
 repeat' (first|((first|(refine iM fun _=>?_)|(refine iA fun _=>?_)|refine wI ?_|refine cP (QM p.procs[j].params[a].name _ h7) ?_|(refine CallK.pure (VZ (gL p.procs[j].body+1) p.procs[j].body (by omega) m2 h7) (.cons (Sub.refl _) (.cons (Sub.refl _) .nil)) ?_;rintro _ rfl));conv=>whnf)|(apply bD<;>intro _<;>first|omega|conv=>whnf))
 ·have h10:XU (XU (m2+(1+p.procs[j].params[a].name.length:Nat))+(z9n (p.procs[j].params.drop (a+1))+(gL p.procs[j].body+x8h (p.procs.drop (j+1))):Nat))=XU (gPg p:Nat):=by
   rw [XS (by omega),<- h8];congr 1;omega
  exact ⟨(a+1,XU (m2+(1+p.procs[j].params[a].name.length:Nat))),⟨by simp only;omega,XT (by omega),h10⟩,by simp only;omega,Le.of_eq rfl⟩
 ·obtain ⟨f1,f2⟩:=fin (full (by omega));exact ⟨(j+1,XU (m2+gL p.procs[j].body)),⟨by simp only;omega,f1,f2⟩,by simp only;omega,Le.of_eq rfl⟩
inductive SubE:List AV->List AV->Prop
 | nil:SubE [] []
 | cons {a b:AV} {xs ys:List AV} (h:SubL a.cells b.cells) (hs:SubE xs ys):SubE (a::xs) (b::ys)
theorem SubE.get {xs ys:List AV} (h:SubE xs ys):xs.length=ys.length ∧ ∀ (i:Nat) (b:AV),ys[i]? = some b -> ∃ a,xs[i]? = some a∧SubL a.cells b.cells:=by
 induction h with
 | nil=>exact ⟨rfl,by simp⟩
 | cons h hs ih =>
   refine ⟨by simp [ih.1],fun i b hb => ?_⟩;cases i with
   | zero=>simp at hb;subst hb;exact ⟨_,rfl,h⟩
   | succ i=>exact ih.2 i b (by simpa using hb)
theorem Sub.sl {xs ys:List AV} (h:SubE xs ys):Sub (.sl xs) (.sl ys):=fun σ v hr=>by
 obtain ⟨hl,hg⟩:=h.get;cases hr with
 | nilsl =>
   obtain rfl:ys=[]:=by simpa using hl.symm
   exact .nilsl
 | slz b =>
   obtain rfl:ys=[]:=by simpa using hl.symm
   exact .slz b
 | sl _ b off cap sz cells u hb hcap hmax hsz hc hrr =>
   rw [hl];refine .sl ys b off cap sz cells u hb (by omega) hmax (fun i e hi => ?_) (fun i e j c hi hj => ?_) (fun i e j c hi hj => ?_)
   ·obtain ⟨a,h1,h2⟩:=hg i e hi;rw [<- hsz i a h1,h2.1]
   ·obtain ⟨a,h1,h2⟩:=hg i e hi;obtain ⟨d,h3,_⟩:=h2.get hj;exact hc i a j d h1 h3
   ·obtain ⟨a,h1,h2⟩:=hg i e hi;obtain ⟨d,h3,h4⟩:=h2.get hj;exact h4 _ _ (hrr i a j d h1 h3)
theorem HW (n:Int):SpecP Tryz.prog 140 [.int .i64 n] (fun r=>r = .agg (X.mk 1 n [] []).cells):=by
 refine sB MI Tryz.func140 rfl Tryz.call140 ?_;conv=>whnf
 repeat' (refine And.intro rfl ?_;conv=>whnf)
 exact ⟨_,.p (Sub.agg (by repeat' (first|exact SubL.nil|refine SubL.cons ?_ ?_|exact Sub.refl _|exact Sub.nils|exact Sub.ff rfl))),rfl⟩
theorem KM (s:Str):SpecP Tryz.prog 141 [.str s] (fun r=>r = .agg (X.mk 2 0 s []).cells):=by
 refine sB BM Tryz.func141 rfl Tryz.call141 ?_;conv=>whnf
 repeat' (refine And.intro rfl ?_;conv=>whnf)
 exact ⟨_,.p (Sub.agg (by repeat' (first|exact SubL.nil|refine SubL.cons ?_ ?_|exact Sub.refl _|exact Sub.nils|exact Sub.ff rfl))),rfl⟩
theorem WB (op:Int) (a b:X):SpecP Tryz.prog 142 [.int .i64 op,.agg a.cells,.agg b.cells] (fun r=>r = .agg (X.mk op 0 [] [a,b]).cells):=by
 refine sB NE Tryz.func142 rfl Tryz.call142 ?_;conv=>whnf
 repeat' ((first|refine And.intro rfl ?_|refine aD ?_|refine YT rfl rfl ?_);conv=>whnf)
 have e:X.avs [a,b]=[.agg a.cells,.agg b.cells]:=by simp only [X.avs,X.av_eq]
 exact ⟨_,.p (Sub.agg (SubL.cons (Sub.refl _) (SubL.cons (Sub.refl _) (SubL.cons (Sub.refl _) (SubL.cons (Sub.of_eq (by show _=AV.sl (X.avs [a,b]);rw [e];rfl)) SubL.nil))))),rfl⟩
def bs (l:List Nat):Str:=l.map fun n=>UInt8.ofNat n
def someP:Pg:=⟨[[103]],[
 ⟨[109,97,105,110],[],[[118]],[
   .mk 1 1 [] [118] [] (.mk 1 2 [] []) false [] [] [],
   .mk 2 4 [] [103] [112] (.mk 0 0 [] []) false [⟨false,[],.mk 1 3 [] []⟩,⟨true,[118],.mk 0 0 [] []⟩] [] [],
   .mk 3 3 [] [] [] (.mk 2 0 [118] []) false [] [] [],
   .mk 4 3 [] [] [] (.mk 2 0 [103] []) false [] [] []],[]⟩,
 ⟨[112],[⟨[120],false⟩,⟨[121],true⟩],[],[
   .mk 5 1 [] [121] [] (.mk 8 0 [] [.mk 2 0 [121] [],.mk 2 0 [120] []]) false [] [] [],
   .mk 6 5 [] [] [] (.mk 12 0 [] [.mk 2 0 [121] [],.mk 1 9 [] []]) false [] [.mk 7 10 [] [101] [] (.mk 0 0 [] []) false [] [] []] [],
   .mk 8 9 [] [] [] (.mk 2 0 [121] []) true [] [] []],[[101]]⟩]⟩
theorem q1p:SpecP Tryz.prog 78 [] (fun r=>r = .agg someP.cells):=by
 refine sB YX Tryz.func78 rfl Tryz.call78 ?_;conv=>whnf
 repeat' ((first|refine cP (HW _) ?_|refine cP (KM _) ?_|refine And.intro rfl ?_|refine aD ?_|refine bP ?_|refine YT rfl rfl ?_|refine cP (WB 8 (.mk 2 0 [121] []) (.mk 2 0 [120] [])) ?_|refine cP (WB 12 (.mk 2 0 [121] []) (.mk 1 9 [] [])) ?_);conv=>whnf)
 exact ⟨_,.p (Sub.agg (by repeat' (first|exact SubL.nil|exact SubE.nil|exact Sub.nils|exact Sub.ff rfl|exact Sub.tt rfl|refine SubL.cons ?_ ?_|refine SubE.cons ?_ ?_|exact Sub.refl _|refine Sub.agg ?_|refine Sub.sl ?_))),rfl⟩
theorem x3p:Fit someP:=by unfold Fit;decide
theorem x3k:QO someP=true:=by kernel_rfl
def f0:Pr:=someP.procs[0]'(by decide)
def f1:Pr:=someP.procs[1]'(by decide)
theorem w8t:ZH (QK someP 0 f0)=[⟨0,1,1⟩,⟨1,2,1⟩,⟨2,3,1⟩,⟨3,4,1⟩,⟨4,-1,1⟩]:=by
 have h1:QK someP 0 f0=[⟨0,1,1⟩,⟨1,2,1⟩,⟨2,3,1⟩,⟨3,4,1⟩,⟨4,-1,1⟩]:=by kernel_rfl
 unfold ZH VP;rw [h1,List.mergeSort_of_pairwise (by decide)];rfl
theorem w8g:ZH (QK someP 1 f1)=[⟨0,5,1⟩,⟨5,6,1⟩,⟨6,7,1⟩,⟨6,8,1⟩,⟨7,-1,1⟩,⟨8,-1,1⟩]:=by
 have h1:QK someP 1 f1=[⟨0,5,1⟩,⟨5,6,1⟩,⟨6,7,1⟩,⟨6,8,1⟩,⟨7,-1,1⟩,⟨8,-1,1⟩]:=by kernel_rfl
 unfold ZH VP;rw [h1,List.mergeSort_of_pairwise (by decide)];rfl
def x7h (n k:Int):Int:=if k<1 then 0 else if n.tmod k<0 then n.tmod k+k else n.tmod k
theorem q4d {n k:Int} (hk:0<k):0<=x7h n k∧x7h n k<k:=by
 unfold x7h;have h1:=Int.tmod_lt_of_pos n hk;have h2 : -k<n.tmod k:=by
  rcases Int.le_total 0 n with h|h
  ·have:=Int.tmod_nonneg k h;omega
  ·have h3:=Int.tmod_lt_of_pos (-n) hk;rw [Int.neg_tmod] at h3;omega
 rw [if_neg (by omega)];split<;>omega
theorem HJ (n k:Int) (hk:k<=1000000):SpecP Tryz.prog 77 [.int .i64 n,.int .i64 k] (fun r=>r = .int .i64 (x7h n k)):=by
 refine sB LP Tryz.func77 rfl Tryz.call77 ?_;conv=>whnf
 have h1:=fun h:0<k=>q4d (n:=n) h;repeat' (first|(refine And.intro (by omega) ?_;conv=>whnf)|(apply bD<;>intro _<;>first|omega|conv=>whnf))
 all_goals first
  | (refine Wr.i64 (by have:=h1 (by omega);unfold x7h at this;rw [if_neg (by omega),if_pos (by assumption)] at this;omega) (by have:=h1 (by omega);unfold x7h at this;rw [if_neg (by omega),if_pos (by assumption)] at this;omega) ?_
     conv=>whnf
     exact RetK.int (by unfold x7h;rw [if_neg (by assumption),if_pos (by assumption)]))
  | exact RetK.int (by unfold x7h;rw [if_pos (by assumption)])
  | exact RetK.int (by unfold x7h;rw [if_neg (by assumption),if_neg (by assumption)])
def w6c (l:List Int) (x:Int):Bool:=l.any fun y=>decide (x=y)
theorem q1y (l:List Int) (x:Int):SpecP Tryz.prog 101 [ZM l,.int .i64 x] (fun r=>r = .bool (w6c l x)):=by
 refine sB NU Tryz.func101 rfl Tryz.call101 ?_;conv=>whnf
 repeat' (refine iM fun _=>?_;conv=>whnf)
 have hl:(l.map (AV.int .i64)).length=l.length:=length_map _;refine LoopK.inv QY (fun j:Nat=>⟨[(1,.p (.int .i64 x)),(7,.p (ZM l)),(8,.p (.int .i64 (l.map (AV.int .i64)).length)),(9,.p (.int .i64 j))],[]⟩) (fun j=>j<=l.length∧(l.drop j).any (fun y=>decide (x=y))=w6c l x) (fun j=>l.length-j) 0 (Le.of_eq rfl) ⟨zero_le _,rfl⟩ ?_;rintro j ⟨h2,h3⟩;rcases Nat.lt_or_ge j l.length with hj|hj
 ·conv=>whnf
  repeat' (first|((first|(refine iA fun _=>?_)|refine wI ?_);conv=>whnf)|(apply bD<;>intro _<;>first|omega|conv=>whnf))
  all_goals first
   | exact RetK.tt (by rw [<- h3,q1t hj (by simp_all)])
   | exact ⟨j+1,⟨hj,by rw [LG hj (by simp;omega)];exact h3⟩,by omega,Le.of_eq rfl⟩
 ·conv=>whnf
  repeat' (apply bD<;>intro _<;>first|omega|conv=>whnf)
  exact RetK.ff (by rw [<- h3,GX hj])
def inS (l:List Str) (x:Str):Bool:=l.any fun y=>y==x
theorem XQ (l:List Str) (x:Str):SpecP Tryz.prog 41 [eStrs l,.str x] (fun r=>r = .bool (inS l x)):=by
 refine sB q0e Tryz.func41 rfl Tryz.call41 ?_;conv=>whnf
 repeat' (refine iM fun _=>?_;conv=>whnf)
 have hl:(l.map AV.str).length=l.length:=length_map _;refine LoopK.inv QY (fun j:Nat=>⟨[(0,.p (eStrs l)),(1,.p (.str x)),(7,.p (.int .i64 (l.map AV.str).length)),(8,.p (.int .i64 j))],[]⟩) (fun j=>j<=l.length∧(l.drop j).any (fun y=>y==x)=inS l x) (fun j=>l.length-j) 0 (Le.of_eq rfl) ⟨zero_le _,rfl⟩ ?_;rintro j ⟨h2,h3⟩;rcases Nat.lt_or_ge j l.length with hj|hj
 ·conv=>whnf
  repeat' (first|((first|(refine iA fun _=>?_)|refine wI ?_);conv=>whnf)|(apply bD<;>intro _<;>first|omega|conv=>whnf)|(apply bB<;>intro _<;>conv=>whnf))
  ·exact RetK.tt (by rw [<- h3,q1t hj (by assumption)])
  ·exact ⟨j+1,⟨hj,by rw [LG hj (by assumption)];exact h3⟩,by omega,Le.of_eq rfl⟩
 ·conv=>whnf
  repeat' (apply bD<;>intro _<;>first|omega|conv=>whnf)
  exact RetK.ff (by rw [<- h3,GX hj])
def NG (p:Pg) (n:Int):Str:=match p.procs[(x7h n p.procs.length).toNat]? with
 | some f=>f.name
 | none=>[]
theorem PR (p:Pg) (n:Int) (hp:p.procs.length<=20000):SpecP Tryz.prog 19 [.agg p.cells,.int .i64 n] (fun r=>r = .str (NG p n)):=by
 refine sB HE Tryz.func19 rfl Tryz.call19 ?_;conv=>whnf
 have hl:(p.procs.map fun f=>AV.agg f.cells).length=p.procs.length:=length_map _;have hr:=fun h:0<(p.procs.length:Int)=>q4d (n:=n) h;repeat' (first|((first|(refine iM fun _=>?_)|refine dA ?_|(refine CallK.pure (HJ n (p.procs.length:Int) (by omega)) (.cons (Sub.refl _) (.cons (Sub.int (by omega)) .nil)) ?_;rintro _ rfl));conv=>whnf)|(apply bD<;>intro _<;>first|omega|conv=>whnf))
 ·refine RetK.p ?_;have h0:p.procs=[]:=List.length_eq_zero_iff.1 (by omega);unfold NG;rw [h0];rfl
 ·obtain ⟨h1,h2⟩:=hr (by omega);have hlt:(x7h n p.procs.length).toNat<p.procs.length:=by omega
  refine IdxK.at (k:=(x7h n p.procs.length).toNat) (e := .agg p.procs[(x7h n p.procs.length).toNat].cells) (by omega) (by rw [List.getElem?_map,List.getElem?_eq_getElem hlt];rfl) rfl ?_;conv=>whnf
  skip
  exact RetK.p (by unfold NG;rw [List.getElem?_eq_getElem hlt])
theorem q4n {α β:Type} {f:α->β} : ∀ {l:List α},(l.map f).Nodup -> ∀ a∈l,∀ b∈l,f a=f b->a=b
 | [],_,a,ha,_,_,_=>by cases ha
 | c::r,h,a,ha,b,hb,e=>by
   rw [List.map_cons,List.nodup_cons] at h;rcases List.mem_cons.1 ha with ha1|ha1
   ·rcases List.mem_cons.1 hb with hb1|hb1
    ·rw [ha1,hb1]
    ·exact (h.1 (List.mem_map.2 ⟨b,hb1,by rw [<- e,ha1]⟩)).elim
   ·rcases List.mem_cons.1 hb with hb1|hb1
    ·exact (h.1 (List.mem_map.2 ⟨a,ha1,by rw [e,hb1]⟩)).elim
    ·exact q4n h.2 a ha1 b hb1 e
theorem q6y {α:Type} [DecidableEq α] : ∀ {l m:List α},l.Nodup->(∀ s∈l,s∈m)->l.length<=m.length
 | [],m,_,_=>zero_le _
 | a::r,m,h,hs=>by
   rw [List.nodup_cons] at h;have ha:=hs a mem_cons_self;have h1:=q6y (m:=m.erase a) h.2 fun s hsr=>(List.mem_erase_of_ne (fun e=>h.1 (by rw [<- e];exact hsr))).2 (hs s (mem_cons_of_mem _ hsr));rw [List.length_erase_of_mem ha] at h1;have:=List.length_pos_of_mem ha;simp only [List.length_cons];omega
theorem z4v (n c:Nat):(KE n c).Nodup:=by
 unfold KE Nodup;rw [List.pairwise_map];exact List.Pairwise.imp (fun h e=>h (by omega)) (List.nodup_range' (s:=n+1) (n:=c) (step:=1))
theorem z5m {p:Pg} (hm:YS p=true) {j:Nat} {f:Pr} (hj:p.procs[j]? = some f):(itsOf p j f).map (fun it=>it.s.id)=KE (QL p.procs j) (cntL f.body):=by
 rw [<- z4a hm hj,<- MJ (j:Nat) 0 (-1) 0 (QL p.procs j) f.body,List.map_map];rfl
theorem w7o {p:Pg} (hm:YS p=true) {j:Nat} {f:Pr} (hj:p.procs[j]? = some f) {a b:Item} (ha:a∈itsOf p j f) (hb:b∈itsOf p j f) (h:a.s.id=b.s.id):a=b :=
 q4n (f:=fun it:Item=>it.s.id) (by rw [z5m hm hj];exact z4v _ _) a ha b hb h
theorem w7c {p:Pg} {j:Nat} {f:Pr} {t:S} (h:t∈flL f.body) : ∃ it∈itsOf p j f,it.s=t:=by
 rw [<- MJ (j:Nat) 0 (-1) 0 (QL p.procs j) f.body] at h;obtain ⟨it,h1,h2⟩:=List.mem_map.1 h;exact ⟨it,h1,h2⟩
theorem w3z {l:List Step} (h:l.Pairwise q1n):l.Nodup:=h.imp fun h e=>by subst e;exact GC h
theorem w1n {n c:Nat} {a:Int} (h1:(n:Int)+1<=a) (h2:a<=(n+c:Nat)):a∈KE n c:=by
 unfold KE;refine List.mem_map.2 ⟨a.toNat,List.mem_range'.2 ⟨a.toNat-(n+1),by omega,by omega⟩,by omega⟩
inductive Rch {α:Type} (R:α->α->Prop) (a:α):α->Prop
 | refl:Rch R a a
 | tail {b c:α} (h:Rch R a b) (hr:R b c):Rch R a c
theorem Rch.trans {α:Type} {R:α->α->Prop} {a b c:α} (h:Rch R a b) (h':Rch R b c):Rch R a c:=by
 induction h' with
 | refl=>exact h
 | tail _ hr ih=>exact .tail ih hr
theorem Rch.head {α:Type} {R:α->α->Prop} {a b c:α} (hr:R a b) (h:Rch R b c):Rch R a c:=Rch.trans (.tail .refl hr) h
theorem Rch.mono {α:Type} {R R':α->α->Prop} (h : ∀ x y,R x y->R' x y) {a b:α} (hr:Rch R a b):Rch R' a b:=by
 induction hr with
 | refl=>exact .refl
 | tail _ hr ih=>exact .tail ih (h _ _ hr)
theorem Rch.closed {α:Type} {R:α->α->Prop} {S:α->Prop} (hS : ∀ x y,S x->R x y->S y) {a b:α} (ha:S a) (h:Rch R a b):S b:=by
 induction h with
 | refl=>exact ha
 | tail _ hr ih=>exact hS _ _ ih hr
structure WkM (n:Nat) (st:List Bool×List Int):Prop where
 inv:wkInv n st
 mem : ∀ x,x∈st.2↔(0<=x∧x<n)∧st.1.getD x.toNat false=true
theorem WkM.start (n:Nat):WkM n (List.replicate n false,[]):=⟨PU n,fun x=>by
 simp only [not_mem_nil,false_iff,not_and];intro _;rw [getD_eq_getElem?_getD,List.getElem?_replicate];split<;>simp⟩
theorem WkM.see {n:Nat} {st:List Bool×List Int} (h:WkM n st) {b:Int} (hb:0<=b∧b<n):WkM n (JJ st b)∧(∀ x,x∈(JJ st b).2↔x∈st.2∨x=b)∧st.2 <+: (JJ st b).2:=by
 have hi:=NR h.inv hb;cases hs:st.1.getD b.toNat false with
 | true =>
   have e:JJ st b=st:=by unfold JJ;rw [hs];rfl
   rw [e];refine ⟨h,fun x=>⟨.inl,fun hx => ?_⟩,List.prefix_refl _⟩;rcases hx with hx|rfl
   ·exact hx
   ·exact (h.mem _).2 ⟨hb,hs⟩
 | false =>
   have e:JJ st b=(st.1.set b.toNat true,st.2++[b]):=by unfold JJ;rw [hs];rfl
   rw [e] at hi ⊢;have hlen:=h.inv.1;refine ⟨⟨hi,fun x => ?_⟩,fun x=>by simp,List.prefix_append _ _⟩;rw [List.mem_append,List.mem_singleton,h.mem];simp only [getD_eq_getElem?_getD,List.getElem?_set];by_cases hx:x=b
   ·subst hx;rw [if_pos rfl,if_pos (by omega)];simp [hb]
   ·constructor
    ·rintro (⟨h1,h2⟩|h2)
     ·refine ⟨h1,?_⟩;rw [if_neg (by omega)];exact h2
     ·exact absurd h2 hx
    ·rintro ⟨h1,h2⟩;rw [if_neg (by omega)] at h2;exact .inl ⟨h1,h2⟩
theorem WkM.fold {n:Nat} : ∀ (l:List Int) {st:List Bool×List Int},WkM n st->(∀ b∈l,0<=b∧b<n)->WkM n (l.foldl JJ st)∧(∀ x,x∈(l.foldl JJ st).2↔x∈st.2∨x∈l)∧st.2 <+: (l.foldl JJ st).2
 | [],st,h,_=>⟨h,fun x=>by simp,List.prefix_refl _⟩
 | b::r,st,h,hl=>by
   obtain ⟨h1,h2,h3⟩:=h.see (hl b mem_cons_self);obtain ⟨h4,h5,h6⟩:=WkM.fold r h1 fun c hc=>hl c (mem_cons_of_mem _ hc);refine ⟨h4,fun x => ?_,h3.trans h6⟩;rw [foldl_cons,h5,h2,mem_cons,or_assoc]
def x3q (rows:List (List Int)) (x y:Int):Prop:=y∈rows.getD x.toNat []
theorem FC {n:Nat} {rows:List (List Int)} (hr:XG n rows) {x y:Int} (h:x3q rows x y):0<=y∧y<n:=by
 unfold x3q at h;rw [getD_eq_getElem?_getD] at h;cases hq:rows[x.toNat]? with
 | none=>rw [hq] at h;simp at h
 | some r=>rw [hq] at h;exact hr.2 r (List.mem_of_getElem? hq) y h
theorem q8e {α:Type} {l m:List α} (h:l <+: m) {i:Nat} {a:α} (ha:l[i]? = some a):m[i]? = some a:=by
 obtain ⟨t,rfl⟩:=h;rw [List.getElem?_append_left (List.getElem?_eq_some_iff.1 ha).1];exact ha
theorem q5e {n:Nat} {rows:List (List Int)} (hr:XG n rows) : ∀ (k i:Nat) {st:List Bool×List Int},WkM n st->i<=st.2.length->n+1<=k+i->(∀ (m:Nat) (a:Int),m<i->st.2[m]? = some a -> ∀ b,x3q rows a b->b∈st.2) ->
  WkM n (XA rows k i st)∧(∀ x∈st.2,x∈(XA rows k i st).2)∧(∀ x∈(XA rows k i st).2,∀ b,x3q rows x b->b∈(XA rows k i st).2)∧(∀ S:Int->Prop,(∀ x∈st.2,S x)->(∀ x b,S x->x3q rows x b->S b) -> ∀ x∈(XA rows k i st).2,S x)
 | 0,i,st,h,hi,hk,_=>by
   have:=HS h.inv;omega
 | k+1,i,st,h,hi,hk,hc=>by
   rw [XA];split
   ·rename_i a ha;have hlt:=(List.getElem?_eq_some_iff.1 ha).1;have hrow : ∀ b∈rows.getD a.toNat [],0<=b∧b<n:=fun b hb=>FC hr hb;obtain ⟨h1,h2,h3⟩:=h.fold (rows.getD a.toNat []) hrow;obtain ⟨h4,h5,h6,h7⟩:=q5e hr k (i+1) h1 (Nat.le_trans hlt h3.length_le) (by omega) fun m c hm hmc b hb=>by
     rw [h2];rcases Nat.lt_or_ge m i with hmi|hmi
     ·have hml:m<st.2.length:=by omega
      have hmc':st.2[m]? = some c:=by
       have:=q8e h3 (List.getElem?_eq_getElem hml);rw [List.getElem?_eq_getElem hml,<- this,hmc]
      exact .inl (hc m c hmi hmc' b hb)
     ·obtain rfl:m=i:=by omega
      have:=q8e h3 ha;rw [this] at hmc;cases hmc;exact .inr hb
    refine ⟨h4,fun x hx=>h5 x ((h2 x).2 (.inl hx)),h6,fun S hS hcl=>h7 S (fun x hx => ?_) hcl⟩;rcases (h2 x).1 hx with hx|hx
    ·exact hS x hx
    ·exact hcl a x (hS a (List.mem_of_getElem? ha)) hx
   ·rename_i ha;have hlen:st.2.length<=i:=List.getElem?_eq_none_iff.1 ha;refine ⟨h,fun x hx=>hx,fun x hx b hb => ?_,fun S hS _=>hS⟩;obtain ⟨m,hm⟩:=List.mem_iff_getElem?.1 hx;exact hc m x (by have:=(List.getElem?_eq_some_iff.1 hm).1;omega) hm b hb
theorem q0c {n:Nat} : ∀ (l:List Int) {st:List Bool×List Int},WkM n st->WkM n (l.foldl (fun st a=>bif ZG n a then JJ st a else st) st) ∧ ∀ x,x∈(l.foldl (fun st a=>bif ZG n a then JJ st a else st) st).2↔x∈st.2∨(x∈l∧ZG n x=true)
 | [],st,h=>⟨h,fun x=>by simp⟩
 | a::r,st,h=>by
   rw [foldl_cons];cases hb:ZG n a with
   | true =>
     obtain ⟨h1,h2,_⟩:=h.see (XO hb);obtain ⟨h3,h4⟩:=q0c r h1;rw [cond_true];refine ⟨h3,fun x => ?_⟩;rw [h4,h2,mem_cons];constructor
     ·rintro ((h5|rfl)|⟨h5,h6⟩)
      ·exact .inl h5
      ·exact .inr ⟨.inl rfl,hb⟩
      ·exact .inr ⟨.inr h5,h6⟩
     ·rintro (h5|⟨rfl|h5,h6⟩)
      ·exact .inl (.inl h5)
      ·exact .inl (.inr rfl)
      ·exact .inr ⟨h5,h6⟩
   | false =>
     obtain ⟨h3,h4⟩:=q0c r h;rw [cond_false];refine ⟨h3,fun x => ?_⟩;rw [h4,mem_cons];constructor
     ·rintro (h5|⟨h5,h6⟩)
      ·exact .inl h5
      ·exact .inr ⟨.inr h5,h6⟩
     ·rintro (h5|⟨rfl|h5,h6⟩)
      ·exact .inl h5
      ·rw [hb] at h6;cases h6
      ·exact .inr ⟨h5,h6⟩
theorem z0t : ∀ (l:List Bool) (i:Nat) (y:Int),y∈HX i l ↔ ∃ k:Nat,l[k]? = some true∧y=((i+k:Nat):Int)
 | [],i,y=>by simp [HX]
 | b::r,i,y=>by
   have ih:=z0t r (i+1) y;have key:(∃ k:Nat,(b::r)[k]? = some true∧y=((i+k:Nat):Int))↔(b=true∧y=(i:Int)) ∨ ∃ k:Nat,r[k]? = some true∧y=((i+1+k:Nat):Int):=by
    constructor
    ·rintro ⟨k,h1,h2⟩;cases k with
     | zero=>simp at h1;exact .inl ⟨h1,by simpa using h2⟩
     | succ k=>exact .inr ⟨k,by simpa using h1,by rw [h2];omega⟩
    ·rintro (⟨h1,h2⟩|⟨k,h1,h2⟩)
     ·exact ⟨0,by simp [h1],by simpa using h2⟩
     ·exact ⟨k+1,by simpa using h1,by rw [h2];omega⟩
   rw [key,<- ih,HX];cases b<;>simp
theorem x6l {n:Nat} {rows:List (List Int)} (hr:XG n rows) (l:List Int) (y:Int):y∈HX 0 (ZU rows l) ↔ ∃ a∈l,ZG n a=true∧Rch (x3q rows) a y:=by
 obtain ⟨h1,h2⟩:=q0c (n:=n) l (WkM.start n);obtain ⟨h3,h4,h5,h6⟩:=q5e hr (rows.length+1) 0 (st:=HI rows.length l) (by rw [hr.1];exact h1) (zero_le _) (by rw [hr.1];omega) (fun m a hm=>by omega);have hst : ∀ x,x∈(HI rows.length l).2↔x∈l∧ZG n x=true:=fun x=>by
  rw [hr.1];unfold HI;rw [h2];simp
 have hmem : ∀ y,y∈HX 0 (ZU rows l)↔y∈(XA rows (rows.length+1) 0 (HI rows.length l)).2:=fun y=>by
  rw [z0t,h3.mem];show (∃ k:Nat,(XA rows (rows.length+1) 0 (HI rows.length l)).1[k]? = some true∧_)↔_;constructor
  ·rintro ⟨k,h7,h8⟩;have hlt:=(List.getElem?_eq_some_iff.1 h7).1;rw [h3.inv.1] at hlt;refine ⟨by omega,?_⟩;rw [h8,getD_eq_getElem?_getD];simp [h7]
  ·rintro ⟨h7,h8⟩;have hlt:y.toNat<(XA rows (rows.length+1) 0 (HI rows.length l)).1.length:=by rw [h3.inv.1];omega
   refine ⟨y.toNat,?_,by omega⟩;rw [getD_eq_getElem?_getD,List.getElem?_eq_getElem hlt] at h8;rw [List.getElem?_eq_getElem hlt];simpa using h8
 rw [hmem];constructor
 ·intro hy;refine h6 (fun y => ∃ a∈l,ZG n a=true∧Rch (x3q rows) a y) (fun x hx => ?_) (fun x b ⟨a,h7,h8,h9⟩ hb=>⟨a,h7,h8,.tail h9 hb⟩) y hy;obtain ⟨h7,h8⟩:=(hst x).1 hx;exact ⟨x,h7,h8,.refl⟩
 ·rintro ⟨a,h7,h8,h9⟩;exact h9.closed (S:=fun y=>y∈(XA rows (rows.length+1) 0 (HI rows.length l)).2) (fun x b hx hb=>h5 x hx b hb) (h4 a ((hst a).2 ⟨h7,h8⟩))
theorem x9o {l:List Int} {k:Nat} {b x:Int}:x∈q2y l k b↔x∈l∨x=b:=by
 unfold q2y;rw [List.mem_append,mem_cons];have:x∈l↔x∈l.take k∨x∈l.drop k:=by rw [<- List.mem_append,List.take_append_drop]
 rw [this];constructor
 ·rintro (h|h|h)
  ·exact .inl (.inl h)
  ·exact .inr h
  ·exact .inl (.inr h)
 ·rintro ((h|h)|h)
  ·exact .inl h
  ·exact .inr (.inr h)
  ·exact .inr (.inl h)
theorem w2v {n:Nat} {g:List (List Int)×List (List Int)} (hl:g.1.length=n) (e:Int×Int) {x y:Int} (hx:0<=x∧x<n):y∈(x3e n g e).1.getD x.toNat []↔y∈g.1.getD x.toNat []∨((x,y)=e∧ZG n y=true):=by
 rw [q4c];cases hc:(ZG n e.1&&ZG n e.2 && !(g.1.getD e.1.toNat []).contains e.2) with
 | true =>
   simp only [Bool.and_eq_true,Bool.not_eq_true'] at hc;obtain ⟨⟨h1,h2⟩,_⟩:=hc;have h3:=XO h1;rw [cond_true];unfold x0j;rw [getD_eq_getElem?_getD,List.getElem?_set];by_cases he:e.1.toNat=x.toNat
   ·rw [if_pos he,if_pos (by omega)];simp only [Option.getD_some];rw [x9o,<- he];have:x=e.1:=by omega
    constructor
    ·rintro (h|h)
     ·exact .inl h
     ·exact .inr ⟨by rw [this,h],by rw [h];exact h2⟩
    ·rintro (h|⟨h,_⟩)
     ·exact .inl h
     ·exact .inr (by rw [<- h])
   ·rw [if_neg he,<- getD_eq_getElem?_getD];constructor
    ·exact .inl
    ·rintro (h|⟨h,_⟩)
     ·exact h
     ·exact absurd (by rw [<- h]) he
 | false =>
   rw [cond_false];constructor
   ·exact .inl
   ·rintro (h|⟨rfl,h⟩)
    ·exact h
    ·have h1:ZG n x=true:=by unfold ZG;simp [hx]
     simp only [h1,h,Bool.true_and,Bool.not_eq_false'] at hc;simpa using hc
theorem z0i {n:Nat} {g:List (List Int)×List (List Int)} (hl:g.1.length=n) (e:Int×Int):(x3e n g e).1.length=n:=by
 rw [q4c];cases (ZG n e.1&&ZG n e.2 && !(g.1.getD e.1.toNat []).contains e.2) with
 | true=>rw [cond_true];unfold x0j;rw [List.length_set];exact hl
 | false=>exact hl
theorem x4u {n:Nat} {x y:Int} (hx:0<=x∧x<n) : ∀ (l:List (Int×Int)) {g:List (List Int)×List (List Int)},g.1.length=n->(y∈(l.foldl (x3e n) g).1.getD x.toNat []↔y∈g.1.getD x.toNat []∨((x,y)∈l∧ZG n y=true))
 | [],g,_=>by simp
 | e::r,g,h=>by
   rw [foldl_cons,x4u hx r (z0i h e),w2v h e hx,mem_cons];constructor
   ·rintro ((h1|⟨h1,h2⟩)|⟨h1,h2⟩)
    ·exact .inl h1
    ·exact .inr ⟨.inl h1,h2⟩
    ·exact .inr ⟨.inr h1,h2⟩
   ·rintro (h1|⟨h1|h1,h2⟩)
    ·exact .inl (.inl h1)
    ·exact .inl (.inr ⟨h1,h2⟩)
    ·exact .inr ⟨h1,h2⟩
theorem DD {n:Nat} {l:List (Int×Int)} {x y:Int} (hx:0<=x∧x<n):x3q (QS n l).1 x y↔(x,y)∈l∧ZG n y=true:=by
 unfold x3q QS;rw [x4u hx l (by simp)];have:(List.replicate n ([]:List Int)).getD x.toNat []=[]:=by
  rw [getD_eq_getElem?_getD,List.getElem?_replicate];split<;>rfl
 rw [this];simp
theorem q5c {n:Nat} {l:List (Int×Int)} (h0:0<n) (y:Int):y∈HX 0 (ZU (QS n l).1 [0])↔Rch (fun a b=>(a,b)∈l∧ZG n b=true) 0 y:=by
 rw [x6l (YB n l).1];have hs:ZG n 0=true:=by unfold ZG;simp;omega
 constructor
 ·rintro ⟨a,ha,_,h⟩;obtain rfl:a=0:=by simpa using ha
  exact (h.closed (S:=fun x:Int=>(0<=x∧x<n)∧Rch (fun a b=>(a,b)∈l∧ZG n b=true) 0 x) (fun x y ⟨h1,h2⟩ h3=>by
   have h4:=(DD h1).1 h3;exact ⟨XO h4.2,.tail h2 h4⟩) ⟨⟨by omega,by omega⟩,.refl⟩).2
 ·intro h;refine ⟨0,by simp,hs,?_⟩;exact (h.closed (S:=fun x:Int=>(0<=x∧x<n)∧Rch (x3q (QS n l).1) 0 x) (fun x y ⟨h1,h2⟩ h3=>⟨XO h3.2,.tail h2 ((DD h1).2 h3)⟩) ⟨⟨by omega,by omega⟩,.refl⟩).2
def stR (F:List Step) (a b:Int):Prop := ∃ s∈F,s.src=a∧s.dst=b
def plP (p:Pg) (j:Nat) (f:Pr) (x:Int):Prop:=x=0∨x = -1∨((QL p.procs j:Int)+1<=x∧x<=(QL p.procs j+cntL f.body:Nat))
def ixI (p:Pg) (j:Nat) (f:Pr) (x:Int):Int:=ZO (loI p j) (hiI p j f) (cntL f.body+2:Nat) x
theorem YY {p:Pg} {j:Nat} {f:Pr} {x:Int} (h:plP p j f x):0<=ixI p j f x∧ixI p j f x<(cntL f.body+2:Nat):=by
 unfold ixI ZO loI hiI;unfold plP at h
 (repeat' split)<;>omega
theorem HY {p:Pg} {j:Nat} {f:Pr} {x y:Int} (hx:plP p j f x) (hy:plP p j f y) (h:ixI p j f x=ixI p j f y):x=y:=by
 unfold ixI ZO loI hiI at h;unfold plP at hx hy
 (repeat' split at h)<;>omega
theorem x0x {p:Pg} {j:Nat} {f:Pr} {F:List Step} (hF : ∀ s∈F,plP p j f s.src∧plP p j f s.dst) {y:Int} (hy:plP p j f y) :
  ixI p j f y∈HX 0 (ZU (QS (cntL f.body+2) (F.map (ixP p j f (cntL f.body+2:Nat)))).1 [0])↔Rch (stR F) 0 y:=by
 rw [q5c (by omega)];have e0:ixI p j f 0=0:=by unfold ixI ZO;rw [if_pos rfl]
 have p0:plP p j f 0 := .inl rfl;constructor
 ·intro h;obtain ⟨z,h1,h2,h3⟩:=h.closed (S:=fun i => ∃ z,plP p j f z∧ixI p j f z=i∧Rch (stR F) 0 z) (by
   rintro a b ⟨z,h1,h2,h3⟩ ⟨h4,_⟩;obtain ⟨s,hs,he⟩:=List.mem_map.1 h4;obtain ⟨h5,h6⟩:=hF s hs;have e1:ixI p j f s.src=a:=congrArg Prod.fst he;have e2:ixI p j f s.dst=b:=congrArg Prod.snd he;have e3:s.src=z:=HY h5 h1 (by rw [e1,h2]);exact ⟨s.dst,h6,e2,.tail h3 ⟨s,hs,e3,rfl⟩⟩) ⟨0,p0,e0,.refl⟩
  rw [<- HY h1 hy h2];exact h3
 ·intro h;have:=h.closed (S:=fun z=>plP p j f z∧Rch (fun a b=>(a,b)∈F.map (ixP p j f (cntL f.body+2:Nat))∧ZG (cntL f.body+2) b=true) 0 (ixI p j f z)) (by
   rintro a b ⟨h1,h2⟩ ⟨s,hs,rfl,rfl⟩;obtain ⟨h5,h6⟩:=hF s hs;refine ⟨h6,.tail h2 ⟨List.mem_map.2 ⟨s,hs,rfl⟩,?_⟩⟩;have:=YY h6;unfold ZG;simp only [Bool.and_eq_true,decide_eq_true_eq];exact this) ⟨p0,by rw [e0];exact .refl⟩
  exact this.2
theorem ZY {p:Pg} (h:QO p=true) {j:Nat} {f:Pr} (hj:p.procs[j]? = some f) : ∀ s∈(QQ p j f).real,plP p j f s.src∧plP p j f s.dst:=fun s hs=>by
 obtain ⟨_,h2⟩:=LQ h hj;obtain ⟨_,h3,_⟩:=NW h hj;obtain ⟨h4,h5⟩:=h3 s ((h2 s).1 hs);unfold okI at h5;unfold plP;omega
def v1b (p:Pg) (k:Nat) (f:Pr) (E:List Str):Prop:=Rch (stR ((QQ p k f).real.filter (q7l p E))) 0 (-1)
theorem z4o {p:Pg} (h:QO p=true) {k:Nat} {f:Pr} (hj:p.procs[k]? = some f) (E:List Str):x2i (QQ p k f) f E=true↔v1b p k f E:=by
 unfold v1b;rw [<- x0x (p:=p) (j:=k) (f:=f) (fun s hs=>ZY h hj s (List.mem_filter.1 hs).1) (y := -1) (.inr (.inl rfl))];unfold x2i;rw [List.any_eq_true];have e1:ixI p k f (-1)=((cntL f.body+2:Nat):Int)-1:=by unfold ixI ZO;rw [if_neg (by omega),if_pos rfl]
 rw [e1];constructor
 ·rintro ⟨x,h1,h2⟩;have h2:((cntL f.body+2:Nat):Int)-1=x:=of_decide_eq_true h2;rw [h2];exact h1
 ·intro h1;exact ⟨_,h1,decide_eq_true rfl⟩
theorem w0q {l:List Str} (h:WI l=false):l.Nodup:=by
 unfold WI at h;rw [List.any_eq_false] at h;unfold Nodup;rw [List.pairwise_iff_getElem];intro i j hi hj hij he;have h1:=h j (List.mem_range.2 hj);apply h1;rw [List.any_eq_true];refine ⟨l[i],?_,?_⟩
 ·exact List.mem_iff_getElem.2 ⟨i,by simp;omega,by simp⟩
 ·rw [List.getElem?_eq_getElem hj];simp [he]
theorem q6h {p:Pg} (h:QO p=true):(QH p).Nodup:=by
 obtain ⟨hm,hs,_⟩:=QP h;unfold XX at hs;rw [hm,cond_true] at hs;cases hb:WR p with
 | true=>rw [hb] at hs;cases hs
 | false =>
   unfold WR at hb;simp only [Bool.or_eq_false_iff] at hb;exact w0q hb.2.1
theorem x2a {p:Pg} (h:QO p=true) {j k:Nat} {f g:Pr} (hj:p.procs[j]? = some f) (hk:p.procs[k]? = some g) (he:f.name=g.name):j=k∧f=g:=by
 have hn:=q6h h;have h1:(QH p)[j]? = some f.name:=by simp [QH,hj]
 have h2:(QH p)[k]? = some g.name:=by simp [QH,hk]
 rw [he] at h1;have hjl:=(List.getElem?_eq_some_iff.1 h1).1;obtain rfl:j=k:=(List.getElem?_inj hjl hn).1 (h1.trans h2.symm);rw [hj] at hk;exact ⟨rfl,Option.some.inj hk⟩
theorem z4k : ∀ (k:Nat) (l:List S) (_:cntL l<k) (_:cntL l<=1000000),SpecP Tryz.prog 84 [eSs l] (fun r=>r = .int .i64 (cntL l)):=by
 intro k;induction k with
 | zero=>intro l h;omega
 | succ k ih =>
   intro l hk hl;have hll:=S.avs_len l;have hlc:l.length<=cntL l:=by
    clear hk hl hll;induction l with
    | nil=>simp
    | cons t r ihr=>rw [cntL,ZA,List.length_cons];omega
   refine sB x4o Tryz.func84 rfl Tryz.call84 ?_;conv=>whnf
   repeat' (refine iM fun _=>?_;conv=>whnf)
   refine LoopK.inv QY (fun y:Nat×Nat=>⟨[(0,.p (eSs l)),(3,.p (.int .i64 y.2)),(8,.p (.int .i64 (S.avs l).length)),(9,.p (.int .i64 y.1))],[]⟩) (fun y=>y.1<=l.length∧y.2+cntL (l.drop y.1)=cntL l+(l.length-y.1)) (fun y=>l.length-y.1) (0,l.length) (Le.of_eq (by simp only [S.avs_len];rfl)) ⟨zero_le _,by simp;omega⟩ ?_;rintro ⟨j,n⟩ ⟨h2,h3⟩;simp only at h2 h3 ⊢;rcases Nat.lt_or_ge j l.length with hj|hj
   ·have hst:=MC hj;have hcs:=ZA l[j];have h4:cntL (l.drop j)<=cntL l:=by
     have : ∀ (l:List S) (j:Nat),cntL (l.drop j)<=cntL l:=fun l=>by
      induction l with
      | nil=>intro j;simp
      | cons t r ihr =>
        intro j;cases j with
        | zero=>simp
        | succ j=>rw [List.drop_succ_cons,cntL];have:=ihr j;omega
     exact this l j
    conv=>whnf
    repeat' (first|((first|refine dA ?_|refine QX (by omega) ?_|refine wI ?_|(refine CallK.pure (ih l[j].thn (by omega) (by omega)) (.cons (Sub.refl _) .nil) ?_;rintro _ rfl)|(refine CallK.pure (ih l[j].els (by omega) (by omega)) (.cons (Sub.refl _) .nil) ?_;rintro _ rfl));conv=>whnf)|(apply bD<;>intro _<;>first|omega|conv=>whnf))
    all_goals exact ⟨(j+1,n+(cntL l[j].thn+cntL l[j].els)),⟨by simp only;omega,by simp only;omega⟩,by simp only;omega,Le.of_eq rfl⟩
   ·conv=>whnf
    rw [drop_eq_nil_of_le hj,cntL] at h3;repeat' (apply bD<;>intro _<;>first|omega|conv=>whnf)
    exact RetK.int (by omega)
theorem z2o (p:Pg) (hc:cntP p.procs<=1000):SpecP Tryz.prog 18 [.agg p.cells] (fun r=>r = .int .i64 (cntP p.procs)):=by
 refine sB x5z Tryz.func18 rfl Tryz.call18 ?_;conv=>whnf
 have hl2:(p.procs.map fun f=>AV.agg f.cells).length=p.procs.length:=length_map _;repeat' (refine iM fun _=>?_;conv=>whnf)
 refine LoopK.inv QY (fun y:Nat×Nat=>⟨[(3,.p (.int .i64 y.2)),(7,.p (.sl (p.procs.map fun f => .agg f.cells))),(8,.p (.int .i64 (p.procs.map fun f=>AV.agg f.cells).length)),(9,.p (.int .i64 y.1))],[]⟩) (fun y=>y.1<=p.procs.length∧y.2+cntP (p.procs.drop y.1)=cntP p.procs) (fun y=>p.procs.length-y.1) (0,0) (Le.of_eq rfl) ⟨zero_le _,by simp⟩ ?_;rintro ⟨j,n⟩ ⟨h2,h3⟩;simp only at h2 h3 ⊢;rcases Nat.lt_or_ge j p.procs.length with hj|hj
 ·have hst:=q4p hj;have hcm:=x3d _ _ (List.getElem_mem hj);conv=>whnf
  repeat' (first|((first|refine And.intro rfl ?_|(refine iA fun _=>?_)|refine wI ?_|(refine CallK.pure (z4k (cntL p.procs[j].body+1) p.procs[j].body (by omega) (by omega)) (.cons (Sub.refl _) .nil) ?_;rintro _ rfl));conv=>whnf)|(apply bD<;>intro _<;>first|omega|conv=>whnf))
  exact ⟨(j+1,n+cntL p.procs[j].body),⟨by simp only;omega,by simp only;omega⟩,by simp only;omega,Le.of_eq rfl⟩
 ·conv=>whnf
  rw [drop_eq_nil_of_le hj,cntP] at h3;repeat' (apply bD<;>intro _<;>first|omega|conv=>whnf)
  exact RetK.int (by omega)
def x0w (p:Pg) (most:Int):Bool:=QO p&&decide ((cntP p.procs:Int)<=most)
theorem XN {l:List Str} {x:Str}:inS l x=true↔x∈l:=by
 unfold inS;rw [List.any_eq_true];constructor
 ·rintro ⟨y,h1,h2⟩;have:y=x:=by simpa using h2
  rw [<- this];exact h1
 ·intro h;exact ⟨x,h,by simp⟩
theorem q4b {p:Pg} (h:QO p=true) {j:Nat} {f:Pr} (hj:p.procs[j]? = some f) {a:Int} (h1:(QL p.procs j:Int)+1<=a) (h2:a<=(QL p.procs j+cntL f.body:Nat)) : ∃ t∈flL f.body,z9l p a=some t∧t.id=a:=by
 obtain ⟨it,h3,h4⟩:=x6k hj (k:=(a-1).toNat) (by omega) (by omega);refine ⟨it.s,x1q h4,by unfold z9l;rw [h3];rfl,?_⟩;obtain ⟨_,_,_,hlen,hsp⟩:=QJ p;obtain ⟨_,_,hle,hd⟩:=hsp j f hj;have hids:=z5m (QP h).1 hj;have h5:(itsOf p j f)[(a-1).toNat-QL p.procs j]? = some it:=by
  unfold itsOf;rw [<- hd,List.getElem?_drop,List.getElem?_take,if_pos (by omega),show QL p.procs j+((a-1).toNat-QL p.procs j)=(a-1).toNat by omega];exact h3
 have h6:((itsOf p j f).map fun it=>it.s.id)[(a-1).toNat-QL p.procs j]? = some it.s.id:=by rw [List.getElem?_map,h5];rfl
 rw [hids] at h6;unfold KE at h6;rw [List.getElem?_map,List.getElem?_range' (by omega)] at h6;simp at h6;omega
theorem x8q {l:List Str} {s:Str} (h:s∈l):s∈Go.Lib.compact l:=by
 have key : ∀ (j:Nat) (hj:j<l.length),l[j]∈Go.Lib.compact l:=fun j=>by
  induction j with
  | zero =>
    intro hj;refine List.mem_map.2 ⟨0,List.mem_filter.2 ⟨by simpa using hj,by simp [Go.Lib.keeps]⟩,?_⟩;simp [hj]
  | succ j ih =>
    intro hj;cases hk:Go.Lib.keeps l.toArray (j+1) with
    | true =>
      refine List.mem_map.2 ⟨j+1,List.mem_filter.2 ⟨by simpa using hj,hk⟩,?_⟩;simp [hj]
    | false =>
      have hj':j<l.length:=by omega
      have:l[j+1]=l[j]:=by
       unfold Go.Lib.keeps at hk;simp [hj,hj'] at hk;exact hk
      rw [this];exact ih hj'
 obtain ⟨j,hj,rfl⟩:=List.mem_iff_getElem.1 h;exact key j hj
theorem q5z {l:List Str} {s:Str}:s∈Go.Lib.compact l↔s∈l:=⟨PX,x8q⟩
end Go.Ab
