/- The law of a program that may be: every step leads from a place to a place. -/
import Derived.Laws.StructEq
import Derived.ChangeKeysEq
import Derived.Test.YtiaikoimoonlmaaGreatCfgD7
import Derived.Test.YtiaikoimoonlmaaGreatCfgD10
import Derived.Test.YtiaikoimoonlmaaGreatCfgD13
import Derived.Test.YtiaikoimoonlmaaGreatCfgD15
set_option linter.unusedSimpArgs false
set_option linter.unusedVariables false
set_option maxRecDepth 100000
set_option maxHeartbeats 16000000
open List (Nodup drop_eq_nil_of_le foldl_cons getD_eq_getElem?_getD length_append length_map mem_cons mem_cons_of_mem mem_cons_self not_mem_nil)
open Nat (zero_le)
namespace Go.Ab
open Go.Proofs
theorem QY {p:Pg} (h:XS p=true):JA p=true∧(QM p).1=0∧(WW p).1=0∧(HM p).1=0∧(YS p).1=0:=by
 unfold XS x6s at h;simp only [decide_eq_true_eq] at h;by_cases h1:JA p=false
 ·rw [if_pos h1] at h;cases h
 rw [if_neg h1] at h;by_cases h2:(QM p).1=0
 ·rw [if_neg (by omega)] at h;by_cases h3:(WW p).1=0
  ·rw [if_neg (by omega)] at h;by_cases h4:(HM p).1=0
   ·rw [if_neg (by omega)] at h;exact ⟨by simpa using h1,h2,h3,h4,h⟩
   ·rw [if_pos h4] at h;exact absurd h h4
  ·rw [if_pos h3] at h;exact absurd h h3
 ·rw [if_pos h2] at h;exact absurd h h2
theorem q0v {f:Pr} : ∀ (l:List Item) (seen:List Str) {s:List Str},VI f l seen = .ok s -> ∀ it∈l,WG f it=true
 | [],_,_,_,it,h=>by cases h
 | a::r,seen,s,h,it,hi=>by
   rw [VI] at h;cases hj:WP seen a.s.labels with
   | none=>rw [hj] at h;cases h
   | some s1 =>
     rw [hj] at h;simp only at h;cases hl:WG f a with
     | false=>rw [hl] at h;cases h
     | true =>
       rw [hl,cond_true] at h;rcases List.mem_cons.1 hi with rfl|hi
       ·exact hl
       ·exact q0v r s1 h it hi
theorem q3x {p:Pg} (hs:(QM p).1=0) (h:(HM p).1=0) {j:Nat} {f:Pr} (hj:p.procs[j]? = some f) : ∀ it∈itsOf p j f,WG f it=true:=by
 unfold HM at h;rw [if_neg (by omega)] at h;have hn:(List.range p.procs.length).findSome? (VL p)=none:=by
  cases hq:(List.range p.procs.length).findSome? (VL p) with
  | none=>rfl
  | some a=>rw [hq] at h;cases h
 rw [List.findSome?_eq_none_iff] at hn;have hlt:j<p.procs.length:=(List.getElem?_eq_some_iff.1 hj).1;have:=hn j (List.mem_range.2 hlt);unfold VL at this;rw [hj] at this;simp only at this;cases hr:VI f (itL (j:Nat) 0 (-1) 0 (QR p.procs j) f.body) [] with
 | error id=>rw [hr] at this;cases this
 | ok seen=>exact q0v _ _ hr
mutual
theorem z3c : ∀ (t u v:S),u∈flS t->v∈u.thn∨v∈u.els->v∈flS t
 | .mk id kind labels name proc x has args thn els,u,v,h,hv=>by
   rw [flS] at h ⊢;rcases List.mem_cons.1 h with rfl|h
   ·refine mem_cons_of_mem _ (List.mem_append.2 ?_);rcases hv with hv|hv
    ·exact .inl (LD thn v hv)
    ·exact .inr (LD els v hv)
   ·rcases List.mem_append.1 h with h|h
    ·exact mem_cons_of_mem _ (List.mem_append.2 (.inl (LF thn u v h hv)))
    ·exact mem_cons_of_mem _ (List.mem_append.2 (.inr (LF els u v h hv)))
theorem LF : ∀ (l:List S) (u v:S),u∈flL l->v∈u.thn∨v∈u.els->v∈flL l
 | [],u,v,h,hv=>by rw [flL] at h;cases h
 | t::r,u,v,h,hv=>by
   rw [flL] at h ⊢;rcases List.mem_append.1 h with h|h
   ·exact List.mem_append.2 (.inl (z3c t u v h hv))
   ·exact List.mem_append.2 (.inr (LF r u v h hv))
end
theorem BS {p:Pg} {j:Nat} {f:Pr} {it:Item} (h:it∈itsOf p j f):it.s∈flL f.body:=by
 unfold itsOf at h;rw [<- BC (j:Nat) 0 (-1) 0 (QR p.procs j) f.body];exact List.mem_map.2 ⟨it,h,rfl⟩
theorem VT {p:Pg} (hm:JA p=true) {j:Nat} {f:Pr} (hj:p.procs[j]? = some f) {t:S} (h:t∈flL f.body):(QR p.procs j:Int)+1<=t.id∧t.id<=(QR p.procs j+cntL f.body:Nat):=by
 have h1:=x9t hm hj;have h2:t.id∈q6i (QR p.procs j) (cntL f.body):=by
  rw [<- h1];exact List.mem_map.2 ⟨t,h,rfl⟩
 have:=z3r h2;omega
theorem q6p {p:Pg} {j:Nat} {f:Pr} {it:Item} (h:it∈itsOf p j f):okI (QR p.procs j) (QR p.procs j+cntL f.body) it.next∧(it.loop=0∨((QR p.procs j:Int)+1<=it.loop∧it.loop<=(QR p.procs j+cntL f.body:Nat))) :=
 q5p (j:Nat) _ _ f.body 0 (-1) 0 _ it h (.inl rfl) (.inl rfl) (Nat.le_refl _) (Nat.le_refl _)
theorem JY {p:Pg} {j:Nat} {f:Pr} (hj:p.procs[j]? = some f) {k:Nat} (h1:QR p.procs j<=k) (h2:k<QR p.procs j+cntL f.body) : ∃ it,(sheetOf p).l[k]? = some it∧it∈itsOf p j f:=by
 obtain ⟨_,_,_,hlen,hsp⟩:=QV p;obtain ⟨_,_,hle,hd⟩:=hsp j f hj;have hk:k<(sheetOf p).l.length:=by omega
 refine ⟨(sheetOf p).l[k],List.getElem?_eq_getElem hk,?_⟩;unfold itsOf;rw [<- hd];refine List.mem_iff_getElem?.2 ⟨k-QR p.procs j,?_⟩;rw [List.getElem?_drop,List.getElem?_take,if_pos (by omega),show QR p.procs j+(k-QR p.procs j)=k by omega,List.getElem?_eq_getElem hk]
theorem z9a {p:Pg} (hm:JA p=true) {j:Nat} {f:Pr} (hj:p.procs[j]? = some f) {it:Item} (h:it∈itsOf p j f) (hl:WG f it=true) : ∀ x∈VB (sheetOf p) f it,okI (QR p.procs j) (QR p.procs j+cntL f.body) x:=by
 obtain ⟨hnx,hlo⟩:=q6p h;have hs:=BS h;have hid:=VT hm hj hs;have hhead : ∀ (l:List S) (o:Int),(∀ v∈l,v∈it.s.thn∨v∈it.s.els)->okI (QR p.procs j) (QR p.procs j+cntL f.body) o->okI (QR p.procs j) (QR p.procs j+cntL f.body) (HN l o):=fun l o hv ho=>by
  cases l with
  | nil=>exact ho
  | cons v r=>exact .inr (VT hm hj (LF f.body it.s v hs (hv v mem_cons_self)))
 have hloop:it.s.kind=7∨it.s.kind=8->(QR p.procs j:Int)+1<=it.loop∧it.loop<=(QR p.procs j+cntL f.body:Nat):=fun hk=>by
  unfold WG at hl;rw [if_pos hk] at hl;rcases hlo with h0|h0
  ·rw [h0] at hl;cases hl
  ·exact h0
 intro x hx;unfold VB at hx;split at hx
 ·simp only [mem_cons,not_mem_nil,or_false] at hx;rcases hx with rfl|rfl
  ·exact hhead _ _ (fun v hv => .inl hv) hnx
  ·exact hhead _ _ (fun v hv => .inr hv) hnx
 split at hx
 ·simp only [mem_cons,not_mem_nil,or_false] at hx;rcases hx with rfl|rfl
  ·exact hhead _ _ (fun v hv => .inl hv) (.inr hid)
  ·exact hnx
 split at hx
 ·rename_i hk;have hlp:=hloop (.inl hk);obtain ⟨u,hu1,hu2⟩:=JY hj (k:=(it.loop-1).toNat) (by omega) (by omega);rw [hu1] at hx;rw [List.mem_singleton.1 hx];exact (q6p hu2).1
 split at hx
 ·rename_i hk;rw [List.mem_singleton.1 hx];exact .inr (hloop (.inr hk))
 split at hx
 ·rw [List.mem_singleton.1 hx];exact .inl rfl
 split at hx
 ·rename_i h7 h8 _ hk;rw [List.mem_singleton.1 hx];unfold WG at hl;rw [if_neg (by omega),if_pos hk] at hl;unfold atB at hl ⊢;split
  ·rename_i t ht;exact .inr (VT hm hj (List.mem_of_find?_eq_some ht))
  ·rename_i hn;rw [hn] at hl;simp only at hl;cases hfin:f.fin.any fun s=>it.s.name==s with
   | true=>exact .inl rfl
   | false=>rw [hfin] at hl;cases hl
 ·rw [List.mem_singleton.1 hx];exact hnx
theorem NH {p:Pg} (h:XS p=true) {j:Nat} {f:Pr} (hj:p.procs[j]? = some f):(∀ it∈itsOf p j f,it.s.kind=7->1<=it.loop∧it.loop<=(sheetOf p).l.length) ∧
  (∀ s∈QH p j f,(s.src=0∨((QR p.procs j:Int)+1<=s.src∧s.src<=(QR p.procs j+cntL f.body:Nat)))∧okI (QR p.procs j) (QR p.procs j+cntL f.body) s.dst) ∧ ∀ s∈QH p j f,x6m s:=by
 obtain ⟨hm,hs,_,hjm,_⟩:=QY h;have hld:=q3x hs hjm hj;obtain ⟨_,_,_,hlen,hsp⟩:=QV p;obtain ⟨_,_,hle,_⟩:=hsp j f hj;obtain ⟨_,_,hcn⟩:=ZI hm;have key : ∀ s∈QH p j f,(s.src=0∨((QR p.procs j:Int)+1<=s.src∧s.src<=(QR p.procs j+cntL f.body:Nat)))∧okI (QR p.procs j) (QR p.procs j+cntL f.body) s.dst:=fun s hx=>by
  unfold QH at hx;rcases List.mem_cons.1 hx with rfl|hx
  ·refine ⟨.inl rfl,?_⟩;show okI _ _ (if QR p.procs j<QR p.procs j+cntL f.body then ((QR p.procs j:Nat)+1:Int) else -1);split
   ·exact .inr ⟨by omega,by omega⟩
   ·exact .inl rfl
  ·obtain ⟨it,hit,hz⟩:=List.mem_flatMap.1 hx;obtain ⟨y,hy,rfl⟩:=List.mem_map.1 hz;exact ⟨.inr (VT hm hj (BS hit)),z9a hm hj hit (hld it hit) y hy⟩
 refine ⟨fun it hit hk => ?_,key,fun s hx => ?_⟩
 ·have hl:=hld it hit;unfold WG at hl;rw [if_pos (.inl hk)] at hl;rcases (q6p hit).2 with h0|h0
  ·rw [h0] at hl;cases hl
  ·omega
 ·obtain ⟨h1,h2⟩:=key s hx;unfold x6m okI at *
  omega
def NA (p:Pg) (n:Str):Option Way:=bif XS p then (match p.procs.find? (fun f=>f.name==n) with
 | some f=>some (QL p (p.procs.findIdx fun f=>f.name==n) f)
 | none=>none) else none
def w6w:Option Way->AV
 | some w => .ip w.cells
 | none => .nilp
theorem VY {p:Pg} (h:XS p=true):p.globals.length<=16∧p.procs.length<=16∧VU p.procs<=200:=ZI (QY h).1
theorem x4a {p:Pg} {n:Str} (h : ¬n∈procsN p):idxF (fun f=>f.name==n) p.procs = -1∧p.procs.find? (fun f=>f.name==n)=none:=by
 have h1:p.procs.any (fun f=>f.name==n)=false:=by
  rw [List.any_eq_false];intro f hf hn;exact h (List.mem_map.2 ⟨f,hf,by simpa using hn⟩)
 refine ⟨by unfold idxF;rw [h1];rfl,?_⟩;rw [List.find?_eq_none];intro f hf;have:=List.any_eq_false.1 h1 f hf;simpa using this
theorem LC {p:Pg} {n:Str} (h:n∈procsN p) : ∃ (k:Nat) (hk:k<p.procs.length),idxF (fun f=>f.name==n) p.procs=k∧p.procs.findIdx (fun f=>f.name==n)=k∧p.procs.find? (fun f=>f.name==n)=some p.procs[k]∧p.procs[k].name=n:=by
 obtain ⟨k,hk,h1,h2,h3⟩:=q6e h;refine ⟨k,hk,h1,?_,h2,h3⟩;unfold idxF at h1;cases ha:p.procs.any (fun f=>f.name==n) with
 | true=>rw [ha,cond_true] at h1;omega
 | false=>rw [ha,cond_false] at h1;omega
theorem z0z (p:Pg) (hf:Fit p) (n:Str):SpecP Tryz.prog 93 [.agg p.cells,.str n] (fun r=>r=w6w (NA p n)):=by
 refine sB z4e Tryz.func93 rfl Tryz.call93 ?_;conv=>whnf
 cases hc:XS p with
 | false =>
   have e:NA p n=none:=by unfold NA;rw [hc];rfl
   have hA : ¬(x6s p).1=0:=by unfold XS at hc;simpa using hc
   rw [e];repeat' (first|(refine cP (ZD p hf) ?_;conv=>whnf)|(apply bE<;>intro _<;>first|omega|conv=>whnf))
   all_goals first
    | exact RetK.p rfl
    | (exfalso;exact hA (by assumption))
 | true =>
   obtain ⟨hg,hpl,hcn⟩:=VY hc;have hA:(x6s p).1=0:=by unfold XS at hc;simpa using hc
   have hsp:(sheetOf p).p.procs=p.procs:=by rw [(QV p).1]
   by_cases hn:n∈procsN p
   ·obtain ⟨k,hk,h1,h2,h3,h4⟩:=LC hn;have e:NA p n=some (QL p k p.procs[k]):=by unfold NA;rw [hc,h3,h2];rfl
    have hkj:p.procs[k]? = some p.procs[k]:=by simp
    obtain ⟨w1,_,w3⟩:=NH hc hkj;rw [e];repeat' (first|((first|refine cP (ZD p hf) ?_|refine cP (XT _ _) ?_|(refine CallK.pure (WF p (by omega) (by omega)) (.cons (Sub.refl _) .nil) ?_;rintro _ rfl)|(refine CallK.pure (z0b p k p.procs[k] hkj (by omega) w1 w3) (.cons (Sub.refl _) (.cons (Sub.int h1) .nil)) ?_;rintro _ rfl));conv=>whnf)|(apply bD<;>intro _<;>first|omega|conv=>whnf)|(apply bE<;>intro _<;>first|omega|conv=>whnf))
    all_goals rw [hsp] at *
    all_goals first
     | exact RetK.p rfl
     | (exfalso;omega)
   ·obtain ⟨h1,h2⟩:=x4a hn;have e:NA p n=none:=by unfold NA;rw [hc,h2];rfl
    rw [e];repeat' (first|((first|refine cP (ZD p hf) ?_|refine cP (XT _ _) ?_|(refine CallK.pure (WF p (by omega) (by omega)) (.cons (Sub.refl _) .nil) ?_;rintro _ rfl));conv=>whnf)|(apply bD<;>intro _<;>first|omega|conv=>whnf)|(apply bE<;>intro _<;>first|omega|conv=>whnf))
    all_goals rw [hsp] at *
    all_goals first
     | exact RetK.p rfl
     | (exfalso;omega)
theorem BE {p:Pg} {n:Str} {w:Way} (h:NA p n=some w) : ∃ (k:Nat) (f:Pr),p.procs[k]? = some f∧w=QL p k f∧XS p=true∧f.name=n∧p.procs.find? (fun f=>f.name==n)=some f:=by
 unfold NA at h;cases hc:XS p with
 | false=>rw [hc] at h;cases h
 | true =>
   rw [hc,cond_true] at h;by_cases hn:n∈procsN p
   ·obtain ⟨k,hk,h1,h2,h3,h4⟩:=LC hn;rw [h3,h2] at h;cases h;exact ⟨k,p.procs[k],by simp,rfl,rfl,h4,h3⟩
   ·rw [(x4a hn).2] at h;cases h
def w3x (p:Pg) (k:Nat) (f:Pr):Int:=if QR p.procs k<QR p.procs k+cntL f.body then ((QR p.procs k:Nat)+1:Int) else -1
def x5k (p:Pg) (n:Str):Int×Bool:=match NA p n with
 | some w=>((match w.p.procs[w.j]? with
   | some f=>w3x w.p w.j f
   | none=>0),true)
 | none=>(0,false)
theorem z0y (p:Pg) (hf:Fit p) (n:Str):SpecP Tryz.prog 87 [.agg p.cells,.str n] (fun r=>r = .tup [.int .i64 (x5k p n).1,.bool (x5k p n).2]):=by
 refine sB x1l Tryz.func87 rfl Tryz.call87 ?_;conv=>whnf
 have hW:=z0z p hf n;unfold x5k;cases hw:NA p n with
 | none =>
   rw [hw] at hW;repeat' (refine cP hW ?_;conv=>whnf)
   exact RetK.tup2 rfl (Sub.ff rfl)
 | some w =>
   obtain ⟨k,f,hkj,rfl,_⟩:=BE hw;obtain ⟨_,_,_,_,hsp⟩:=QV p;obtain ⟨hlo,hhi,_⟩:=hsp k f hkj;rw [hw] at hW;repeat' ((first|refine dA ?_|refine cP hW ?_|refine cP (VC (sheetOf p) k _ _ hlo hhi) ?_);conv=>whnf)
   exact RetK.tup2 (by show _=(match p.procs[k]? with|some f=>w3x p k f|none=>0);rw [hkj];rfl) (Sub.tt rfl)
def ofR (p:Pg) (n:Str):List Step:=match NA p n with
 | some w=>w.real
 | none=>[]
theorem w2x (p:Pg) (hf:Fit p) (n:Str):SpecP Tryz.prog 33 [.agg p.cells,.str n] (fun r=>r=UQ (ofR p n)):=by
 refine sB z4z Tryz.func33 rfl Tryz.call33 ?_;conv=>whnf
 have hW:=z0z p hf n;unfold ofR;cases hw:NA p n with
 | none =>
   rw [hw] at hW;repeat' (refine cP hW ?_;conv=>whnf)
   exact ⟨_,.p Sub.nils,rfl⟩
 | some w =>
   rw [hw] at hW;repeat' (refine cP hW ?_;conv=>whnf)
   exact RetK.p rfl
def x9l (p:Pg) (id:Int):Int×Bool:=bif XS p&&(decide (1<=id)&&decide (id<=(sheetOf p).l.length)) then (((sheetOf p).l[(id-1).toNat]?.map Item.next).getD 0,true) else (0,false)
theorem x6k (p:Pg) (hf:Fit p) (id:Int):SpecP Tryz.prog 86 [.agg p.cells,.int .i64 id] (fun r=>r = .tup [.int .i64 (x9l p id).1,.bool (x9l p id).2]):=by
 refine sB q9q Tryz.func86 rfl Tryz.call86 ?_;conv=>whnf
 cases hc:XS p with
 | false =>
   have e:x9l p id=(0,false):=by unfold x9l;rw [hc];rfl
   have hA : ¬(x6s p).1=0:=by unfold XS at hc;simpa using hc
   rw [e];repeat' (first|(refine cP (ZD p hf) ?_;conv=>whnf)|(apply bE<;>intro _<;>first|omega|conv=>whnf))
   all_goals first
    | exact RetK.tup2 rfl (Sub.ff rfl)
    | (exfalso;exact hA (by assumption))
 | true =>
   obtain ⟨hg,hpl,hcn⟩:=VY hc;have hA:(x6s p).1=0:=by unfold XS at hc;simpa using hc
   cases hin:(decide (1<=id)&&decide (id<=(sheetOf p).l.length)) with
   | false =>
     have e:x9l p id=(0,false):=by unfold x9l;rw [hc,hin];rfl
     rw [e];repeat' (first|((first|refine cP (ZD p hf) ?_|refine cP (HS _ _) ?_|(refine CallK.pure (WF p (by omega) (by omega)) (.cons (Sub.refl _) .nil) ?_;rintro _ rfl));conv=>whnf)|(apply bE<;>intro _<;>first|omega|conv=>whnf)|(apply bN<;>intro _<;>conv=>whnf))
     all_goals first
      | exact RetK.tup2 rfl (Sub.ff rfl)
      | (exfalso;omega)
      | (exfalso;simp_all)
   | true =>
     have hid:1<=id∧id<=(sheetOf p).l.length:=by simpa using hin
     have hlt:(id-1).toNat<(sheetOf p).l.length:=by omega
     have hlen:=(QV p).2.2.2.1;have e:x9l p id=((sheetOf p).l[(id-1).toNat].next,true):=by unfold x9l;rw [hc,hin,List.getElem?_eq_getElem hlt];rfl
     have hx:((sheetOf p).l.map fun i=>AV.agg i.cells)[(id-1).toNat]? = some (.agg (sheetOf p).l[(id-1).toNat].cells):=by rw [List.getElem?_map,List.getElem?_eq_getElem hlt];rfl
     rw [e];repeat' (first|((first|refine cP (ZD p hf) ?_|refine cP (HS _ _) ?_|refine wI ?_|(refine CallK.pure (WF p (by omega) (by omega)) (.cons (Sub.refl _) .nil) ?_;rintro _ rfl)|(refine IdxK.at (by omega) hx rfl ?_));conv=>whnf)|(apply bE<;>intro _<;>first|omega|conv=>whnf)|(apply bN<;>intro _<;>conv=>whnf))
     all_goals first
      | exact RetK.tup2 rfl (Sub.tt rfl)
      | (exfalso;omega)
      | (exfalso;rename_i h9;rw [hin] at h9;cases h9)
def YU (p:Pg) (j:Nat) (n i:Int):Int:=if i=0 then 0 else if i=n-1 then -1 else loI p j+i-1
theorem q7j (w:Way) (f:Pr) (hj:w.p.procs[w.j]? = some f) (hc:VU w.p.procs<=1000) (hn:0<=w.n∧w.n<=5000) (i:Int) (hi:0<=i∧i<=5000):SpecP Tryz.prog 94 [.ip w.cells,.int .i64 i] (fun r=>r = .int .i64 (YU w.p w.j w.n i)):=by
 refine sB q2v Tryz.func94 rfl Tryz.call94 ?_;conv=>whnf
 obtain ⟨_,_,_,hlen,hsp⟩:=QV w.p;obtain ⟨hlo,hhi,hle,_⟩:=hsp w.j f hj;repeat' (first|((first|refine dA ?_|refine wI ?_|(refine IdxK.at rfl (WL hlo) rfl ?_));conv=>whnf)|(apply bD<;>intro _<;>first|omega|conv=>whnf))
 all_goals exact RetK.int (by unfold YU loI;(repeat' split)<;>omega)
theorem x7m (l:List Int) : ∀ b:List Bool,(KG l b).length=b.length:=by
 induction l with
 | nil=>intro b;rfl
 | cons a r ih =>
   intro b;show (KG r (b.set a.toNat true)).length=b.length;rw [ih,List.length_set]
def q7w (w:Way):List Int:=((List.range' 1 (w.n-2).toNat).filter fun i=>w.live.getD i false).map fun (i:Nat)=>YU w.p w.j w.n i
def FL (p:Pg) (n:Str):List Int:=match NA p n with
 | some w=>q7w w
 | none=>[]
theorem x5g (p:Pg) (hf:Fit p) (n:Str):SpecP Tryz.prog 39 [.agg p.cells,.str n] (fun r=>r=XW (FL p n)):=by
 refine sB x6i Tryz.func39 rfl Tryz.call39 ?_;conv=>whnf
 have hW:=z0z p hf n;unfold FL;cases hw:NA p n with
 | none =>
   rw [hw] at hW;repeat' (refine cP hW ?_;conv=>whnf)
   exact ⟨_,.p Sub.nils,rfl⟩
 | some w =>
   obtain ⟨k,f,hkj,hwe,hc,_⟩:=BE hw;obtain ⟨_,_,hcn⟩:=VY hc;obtain ⟨_,_,_,_,hsp⟩:=QV p;obtain ⟨_,_,hle,_⟩:=hsp k f hkj;have hwp:w.p=p:=by rw [hwe];rfl
   have hwj:w.j=k:=by rw [hwe];rfl
   have hwn:w.n=(cntL f.body+2:Nat):=by rw [hwe];rfl
   have hwl:w.live.length=cntL f.body+2:=by rw [hwe];show (KG _ (List.replicate (cntL f.body+2) false)).length=_;rw [x7m];simp
   have hwj':w.p.procs[w.j]? = some f:=by rw [hwp,hwj];exact hkj
   have hcn':VU w.p.procs<=1000:=by rw [hwp];omega
   rw [hw] at hW;clear hwe hw;repeat' (refine cP hW ?_;conv=>whnf)
   refine LoopK.inv QU (fun x:Nat×List Int=>⟨[(5,.p (.ip w.cells)),(6,.hd 0 0 x.2.length),(7,.p (.int .i64 x.1))],[(0,.own 3 1 (x.2.map (.int .i64)))]⟩)
    (fun x=>1<=x.1∧x.1<=cntL f.body+1∧x.2.length<=x.1∧x.2++(((List.range' x.1 (cntL f.body+1-x.1)).filter fun i=>w.live.getD i false).map fun (i:Nat)=>YU w.p w.j w.n i)=q7w w) (fun x=>cntL f.body+1-x.1) (1,[])
    (Le.mk [(0,.own 3 1 [])] (by simp [Chunk.new0];rfl) (by simp) (by simp) (.cons (.refl _) (.cons (.nil mem_cons_self) (.cons (.of_eq rfl) .nil))) (.new mem_cons_self .nil))
    ⟨Nat.le_refl _,by simp only;omega,by simp,by unfold q7w;rw [hwn,show ((cntL f.body+2:Nat)-2:Int).toNat=cntL f.body+1-1 by omega];rfl⟩ ?_
   rintro ⟨i,acc⟩ ⟨h1,h2,h3,h4⟩;simp only at h1 h2 h3 h4 ⊢;rcases Nat.lt_or_ge i (cntL f.body+1) with hi|hi;rotate_left 1
   ·rw [show cntL f.body+1-i=0 by omega] at h4;simp only [List.range'_zero,List.filter_nil,List.map_nil,List.append_nil] at h4;subst h4;conv=>whnf
    repeat' (first|(refine wI ?_;conv=>whnf)|(apply bD<;>intro _<;>first|omega|conv=>whnf))
    all_goals first
     | exact ⟨_,.hd rfl (by simp),rfl⟩
     | (exfalso;omega)
   have hil:i<w.live.length:=by omega
   rw [show cntL f.body+1-i=cntL f.body+1-(i+1)+1 by omega,List.range'_succ,List.filter_cons] at h4;have hpl:=q7j w f hwj' hcn' (by omega) i (by omega);cases hl:w.live.getD i false with
   | true =>
     have hle:(w.live.map bv)[i]? = some .tt:=by
      have:w.live[i]=true:=by simpa [hil] using hl
      simp [hil,this,bv]
     rw [hl] at h4;conv=>whnf
     repeat' (first|((first|refine And.intro rfl ?_|refine aD ?_|refine bP ?_|refine wI ?_|(refine IdxK.at rfl hle rfl ?_)|refine cP hpl ?_|refine YQ (by simp) (by simp;omega) ?_);conv=>whnf)|(apply bD<;>intro _<;>first|omega|conv=>whnf))
     all_goals first
      | exact ⟨(i+1,acc++[YU w.p w.j w.n i]),⟨by simp only;omega,by simp only;omega,by simp;omega,by simpa using h4⟩,by simp only;omega,Le.of_eq (by simp only [length_append,List.map_append];rfl)⟩
      | (exfalso;omega)
   | false =>
     have hle:(w.live.map bv)[i]? = some .ff:=by
      have:w.live[i]=false:=by simpa [hil] using hl
      simp [hil,this,bv]
     rw [hl] at h4;conv=>whnf
     repeat' (first|((first|refine wI ?_|(refine IdxK.at rfl hle rfl ?_));conv=>whnf)|(apply bD<;>intro _<;>first|omega|conv=>whnf))
     all_goals first
      | exact ⟨(i+1,acc),⟨by simp only;omega,by simp only;omega,by simp only;omega,by simpa using h4⟩,by simp only;omega,Le.of_eq rfl⟩
      | (exfalso;omega)
theorem DrawK.le {P:Program} {T:Tab} {N:Nat} {ops:Array Oper} {info:Info} {id:Nat} {K:St->Prop} {s s':St} (hle:Le N s s') (h:DrawK P T N info id ops K s'):DrawK P T N info id ops K s:=by
 refine ⟨⟨fun σ β a w hr => ?_⟩⟩;obtain ⟨σ1,β1,hr1,hl1⟩:=hle σ β a w hr;refine Code.wp_mono (fun e a' w' hk => ?_) (h.ok.ok σ1 β1 a w hr1);obtain ⟨σ',β',s2,hk,hr',hl⟩:=hk;exact ⟨σ',β',s2,hk,hr',hl1.trans hl⟩
theorem GX : ∀ (a:Step) (l:List Step) (s:Step),s∈XG a l->s∈l
 | _,[],_,h=>by rw [XG] at h;cases h
 | a,b::r,s,h=>by
   rw [XG] at h;cases hb:ZU b a with
   | true=>rw [hb] at h;exact mem_cons_of_mem _ (GX b r s h)
   | false =>
     rw [hb] at h;rcases List.mem_cons.1 h with rfl|h
     ·exact mem_cons_self
     ·exact mem_cons_of_mem _ (GX b r s h)
theorem z1q {l:List Step} {s:Step} (h:s∈WC l):s∈l:=by
 unfold WC at h;have:s∈UW l:=by
  cases hq:UW l with
  | nil=>rw [hq] at h;cases h
  | cons a r =>
    rw [hq] at h;rcases List.mem_cons.1 h with rfl|h
    ·exact mem_cons_self
    ·exact mem_cons_of_mem _ (GX a r s h)
 exact (q0m l).mem_iff.1 this
def z7s (p:Pg) (id:Int):Option S:=((sheetOf p).l[(id-1).toNat]?).map Item.s
def BT (p:Pg) (some':List Str) (t:Step):Bool:=decide (t.src=0)||match z7s p t.src with
 | some s => !(decide (s.kind=4) && !(some'.any fun x=>s.proc==x))
 | none=>true
def HD (w:Way) (f:Pr) (some':List Str):Bool :=
 (PL 0 (UP (XY (cntL f.body+2) ((w.real.filter (BT w.p some')).map (ixP w.p w.j f w.n))).1 [0])).any fun s=>decide (w.n-1=s)
theorem x0j (w:Way) (f:Pr) (hj:w.p.procs[w.j]? = some f) (hc:VU w.p.procs<=200) (hn:w.n=(cntL f.body+2:Nat)) (hr : ∀ t∈w.real,t.src=0∨(1<=t.src∧t.src<=(sheetOf w.p).l.length)) (hlen:w.real.length<=100000) (some':List Str):SpecP Tryz.prog 148 [.ip w.cells,QP some'] (fun r=>r = .bool (HD w f some')):=by
 refine sB q3q Tryz.func148 rfl Tryz.call148 ?_;conv=>whnf
 obtain ⟨_,_,_,hsl,hsp⟩:=QV w.p;obtain ⟨_,_,hle,_⟩:=hsp w.j f hj;have hl:(w.real.map fun s=>AV.agg s.cells).length=w.real.length:=length_map _;repeat' (refine iM fun _=>?_;conv=>whnf)
 refine LoopK.inv QU (fun x:Nat×List Step=>⟨[(0,.p (.ip w.cells)),(1,.p (QP some')),(5,.hd 0 0 x.2.length),(12,.p (UQ w.real)),(13,.p (.int .i64 (w.real.map fun s=>AV.agg s.cells).length)),(14,.p (.int .i64 x.1))],[(0,.own 139 3 (avS x.2))]⟩)
  (fun x=>x.1<=w.real.length∧x.2.length<=x.1∧x.2++(w.real.drop x.1).filter (BT w.p some')=w.real.filter (BT w.p some')) (fun x=>w.real.length-x.1) (0,[])
  (Le.mk [(0,.own 139 3 [])] (by simp [Chunk.new0];rfl) (by simp) (by simp) (.cons (.refl _) (.cons (.refl _) (.cons (.nil mem_cons_self) (.cons (.refl _) (.cons (.refl _) (.cons (.refl _) .nil)))))) (.new mem_cons_self .nil))
  ⟨zero_le _,Nat.le_refl _,rfl⟩ ?_
 rintro ⟨i,acc⟩ ⟨h2,h3,h4⟩;simp only at h2 h3 h4 ⊢;rcases Nat.lt_or_ge i w.real.length with hi|hi;rotate_left 1
 ·rw [drop_eq_nil_of_le hi,List.filter_nil,List.append_nil] at h4;unfold HD;rw [<- h4];conv=>whnf
  repeat' (apply bD<;>intro _<;>first|omega|conv=>whnf)
  have hacl:acc.length<=1000000:=by omega
  refine DrawK.le (s':=⟨[(0,.p (.ip w.cells)),(5,.p (UQ acc))],[]⟩) ?_ ?_
  ·obtain ⟨s',⟨k1,k2,k3⟩,hle⟩:=Le.row (N:=Tryz.f148.ntmps) (s:=⟨[(0,.p (.ip w.cells)),(1,.p (QP some')),(5,.hd 0 0 acc.length),(12,.p (UQ w.real)),(13,.p (.int .i64 (w.real.map fun s=>AV.agg s.cells).length)),(14,.p (.int .i64 i)),(15,.p (.bool (decide ((i:Int)<(w.real.map fun s=>AV.agg s.cells).length))))],[(0,.own 139 3 (avS acc))]⟩) (k:=0) (zs:=[5]) rfl (K:=fun s=>getS s.sl 0 = .p (.ip w.cells)∧getS s.sl 5 = .p (UQ acc)∧s.H=[]) ⟨by simp [avS],rfl,rfl,rfl⟩;exact hle.trans (Le.mk [] (by simp) (by simp) (by simp) (.cons (by rw [k1];exact .refl _) (.cons (by rw [k2];exact .refl _) .nil)) .nil)
  have hgi:=q2j (cntL f.body+2) (acc.map (ixP w.p w.j f w.n));repeat' (first|((first|refine cP (WZ _ _) ?_|refine dA ?_|refine And.intro rfl ?_|refine aD ?_|refine bP ?_|refine wI ?_|(refine CallK.pure (q7u w f (cntL f.body+2) hn hj (by omega) (by omega) acc hacl) (.cons (Sub.refl _) (.cons (Sub.refl _) .nil)) ?_;rintro _ rfl)|(refine CallK.pure (YI (cntL f.body+2) (by omega) _ hgi.1 [0] (by simp)) (.cons (Sub.refl _) (.cons (Sub.refl _) .nil)) ?_;rintro _ rfl));conv=>whnf)|(refine And.intro ?_ ?_<;>conv=>whnf))
  all_goals exact RetK.bool rfl
 rw [List.drop_eq_getElem_cons hi,List.filter_cons] at h4;have hsrc:=hr _ (List.getElem_mem hi);conv=>whnf
 have hidx : ¬w.real[i].src=0 -> ∃ u:Item,((sheetOf w.p).l.map fun i=>AV.agg i.cells)[(w.real[i].src-1).toNat]? = some (.agg u.cells)∧z7s w.p w.real[i].src=some u.s:=fun h=>by
  have hlt:(w.real[i].src-1).toNat<(sheetOf w.p).l.length:=by omega
  exact ⟨_,by rw [List.getElem?_map,List.getElem?_eq_getElem hlt];rfl,by unfold z7s;rw [List.getElem?_eq_getElem hlt];rfl⟩
 repeat' (first|((first|refine cP (QQ _ _) ?_|refine dA ?_|refine And.intro rfl ?_|refine aD ?_|refine bP ?_|(refine iA fun _=>?_)|refine wI ?_|refine AppK.mk (by simp [avS]) rfl (by show (acc.length+1)*24<=140737488355328;omega) (by show acc.length+1<=9223372036854775807;omega) (fun x hx=>by rcases List.mem_singleton.1 hx with rfl;exact ⟨rfl,rfl⟩) ?_|(obtain ⟨u,hu1,hu2⟩:=hidx (by assumption);refine IdxK.at (by omega) hu1 rfl ?_));conv=>whnf)|(apply bD<;>intro _<;>first|omega|conv=>whnf)|(apply bE<;>intro _<;>first|omega|conv=>whnf)|(apply bN<;>intro _<;>conv=>whnf))
 all_goals first
  | exact ⟨(i+1,acc++[w.real[i]]),⟨by simp only;omega,by simp;omega,by
     have hk:BT w.p some' w.real[i]=true:=by unfold BT;simp [*];done
     rw [if_pos hk] at h4;simpa using h4⟩,by simp only;omega,Le.of_eq (by simp only [avS,length_append,List.map_append];rfl)⟩
  | exact ⟨(i+1,acc),⟨by simp only;omega,by simp only;omega,by
     have hk : ¬BT w.p some' w.real[i]=true:=by unfold BT;simp [*];done
     rw [if_neg hk] at h4;exact h4⟩,by simp only;omega,Le.of_eq rfl⟩
def DK (p:Pg) (st:List Str×Bool) (k:Nat):List Str×Bool:=match p.procs[k]? with
 | some f=>bif !(st.1.any fun s=>f.name==s)&&HD (QL p k f) f st.1 then (st.1++[f.name],true) else st
 | none=>st
def HE (p:Pg) (out:List Str):List Str×Bool:=(List.range p.procs.length).foldl (DK p) (out,false)
def GE (p:Pg):Nat->List Str->List Str
 | 0,out=>out
 | k+1,out=>bif (HE p out).2 then GE p k (HE p out).1 else (HE p out).1
def YB (p:Pg) (out:List Str):Nat:=p.procs.countP fun f => !(out.any fun s=>f.name==s)
theorem LI {α:Type} {p q:α->Bool} : ∀ {l:List α},(∀ x∈l,q x=true->p x=true)->(∃ x∈l,p x=true∧q x=false)->l.countP q<l.countP p
 | [],_,h=>by obtain ⟨x,hx,_⟩:=h;cases hx
 | a::r,h1,h2=>by
   have hle:r.countP q<=r.countP p:=List.countP_mono_left fun x hx=>h1 x (mem_cons_of_mem _ hx);rw [List.countP_cons,List.countP_cons];have ha:=h1 a mem_cons_self;obtain ⟨x,hx,h3,h4⟩:=h2;rcases List.mem_cons.1 hx with rfl|hx
   ·rw [h3,h4];simp;omega
   ·have:=LI (fun y hy=>h1 y (mem_cons_of_mem _ hy)) ⟨x,hx,h3,h4⟩;cases hq:q a with
    | true=>rw [ha hq];simp;omega
    | false=>cases p a<;>simp<;>omega
theorem q8c {p:Pg} {out:List Str} {f:Pr} (hf:f∈p.procs) (h:(out.any fun s=>f.name==s)=false):YB p (out++[f.name])<YB p out:=by
 unfold YB;refine LI (fun g _ hg => ?_) ⟨f,hf,by rw [h];rfl,by rw [List.any_append];simp⟩;rw [List.any_append] at hg;cases hq:out.any fun s=>g.name==s with
 | false=>rfl
 | true=>rw [hq] at hg;cases hg
def endsR (p:Pg):List Str:=bif XS p then YV (GE p (p.procs.length+1) []) else []
theorem z4w (p:Pg) (hf:Fit p):SpecP Tryz.prog 88 [.agg p.cells] (fun r=>r=QP (endsR p)):=by
 refine sB x8w Tryz.func88 rfl Tryz.call88 ?_;conv=>whnf
 cases hc:XS p with
 | false =>
   have e:endsR p=[]:=by unfold endsR;rw [hc];rfl
   have hA : ¬(x6s p).1=0:=by unfold XS at hc;simpa using hc
   rw [e];repeat' (first|(refine cP (ZD p hf) ?_;conv=>whnf)|(apply bE<;>intro _<;>first|omega|conv=>whnf))
   all_goals first
    | exact ⟨_,.p Sub.nils,rfl⟩
    | (exfalso;exact hA (by assumption))
 | true =>
   obtain ⟨hg,hpl,hcn⟩:=VY hc;have hA:(x6s p).1=0:=by unfold XS at hc;simpa using hc
   have e:endsR p=YV (GE p (p.procs.length+1) []):=by unfold endsR;rw [hc];rfl
   rw [e];repeat' (first|((first|refine cP (ZD p hf) ?_|(refine CallK.pure (WF p (by omega) (by omega)) (.cons (Sub.refl _) .nil) ?_;rintro _ rfl));conv=>whnf)|(apply bE<;>intro _<;>first|omega|conv=>whnf))
   have hl:(p.procs.map fun f=>AV.agg f.cells).length=p.procs.length:=length_map _;have hl0:YB p []<=p.procs.length:=List.countP_le_length;refine LoopK.inv QU (fun x:List Str×Bool=>⟨[(1,.p (.ip p.cells)),(3,.p (.ip (sheetOf p).cells)),(4,.hd 0 0 x.1.length),(5,.p (bv x.2))],[(0,.own 9 1 (x.1.map .str))]⟩)
    (fun x=>x.1.length+YB p x.1<=p.procs.length∧(x.2=true -> ∃ k,YB p x.1<k∧GE p k x.1=GE p (p.procs.length+1) [])∧(x.2=false->x.1=GE p (p.procs.length+1) [])) (fun x=>2*YB p x.1+x.2.toNat) ([],true)
    (Le.mk [(0,.own 9 1 [])] (by simp [Chunk.new0];rfl) (by simp) (by simp) (.cons (.refl _) (.cons (.refl _) (.cons (.nil mem_cons_self) (.cons (.refl _) .nil)))) (.new mem_cons_self .nil))
    ⟨by simpa using hl0,fun _=>⟨p.procs.length+1,by show YB p []<_;omega,rfl⟩,by simp⟩ ?_
   rintro ⟨out,more⟩ ⟨h1,h2,h3⟩;simp only at h1 h2 h3 ⊢;cases more with
   | false =>
     have h3:=h3 rfl;rw [<- h3];conv=>whnf
     repeat' (refine CallK.heap [(1000,0)] 0 (by repeat' (first|exact ArgsH.nil|refine ArgsH.cons ?_ ?_|exact LSub.refl _|exact LSub.p Sub.nils|exact LSub.p (Sub.tt rfl)|exact LSub.p (Sub.ff rfl)|exact LSub.p (Sub.int (by omega)))) (by refine BlksH.cons (j:=0) rfl rfl ?_ ?_;exact CSub.refl _;exact BlksH.nil) (KV out (by omega)) rfl rfl ?_;rintro l' H' ⟨rfl,rfl⟩;conv=>whnf)
     exact ⟨_,.hd rfl (by simp [WB]),rfl⟩
   | true =>
     obtain ⟨k,hk1,hk2⟩:=h2 rfl;clear h2 h3;conv=>whnf
     repeat' (refine iM fun _=>?_;conv=>whnf)
     refine LoopK.inv QU (fun x:Nat×List Str×Bool=>⟨[(1,.p (.ip p.cells)),(3,.p (.ip (sheetOf p).cells)),(4,.hd 0 0 x.2.1.length),(5,.p (bv x.2.2)),(15,.p (.sl (p.procs.map fun f => .agg f.cells))),(16,.p (.int .i64 (p.procs.map fun f=>AV.agg f.cells).length)),(17,.p (.int .i64 x.1))],[(0,.own 9 1 (x.2.1.map .str))]⟩)
      (fun x=>x.1<=p.procs.length∧((List.range p.procs.length).drop x.1).foldl (DK p) x.2=HE p out∧x.2.1.length+YB p x.2.1<=p.procs.length∧YB p x.2.1+x.2.2.toNat<=YB p out∧(x.2.2=false->x.2.1=out)) (fun x=>p.procs.length-x.1) (0,out,false) (Le.of_eq rfl) ⟨zero_le _,rfl,h1,Nat.le_refl _,fun _=>rfl⟩ ?_
     rintro ⟨m,o,b⟩ ⟨h4,h5,h6,h7,h8⟩;simp only at h4 h5 h6 h7 h8 ⊢;rcases Nat.lt_or_ge m p.procs.length with hm|hm;rotate_left 1
     ·rw [drop_eq_nil_of_le (by simpa using hm),List.foldl_nil] at h5;obtain ⟨k',rfl⟩ : ∃ k',k=k'+1:=⟨k-1,by omega⟩;rw [GE,<- h5] at hk2;conv=>whnf
      repeat' (apply bD<;>intro _<;>first|omega|conv=>whnf)
      cases b with
      | true=>exact ⟨(o,true),⟨h6,fun _=>⟨k',by show YB p o<k';simp only [Bool.toNat_true] at h7;omega,hk2⟩,by simp⟩,by simp only [Bool.toNat_true] at h7 ⊢;omega,lE⟩
      | false=>exact ⟨(o,false),⟨h6,by simp,fun _=>hk2⟩,by simp only [Bool.toNat_true,Bool.toNat_false] at h7 ⊢;omega,lE⟩
     have hmr:m<(List.range p.procs.length).length:=by simpa using hm
     rw [List.drop_eq_getElem_cons hmr,foldl_cons,List.getElem_range] at h5;have hkj:p.procs[m]? = some p.procs[m]:=by simp
     obtain ⟨w1,w2,w3⟩:=NH hc hkj;obtain ⟨_,_,_,hsl,hsp⟩:=QV p;obtain ⟨_,_,hle,_⟩:=hsp m _ hkj;have hreal : ∀ t∈(QL p m p.procs[m]).real,t.src=0∨(1<=t.src∧t.src<=(sheetOf p).l.length):=fun t ht=>by
      have:=(w2 t (z1q ht)).1;omega
     have hrl:(QL p m p.procs[m]).real.length<=100000:=by
      have h9:=x0k (QH p m p.procs[m]);have h10:=MK p m p.procs[m];show (WC (QH p m p.procs[m])).length<=100000;omega
     have hE:=x0j (QL p m p.procs[m]) p.procs[m] hkj hcn rfl hreal hrl o;have hst:DK p (o,b) m=bif !(o.any fun s=>p.procs[m].name==s)&&HD (QL p m p.procs[m]) p.procs[m] o then (o++[p.procs[m].name],true) else (o,b):=by unfold DK;rw [hkj]
     rw [hst] at h5;conv=>whnf
     repeat' (first|((first|refine And.intro rfl ?_|refine aD ?_|refine bP ?_|(refine iA fun _=>?_)|refine wI ?_|(refine QO (QQ o p.procs[m].name) (.cons (.hd rfl (by simp)) (.cons (.p (Sub.refl _)) .nil)) (by rintro _ rfl;rfl) ?_;rintro _ rfl)|(refine CallK.pure (z0b p m p.procs[m] hkj (by omega) w1 w3) (.cons (Sub.refl _) (.cons (Sub.refl _) .nil)) ?_;rintro _ rfl)|(refine QO hE (.cons (.p (Sub.refl _)) (.cons (.hd rfl (by simp)) .nil)) (by rintro _ rfl;rfl) ?_;rintro _ rfl)|refine WT (by simp) (by rw [length_map];omega) ?_);conv=>whnf)|(apply bD<;>intro _<;>first|omega|conv=>whnf)|(apply bN<;>intro _<;>conv=>whnf)|(apply bB<;>intro _<;>conv=>whnf))
     all_goals first
      | (have e1:(!(o.any fun s=>p.procs[m].name==s)&&HD (QL p m p.procs[m]) p.procs[m] o)=true:=by simp [*];done
         rw [e1,cond_true] at h5;have h9:=q8c (p:=p) (out:=o) (f:=p.procs[m]) (List.getElem_mem hm) (by assumption);exact ⟨(m+1,o++[p.procs[m].name],true),⟨by simp only;omega,h5,by simp;omega,by show YB p (o++[p.procs[m].name])+1<=_;omega,by simp⟩,by simp only;omega,Le.of_eq (by simp only [length_append,List.map_append];rfl)⟩)
      | (have e1:(!(o.any fun s=>p.procs[m].name==s)&&HD (QL p m p.procs[m]) p.procs[m] o)=false:=by simp [*];done
         rw [e1,cond_false] at h5;exact ⟨(m+1,o,b),⟨by simp only;omega,h5,h6,h7,h8⟩,by simp only;omega,Le.of_eq rfl⟩)
def z3k (a b:Step):Prop:=XO a.src<XO b.src∨(XO a.src=XO b.src∧XO a.dst<XO b.dst)
def z3n (s:Step):Prop:=x6m s∧s.kind=1
theorem NT {a b:Step} (h1:a.src=b.src) (h2:a.dst=b.dst) (h3:a.kind=b.kind):a=b:=by
 cases a;cases b;simp_all
theorem HK {a b:Step}:HI a b=true↔XO a.src<XO b.src∨(XO a.src=XO b.src∧(XO a.dst<XO b.dst∨(XO a.dst=XO b.dst∧a.kind<b.kind))):=by
 have h:HI a b=decide (x2w a b<0):=rfl;rw [h,decide_eq_true_eq];unfold x2w;simp only [orI];split
 ·rename_i h1;rw [UN] at h1;split
  ·rename_i h2;rw [UN] at h2;split
   ·rename_i h3;rw [UN] at h3;omega
   ·rw [HG];omega
  ·rename_i h2;rw [UN] at h2;rw [HG];omega
 ·rename_i h1;rw [UN] at h1;rw [HG];omega
theorem q7m (l:List Step):(UW l).Pairwise fun a b=>HI b a=false:=by
 have:=List.pairwise_mergeSort (le:=fun x y => !HI y x) (fun a b c h1 h2=>by
  simp only [Bool.not_eq_true'] at h1 h2 ⊢;rw [Bool.eq_false_iff,ne_eq,HK] at h1 h2 ⊢;omega) (fun a b=>by
  cases h1:HI b a with
  | false=>rfl
  | true =>
    have h2:HI a b=false:=by
     rw [Bool.eq_false_iff,ne_eq,HK];rw [HK] at h1;omega
    rw [h2];rfl) l
 refine List.Pairwise.imp ?_ this;intro a b h;simpa using h
theorem MG {a b:Step} (ha:z3n a) (hb:z3n b):ZU a b=true↔a=b:=by
 unfold ZU;simp only [Bool.and_eq_true,decide_eq_true_eq];refine ⟨fun h=>NT h.1 h.2 (by rw [ha.2,hb.2]),fun h=>by rw [h];exact ⟨rfl,rfl⟩⟩
theorem z8l {a b:Step} (ha:z3n a) (hb:z3n b) (h:HI b a=false) (hne:a≠b):z3k a b:=by
 rw [Bool.eq_false_iff,ne_eq,HK] at h;unfold z3k;by_cases h1:XO a.src=XO b.src
 ·by_cases h2:XO a.dst=XO b.dst
  ·exact absurd (NT (BL ha.1.1 hb.1.1 h1) (BL ha.1.2 hb.1.2 h2) (by rw [ha.2,hb.2])) hne
  ·omega
 ·omega
theorem x6j {a b c:Step} (h:z3k a b) (h':z3k b c):z3k a c:=by unfold z3k at *;omega
theorem BR : ∀ (l:List Step) (a:Step),z3n a->(∀ s∈l,z3n s)->(a::l).Pairwise (fun a b=>HI b a=false)->(a::XG a l).Pairwise z3k ∧ ∀ s,s∈a::XG a l↔s∈a::l
 | [],a,_,_,_=>⟨by simp [XG],by simp [XG]⟩
 | b::r,a,ha,hl,h=>by
   have hb:=hl b mem_cons_self;have hr : ∀ s∈r,z3n s:=fun s hs=>hl s (mem_cons_of_mem _ hs);rw [List.pairwise_cons] at h;obtain ⟨h1,h2⟩:=h;obtain ⟨i1,i2⟩:=BR r b hb hr h2;rw [XG];cases hs:ZU b a with
   | true =>
     obtain rfl:=(MG hb ha).1 hs;rw [cond_true];exact ⟨i1,fun s=>by rw [i2];simp⟩
   | false =>
     rw [cond_false];have hne:a≠b:=fun e=>by
      rw [(MG hb ha).2 e.symm] at hs;cases hs
     have hlt:=z8l ha hb (h1 b mem_cons_self) hne;refine ⟨?_,fun s=>by rw [mem_cons,i2,<- mem_cons (a:=s) (b:=a)]⟩;rw [List.pairwise_cons];refine ⟨fun s hsm => ?_,i1⟩;rcases List.mem_cons.1 hsm with rfl|hsm
     ·exact hlt
     ·exact x6j hlt ((List.pairwise_cons.1 i1).1 s hsm)
theorem x7z {l:List Step} (hok : ∀ s∈l,z3n s):(WC l).Pairwise z3k ∧ ∀ s,s∈WC l↔s∈l:=by
 have hp : ∀ s,s∈UW l↔s∈l:=fun s=>(q0m l).mem_iff;have hs:=q7m l;unfold WC;cases hq:UW l with
 | nil =>
   rw [hq] at hp;exact ⟨by simp [MT],fun s=>by rw [<- hp];simp [MT]⟩
 | cons a r =>
   rw [hq] at hp hs;have hok' : ∀ s∈a::r,z3n s:=fun s h=>hok s ((hp s).1 h);obtain ⟨h1,h2⟩:=BR r a (hok' a mem_cons_self) (fun s h=>hok' s (mem_cons_of_mem _ h)) hs;exact ⟨h1,fun s=>by rw [MT,h2,hp]⟩
theorem x0s {p:Pg} (h:XS p=true) {j:Nat} {f:Pr} (hj:p.procs[j]? = some f) : ∀ s∈QH p j f,z3n s:=by
 obtain ⟨_,_,h3⟩:=NH h hj;intro s hs;refine ⟨h3 s hs,?_⟩;unfold QH at hs;rcases List.mem_cons.1 hs with rfl|hs
 ·rfl
 ·obtain ⟨it,_,hz⟩:=List.mem_flatMap.1 hs;obtain ⟨y,_,rfl⟩:=List.mem_map.1 hz;rfl
theorem q1w {p:Pg} (h:XS p=true) {j:Nat} {f:Pr} (hj:p.procs[j]? = some f):(QL p j f).real.Pairwise z3k ∧ ∀ s,s∈(QL p j f).real↔s∈QH p j f:=x7z (x0s h hj)
def z7n (p:Pg):Bool:=decide (gPg p<=20000)
theorem w2g {p:Pg} (h:z7n p=true):Fit p:=by
 have:=w3t p;have h1:gPg p<=20000:=by simpa [z7n] using h
 unfold Fit;omega
theorem VV (p:Pg):SpecP Tryz.prog 16 [.agg p.cells] (fun r=>r = .bool (z7n p)):=by
 refine sB DZ Tryz.func16 rfl Tryz.call16 ?_;conv=>whnf
 have hl:(p.procs.map fun f=>AV.agg f.cells).length=p.procs.length:=length_map _;have q0:=XD (a:=0+FX p.globals) (by omega);repeat' (refine CallK.pure (XK p.globals 0 (by omega)) (.cons (Sub.refl _) (.cons (Sub.refl _) .nil)) ?_;rintro _ rfl;conv=>whnf)
 refine LoopK.inv QU (fun y:Nat×Int=>⟨[(1,.p (.ip p.cells)),(3,.p (.int .i64 y.2)),(4,.p (.int .i64 y.1))],[]⟩) (fun y=>y.1<=p.procs.length∧(0<=y.2∧y.2<=20001)∧XX (y.2+x3j (p.procs.drop y.1))=XX (gPg p:Nat)) (fun y=>p.procs.length-y.1) (0,XX (0+FX p.globals)) (Le.of_eq rfl) ⟨zero_le _,q0,by
  show XX (XX (0+FX p.globals)+x3j p.procs)=_;rw [XP (by omega)];congr 1;unfold gPg;omega⟩ ?_
 rintro ⟨j,m⟩ ⟨h2,h3,h4⟩;simp only at h2 h3 h4 ⊢;have last : ∀ {x:Int},0<=x∧x<=20001->XX x=XX (gPg p:Nat)->(decide (x<=20000))=z7n p:=fun {x} hx h=>by
  unfold z7n;unfold XX at h;by_cases h1:gPg p<=20000
  ·rw [decide_eq_true h1,decide_eq_true_eq];split at h<;>split at h<;>omega
  ·rw [decide_eq_false h1,decide_eq_false_iff_not];split at h<;>split at h<;>omega
 rcases Nat.lt_or_ge j p.procs.length with hj|hj;rotate_left 1
 ·rw [drop_eq_nil_of_le hj,x3j] at h4;conv=>whnf
  repeat' (first|(refine iM fun _=>?_;conv=>whnf)|(apply bD<;>intro _<;>first|omega|conv=>whnf))
  all_goals exact RetK.bool (last h3 (by rw [<- h4];simp))
 rw [List.drop_eq_getElem_cons hj,x3j] at h4;have hpe:gPr p.procs[j]=1+p.procs[j].name.length+FX p.procs[j].vars+FX p.procs[j].fin+z3p p.procs[j].params+gL p.procs[j].body:=rfl;have q1:=XD (a:=m+(1+p.procs[j].name.length:Nat)) (by omega);have q2:=XD (a:=XX (m+(1+p.procs[j].name.length:Nat))+FX p.procs[j].vars) (by omega);have q3:=XD (a:=XX (XX (m+(1+p.procs[j].name.length:Nat))+FX p.procs[j].vars)+FX p.procs[j].fin) (by omega);conv=>whnf
 repeat' (first|((first|(refine iM fun _=>?_)|refine dA ?_|refine And.intro rfl ?_|(refine iA fun _=>?_)|refine cP (QN p.procs[j].name _ h3) ?_|refine cP (XK p.procs[j].vars _ q1) ?_|refine cP (XK p.procs[j].fin _ q2) ?_);conv=>whnf)|(apply bD<;>intro _<;>first|omega|conv=>whnf))
 rotate_left 1
 ·exact RetK.bool (last h3 (by rw [<- h4,<- VP (by omega) h3.2 (by omega),q5c h3.2]))
 have h5:XX (XX (XX (XX (m+(1+p.procs[j].name.length:Nat))+FX p.procs[j].vars)+FX p.procs[j].fin)+(z3p p.procs[j].params+(gL p.procs[j].body+x3j (p.procs.drop (j+1))):Nat))=XX (gPg p:Nat):=by
  rw [XP (by omega),Int.add_assoc,XP (by omega),Int.add_assoc,XP (by omega),<- h4,hpe];congr 1;omega
 generalize XX (XX (XX (m+(1+p.procs[j].name.length:Nat))+FX p.procs[j].vars)+FX p.procs[j].fin)=m0 at q3 h5 ⊢;have hal:(p.procs[j].params.map fun a=>AV.agg a.cells).length=p.procs[j].params.length:=length_map _;refine LoopK.inv QU (fun y:Nat×Int=>⟨[(1,.p (.ip p.cells)),(3,.p (.int .i64 y.2)),(4,.p (.int .i64 j)),(5,.p (.ip p.procs[j].cells)),(6,.p (.int .i64 y.1))],[]⟩) (fun y=>y.1<=p.procs[j].params.length∧(0<=y.2∧y.2<=20001)∧XX (y.2+(z3p (p.procs[j].params.drop y.1)+(gL p.procs[j].body+x3j (p.procs.drop (j+1))):Nat))=XX (gPg p:Nat)) (fun y=>p.procs[j].params.length-y.1) (0,m0) (Le.of_eq rfl) ⟨zero_le _,q3,h5⟩ ?_;rintro ⟨a,m2⟩ ⟨h6,h7,h8⟩;simp only at h6 h7 h8 ⊢;have fin:XX (m2+(gL p.procs[j].body+x3j (p.procs.drop (j+1)):Nat))=XX (gPg p:Nat)->(0<=XX (m2+gL p.procs[j].body)∧XX (m2+gL p.procs[j].body)<=20001)∧XX (XX (m2+gL p.procs[j].body)+x3j (p.procs.drop (j+1)))=XX (gPg p:Nat):=fun h=>by
  refine ⟨XD (by omega),?_⟩;rw [XP (by omega),<- h];congr 1;omega
 have full:m2>20000->XX (m2+(gL p.procs[j].body+x3j (p.procs.drop (j+1)):Nat))=XX (gPg p:Nat):=fun h=>by
  rw [<- h8,<- VP h h7.2 (by omega),<- VP h h7.2 (by omega)]
 rcases Nat.lt_or_ge a p.procs[j].params.length with ha|ha;rotate_left 1
 ·have h9:XX (m2+(gL p.procs[j].body+x3j (p.procs.drop (j+1)):Nat))=XX (gPg p:Nat):=by
   rw [drop_eq_nil_of_le ha,z3p,Nat.zero_add] at h8;exact h8
  obtain ⟨f1,f2⟩:=fin h9;conv=>whnf
  repeat' (first|((first|(refine iM fun _=>?_)|refine wI ?_|(refine CallK.pure (WN (gL p.procs[j].body+1) p.procs[j].body (by omega) m2 h7) (.cons (Sub.refl _) (.cons (Sub.refl _) .nil)) ?_;rintro _ rfl));conv=>whnf)|(apply bD<;>intro _<;>first|omega|conv=>whnf))
  all_goals exact ⟨(j+1,XX (m2+gL p.procs[j].body)),⟨by simp only;omega,f1,f2⟩,by simp only;omega,Le.of_eq rfl⟩
 rw [List.drop_eq_getElem_cons ha,z3p] at h8;conv=>whnf
 repeat' (first|((first|(refine iM fun _=>?_)|(refine iA fun _=>?_)|refine wI ?_|refine cP (QN p.procs[j].params[a].name _ h7) ?_|(refine CallK.pure (WN (gL p.procs[j].body+1) p.procs[j].body (by omega) m2 h7) (.cons (Sub.refl _) (.cons (Sub.refl _) .nil)) ?_;rintro _ rfl));conv=>whnf)|(apply bD<;>intro _<;>first|omega|conv=>whnf))
 ·have h10:XX (XX (m2+(1+p.procs[j].params[a].name.length:Nat))+(z3p (p.procs[j].params.drop (a+1))+(gL p.procs[j].body+x3j (p.procs.drop (j+1))):Nat))=XX (gPg p:Nat):=by
   rw [XP (by omega),<- h8];congr 1;omega
  exact ⟨(a+1,XX (m2+(1+p.procs[j].params[a].name.length:Nat))),⟨by simp only;omega,XD (by omega),h10⟩,by simp only;omega,Le.of_eq rfl⟩
 ·obtain ⟨f1,f2⟩:=fin (full (by omega));exact ⟨(j+1,XX (m2+gL p.procs[j].body)),⟨by simp only;omega,f1,f2⟩,by simp only;omega,Le.of_eq rfl⟩
inductive SubE:List AV->List AV->Prop
 | nil:SubE [] []
 | cons {a b:AV} {xs ys:List AV} (h:SubL a.cells b.cells) (hs:SubE xs ys):SubE (a::xs) (b::ys)
theorem SubE.get {xs ys:List AV} (h:SubE xs ys):xs.length=ys.length ∧ ∀ (i:Nat) (b:AV),ys[i]? = some b -> ∃ a,xs[i]? = some a∧SubL a.cells b.cells:=by
 induction h with
 | nil=>exact ⟨rfl,by simp⟩
 | cons h hs ih =>
   refine ⟨by simp [ih.1],fun i b hb => ?_⟩;cases i with
   | zero=>simp at hb;subst hb;exact ⟨_,rfl,h⟩
   | succ i=>exact ih.2 i b (by simpa using hb)
theorem Sub.sl {xs ys:List AV} (h:SubE xs ys):Sub (.sl xs) (.sl ys):=fun σ v hr=>by
 obtain ⟨hl,hg⟩:=h.get;cases hr with
 | nilsl =>
   obtain rfl:ys=[]:=by simpa using hl.symm
   exact .nilsl
 | slz b =>
   obtain rfl:ys=[]:=by simpa using hl.symm
   exact .slz b
 | sl _ b off cap sz cells u hb hcap hmax hsz hc hrr =>
   rw [hl];refine .sl ys b off cap sz cells u hb (by omega) hmax (fun i e hi => ?_) (fun i e j c hi hj => ?_) (fun i e j c hi hj => ?_)
   ·obtain ⟨a,h1,h2⟩:=hg i e hi;rw [<- hsz i a h1,h2.1]
   ·obtain ⟨a,h1,h2⟩:=hg i e hi;obtain ⟨d,h3,_⟩:=h2.get hj;exact hc i a j d h1 h3
   ·obtain ⟨a,h1,h2⟩:=hg i e hi;obtain ⟨d,h3,h4⟩:=h2.get hj;exact h4 _ _ (hrr i a j d h1 h3)
theorem MR (n:Int):SpecP Tryz.prog 120 [.int .i64 n] (fun r=>r = .agg (X.mk 1 n [] []).cells):=by
 refine sB BN Tryz.func120 rfl Tryz.call120 ?_;conv=>whnf
 repeat' (refine And.intro rfl ?_;conv=>whnf)
 exact ⟨_,.p (Sub.agg (by repeat' (first|exact SubL.nil|refine SubL.cons ?_ ?_|exact Sub.refl _|exact Sub.nils|exact Sub.ff rfl))),rfl⟩
theorem PB (s:Str):SpecP Tryz.prog 121 [.str s] (fun r=>r = .agg (X.mk 2 0 s []).cells):=by
 refine sB FP Tryz.func121 rfl Tryz.call121 ?_;conv=>whnf
 repeat' (refine And.intro rfl ?_;conv=>whnf)
 exact ⟨_,.p (Sub.agg (by repeat' (first|exact SubL.nil|refine SubL.cons ?_ ?_|exact Sub.refl _|exact Sub.nils|exact Sub.ff rfl))),rfl⟩
theorem KD (op:Int) (a b:X):SpecP Tryz.prog 122 [.int .i64 op,.agg a.cells,.agg b.cells] (fun r=>r = .agg (X.mk op 0 [] [a,b]).cells):=by
 refine sB BK Tryz.func122 rfl Tryz.call122 ?_;conv=>whnf
 repeat' ((first|refine And.intro rfl ?_|refine aD ?_|refine PX rfl rfl ?_);conv=>whnf)
 have e:X.avs [a,b]=[.agg a.cells,.agg b.cells]:=by simp only [X.avs,X.av_eq]
 exact ⟨_,.p (Sub.agg (SubL.cons (Sub.refl _) (SubL.cons (Sub.refl _) (SubL.cons (Sub.refl _) (SubL.cons (Sub.of_eq (by show _=AV.sl (X.avs [a,b]);rw [e];rfl)) SubL.nil))))),rfl⟩
def bs (l:List Nat):Str:=l.map fun n=>UInt8.ofNat n
def someP:Pg:=⟨[[103]],[
 ⟨[109,97,105,110],[],[[118]],[
   .mk 1 1 [] [118] [] (.mk 1 2 [] []) false [] [] [],
   .mk 2 4 [] [103] [112] (.mk 0 0 [] []) false [⟨false,[],.mk 1 3 [] []⟩,⟨true,[118],.mk 0 0 [] []⟩] [] [],
   .mk 3 3 [] [] [] (.mk 2 0 [118] []) false [] [] [],
   .mk 4 3 [] [] [] (.mk 2 0 [103] []) false [] [] []],[]⟩,
 ⟨[112],[⟨[120],false⟩,⟨[121],true⟩],[],[
   .mk 5 1 [] [121] [] (.mk 8 0 [] [.mk 2 0 [121] [],.mk 2 0 [120] []]) false [] [] [],
   .mk 6 5 [] [] [] (.mk 12 0 [] [.mk 2 0 [121] [],.mk 1 9 [] []]) false [] [.mk 7 10 [] [101] [] (.mk 0 0 [] []) false [] [] []] [],
   .mk 8 9 [] [] [] (.mk 2 0 [121] []) true [] [] []],[[101]]⟩]⟩
theorem PG:SpecP Tryz.prog 68 [] (fun r=>r = .agg someP.cells):=by
 refine sB FN Tryz.func68 rfl Tryz.call68 ?_;conv=>whnf
 repeat' ((first|refine cP (MR _) ?_|refine cP (PB _) ?_|refine And.intro rfl ?_|refine aD ?_|refine bP ?_|refine PX rfl rfl ?_|refine cP (KD 8 (.mk 2 0 [121] []) (.mk 2 0 [120] [])) ?_|refine cP (KD 12 (.mk 2 0 [121] []) (.mk 1 9 [] [])) ?_);conv=>whnf)
 exact ⟨_,.p (Sub.agg (by repeat' (first|exact SubL.nil|exact SubE.nil|exact Sub.nils|exact Sub.ff rfl|exact Sub.tt rfl|refine SubL.cons ?_ ?_|refine SubE.cons ?_ ?_|exact Sub.refl _|refine Sub.agg ?_|refine Sub.sl ?_))),rfl⟩
theorem DB:Fit someP:=by unfold Fit;decide
theorem x3s:XS someP=true:=by kernel_rfl
theorem x5s:x5k someP [112]=(5,true):=by kernel_rfl
theorem x3z:x9l someP 7=(8,true):=by kernel_rfl
def f0:Pr:=someP.procs[0]'(by decide)
def f1:Pr:=someP.procs[1]'(by decide)
theorem w1t:WC (QH someP 0 f0)=[⟨0,1,1⟩,⟨1,2,1⟩,⟨2,3,1⟩,⟨3,4,1⟩,⟨4,-1,1⟩]:=by
 have h1:QH someP 0 f0=[⟨0,1,1⟩,⟨1,2,1⟩,⟨2,3,1⟩,⟨3,4,1⟩,⟨4,-1,1⟩]:=by kernel_rfl
 unfold WC UW;rw [h1,List.mergeSort_of_pairwise (by decide)];rfl
theorem z9k:WC (QH someP 1 f1)=[⟨0,5,1⟩,⟨5,6,1⟩,⟨6,7,1⟩,⟨6,8,1⟩,⟨7,-1,1⟩,⟨8,-1,1⟩]:=by
 have h1:QH someP 1 f1=[⟨0,5,1⟩,⟨5,6,1⟩,⟨6,7,1⟩,⟨6,8,1⟩,⟨7,-1,1⟩,⟨8,-1,1⟩]:=by kernel_rfl
 unfold WC UW;rw [h1,List.mergeSort_of_pairwise (by decide)];rfl
theorem x3r:NA someP [112]=some (QL someP 1 f1):=by
 unfold NA;rw [x3s];rfl
theorem z8n:(ofR someP [112]).length=6:=by
 unfold ofR;rw [x3r];show (WC (QH someP 1 f1)).length=6;rw [z9k];rfl
theorem z1i:(FL someP [112]).length=4:=by
 unfold FL;rw [x3r];show (q7w (QL someP 1 f1)).length=4;unfold QL;simp only [z9k]
 kernel_rfl
theorem e00:HD (QL someP 0 f0) f0 []=false:=by
 unfold QL;simp only [w1t]
 kernel_rfl
theorem e10:HD (QL someP 1 f1) f1 []=true:=by
 unfold QL;simp only [z9k]
 kernel_rfl
theorem e01:HD (QL someP 0 f0) f0 [[112]]=true:=by
 unfold QL;simp only [w1t]
 kernel_rfl
theorem x9u:(endsR someP).length=2:=by
 have r1:HE someP []=([[112]],true):=by
  show DK someP (DK someP ([],false) 0) 1=_;have h1:DK someP ([],false) 0=([],false):=by
   show (bif true&&HD (QL someP 0 f0) f0 [] then _ else _)=_;rw [e00];rfl
  rw [h1];show (bif true&&HD (QL someP 1 f1) f1 [] then _ else _)=_;rw [e10];rfl
 have r2:HE someP [[112]]=([[112],[109,97,105,110]],true):=by
  show DK someP (DK someP ([[112]],false) 0) 1=_;have h1:DK someP ([[112]],false) 0=([[112],[109,97,105,110]],true):=by
   show (bif true&&HD (QL someP 0 f0) f0 [[112]] then _ else _)=_;rw [e01];rfl
  rw [h1];rfl
 have r3:HE someP [[112],[109,97,105,110]]=([[112],[109,97,105,110]],false):=by
  show DK someP (DK someP ([[112],[109,97,105,110]],false) 0) 1=_;rfl
 have h:GE someP (someP.procs.length+1) []=[[112],[109,97,105,110]]:=by
  show GE someP 3 []=_;rw [GE,r1,cond_true,GE,r2,cond_true,GE,r3];rfl
 unfold endsR;rw [x3s,cond_true,h,WB];rfl
theorem ZJ:SpecP Tryz.prog 31 [] (fun r=>r = .tt):=by
 have hB:=x6k someP DB 7;rw [x3z] at hB;have hF:=z0y someP DB [112];rw [x5s] at hF;have hO:=z8n;have hL:=z1i;have hE:=x9u;refine sB JC Tryz.func31 rfl Tryz.call31 ?_;conv=>whnf
 repeat' (first|((first|(refine iM fun _=>?_)|refine And.intro rfl ?_|refine cP PG ?_|refine cP hB ?_|refine cP hF ?_|refine cP (w2x someP DB [112]) ?_|refine cP (x5g someP DB [112]) ?_|refine cP (z4w someP DB) ?_);conv=>whnf)|(apply bD<;>intro _<;>first|omega|conv=>whnf)|(apply bB<;>intro _<;>conv=>whnf))
 all_goals first
  | exact ⟨_,.p (z3u (by rw [length_map,hE];rfl)),rfl⟩
  | (exfalso;simp only [length_map] at *;omega)
  | (exfalso;simp_all;done)
def q8b (l:List Int) (x:Int):Bool:=l.any fun y=>decide (x=y)
theorem NN (l:List Int) (x:Int):SpecP Tryz.prog 38 [XW l,.int .i64 x] (fun r=>r = .bool (q8b l x)):=by
 refine sB FF Tryz.func38 rfl Tryz.call38 ?_;conv=>whnf
 repeat' (refine iM fun _=>?_;conv=>whnf)
 have hl:(l.map (AV.int .i64)).length=l.length:=length_map _;refine LoopK.inv QU (fun j:Nat=>⟨[(1,.p (.int .i64 x)),(7,.p (XW l)),(8,.p (.int .i64 (l.map (AV.int .i64)).length)),(9,.p (.int .i64 j))],[]⟩) (fun j=>j<=l.length∧(l.drop j).any (fun y=>decide (x=y))=q8b l x) (fun j=>l.length-j) 0 (Le.of_eq rfl) ⟨zero_le _,rfl⟩ ?_;rintro j ⟨h2,h3⟩;rcases Nat.lt_or_ge j l.length with hj|hj
 ·conv=>whnf
  repeat' (first|((first|(refine iA fun _=>?_)|refine wI ?_);conv=>whnf)|(apply bD<;>intro _<;>first|omega|conv=>whnf))
  ·exact RetK.tt (by rw [<- h3,x2k hj (by simpa using by assumption)])
  ·exact ⟨j+1,⟨hj,by rw [q4z hj (by simpa using by assumption)];exact h3⟩,by omega,Le.of_eq rfl⟩
 ·conv=>whnf
  repeat' (apply bD<;>intro _<;>first|omega|conv=>whnf)
  exact RetK.ff (by rw [<- h3,PN hj])
def w5m (a b:Int):Bool:=bif decide (a = -1)||decide (b = -1) then decide (b = -1) && !decide (a = -1) else decide (a<b)
theorem q1l {α β:Type} {f:α->β} : ∀ {l:List α},(l.map f).Nodup -> ∀ a∈l,∀ b∈l,f a=f b->a=b
 | [],_,a,ha,_,_,_=>by cases ha
 | c::r,h,a,ha,b,hb,e=>by
   rw [List.map_cons,List.nodup_cons] at h;rcases List.mem_cons.1 ha with ha1|ha1
   ·rcases List.mem_cons.1 hb with hb1|hb1
    ·rw [ha1,hb1]
    ·exact (h.1 (List.mem_map.2 ⟨b,hb1,by rw [<- e,ha1]⟩)).elim
   ·rcases List.mem_cons.1 hb with hb1|hb1
    ·exact (h.1 (List.mem_map.2 ⟨a,ha1,by rw [e,hb1]⟩)).elim
    ·exact q1l h.2 a ha1 b hb1 e
theorem x6n (n c:Nat):(q6i n c).Nodup:=by
 unfold q6i Nodup;rw [List.pairwise_map];exact List.Pairwise.imp (fun h e=>h (by omega)) (List.nodup_range' (s:=n+1) (n:=c) (step:=1))
theorem z2t {p:Pg} (hm:JA p=true) {j:Nat} {f:Pr} (hj:p.procs[j]? = some f):(itsOf p j f).map (fun it=>it.s.id)=q6i (QR p.procs j) (cntL f.body):=by
 rw [<- x9t hm hj,<- BC (j:Nat) 0 (-1) 0 (QR p.procs j) f.body,List.map_map];rfl
theorem z7v {p:Pg} (hm:JA p=true) {j:Nat} {f:Pr} (hj:p.procs[j]? = some f) {a b:Item} (ha:a∈itsOf p j f) (hb:b∈itsOf p j f) (h:a.s.id=b.s.id):a=b :=
 q1l (f:=fun it:Item=>it.s.id) (by rw [z2t hm hj];exact x6n _ _) a ha b hb h
theorem x6v {p:Pg} {j:Nat} {f:Pr} {t:S} (h:t∈flL f.body) : ∃ it∈itsOf p j f,it.s=t:=by
 rw [<- BC (j:Nat) 0 (-1) 0 (QR p.procs j) f.body] at h;obtain ⟨it,h1,h2⟩:=List.mem_map.1 h;exact ⟨it,h1,h2⟩
theorem z5o {l:List Int} {x:Int}:q8b l x=true↔x∈l:=by
 unfold q8b;rw [List.any_eq_true];refine ⟨fun ⟨y,h1,h2⟩=>by simp at h2;exact h2▸h1,fun h=>⟨x,h,by simp⟩⟩
inductive Rch {α:Type} (R:α->α->Prop) (a:α):α->Prop
 | refl:Rch R a a
 | tail {b c:α} (h:Rch R a b) (hr:R b c):Rch R a c
theorem Rch.mono {α:Type} {R R':α->α->Prop} (h : ∀ x y,R x y->R' x y) {a b:α} (hr:Rch R a b):Rch R' a b:=by
 induction hr with
 | refl=>exact .refl
 | tail _ hr ih=>exact .tail ih (h _ _ hr)
theorem Rch.closed {α:Type} {R:α->α->Prop} {S:α->Prop} (hS : ∀ x y,S x->R x y->S y) {a b:α} (ha:S a) (h:Rch R a b):S b:=by
 induction h with
 | refl=>exact ha
 | tail _ hr ih=>exact hS _ _ ih hr
structure WkM (n:Nat) (st:List Bool×List Int):Prop where
 inv:wkInv n st
 mem : ∀ x,x∈st.2↔(0<=x∧x<n)∧st.1.getD x.toNat false=true
theorem z3j (n:Nat):WkM n (List.replicate n false,[]):=⟨DV n,fun x=>by
 simp only [not_mem_nil,false_iff,not_and];intro _;rw [getD_eq_getElem?_getD,List.getElem?_replicate];split<;>simp⟩
theorem WkM.see {n:Nat} {st:List Bool×List Int} (h:WkM n st) {b:Int} (hb:0<=b∧b<n):WkM n (HO st b)∧(∀ x,x∈(HO st b).2↔x∈st.2∨x=b)∧st.2 <+: (HO st b).2:=by
 have hi:=DH h.inv hb;cases hs:st.1.getD b.toNat false with
 | true =>
   have e:HO st b=st:=by unfold HO;rw [hs];rfl
   rw [e];refine ⟨h,fun x=>⟨.inl,fun hx => ?_⟩,List.prefix_refl _⟩;rcases hx with hx|rfl
   ·exact hx
   ·exact (h.mem _).2 ⟨hb,hs⟩
 | false =>
   have e:HO st b=(st.1.set b.toNat true,st.2++[b]):=by unfold HO;rw [hs];rfl
   rw [e] at hi ⊢;have hlen:=h.inv.1;refine ⟨⟨hi,fun x => ?_⟩,fun x=>by simp,List.prefix_append _ _⟩;rw [List.mem_append,List.mem_singleton,h.mem];simp only [getD_eq_getElem?_getD,List.getElem?_set];by_cases hx:x=b
   ·subst hx;rw [if_pos rfl,if_pos (by omega)];simp [hb]
   ·constructor
    ·rintro (⟨h1,h2⟩|h2)
     ·refine ⟨h1,?_⟩;rw [if_neg (by omega)];exact h2
     ·exact absurd h2 hx
    ·rintro ⟨h1,h2⟩;rw [if_neg (by omega)] at h2;exact .inl ⟨h1,h2⟩
theorem WkM.fold {n:Nat} : ∀ (l:List Int) {st:List Bool×List Int},WkM n st->(∀ b∈l,0<=b∧b<n)->WkM n (l.foldl HO st)∧(∀ x,x∈(l.foldl HO st).2↔x∈st.2∨x∈l)∧st.2 <+: (l.foldl HO st).2
 | [],st,h,_=>⟨h,fun x=>by simp,List.prefix_refl _⟩
 | b::r,st,h,hl=>by
   obtain ⟨h1,h2,h3⟩:=h.see (hl b mem_cons_self);obtain ⟨h4,h5,h6⟩:=WkM.fold r h1 fun c hc=>hl c (mem_cons_of_mem _ hc);refine ⟨h4,fun x => ?_,h3.trans h6⟩;rw [foldl_cons,h5,h2,mem_cons,or_assoc]
def z3h (rows:List (List Int)) (x y:Int):Prop:=y∈rows.getD x.toNat []
theorem w1k {n:Nat} {rows:List (List Int)} (hr:WU n rows) {x y:Int} (h:z3h rows x y):0<=y∧y<n:=by
 unfold z3h at h;rw [getD_eq_getElem?_getD] at h;cases hq:rows[x.toNat]? with
 | none=>rw [hq] at h;simp at h
 | some r=>rw [hq] at h;exact hr.2 r (List.mem_of_getElem? hq) y h
theorem q4g {α:Type} {l m:List α} (h:l <+: m) {i:Nat} {a:α} (ha:l[i]? = some a):m[i]? = some a:=by
 obtain ⟨t,rfl⟩:=h;rw [List.getElem?_append_left (List.getElem?_eq_some_iff.1 ha).1];exact ha
theorem x0i {n:Nat} {rows:List (List Int)} (hr:WU n rows) : ∀ (k i:Nat) {st:List Bool×List Int},WkM n st->i<=st.2.length->n+1<=k+i->(∀ (m:Nat) (a:Int),m<i->st.2[m]? = some a -> ∀ b,z3h rows a b->b∈st.2) ->
  WkM n (UO rows k i st)∧(∀ x∈st.2,x∈(UO rows k i st).2)∧(∀ x∈(UO rows k i st).2,∀ b,z3h rows x b->b∈(UO rows k i st).2)∧(∀ S:Int->Prop,(∀ x∈st.2,S x)->(∀ x b,S x->z3h rows x b->S b) -> ∀ x∈(UO rows k i st).2,S x)
 | 0,i,st,h,hi,hk,_=>by
   have:=DT h.inv;omega
 | k+1,i,st,h,hi,hk,hc=>by
   rw [UO];split
   ·rename_i a ha;have hlt:=(List.getElem?_eq_some_iff.1 ha).1;have hrow : ∀ b∈rows.getD a.toNat [],0<=b∧b<n:=fun b hb=>w1k hr hb;obtain ⟨h1,h2,h3⟩:=h.fold (rows.getD a.toNat []) hrow;obtain ⟨h4,h5,h6,h7⟩:=x0i hr k (i+1) h1 (Nat.le_trans hlt h3.length_le) (by omega) fun m c hm hmc b hb=>by
     rw [h2];rcases Nat.lt_or_ge m i with hmi|hmi
     ·have hml:m<st.2.length:=by omega
      have hmc':st.2[m]? = some c:=by
       have:=q4g h3 (List.getElem?_eq_getElem hml);rw [List.getElem?_eq_getElem hml,<- this,hmc]
      exact .inl (hc m c hmi hmc' b hb)
     ·obtain rfl:m=i:=by omega
      have:=q4g h3 ha;rw [this] at hmc;cases hmc;exact .inr hb
    refine ⟨h4,fun x hx=>h5 x ((h2 x).2 (.inl hx)),h6,fun S hS hcl=>h7 S (fun x hx => ?_) hcl⟩;rcases (h2 x).1 hx with hx|hx
    ·exact hS x hx
    ·exact hcl a x (hS a (List.mem_of_getElem? ha)) hx
   ·rename_i ha;have hlen:st.2.length<=i:=List.getElem?_eq_none_iff.1 ha;refine ⟨h,fun x hx=>hx,fun x hx b hb => ?_,fun S hS _=>hS⟩;obtain ⟨m,hm⟩:=List.mem_iff_getElem?.1 hx;exact hc m x (by have:=(List.getElem?_eq_some_iff.1 hm).1;omega) hm b hb
theorem PS {n:Nat} : ∀ (l:List Int) {st:List Bool×List Int},WkM n st->WkM n (l.foldl (fun st a=>bif ZC n a then HO st a else st) st) ∧ ∀ x,x∈(l.foldl (fun st a=>bif ZC n a then HO st a else st) st).2↔x∈st.2∨(x∈l∧ZC n x=true)
 | [],st,h=>⟨h,fun x=>by simp⟩
 | a::r,st,h=>by
   rw [foldl_cons];cases hb:ZC n a with
   | true =>
     obtain ⟨h1,h2,_⟩:=h.see (ZV hb);obtain ⟨h3,h4⟩:=PS r h1;rw [cond_true];refine ⟨h3,fun x => ?_⟩;rw [h4,h2,mem_cons];constructor
     ·rintro ((h5|rfl)|⟨h5,h6⟩)
      ·exact .inl h5
      ·exact .inr ⟨.inl rfl,hb⟩
      ·exact .inr ⟨.inr h5,h6⟩
     ·rintro (h5|⟨rfl|h5,h6⟩)
      ·exact .inl (.inl h5)
      ·exact .inl (.inr rfl)
      ·exact .inr ⟨h5,h6⟩
   | false =>
     obtain ⟨h3,h4⟩:=PS r h;rw [cond_false];refine ⟨h3,fun x => ?_⟩;rw [h4,mem_cons];constructor
     ·rintro (h5|⟨h5,h6⟩)
      ·exact .inl h5
      ·exact .inr ⟨.inr h5,h6⟩
     ·rintro (h5|⟨rfl|h5,h6⟩)
      ·exact .inl h5
      ·rw [hb] at h6;cases h6
      ·exact .inr ⟨h5,h6⟩
theorem x3i : ∀ (l:List Bool) (i:Nat) (y:Int),y∈PL i l ↔ ∃ k:Nat,l[k]? = some true∧y=((i+k:Nat):Int)
 | [],i,y=>by simp [PL]
 | b::r,i,y=>by
   have ih:=x3i r (i+1) y;have key:(∃ k:Nat,(b::r)[k]? = some true∧y=((i+k:Nat):Int))↔(b=true∧y=(i:Int)) ∨ ∃ k:Nat,r[k]? = some true∧y=((i+1+k:Nat):Int):=by
    constructor
    ·rintro ⟨k,h1,h2⟩;cases k with
     | zero=>simp at h1;exact .inl ⟨h1,by simpa using h2⟩
     | succ k=>exact .inr ⟨k,by simpa using h1,by rw [h2];omega⟩
    ·rintro (⟨h1,h2⟩|⟨k,h1,h2⟩)
     ·exact ⟨0,by simp [h1],by simpa using h2⟩
     ·exact ⟨k+1,by simpa using h1,by rw [h2];omega⟩
   rw [key,<- ih,PL];cases b<;>simp
theorem z3x {n:Nat} {rows:List (List Int)} (hr:WU n rows) (l:List Int) (y:Int):y∈PL 0 (UP rows l) ↔ ∃ a∈l,ZC n a=true∧Rch (z3h rows) a y:=by
 obtain ⟨h1,h2⟩:=PS (n:=n) l (z3j n);obtain ⟨h3,h4,h5,h6⟩:=x0i hr (rows.length+1) 0 (st:=GS rows.length l) (by rw [hr.1];exact h1) (zero_le _) (by rw [hr.1];omega) (fun m a hm=>by omega);have hst : ∀ x,x∈(GS rows.length l).2↔x∈l∧ZC n x=true:=fun x=>by
  rw [hr.1];unfold GS;rw [h2];simp
 have hmem : ∀ y,y∈PL 0 (UP rows l)↔y∈(UO rows (rows.length+1) 0 (GS rows.length l)).2:=fun y=>by
  rw [x3i,h3.mem];show (∃ k:Nat,(UO rows (rows.length+1) 0 (GS rows.length l)).1[k]? = some true∧_)↔_;constructor
  ·rintro ⟨k,h7,h8⟩;have hlt:=(List.getElem?_eq_some_iff.1 h7).1;rw [h3.inv.1] at hlt;refine ⟨by omega,?_⟩;rw [h8,getD_eq_getElem?_getD];simp [h7]
  ·rintro ⟨h7,h8⟩;have hlt:y.toNat<(UO rows (rows.length+1) 0 (GS rows.length l)).1.length:=by rw [h3.inv.1];omega
   refine ⟨y.toNat,?_,by omega⟩;rw [getD_eq_getElem?_getD,List.getElem?_eq_getElem hlt] at h8;rw [List.getElem?_eq_getElem hlt];simpa using h8
 rw [hmem];constructor
 ·intro hy;refine h6 (fun y => ∃ a∈l,ZC n a=true∧Rch (z3h rows) a y) (fun x hx => ?_) (fun x b ⟨a,h7,h8,h9⟩ hb=>⟨a,h7,h8,.tail h9 hb⟩) y hy;obtain ⟨h7,h8⟩:=(hst x).1 hx;exact ⟨x,h7,h8,.refl⟩
 ·rintro ⟨a,h7,h8,h9⟩;exact h9.closed (S:=fun y=>y∈(UO rows (rows.length+1) 0 (GS rows.length l)).2) (fun x b hx hb=>h5 x hx b hb) (h4 a ((hst a).2 ⟨h7,h8⟩))
theorem z5i {l:List Int} {k:Nat} {b x:Int}:x∈NO l k b↔x∈l∨x=b:=by
 unfold NO;rw [List.mem_append,mem_cons];have:x∈l↔x∈l.take k∨x∈l.drop k:=by rw [<- List.mem_append,List.take_append_drop]
 rw [this];constructor
 ·rintro (h|h|h)
  ·exact .inl (.inl h)
  ·exact .inr h
  ·exact .inl (.inr h)
 ·rintro ((h|h)|h)
  ·exact .inl h
  ·exact .inr (.inr h)
  ·exact .inr (.inl h)
theorem z6b {n:Nat} {g:List (List Int)×List (List Int)} (hl:g.1.length=n) (e:Int×Int) {x y:Int} (hx:0<=x∧x<n):y∈(x3v n g e).1.getD x.toNat []↔y∈g.1.getD x.toNat []∨((x,y)=e∧ZC n y=true):=by
 rw [q3r];cases hc:(ZC n e.1&&ZC n e.2 && !(g.1.getD e.1.toNat []).contains e.2) with
 | true =>
   simp only [Bool.and_eq_true,Bool.not_eq_true'] at hc;obtain ⟨⟨h1,h2⟩,_⟩:=hc;have h3:=ZV h1;rw [cond_true];unfold x0q;rw [getD_eq_getElem?_getD,List.getElem?_set];by_cases he:e.1.toNat=x.toNat
   ·rw [if_pos he,if_pos (by omega)];simp only [Option.getD_some];rw [z5i,<- he];have:x=e.1:=by omega
    constructor
    ·rintro (h|h)
     ·exact .inl h
     ·exact .inr ⟨by rw [this,h],by rw [h];exact h2⟩
    ·rintro (h|⟨h,_⟩)
     ·exact .inl h
     ·exact .inr (by rw [<- h])
   ·rw [if_neg he,<- getD_eq_getElem?_getD];constructor
    ·exact .inl
    ·rintro (h|⟨h,_⟩)
     ·exact h
     ·exact absurd (by rw [<- h]) he
 | false =>
   rw [cond_false];constructor
   ·exact .inl
   ·rintro (h|⟨rfl,h⟩)
    ·exact h
    ·have h1:ZC n x=true:=by unfold ZC;simp [hx]
     simp only [h1,h,Bool.true_and,Bool.not_eq_false'] at hc;simpa using hc
theorem z5l {n:Nat} {g:List (List Int)×List (List Int)} (hl:g.1.length=n) (e:Int×Int):(x3v n g e).1.length=n:=by
 rw [q3r];cases (ZC n e.1&&ZC n e.2 && !(g.1.getD e.1.toNat []).contains e.2) with
 | true=>rw [cond_true];unfold x0q;rw [List.length_set];exact hl
 | false=>exact hl
theorem x0z {n:Nat} {x y:Int} (hx:0<=x∧x<n) : ∀ (l:List (Int×Int)) {g:List (List Int)×List (List Int)},g.1.length=n->(y∈(l.foldl (x3v n) g).1.getD x.toNat []↔y∈g.1.getD x.toNat []∨((x,y)∈l∧ZC n y=true))
 | [],g,_=>by simp
 | e::r,g,h=>by
   rw [foldl_cons,x0z hx r (z5l h e),z6b h e hx,mem_cons];constructor
   ·rintro ((h1|⟨h1,h2⟩)|⟨h1,h2⟩)
    ·exact .inl h1
    ·exact .inr ⟨.inl h1,h2⟩
    ·exact .inr ⟨.inr h1,h2⟩
   ·rintro (h1|⟨h1|h1,h2⟩)
    ·exact .inl (.inl h1)
    ·exact .inl (.inr ⟨h1,h2⟩)
    ·exact .inr ⟨h1,h2⟩
theorem q4h {n:Nat} {l:List (Int×Int)} {x y:Int} (hx:0<=x∧x<n):z3h (XY n l).1 x y↔(x,y)∈l∧ZC n y=true:=by
 unfold z3h XY;rw [x0z hx l (by simp)];have:(List.replicate n ([]:List Int)).getD x.toNat []=[]:=by
  rw [getD_eq_getElem?_getD,List.getElem?_replicate];split<;>rfl
 rw [this];simp
theorem x2v {n:Nat} {l:List (Int×Int)} (h0:0<n) (y:Int):y∈PL 0 (UP (XY n l).1 [0])↔Rch (fun a b=>(a,b)∈l∧ZC n b=true) 0 y:=by
 rw [z3x (q2j n l).1];have hs:ZC n 0=true:=by unfold ZC;simp;omega
 constructor
 ·rintro ⟨a,ha,_,h⟩;obtain rfl:a=0:=by simpa using ha
  exact (h.closed (S:=fun x:Int=>(0<=x∧x<n)∧Rch (fun a b=>(a,b)∈l∧ZC n b=true) 0 x) (fun x y ⟨h1,h2⟩ h3=>by
   have h4:=(q4h h1).1 h3;exact ⟨ZV h4.2,.tail h2 h4⟩) ⟨⟨by omega,by omega⟩,.refl⟩).2
 ·intro h;refine ⟨0,by simp,hs,?_⟩;exact (h.closed (S:=fun x:Int=>(0<=x∧x<n)∧Rch (z3h (XY n l).1) 0 x) (fun x y ⟨h1,h2⟩ h3=>⟨ZV h3.2,.tail h2 ((q4h h1).2 h3)⟩) ⟨⟨by omega,by omega⟩,.refl⟩).2
def stR (F:List Step) (a b:Int):Prop := ∃ s∈F,s.src=a∧s.dst=b
def plP (p:Pg) (j:Nat) (f:Pr) (x:Int):Prop:=x=0∨x = -1∨((QR p.procs j:Int)+1<=x∧x<=(QR p.procs j+cntL f.body:Nat))
def ixI (p:Pg) (j:Nat) (f:Pr) (x:Int):Int:=KB (loI p j) (hiI p j f) (cntL f.body+2:Nat) x
theorem z7x {p:Pg} {j:Nat} {f:Pr} {x:Int} (h:plP p j f x):0<=ixI p j f x∧ixI p j f x<(cntL f.body+2:Nat):=by
 unfold ixI KB loI hiI;unfold plP at h
 (repeat' split)<;>omega
theorem z7p {p:Pg} {j:Nat} {f:Pr} {x y:Int} (hx:plP p j f x) (hy:plP p j f y) (h:ixI p j f x=ixI p j f y):x=y:=by
 unfold ixI KB loI hiI at h;unfold plP at hx hy
 (repeat' split at h)<;>omega
theorem q4n {p:Pg} {j:Nat} {f:Pr} {F:List Step} (hF : ∀ s∈F,plP p j f s.src∧plP p j f s.dst) {y:Int} (hy:plP p j f y) :
  ixI p j f y∈PL 0 (UP (XY (cntL f.body+2) (F.map (ixP p j f (cntL f.body+2:Nat)))).1 [0])↔Rch (stR F) 0 y:=by
 rw [x2v (by omega)];have e0:ixI p j f 0=0:=by unfold ixI KB;rw [if_pos rfl]
 have p0:plP p j f 0 := .inl rfl;constructor
 ·intro h;obtain ⟨z,h1,h2,h3⟩:=h.closed (S:=fun i => ∃ z,plP p j f z∧ixI p j f z=i∧Rch (stR F) 0 z) (by
   rintro a b ⟨z,h1,h2,h3⟩ ⟨h4,_⟩;obtain ⟨s,hs,he⟩:=List.mem_map.1 h4;obtain ⟨h5,h6⟩:=hF s hs;have e1:ixI p j f s.src=a:=congrArg Prod.fst he;have e2:ixI p j f s.dst=b:=congrArg Prod.snd he;have e3:s.src=z:=z7p h5 h1 (by rw [e1,h2]);exact ⟨s.dst,h6,e2,.tail h3 ⟨s,hs,e3,rfl⟩⟩) ⟨0,p0,e0,.refl⟩
  rw [<- z7p h1 hy h2];exact h3
 ·intro h;have:=h.closed (S:=fun z=>plP p j f z∧Rch (fun a b=>(a,b)∈F.map (ixP p j f (cntL f.body+2:Nat))∧ZC (cntL f.body+2) b=true) 0 (ixI p j f z)) (by
   rintro a b ⟨h1,h2⟩ ⟨s,hs,rfl,rfl⟩;obtain ⟨h5,h6⟩:=hF s hs;refine ⟨h6,.tail h2 ⟨List.mem_map.2 ⟨s,hs,rfl⟩,?_⟩⟩;have:=z7x h6;unfold ZC;simp only [Bool.and_eq_true,decide_eq_true_eq];exact this) ⟨p0,by rw [e0];exact .refl⟩
  exact this.2
theorem DU {p:Pg} (h:XS p=true) {j:Nat} {f:Pr} (hj:p.procs[j]? = some f) : ∀ s∈(QL p j f).real,plP p j f s.src∧plP p j f s.dst:=fun s hs=>by
 obtain ⟨_,h2⟩:=q1w h hj;obtain ⟨_,h3,_⟩:=NH h hj;obtain ⟨h4,h5⟩:=h3 s ((h2 s).1 hs);unfold okI at h5;unfold plP;omega
def z9p (p:Pg) (k:Nat) (f:Pr) (E:List Str):Prop:=Rch (stR ((QL p k f).real.filter (BT p E))) 0 (-1)
theorem q9o {p:Pg} (h:XS p=true) {k:Nat} {f:Pr} (hj:p.procs[k]? = some f) (E:List Str):HD (QL p k f) f E=true↔z9p p k f E:=by
 unfold z9p;rw [<- q4n (p:=p) (j:=k) (f:=f) (fun s hs=>DU h hj s (List.mem_filter.1 hs).1) (y := -1) (.inr (.inl rfl))];unfold HD;rw [List.any_eq_true];have e1:ixI p k f (-1)=((cntL f.body+2:Nat):Int)-1:=by unfold ixI KB;rw [if_neg (by omega),if_pos rfl]
 rw [e1];constructor
 ·rintro ⟨x,h1,h2⟩;have h2:((cntL f.body+2:Nat):Int)-1=x:=of_decide_eq_true h2;rw [h2];exact h1
 ·intro h1;exact ⟨_,h1,decide_eq_true rfl⟩
def w5s (E:List Str) (s:Str):Bool:=E.any fun x=>s==x
theorem q5n {E:List Str} {s:Str}:w5s E s=true↔s∈E:=by
 unfold w5s;rw [List.any_eq_true];constructor
 ·rintro ⟨x,h1,h2⟩;have:s=x:=by simpa using h2
  rw [this];exact h1
 ·intro h;exact ⟨s,h,by simp⟩
theorem x8j {p:Pg} {E E':List Str} (h : ∀ s∈E,s∈E') {t:Step} (ht:BT p E t=true):BT p E' t=true:=by
 unfold BT at ht ⊢;rw [Bool.or_eq_true] at ht ⊢;rcases ht with ht|ht
 ·exact .inl ht
 ·refine .inr ?_;split at ht
  ·simp only [Bool.not_eq_true',Bool.and_eq_false_iff,Bool.not_eq_false'] at ht ⊢;rcases ht with ht|ht
   ·exact .inl ht
   ·exact .inr (q5n.2 (h _ (q5n.1 ht)))
  ·rfl
theorem DP {p:Pg} {k:Nat} {f:Pr} {E E':List Str} (h : ∀ s∈E,s∈E') (he:z9p p k f E):z9p p k f E':=by
 refine he.mono fun x y ⟨s,hs,h1,h2⟩=>⟨s,?_,h1,h2⟩;obtain ⟨h3,h4⟩:=List.mem_filter.1 hs;exact List.mem_filter.2 ⟨h3,x8j h h4⟩
theorem NQ {p:Pg} : ∀ (l:List Nat) (o:List Str) (b:Bool),(l.foldl (DK p) (o,b)).2=false->b=false∧(l.foldl (DK p) (o,b)).1=o ∧ ∀ k∈l,DK p (o,false) k=(o,false)
 | [],o,b,h=>⟨h,rfl,by simp⟩
 | k::r,o,b,h=>by
   rw [foldl_cons] at h ⊢;have hst:DK p (o,b) k=(o,b)∨(DK p (o,b) k).2=true:=by
    unfold DK;split
    ·rename_i f _;cases (!((o,b).1.any fun s=>f.name==s)&&HD (QL p k f) f (o,b).1) with
     | true=>exact .inr rfl
     | false=>exact .inl rfl
    ·exact .inl rfl
   rcases hst with hst|hst
   ·rw [hst] at h ⊢;obtain ⟨h1,h2,h3⟩:=NQ r o b h;refine ⟨h1,h2,fun m hm => ?_⟩;rcases List.mem_cons.1 hm with rfl|hm
    ·rw [<- h1];rw [h1] at hst ⊢;exact hst
    ·exact h3 m hm
   ·have:=(NQ r (DK p (o,b) k).1 (DK p (o,b) k).2 h).1;rw [hst] at this;cases this
def q3v (p:Pg) (out:List Str):Prop := ∀ s∈out,∃ (k:Nat) (f:Pr),p.procs[k]? = some f∧f.name=s∧z9p p k f out
theorem z4m {p:Pg} (hc:XS p=true) {st:List Str×Bool} (h:q3v p st.1) (k:Nat):q3v p (DK p st k).1∧YB p (DK p st k).1+(DK p st k).2.toNat<=YB p st.1+st.2.toNat:=by
 unfold DK;split
 ·rename_i f hf;cases hq:(!(st.1.any fun s=>f.name==s)&&HD (QL p k f) f st.1) with
  | true =>
    rw [cond_true];simp only [Bool.and_eq_true,Bool.not_eq_true'] at hq;have hl:=q8c (p:=p) (out:=st.1) (List.mem_of_getElem? hf) hq.1;have he:=(q9o hc hf st.1).1 hq.2;refine ⟨fun s hs => ?_,?_⟩
    ·rcases List.mem_append.1 hs with hs|hs
     ·obtain ⟨k',f',h1,h2,h3⟩:=h s hs;exact ⟨k',f',h1,h2,DP (fun s hs=>List.mem_append.2 (.inl hs)) h3⟩
     ·obtain rfl:=List.mem_singleton.1 hs;exact ⟨k,f,hf,rfl,DP (fun s hs=>List.mem_append.2 (.inl hs)) he⟩
    ·simp only [Bool.toNat_true];omega
  | false=>exact ⟨h,Nat.le_refl _⟩
 ·exact ⟨h,Nat.le_refl _⟩
theorem x0r {p:Pg} (hc:XS p=true) : ∀ (l:List Nat) {st:List Str×Bool},q3v p st.1->q3v p (l.foldl (DK p) st).1∧YB p (l.foldl (DK p) st).1+(l.foldl (DK p) st).2.toNat<=YB p st.1+st.2.toNat
 | [],st,h=>⟨h,Nat.le_refl _⟩
 | k::r,st,h=>by
   obtain ⟨h1,h2⟩:=z4m hc h k;obtain ⟨h3,h4⟩:=x0r hc r h1;rw [foldl_cons];exact ⟨h3,by omega⟩
theorem q3s {p:Pg} (hc:XS p=true) : ∀ (k:Nat) {out:List Str},YB p out<k->q3v p out->q3v p (GE p k out)∧(∀ s∈out,True) ∧ ∀ (m:Nat) (f:Pr),p.procs[m]? = some f->z9p p m f (GE p k out)->f.name∈GE p k out
 | 0,out,h,_=>by omega
 | k+1,out,h,hi=>by
   obtain ⟨h1,h2⟩:=x0r hc (List.range p.procs.length) (st:=(out,false)) hi;rw [GE];cases hr:(HE p out).2 with
   | true =>
     rw [cond_true];have hr':((List.range p.procs.length).foldl (DK p) (out,false)).2=true:=hr;rw [hr'] at h2;simp only [Bool.toNat_true,Bool.toNat_false] at h2;have h3:YB p (HE p out).1<k:=by show YB p ((List.range p.procs.length).foldl (DK p) (out,false)).1<k;omega
     obtain ⟨h4,_,h5⟩:=q3s hc k h3 h1;exact ⟨h4,fun _ _=>trivial,h5⟩
   | false =>
     rw [cond_false];obtain ⟨_,h3,h4⟩:=NQ (List.range p.procs.length) out false hr;have h3:(HE p out).1=out:=h3;rw [h3];refine ⟨hi,fun _ _=>trivial,fun m f hm he => ?_⟩;have h5:=h4 m (List.mem_range.2 (List.getElem?_eq_some_iff.1 hm).1);unfold DK at h5;rw [hm] at h5;simp only at h5;cases hq:(out.any fun s=>f.name==s) with
     | true=>exact q5n.1 hq
     | false =>
       rw [hq,(q9o hc hm out).2 he] at h5;have:=congrArg Prod.snd h5;cases this
theorem x9c (p:Pg):YB p []<=p.procs.length:=List.countP_le_length
theorem q7k {l:List Str} (h:XE l=false):l.Nodup:=by
 unfold XE at h;rw [List.any_eq_false] at h;unfold Nodup;rw [List.pairwise_iff_getElem];intro i j hi hj hij he;have h1:=h j (List.mem_range.2 hj);apply h1;rw [List.any_eq_true];refine ⟨l[i],?_,?_⟩
 ·exact List.mem_iff_getElem.2 ⟨i,by simp;omega,by simp⟩
 ·rw [List.getElem?_eq_getElem hj];simp [he]
theorem q0s {p:Pg} (h:XS p=true):(procsN p).Nodup:=by
 obtain ⟨hm,hs,_⟩:=QY h;unfold QM at hs;rw [hm,cond_true] at hs;cases hb:XM p with
 | true=>rw [hb] at hs;cases hs
 | false =>
   unfold XM at hb;simp only [Bool.or_eq_false_iff] at hb;exact q7k hb.2.1
theorem LP {p:Pg} (h:XS p=true) {j k:Nat} {f g:Pr} (hj:p.procs[j]? = some f) (hk:p.procs[k]? = some g) (he:f.name=g.name):j=k∧f=g:=by
 have hn:=q0s h;have h1:(procsN p)[j]? = some f.name:=by simp [procsN,hj]
 have h2:(procsN p)[k]? = some g.name:=by simp [procsN,hk]
 rw [he] at h1;have hjl:=(List.getElem?_eq_some_iff.1 h1).1;obtain rfl:j=k:=(List.getElem?_inj hjl hn).1 (h1.trans h2.symm);rw [hj] at hk;exact ⟨rfl,Option.some.inj hk⟩
theorem z6q {p:Pg} (h:XS p=true) {k:Nat} {f:Pr} (hk:p.procs[k]? = some f):f.name∈endsR p↔z9p p k f (endsR p):=by
 obtain ⟨h1,_,h3⟩:=q3s h (p.procs.length+1) (out:=[]) (by have:=x9c p;omega) (fun s hs=>by cases hs);have e : ∀ s,s∈endsR p↔s∈GE p (p.procs.length+1) []:=fun s=>by unfold endsR;rw [h,cond_true,JD]
 rw [e];constructor
 ·intro hm;obtain ⟨k',f',h4,h5,h6⟩:=h1 _ hm;obtain ⟨rfl,rfl⟩:=LP h hk h4 h5.symm;exact DP (fun s hs=>(e s).2 hs) h6
 ·intro he;exact h3 k f hk (DP (fun s hs=>(e s).1 hs) he)
end Go.Ab
