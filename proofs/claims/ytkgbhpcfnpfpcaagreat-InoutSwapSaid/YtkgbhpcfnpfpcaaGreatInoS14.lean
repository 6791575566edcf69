/- The law of a program that may be: every step leads from a place to a place. -/
import Derived.Laws.StructEq
import Derived.ChangeKeysEq
import Derived.Test.YtkgbhpcfnpfpcaaGreatInoS5
import Derived.Test.YtkgbhpcfnpfpcaaGreatInoS6
import Derived.Test.YtkgbhpcfnpfpcaaGreatInoS8
import Derived.Test.YtkgbhpcfnpfpcaaGreatInoS9
import Derived.Test.YtkgbhpcfnpfpcaaGreatInoS10
import Derived.Test.YtkgbhpcfnpfpcaaGreatInoS13
set_option linter.unusedSimpArgs false
set_option linter.unusedVariables false
set_option maxRecDepth 100000
set_option maxHeartbeats 16000000
open List (drop_eq_nil_of_le foldl_cons getD_eq_getElem?_getD getElem?_take length_map map_cons mem_cons mem_cons_of_mem mem_cons_self nodup_cons not_mem_nil pairwise_cons)
open Nat (zero_le)
namespace Go.Ab
open Go.Proofs
theorem ZJ {p:Pg} (h:XB p=true):MY p=true∧(QC p).1=0∧(WS p).1=0∧(BA p).1=0∧(GC p).1=0:=by
 unfold XB w5j at h;simp only [decide_eq_true_eq] at h;by_cases h1:MY p=false
 ·rw [if_pos h1] at h;cases h
 rw [if_neg h1] at h;by_cases h2:(QC p).1=0
 ·rw [if_neg (by omega)] at h;by_cases h3:(WS p).1=0
  ·rw [if_neg (by omega)] at h;by_cases h4:(BA p).1=0
   ·rw [if_neg (by omega)] at h;exact ⟨by simpa using h1,h2,h3,h4,h⟩
   ·rw [if_pos h4] at h;exact absurd h h4
  ·rw [if_pos h3] at h;exact absurd h h3
 ·rw [if_pos h2] at h;exact absurd h h2
theorem q3k {f:Pr} : ∀ (l:List Item) (seen:List Str) {s:List Str},YM f l seen = .ok s -> ∀ it∈l,VK f it=true
 | [],_,_,_,it,h=>by cases h
 | a::r,seen,s,h,it,hi=>by
   rw [YM] at h;cases hj:VW seen a.s.labels with
   | none=>rw [hj] at h;cases h
   | some s1 =>
     rw [hj] at h;simp only at h;cases hl:VK f a with
     | false=>rw [hl] at h;cases h
     | true =>
       rw [hl,cond_true] at h;rcases List.mem_cons.1 hi with rfl|hi
       ·exact hl
       ·exact q3k r s1 h it hi
theorem q6u {p:Pg} (hs:(QC p).1=0) (h:(BA p).1=0) {j:Nat} {f:Pr} (hj:p.procs[j]? = some f) : ∀ it∈itsOf p j f,VK f it=true:=by
 unfold BA at h;rw [if_neg (by omega)] at h;have hn:(List.range p.procs.length).findSome? (VL p)=none:=by
  cases hq:(List.range p.procs.length).findSome? (VL p) with
  | none=>rfl
  | some a=>rw [hq] at h;cases h
 rw [List.findSome?_eq_none_iff] at hn;have hlt:j<p.procs.length:=(List.getElem?_eq_some_iff.1 hj).1;have:=hn j (List.mem_range.2 hlt);unfold VL at this;rw [hj] at this;simp only at this;cases hr:YM f (itL (j:Nat) 0 (-1) 0 (QM p.procs j) f.body) [] with
 | error id=>rw [hr] at this;cases this
 | ok seen=>exact q3k _ _ hr
mutual
theorem w0h : ∀ (t u v:S),u∈flS t->v∈u.thn∨v∈u.els->v∈flS t
 | .mk id kind labels name proc x has args thn els,u,v,h,hv=>by
   rw [flS] at h ⊢;rcases List.mem_cons.1 h with rfl|h
   ·refine mem_cons_of_mem _ (List.mem_append.2 ?_);rcases hv with hv|hv
    ·exact .inl (PH thn v hv)
    ·exact .inr (PH els v hv)
   ·rcases List.mem_append.1 h with h|h
    ·exact mem_cons_of_mem _ (List.mem_append.2 (.inl (q2v thn u v h hv)))
    ·exact mem_cons_of_mem _ (List.mem_append.2 (.inr (q2v els u v h hv)))
theorem q2v : ∀ (l:List S) (u v:S),u∈flL l->v∈u.thn∨v∈u.els->v∈flL l
 | [],u,v,h,hv=>by rw [flL] at h;cases h
 | t::r,u,v,h,hv=>by
   rw [flL] at h ⊢;rcases List.mem_append.1 h with h|h
   ·exact List.mem_append.2 (.inl (w0h t u v h hv))
   ·exact List.mem_append.2 (.inr (q2v r u v h hv))
end
theorem x0g {p:Pg} {j:Nat} {f:Pr} {it:Item} (h:it∈itsOf p j f):it.s∈flL f.body:=by
 unfold itsOf at h;rw [<- LU (j:Nat) 0 (-1) 0 (QM p.procs j) f.body];exact List.mem_map.2 ⟨it,h,rfl⟩
theorem JK {p:Pg} (hm:MY p=true) {j:Nat} {f:Pr} (hj:p.procs[j]? = some f) {t:S} (h:t∈flL f.body):(QM p.procs j:Int)+1<=t.id∧t.id<=(QM p.procs j+cntL f.body:Nat):=by
 have h1:=z3f hm hj;have h2:t.id∈q5m (QM p.procs j) (cntL f.body):=by
  rw [<- h1];exact List.mem_map.2 ⟨t,h,rfl⟩
 have:=w0q h2;omega
theorem q3t {p:Pg} {j:Nat} {f:Pr} {it:Item} (h:it∈itsOf p j f):okI (QM p.procs j) (QM p.procs j+cntL f.body) it.next∧(it.loop=0∨((QM p.procs j:Int)+1<=it.loop∧it.loop<=(QM p.procs j+cntL f.body:Nat))) :=
 q8g (j:Nat) _ _ f.body 0 (-1) 0 _ it h (.inl rfl) (.inl rfl) (Nat.le_refl _) (Nat.le_refl _)
theorem x3t {p:Pg} {j:Nat} {f:Pr} (hj:p.procs[j]? = some f) {k:Nat} (h1:QM p.procs j<=k) (h2:k<QM p.procs j+cntL f.body) : ∃ it,(sheetOf p).l[k]? = some it∧it∈itsOf p j f:=by
 obtain ⟨_,_,_,hlen,hsp⟩:=QK p;obtain ⟨_,_,hle,hd⟩:=hsp j f hj;have hk:k<(sheetOf p).l.length:=by omega
 refine ⟨(sheetOf p).l[k],List.getElem?_eq_getElem hk,?_⟩;unfold itsOf;rw [<- hd];refine List.mem_iff_getElem?.2 ⟨k-QM p.procs j,?_⟩;rw [List.getElem?_drop,getElem?_take,if_pos (by omega),show QM p.procs j+(k-QM p.procs j)=k by omega,List.getElem?_eq_getElem hk]
theorem w4q {p:Pg} (hm:MY p=true) {j:Nat} {f:Pr} (hj:p.procs[j]? = some f) {it:Item} (h:it∈itsOf p j f) (hl:VK f it=true) : ∀ x∈YD (sheetOf p) f it,okI (QM p.procs j) (QM p.procs j+cntL f.body) x:=by
 obtain ⟨hnx,hlo⟩:=q3t h;have hs:=x0g h;have hid:=JK hm hj hs;have hhead : ∀ (l:List S) (o:Int),(∀ v∈l,v∈it.s.thn∨v∈it.s.els)->okI (QM p.procs j) (QM p.procs j+cntL f.body) o->okI (QM p.procs j) (QM p.procs j+cntL f.body) (x2q l o):=fun l o hv ho=>by
  cases l with
  | nil=>exact ho
  | cons v r=>exact .inr (JK hm hj (q2v f.body it.s v hs (hv v mem_cons_self)))
 have hloop:it.s.kind=7∨it.s.kind=8->(QM p.procs j:Int)+1<=it.loop∧it.loop<=(QM p.procs j+cntL f.body:Nat):=fun hk=>by
  unfold VK at hl;rw [if_pos hk] at hl;rcases hlo with h0|h0
  ·rw [h0] at hl;cases hl
  ·exact h0
 intro x hx;unfold YD at hx;split at hx
 ·simp only [mem_cons,not_mem_nil,or_false] at hx;rcases hx with rfl|rfl
  ·exact hhead _ _ (fun v hv => .inl hv) hnx
  ·exact hhead _ _ (fun v hv => .inr hv) hnx
 split at hx
 ·simp only [mem_cons,not_mem_nil,or_false] at hx;rcases hx with rfl|rfl
  ·exact hhead _ _ (fun v hv => .inl hv) (.inr hid)
  ·exact hnx
 split at hx
 ·rename_i hk;have hlp:=hloop (.inl hk);obtain ⟨u,hu1,hu2⟩:=x3t hj (k:=(it.loop-1).toNat) (by omega) (by omega);rw [hu1] at hx;rw [List.mem_singleton.1 hx];exact (q3t hu2).1
 split at hx
 ·rename_i hk;rw [List.mem_singleton.1 hx];exact .inr (hloop (.inr hk))
 split at hx
 ·rw [List.mem_singleton.1 hx];exact .inl rfl
 split at hx
 ·rename_i h7 h8 _ hk;rw [List.mem_singleton.1 hx];unfold VK at hl;rw [if_neg (by omega),if_pos hk] at hl;unfold atB at hl ⊢;split
  ·rename_i t ht;exact .inr (JK hm hj (List.mem_of_find?_eq_some ht))
  ·rename_i hn;rw [hn] at hl;simp only at hl;cases hfin:f.fin.any fun s=>it.s.name==s with
   | true=>exact .inl rfl
   | false=>rw [hfin] at hl;cases hl
 ·rw [List.mem_singleton.1 hx];exact hnx
theorem q4a {p:Pg} (h:XB p=true) {j:Nat} {f:Pr} (hj:p.procs[j]? = some f):(∀ it∈itsOf p j f,it.s.kind=7->1<=it.loop∧it.loop<=(sheetOf p).l.length) ∧
  (∀ s∈QG p j f,(s.src=0∨((QM p.procs j:Int)+1<=s.src∧s.src<=(QM p.procs j+cntL f.body:Nat)))∧okI (QM p.procs j) (QM p.procs j+cntL f.body) s.dst) ∧ ∀ s∈QG p j f,okSt s:=by
 obtain ⟨hm,hs,_,hjm,_⟩:=ZJ h;have hld:=q6u hs hjm hj;obtain ⟨_,_,_,hlen,hsp⟩:=QK p;obtain ⟨_,_,hle,_⟩:=hsp j f hj;obtain ⟨_,_,hcn⟩:=YQ hm;have key : ∀ s∈QG p j f,(s.src=0∨((QM p.procs j:Int)+1<=s.src∧s.src<=(QM p.procs j+cntL f.body:Nat)))∧okI (QM p.procs j) (QM p.procs j+cntL f.body) s.dst:=fun s hx=>by
  unfold QG at hx;rcases List.mem_cons.1 hx with rfl|hx
  ·refine ⟨.inl rfl,?_⟩;show okI _ _ (if QM p.procs j<QM p.procs j+cntL f.body then ((QM p.procs j:Nat)+1:Int) else -1);split
   ·exact .inr ⟨by omega,by omega⟩
   ·exact .inl rfl
  ·obtain ⟨it,hit,hz⟩:=List.mem_flatMap.1 hx;obtain ⟨y,hy,rfl⟩:=List.mem_map.1 hz;exact ⟨.inr (JK hm hj (x0g hit)),w4q hm hj hit (hld it hit) y hy⟩
 refine ⟨fun it hit hk => ?_,key,fun s hx => ?_⟩
 ·have hl:=hld it hit;unfold VK at hl;rw [if_pos (.inl hk)] at hl;rcases (q3t hit).2 with h0|h0
  ·rw [h0] at hl;cases hl
  ·omega
 ·obtain ⟨h1,h2⟩:=key s hx;unfold okSt okI at *
  omega
theorem ZP {p:Pg} (h:XB p=true):p.globals.length<=16∧p.procs.length<=16∧cntP p.procs<=200:=YQ (ZJ h).1
theorem w3f {p:Pg} {n:Str} (h:n∈QH p) : ∃ (k:Nat) (hk:k<p.procs.length),q0t (fun f=>f.name==n) p.procs=k∧p.procs.findIdx (fun f=>f.name==n)=k∧p.procs.find? (fun f=>f.name==n)=some p.procs[k]∧p.procs[k].name=n:=by
 obtain ⟨k,hk,h1,h2,h3⟩:=x0d h;refine ⟨k,hk,h1,?_,h2,h3⟩;unfold q0t at h1;cases ha:p.procs.any (fun f=>f.name==n) with
 | true=>rw [ha,cond_true] at h1;omega
 | false=>rw [ha,cond_false] at h1;omega
def v2n (p:Pg) (k:Nat) (f:Pr):Int:=if QM p.procs k<QM p.procs k+cntL f.body then ((QM p.procs k:Nat)+1:Int) else -1
def XT (p:Pg) (j:Nat) (n i:Int):Int:=if i=0 then 0 else if i=n-1 then -1 else loI p j+i-1
theorem NI (w:Way) (f:Pr) (hj:w.p.procs[w.j]? = some f) (hc:cntP w.p.procs<=1000) (hn:0<=w.n∧w.n<=5000) (i:Int) (hi:0<=i∧i<=5000):SpecP Tryz.prog 107 [.ip w.cells,.int .i64 i] (fun r=>r = .int .i64 (XT w.p w.j w.n i)):=by
 refine sB q4l Tryz.func107 rfl Tryz.call107 ?_;conv=>whnf
 obtain ⟨_,_,_,hlen,hsp⟩:=QK w.p;obtain ⟨hlo,hhi,hle,_⟩:=hsp w.j f hj;repeat' (first|((first|refine dA ?_|refine wI ?_|(refine IdxK.at rfl (VO hlo) rfl ?_));conv=>whnf)|(apply bD<;>intro _<;>first|omega|conv=>whnf))
 all_goals exact RetK.int (by unfold XT loI;(repeat' split)<;>omega)
theorem z0f (l:List Int) : ∀ b:List Bool,(q3h l b).length=b.length:=by
 induction l with
 | nil=>intro b;rfl
 | cons a r ih =>
   intro b;show (q3h r (b.set a.toNat true)).length=b.length;rw [ih,List.length_set]
def OneRow (R:Nat->TypeId->Nat->List AV->Prop) (nil:Prop) (l:LV) (H:Heap):Prop :=
 (l = .p .nils∧H=[]∧nil) ∨ ∃ q e sz es,l = .hd q 0 es.length∧H=[(q,.own e sz es)]∧(∀ x∈es,∀ c∈x.cells,c.flat=true)∧R q e sz es
theorem KB {P:Program} {N:Nat} {g:FuncId} {args:List LV} {dst:Option Nat} {s:St} {K:St->Prop} {avs:List AV} {R:Nat->TypeId->Nat->List AV->Prop} {nil:Prop} (k:Nat) (hu:ZF k s=true)
  (hs:SpecH P g (avs.map .p) [] (OneRow R nil)) (ha:FrzL s.H args avs) (hn:nil->setD N s.sl dst (.p .nils) fun sl=>K ⟨sl,s.H⟩)
  (h : ∀ q e sz es,R q e sz es->setD N s.sl dst (.hd k 0 es.length) fun sl=>K ⟨sl,(k,.own e sz es)::s.H⟩):CallK P N g args dst s K:=by
 refine ⟨fun σ β a w hr vals hnv hv=>⟨hs.go vals,?_⟩⟩;obtain ⟨hlen,hget⟩:=ha.get;obtain ⟨τ,h5,h6,h7,h8⟩:=NK hr.heap;have hrel0:HRel τ (fun _=>none) [] w:=⟨h6,fun k c hc=>(by cases hc),List.nodup_nil,fun k hk=>(by cases hk),fun k hk=>(by cases hk)⟩;have hno : ∀ b,¬owns (fun _=>none) [] b:=fun b ⟨j,hj,_⟩=>by cases hj
 refine (hs.ok τ (fun _=>none) w vals (by rw [length_map];exact hnv.trans hlen) (fun j l hj => ?_) hrel0).mono fun e w' ⟨l,u,σ',β',H',he,hR,hrep,hrel',hlat⟩ => ?_
 ·rw [List.getElem?_map] at hj;cases hc:avs[j]? with
  | none=>rw [hc] at hj;cases hj
  | some c =>
    rw [hc] at hj;cases hj;obtain ⟨l,h1,h2⟩:=hget j c hc;exact .p (h8 l _ c (hv j l h1) h2)
 ·have hlies:σ.lies w':=fun b c hb=>hrel'.mem b c (hlat.le b c (h5 b c hb));have hf:Frm (fun _=>False) w w':=⟨hlat.frm.os,hlat.frm.tape,hlat.frm.output,hlat.frm.drawn,hlat.frm.size,fun b hb _=>hlat.frm.block b hb (hno b)⟩;have hf':Frm (owns β s.H) w w':=⟨hf.os,hf.tape,hf.output,hf.drawn,hf.size,fun b hb _=>hf.block b hb id⟩;have hk0:=hr.heap.kept (Mem.le_refl σ) hlies hf fun b h0 h1=>absurd h0 h1;rcases hR with ⟨rfl,rfl,hnil⟩|⟨q,e0,sz,es,rfl,rfl,hfl,hR⟩
  ·have hr':Rel N σ β s a w':=⟨hr.size,hr.defers,hr.slots,hk0⟩;have hrp:RepL σ β (.p .nils) u:=by
    cases hrep with
    | p h=>exact .p (h.flat rfl)
   obtain ⟨sl,hK,hr''⟩:=hr'.setD hrp (hn hnil);exact ⟨u,σ,β,_,he,hK,hr'',Mem.le_refl σ,hf',fun b h0 h1=>absurd h0 h1,fun b hb => .inl hb,fun _ _ _=>rfl⟩
  ·obtain ⟨hu1,hu2⟩:=XR hu;have hkl:=YF hu;have hset : ∀ j,j≠k->(β.set k (β' q)) j=β j:=fun j hj=>by simp [Lab.set,hj]
   have hsetk:(β.set k (β' q)) k=β' q:=by simp [Lab.set]
   have hnew : ∀ i,β' q=some i -> ∀ b,i.has b->w.heap.size<=b∧σ b=none∧b<w'.heap.size:=fun i hi b hb=>by
    have h1:=hrel'.apart q (List.mem_singleton.2 rfl) i hi b hb;refine ⟨?_,?_,h1.2⟩
    ·rcases hlat.own b ⟨q,List.mem_singleton.2 rfl,i,hi,hb⟩ with h2|h2
     ·exact absurd h2 (hno b)
     ·exact h2
    ·cases h2:σ b with
     | none=>rfl
     | some c=>rw [hlat.le b c (h5 b c h2)] at h1;cases h1.1
   have hch:(Chunk.own e0 sz es).holds σ (β.set k (β' q)) w' k:=by
    rcases hrel'.chunks q (.own e0 sz es) (List.mem_singleton.2 rfl) with ⟨h1,h2⟩|⟨i,vs,h1,h2,h3,h4,h5',h6',h7'⟩
    ·exact .inl ⟨hsetk.trans h1,h2⟩
    ·refine .inr ⟨i,vs,hsetk.trans h1,h2,h3,h4,h5',h6',fun m x hx=>⟨(h7' m x hx).1,fun jj c hc => ?_⟩⟩;obtain ⟨v,h8',h9⟩:=(h7' m x hx).2 jj c hc;exact ⟨v,h8',h9.flat (hfl x (List.mem_of_getElem? hx) c (List.mem_of_getElem? hc))⟩
   have hks : ∀ j∈s.H.map (·.1),j≠k:=fun j hj=>by
    obtain ⟨⟨j',c⟩,hm,rfl⟩:=List.mem_map.1 hj;exact (hu1 j' c hm).1
   have hr':Rel N σ (β.set k (β' q)) ⟨s.sl,(k,.own e0 sz es)::s.H⟩ a w':=by
    refine ⟨hr.size,hr.defers,fun i=>(hr.slots i).set _ (hu2 i),hlies,fun j c hj => ?_,?_,fun j hj i hi b hb => ?_,fun j hj j' hj' i i' hi hi' b hb hb' => ?_⟩
    ·rcases List.mem_cons.1 hj with he'|hj
     ·cases he';exact hch
     ·exact (hk0.chunks j c hj).set _ (hu1 j c hj).1 (hu1 j c hj).2
    ·rw [map_cons,nodup_cons];exact ⟨fun hm=>hks k hm rfl,hk0.nodup⟩
    ·rcases List.mem_cons.1 hj with he'|hj
     ·have he':j=k:=he';subst he';rw [hsetk] at hi;exact (hnew i hi b hb).2
     ·rw [hset j (hks j hj)] at hi;exact hk0.apart j hj i hi b hb
    ·have hold : ∀ j∈s.H.map (·.1),∀ i,(β.set k (β' q)) j=some i -> ∀ b,i.has b->b<w.heap.size:=fun j hj i hi b hb=>by
      rw [hset j (hks j hj)] at hi;exact (hr.heap.apart j hj i hi b hb).2
     rcases List.mem_cons.1 hj with he'|hm<;>rcases List.mem_cons.1 hj' with he''|hm'
     ·exact he'.trans he''.symm
     ·have he':j=k:=he';subst he';rw [hsetk] at hi;have:=(hnew i hi b hb).1;have:=hold j' hm' i' hi' b hb';omega
     ·have he'':j'=k:=he'';subst he'';rw [hsetk] at hi';have:=(hnew i' hi' b hb').1;have:=hold j hm i hi b hb;omega
     ·rw [hset j (hks j hm)] at hi;rw [hset j' (hks j' hm')] at hi';exact hk0.inj j hm j' hm' i i' hi hi' b hb hb'
   have hrp:RepL σ (β.set k (β' q)) (.hd k 0 es.length) u:=by
    rcases hrep.hdI with ⟨h1,_,h2,rfl⟩|⟨i,o,h1,h2,h3,rfl⟩
    ·rw [h2];exact .hdn k (hsetk.trans h1)
    ·exact .hd k 0 es.length i o (hsetk.trans h1) h2 h3
   obtain ⟨sl,hK,hr''⟩:=hr'.setD hrp (h q e0 sz es hR);refine ⟨u,σ,_,_,he,hK,hr'',Mem.le_refl σ,hf',fun b h0 h1=>absurd h0 h1,fun b hb => ?_,fun j h1 _=>hset j (by omega)⟩;obtain ⟨j,hj,i,hi,hb⟩:=hb;rcases List.mem_cons.1 hj with he'|hj
   ·have he':j=k:=he';subst he';rw [hsetk] at hi;exact .inr (hnew i hi b hb).1
   ·rw [hset j (hks j hj)] at hi;exact .inl ⟨j,hj,i,hi,hb⟩
def q6m (L:List Str) (_:Nat) (e:TypeId) (sz:Nat) (es:List AV):Prop:=e=9∧sz=1∧es=L.map .str
theorem x8t (L:List Str) : ∀ x∈L.map AV.str,∀ c∈x.cells,c.flat=true:=fun x hx c hc=>by
 obtain ⟨s,_,rfl⟩:=List.mem_map.1 hx;rw [List.mem_singleton.1 (show c∈[AV.str s] from hc)];rfl
theorem PZ {L:List Str} {q n:Nat} {nil:Prop} (h:n=L.length):OneRow (q6m L) nil (.hd q 0 n) [(q,.own 9 1 (L.map .str))] :=
 .inr ⟨q,_,_,_,by rw [h,length_map],rfl,x8t L,rfl,rfl,rfl⟩
theorem OneRow.str {L:List Str} {n:Nat} (h:n=L.length):OneRow (q6m L) False (.hd 0 0 n) [(0,.own 9 1 (L.map .str))]:=PZ h
theorem UG {L:List Str} {n:Nat} {nil:Prop} (h:n=L.length):OneRow (q6m L) nil (.hd 0 0 n) [(0,.own 9 1 (L.map .str))]:=PZ h
theorem z8v {N:Nat} {sl:List (Nat×LV)} {H:Heap} {k d:Nat} {e:TypeId} {sz:Nat} {es:List AV} (hu:ZF k ⟨sl,H⟩=true):Le N ⟨MK sl d (.hd k 0 es.length),(k,.own e sz es)::H⟩ ⟨MK sl d (.p (.sl es)),H⟩:=fun σ β a w hr=>by
 obtain ⟨hu1,_⟩:=XR hu;have hnd:(H.map (·.1)).Nodup:=(List.nodup_cons.1 hr.heap.nodup).2;have hsub : ∀ j∈H.map (·.1),j∈((k,Chunk.own e sz es)::H).map (·.1):=fun j hj=>mem_cons_of_mem _ hj;rcases VS.1 (hr.heap.chunks k _ mem_cons_self) with ⟨hb0,rfl⟩|⟨i,vs,hi,hisz,hh,hn,hle',hmax,hE⟩
 ·refine ⟨σ,β,⟨hr.size,hr.defers,fun j => ?_,⟨hr.heap.mem,fun j c' hj=>hr.heap.chunks j c' (mem_cons_of_mem _ hj),hnd,fun j hj=>hr.heap.apart j (hsub j hj),fun j hj j' hj'=>hr.heap.inj j (hsub j hj) j' (hsub j' hj')⟩⟩,Mem.le_refl σ,Frm.refl _ _,fun _ h0 h1=>absurd h0 h1,fun b ⟨j,hj,r⟩ => .inl ⟨j,hsub j hj,r⟩,fun _ _ _=>rfl⟩;have hv:=hr.slots j;show RepL σ β (getS (MK sl d _) j) _;have hv:RepL σ β (getS (MK sl d (.hd k 0 [].length)) j) (a.tmps.getD j undef):=hv;rw [DV] at hv ⊢;by_cases hj:d=j
  ·rw [if_pos hj] at hv ⊢;rcases hv.hdI with ⟨_,_,_,he⟩|⟨i,_,hk,_⟩
   ·rw [he];exact .p .nilsl
   ·rw [hb0] at hk;cases hk
  ·rw [if_neg hj] at hv ⊢;exact hv
 ·refine hr.lay hi mem_cons_self hh (fun τ hle hτ j v hv => ?_) (fun τ hle hτ j c' hj=>⟨(hu1 j c' hj).1,c',mem_cons_of_mem _ hj,fun hold=>hold.mono hle fun _ _ _ _=>rfl⟩) hnd;have hv:RepL σ β (getS (MK sl d (.hd k 0 es.length)) j) v:=hv;show RepL τ β (getS (MK sl d _) j) v;rw [DV] at hv ⊢;by_cases hj:d=j
  ·rw [if_pos hj] at hv ⊢;rcases hv.hdI with ⟨hk,_⟩|⟨i',oo,hk,hl,ho,rfl⟩
   ·rw [hi] at hk;cases hk
   ·rw [hi] at hk;cases hk;have hoo:oo=0:=by
     rcases ho with ho|ho
     ·simpa using ho
     ·omega
    subst hoo;obtain ⟨u,hu⟩ : ∃ u:Nat->Nat->Value,∀ (m:Nat) (x:AV) (j:Nat) (c:AV),es[m]? = some x->x.cells[j]? = some c->vs[m*sz+j]? = some (u m j)∧Rep σ c (u m j):=by
     refine ⟨fun m j=>(vs[m*sz+j]?).getD undef,fun m x j c hx hj => ?_⟩;obtain ⟨v,h1,h2⟩:=hE.rep m x j c hx hj;rw [getElem?_take] at h1;split at h1
     ·have h1':vs[m*sz+j]? = some v:=by simpa using h1
      exact ⟨by simp [h1'],by simpa [h1'] using h2⟩
     ·cases h1
    exact .p (.sl es i.blk 0 _ sz vs u hτ (by omega) (by omega) hE.size (fun m x j c hx hj=>by simpa using (hu m x j c hx hj).1) fun m x j c hx hj=>(hu m x j c hx hj).2.mono hle)
  ·rw [if_neg hj] at hv ⊢;exact hv.mono hle
theorem w5c {N:Nat} {sl:List (Nat×LV)} {H:Heap} {d:Nat} {l l':LV} (h : ∀ σ β v,RepL σ β l v->RepL σ β l' v):Le N ⟨MK sl d l,H⟩ ⟨MK sl d l',H⟩:=fun σ β a w hr=>by
 refine ⟨σ,β,⟨hr.size,hr.defers,fun j => ?_,hr.heap⟩,Later.refl _ _ _ _⟩;have hv:RepL σ β (getS (MK sl d l) j) (a.tmps.getD j undef):=hr.slots j;show RepL σ β (getS (MK sl d l') j) _;rw [DV] at hv ⊢;by_cases hj:d=j
 ·rw [if_pos hj] at hv ⊢;exact h _ _ _ hv
 ·rw [if_neg hj] at hv ⊢;exact hv
theorem CallK.le {P:Program} {N:Nat} {g:FuncId} {args:List LV} {dst:Option Nat} {s:St} {K:St->Prop} (h:CallK P N g args dst s fun s' => ∃ s'',K s''∧Le N s' s''):CallK P N g args dst s K :=
 ⟨fun σ β a w hr vals hn hv=>⟨(h.ok σ β a w hr vals hn hv).1,(h.ok σ β a w hr vals hn hv).2.mono fun e w' ⟨u,σ',β',s',he,⟨s'',hK,hle⟩,hr',hl⟩=>by
   obtain ⟨σ2,β2,hr2,hl2⟩:=hl.le' hle hr';exact ⟨u,σ2,β2,s'',he,hK,hr2,hl2⟩⟩⟩
theorem x3i {N:Nat} {sl:List (Nat×LV)} {dst:Option Nat} {v v':LV} {K K':List (Nat×LV)->Prop} (h:setD N sl dst v K) (h0:K sl->K' sl) (h1 : ∀ d,K (MK sl d v)->K' (MK sl d v')):setD N sl dst v' K':=by
 unfold setD at h ⊢;cases dst with
 | none=>exact h0 h
 | some d =>
   simp only at h ⊢;cases hb:Nat.blt d N with
   | false=>rw [hb] at h;exact h
   | true =>
     rw [hb,cond_true,BJ] at h;rw [cond_true,BJ];exact h1 d h
theorem x7h {P:Program} {N:Nat} {g:FuncId} {args:List LV} {dst:Option Nat} {s:St} {K:St->Prop} {avs:List AV} {R:Nat->TypeId->Nat->List AV->Prop} {nil:Prop} {E:List AV} (k:Nat) (hu:ZF k s=true)
  (hs:SpecH P g (avs.map .p) [] (OneRow R nil)) (ha:FrzL s.H args avs) (hn:nil->E=[]) (hR : ∀ q e sz es,R q e sz es->es=E) (h:setD N s.sl dst (.p (.sl E)) fun sl=>K ⟨sl,s.H⟩):CallK P N g args dst s K:=by
 refine CallK.le (KB k hu hs ha (fun hnil => ?_) fun q e sz es hr => ?_)
 ·obtain rfl:=hn hnil;exact x3i h (fun hk=>⟨_,hk,fun σ β a w hr=>⟨σ,β,hr,Later.refl _ _ _ _⟩⟩) fun d hk=>⟨_,hk,w5c fun σ β v hv=>by
   cases hv with
   | p hv=>exact .p (Sub.nils _ _ hv)⟩
 ·obtain rfl:=hR q e sz es hr;refine x3i h (fun hk=>⟨_,hk,x4i (fun i => .inl rfl) (List.sublist_cons_self _ _)⟩) fun d hk=>⟨_,hk,z8v (by obtain ⟨sl,H⟩:=s;exact hu)⟩
theorem SpecH.toP {P:Program} {g:FuncId} {avs:List AV} {R:Nat->TypeId->Nat->List AV->Prop} {nil:Prop} {E:List AV} (hs:SpecH P g (avs.map .p) [] (OneRow R nil)) (hn:nil->E=[]) (hR : ∀ q e sz es,R q e sz es->es=E):SpecP P g avs (fun r=>r = .sl E):=by
 refine ⟨hs.go,fun σ w vals h1 h2 h3 => ?_⟩;have hrel0:Rel 1 σ (fun _=>none) ⟨[],[]⟩ { tmps := #[undef],defers:=[] } w:=⟨rfl,rfl,fun i => .p (.any _),h3,fun k c hc=>(by cases hc),List.nodup_nil,fun k hk=>(by cases hk),fun k hk=>(by cases hk)⟩;have hc:CallK P 1 g (avs.map .p) (some 0) ⟨[],[]⟩ (fun s=>s=⟨[(0,.p (.sl E))],[]⟩):=x7h 0 rfl hs (by
  clear hs h1 h2;induction avs with
  | nil=>exact .nil
  | cons a r ih=>exact .cons (.p (Sub.refl _)) ih) hn hR (by rfl)
 refine (hc.ok σ _ _ w hrel0 vals (by rw [length_map];exact h1) fun j l hj => ?_).2.mono fun e w' ⟨u,σ',β',s',he,hK,hr,hl⟩ => ?_
 ·rw [List.getElem?_map] at hj;cases hq:avs[j]? with
  | none=>rw [hq] at hj;cases hj
  | some c=>rw [hq] at hj;cases hj;exact .p (h2 j c hq)
 ·subst hK;have hno : ∀ b,¬owns (fun _=>none) [] b:=fun b ⟨j,hj,_⟩=>by cases hj
  have h4:=hr.slots 0;refine ⟨.sl E,u,σ',he,rfl,?_,hl.le,hr.heap.mem,⟨hl.frm.os,hl.frm.tape,hl.frm.output,hl.frm.drawn,hl.frm.size,fun b hb _=>hl.frm.block b hb (hno b)⟩,fun b h5 h6 => ?_⟩
  ·have h5:RepL σ' β' (.p (.sl E)) u:=by simpa [getS,Act.put] using h4
   cases h5 with
   | p h5=>exact h5
  ·rcases hl.mem b h5 h6 with h7|h7
   ·exact absurd h7 (hno b)
   ·exact h7
theorem z2h {P:Program} {T:Tab} {hr:Bool} {s:St} {o:Oper} {K:LV->Prop} (hT:TabOK P T) {t u:TypeId} {x:Operand} (hop:o.op = .binOp .eql t x (.const (.slice none 0 0)) u) {i:TyI} (ht:T.get t=some i) {e:TypeId} (hd:i.desc = .slice e) {es:List AV} (hx:QT s.sl x = .p (.sl es)) (hK : ∀ b:Bool,(b=true->es=[])->K (.p (.bool b))):ValO P hr s o K:=by
 refine ⟨fun σ β ac w hs _ => ?_⟩;have h1:=QV hs x;rw [hx] at h1;have hu:=hT.of ht;rw [hd] at hu;have hv : ∃ ad n c,ac.eval x = .slice ad n c∧(ad.isNone=true->es=[]):=by
  generalize ac.eval x=v at h1;cases h1 with
  | p h1 =>
    cases h1 with
    | nilsl=>exact ⟨none,0,0,rfl,fun _=>rfl⟩
    | slz b=>exact ⟨some b,0,0,rfl,fun _=>rfl⟩
    | sl _ b off cap sz cells u hb hcap hmax hsz hc hrr=>exact ⟨_,_,_,rfl,fun h=>(by cases h)⟩
 obtain ⟨ad,n,c,hv,he⟩:=hv;refine ⟨_,.bool ad.isNone,hK ad.isNone he,.p (.bool _),fun w' _ _ => ?_⟩;have h2:ac.eval (.const (.slice none 0 0)) = .slice none 0 0:=rfl;have hg:(eqGuard .eql t x (.const (.slice none 0 0)) (.slice ad n c) (.slice none 0 0)).run P w' = .ok () w':=by unfold eqGuard;rfl
 have he:(Op.equal t (.slice ad n c) (.slice none 0 0)).run P w' = .ok ad.isNone w':=by
  have e:Op.equal t (.slice ad n c) (.slice none 0 0)=Op.equalIn (9999+1) t (.slice ad n c) (.slice none 0 0):=rfl;rw [e,Op.equalIn,Sem.run_bind,run_underlying hu,Result.andThen_ok];cases ad<;>rfl
 simp only [execOp,hop,hv,h2,Sem.run_bind,hg,Result.andThen_ok,binOp];simp [he]
theorem z2d {L:List Str} {es:List AV} {n:Nat} {nil:Prop} (q:Nat) (he:es=L.map .str) (h:n=L.length):OneRow (q6m L) nil (.hd q 0 n) [(q,.own 9 1 es)]:=by
 subst he;exact .inr ⟨q,_,_,_,by rw [h,length_map],rfl,x8t L,rfl,rfl,rfl⟩
theorem YL (l:List Str) (hl:l.length<=1000000):SpecH Tryz.prog 214 [.p (eStrs l)] [] (fun r H=>OneRow (q6m l) (l=[]) r H):=by
 refine sH UT Tryz.func214 rfl Tryz.call214 ?_;conv=>whnf
 repeat' (first|((first|(refine iM fun _=>?_)|refine dA ?_|refine And.intro rfl ?_|refine aD ?_|refine aR ?_|(refine iA fun _=>?_)|refine IdxK.xs (by omega) ?_|refine QZ (by omega) ?_|(refine ByteK.at (by omega) ?_)|refine wI ?_|refine z2h QJ rfl rfl rfl rfl (fun q hq => ?_)|refine BsK.own (fun x hx=>by cases hx) rfl ?_|refine FN _ (by simp) (by simp;omega) ?_);conv=>whnf)|(apply bD<;>intro _<;>first|omega|conv=>whnf)|(apply bE<;>intro _<;>first|omega|conv=>whnf)|(apply bN<;>intro _<;>conv=>whnf)|(apply bB<;>intro _<;>conv=>whnf))
 all_goals first
  | exact RetHK.mk _ (LSub.refl _) (.inl ⟨rfl,rfl,List.map_eq_nil_iff.1 (hq (by assumption))⟩)
  | exact RetHK.mk _ (LSub.refl _) (z2d 0 rfl (by simp))
  | trace_state
inductive CutH:Heap->Heap->Prop
 | nil:CutH [] []
 | same {c:Nat×Chunk} {H H':Heap} (h:CutH H H'):CutH (c::H) (c::H')
 | cut {k:Nat} {e:TypeId} {sz:Nat} {es es':List AV} {H H':Heap} (hp:es' <+: es) (h:CutH H H'):CutH ((k,.own e sz es)::H) ((k,.own e sz es')::H')
theorem CutH.get {H H':Heap} (h:CutH H H'):H'.map (·.1)=H.map (·.1) ∧ ∀ j c',(j,c')∈H'->(j,c')∈H ∨ ∃ e sz es es',(j,Chunk.own e sz es)∈H∧c' = .own e sz es'∧es' <+: es:=by
 induction h with
 | nil=>exact ⟨rfl,by simp⟩
 | same h ih =>
   refine ⟨by simp [ih.1],fun j c' hj => ?_⟩;rcases List.mem_cons.1 hj with rfl|hj
   ·exact .inl mem_cons_self
   ·rcases ih.2 j c' hj with h1|⟨e,sz,es,es',h1,h2⟩
    ·exact .inl (mem_cons_of_mem _ h1)
    ·exact .inr ⟨e,sz,es,es',mem_cons_of_mem _ h1,h2⟩
 | @cut k e sz es es' H H' hp h ih =>
   refine ⟨by simp [ih.1],fun j c' hj => ?_⟩;rcases List.mem_cons.1 hj with hj|hj
   ·cases hj;exact .inr ⟨e,sz,es,es',mem_cons_self,rfl,hp⟩
   ·rcases ih.2 j c' hj with h1|⟨e,sz,es,es',h1,h2⟩
    ·exact .inl (mem_cons_of_mem _ h1)
    ·exact .inr ⟨e,sz,es,es',mem_cons_of_mem _ h1,h2⟩
theorem Le.cut {N:Nat} {sl:List (Nat×LV)} {H H':Heap} (h:CutH H H'):Le N ⟨sl,H⟩ ⟨sl,H'⟩:=fun σ β a w hr=>by
 obtain ⟨hk,hc⟩:=h.get;refine ⟨σ,β,⟨hr.size,hr.defers,hr.slots,⟨hr.heap.mem,fun j c' hj => ?_,by show (H'.map (·.1)).Nodup;rw [hk];exact hr.heap.nodup,fun j hj=>hr.heap.apart j (by rw [<- hk];exact hj),fun j hj j' hj'=>hr.heap.inj j (by rw [<- hk];exact hj) j' (by rw [<- hk];exact hj')⟩⟩,Mem.le_refl σ,Frm.refl _ w,fun b h0 h1=>absurd h0 h1,fun b ⟨j,hj,r⟩ => .inl ⟨j,by rw [<- hk];exact hj,r⟩,fun _ _ _=>rfl⟩;rcases hc j c' hj with h1|⟨e,sz,es,es',h1,rfl,h2⟩
 ·exact hr.heap.chunks j c' h1
 ·rcases hr.heap.chunks j _ h1 with ⟨h3,h4⟩|⟨i,vs,h3,h4,h5,h6,h7,h8,h9⟩
  ·refine .inl ⟨h3,?_⟩;rw [h4] at h2;exact List.prefix_nil.1 h2
  ·exact .inr ⟨i,vs,h3,h4,h5,h6,Nat.le_trans h2.length_le h7,h8,fun m x hx=>h9 m x (by
    obtain ⟨t,rfl⟩:=h2;rw [List.getElem?_append_left (List.getElem?_eq_some_iff.1 hx).1];exact hx)⟩
def z8k (p:Pg) (id:Int):Option S:=((sheetOf p).l[(id-1).toNat]?).map Item.s
def MM (a b:Step):Prop:=ZV a.src<ZV b.src∨(ZV a.src=ZV b.src∧ZV a.dst<ZV b.dst)
def z8y (s:Step):Prop:=okSt s∧s.kind=1
theorem KP {a b:Step} (h1:a.src=b.src) (h2:a.dst=b.dst) (h3:a.kind=b.kind):a=b:=by
 cases a;cases b;simp_all
theorem JT {a b:Step}:GS a b=true↔ZV a.src<ZV b.src∨(ZV a.src=ZV b.src∧(ZV a.dst<ZV b.dst∨(ZV a.dst=ZV b.dst∧a.kind<b.kind))):=by
 have h:GS a b=decide (x6g a b<0):=rfl;rw [h,decide_eq_true_eq];unfold x6g;simp only [orI];split
 ·rename_i h1;rw [YP] at h1;split
  ·rename_i h2;rw [YP] at h2;split
   ·rename_i h3;rw [YP] at h3;omega
   ·rw [DZ];omega
  ·rename_i h2;rw [YP] at h2;rw [DZ];omega
 ·rename_i h1;rw [YP] at h1;rw [DZ];omega
theorem MZ (l:List Step):(UI l).Pairwise fun a b=>GS b a=false:=by
 have:=List.pairwise_mergeSort (le:=fun x y => !GS y x) (fun a b c h1 h2=>by
  simp only [Bool.not_eq_true'] at h1 h2 ⊢;rw [Bool.eq_false_iff,ne_eq,JT] at h1 h2 ⊢;omega) (fun a b=>by
  cases h1:GS b a with
  | false=>rfl
  | true =>
    have h2:GS a b=false:=by
     rw [Bool.eq_false_iff,ne_eq,JT];rw [JT] at h1;omega
    rw [h2];rfl) l
 refine List.Pairwise.imp ?_ this;intro a b h;simpa using h
theorem q0n {a b:Step} (ha:z8y a) (hb:z8y b):ZY a b=true↔a=b:=by
 unfold ZY;simp only [Bool.and_eq_true,decide_eq_true_eq];refine ⟨fun h=>KP h.1 h.2 (by rw [ha.2,hb.2]),fun h=>by rw [h];exact ⟨rfl,rfl⟩⟩
theorem w5n {a b:Step} (ha:z8y a) (hb:z8y b) (h:GS b a=false) (hne:a≠b):MM a b:=by
 rw [Bool.eq_false_iff,ne_eq,JT] at h;unfold MM;by_cases h1:ZV a.src=ZV b.src
 ·by_cases h2:ZV a.dst=ZV b.dst
  ·exact absurd (KP (KH ha.1.1 hb.1.1 h1) (KH ha.1.2 hb.1.2 h2) (by rw [ha.2,hb.2])) hne
  ·omega
 ·omega
theorem MI {a b c:Step} (h:MM a b) (h':MM b c):MM a c:=by unfold MM at *;omega
theorem GQ {a:Step} (h:MM a a):False:=by unfold MM at h;omega
theorem PD : ∀ (l:List Step) (a:Step),z8y a->(∀ s∈l,z8y s)->(a::l).Pairwise (fun a b=>GS b a=false)->(a::QO a l).Pairwise MM ∧ ∀ s,s∈a::QO a l↔s∈a::l
 | [],a,_,_,_=>⟨by simp [QO],by simp [QO]⟩
 | b::r,a,ha,hl,h=>by
   have hb:=hl b mem_cons_self;have hr : ∀ s∈r,z8y s:=fun s hs=>hl s (mem_cons_of_mem _ hs);rw [pairwise_cons] at h;obtain ⟨h1,h2⟩:=h;obtain ⟨i1,i2⟩:=PD r b hb hr h2;rw [QO];cases hs:ZY b a with
   | true =>
     obtain rfl:=(q0n hb ha).1 hs;rw [cond_true];exact ⟨i1,fun s=>by rw [i2];simp⟩
   | false =>
     rw [cond_false];have hne:a≠b:=fun e=>by
      rw [(q0n hb ha).2 e.symm] at hs;cases hs
     have hlt:=w5n ha hb (h1 b mem_cons_self) hne;refine ⟨?_,fun s=>by rw [mem_cons,i2,<- mem_cons (a:=s) (b:=a)]⟩;rw [pairwise_cons];refine ⟨fun s hsm => ?_,i1⟩;rcases List.mem_cons.1 hsm with rfl|hsm
     ·exact hlt
     ·exact MI hlt ((List.pairwise_cons.1 i1).1 s hsm)
theorem z1y {l:List Step} (hok : ∀ s∈l,z8y s):(WU l).Pairwise MM ∧ ∀ s,s∈WU l↔s∈l:=by
 have hp : ∀ s,s∈UI l↔s∈l:=fun s=>(q4r l).mem_iff;have hs:=MZ l;unfold WU;cases hq:UI l with
 | nil =>
   rw [hq] at hp;exact ⟨by simp [BZ],fun s=>by rw [<- hp];simp [BZ]⟩
 | cons a r =>
   rw [hq] at hp hs;have hok' : ∀ s∈a::r,z8y s:=fun s h=>hok s ((hp s).1 h);obtain ⟨h1,h2⟩:=PD r a (hok' a mem_cons_self) (fun s h=>hok' s (mem_cons_of_mem _ h)) hs;exact ⟨h1,fun s=>by rw [BZ,h2,hp]⟩
theorem q7j : ∀ {l m:List Step},l.Pairwise MM->m.Pairwise MM->(∀ s,s∈l↔s∈m)->l=m
 | [],[],_,_,_=>rfl
 | [],b::m,_,_,h=>by have:=(h b).2 mem_cons_self;cases this
 | a::l,[],_,_,h=>by have:=(h a).1 mem_cons_self;cases this
 | a::l,b::m,hl,hm,h=>by
   rw [pairwise_cons] at hl hm;have hab:a=b:=by
    rcases List.mem_cons.1 ((h a).1 mem_cons_self) with e|ha
    ·exact e
    ·rcases List.mem_cons.1 ((h b).2 mem_cons_self) with e|hb
     ·exact e.symm
     ·exact (GQ (MI (hl.1 b hb) (hm.1 a ha))).elim
   subst hab;congr 1;refine q7j hl.2 hm.2 fun s=>⟨fun hs => ?_,fun hs => ?_⟩
   ·rcases List.mem_cons.1 ((h s).1 (mem_cons_of_mem _ hs)) with rfl|h'
    ·exact (GQ (hl.1 _ hs)).elim
    ·exact h'
   ·rcases List.mem_cons.1 ((h s).2 (mem_cons_of_mem _ hs)) with rfl|h'
    ·exact (GQ (hm.1 _ hs)).elim
    ·exact h'
theorem x2p {p:Pg} (h:XB p=true) {j:Nat} {f:Pr} (hj:p.procs[j]? = some f) : ∀ s∈QG p j f,z8y s:=by
 obtain ⟨_,_,h3⟩:=q4a h hj;intro s hs;refine ⟨h3 s hs,?_⟩;unfold QG at hs;rcases List.mem_cons.1 hs with rfl|hs
 ·rfl
 ·obtain ⟨it,_,hz⟩:=List.mem_flatMap.1 hs;obtain ⟨y,_,rfl⟩:=List.mem_map.1 hz;rfl
theorem NH {p:Pg} (h:XB p=true) {j:Nat} {f:Pr} (hj:p.procs[j]? = some f):(QX p j f).real.Pairwise MM ∧ ∀ s,s∈(QX p j f).real↔s∈QG p j f:=z1y (x2p h hj)
theorem w0d {p:Pg} (h:XB p=true) {j:Nat} {f:Pr} (hj:p.procs[j]? = some f) {s:Step} (hs:s∈QG p j f):s=⟨0,v2n p j f,1⟩∨(1<=s.src∧s.src<=9223372036854775806):=by
 obtain ⟨_,_,hcn⟩:=ZP h;obtain ⟨_,_,_,hlen,hsp⟩:=QK p;obtain ⟨_,_,hle,_⟩:=hsp j f hj;unfold QG at hs;rcases List.mem_cons.1 hs with rfl|hs
 ·exact .inl rfl
 ·obtain ⟨it,hit,hz⟩:=List.mem_flatMap.1 hs;obtain ⟨y,_,rfl⟩:=List.mem_map.1 hz;have:=JK (ZJ h).1 hj (x0g hit);refine .inr ?_;simp only;omega
def w2s (p:Pg):Bool:=decide (gPg p<=20000)
theorem w7i {p:Pg} (h:w2s p=true):Fit p:=by
 have:=w8i p;have h1:gPg p<=20000:=by simpa [w2s] using h
 unfold Fit;omega
theorem WG (p:Pg):SpecP Tryz.prog 16 [.agg p.cells] (fun r=>r = .bool (w2s p)):=by
 refine sB BN Tryz.func16 rfl Tryz.call16 ?_;conv=>whnf
 have hl:(p.procs.map fun f=>AV.agg f.cells).length=p.procs.length:=length_map _;have q0:=XS (a:=0+DS p.globals) (by omega);repeat' (refine CallK.pure (XP p.globals 0 (by omega)) (.cons (Sub.refl _) (.cons (Sub.refl _) .nil)) ?_;rintro _ rfl;conv=>whnf)
 refine LoopK.inv QJ (fun y:Nat×Int=>⟨[(1,.p (.ip p.cells)),(3,.p (.int .i64 y.2)),(4,.p (.int .i64 y.1))],[]⟩) (fun y=>y.1<=p.procs.length∧(0<=y.2∧y.2<=20001)∧XQ (y.2+x5u (p.procs.drop y.1))=XQ (gPg p:Nat)) (fun y=>p.procs.length-y.1) (0,XQ (0+DS p.globals)) (Le.of_eq rfl) ⟨zero_le _,q0,by
  show XQ (XQ (0+DS p.globals)+x5u p.procs)=_;rw [ZW (by omega)];congr 1;unfold gPg;omega⟩ ?_
 rintro ⟨j,m⟩ ⟨h2,h3,h4⟩;simp only at h2 h3 h4 ⊢;have last : ∀ {x:Int},0<=x∧x<=20001->XQ x=XQ (gPg p:Nat)->(decide (x<=20000))=w2s p:=fun {x} hx h=>by
  unfold w2s;unfold XQ at h;by_cases h1:gPg p<=20000
  ·rw [decide_eq_true h1,decide_eq_true_eq];split at h<;>split at h<;>omega
  ·rw [decide_eq_false h1,decide_eq_false_iff_not];split at h<;>split at h<;>omega
 rcases Nat.lt_or_ge j p.procs.length with hj|hj;rotate_left 1
 ·rw [drop_eq_nil_of_le hj,x5u] at h4;conv=>whnf
  repeat' (first|(refine iM fun _=>?_;conv=>whnf)|(apply bD<;>intro _<;>first|omega|conv=>whnf))
  all_goals exact RetK.bool (last h3 (by rw [<- h4];simp))
 rw [List.drop_eq_getElem_cons hj,x5u] at h4;have hpe:gPr p.procs[j]=1+p.procs[j].name.length+DS p.procs[j].vars+DS p.procs[j].fin+z8j p.procs[j].params+gL p.procs[j].body:=rfl;have q1:=XS (a:=m+(1+p.procs[j].name.length:Nat)) (by omega);have q2:=XS (a:=XQ (m+(1+p.procs[j].name.length:Nat))+DS p.procs[j].vars) (by omega);have q3:=XS (a:=XQ (XQ (m+(1+p.procs[j].name.length:Nat))+DS p.procs[j].vars)+DS p.procs[j].fin) (by omega);conv=>whnf
 repeat' (first|((first|(refine iM fun _=>?_)|refine dA ?_|refine And.intro rfl ?_|(refine iA fun _=>?_)|refine cP (QL p.procs[j].name _ h3) ?_|refine cP (XP p.procs[j].vars _ q1) ?_|refine cP (XP p.procs[j].fin _ q2) ?_);conv=>whnf)|(apply bD<;>intro _<;>first|omega|conv=>whnf))
 rotate_left 1
 ·exact RetK.bool (last h3 (by rw [<- h4,<- UB (by omega) h3.2 (by omega),q9n h3.2]))
 have h5:XQ (XQ (XQ (XQ (m+(1+p.procs[j].name.length:Nat))+DS p.procs[j].vars)+DS p.procs[j].fin)+(z8j p.procs[j].params+(gL p.procs[j].body+x5u (p.procs.drop (j+1))):Nat))=XQ (gPg p:Nat):=by
  rw [ZW (by omega),Int.add_assoc,ZW (by omega),Int.add_assoc,ZW (by omega),<- h4,hpe];congr 1;omega
 generalize XQ (XQ (XQ (m+(1+p.procs[j].name.length:Nat))+DS p.procs[j].vars)+DS p.procs[j].fin)=m0 at q3 h5 ⊢;have hal:(p.procs[j].params.map fun a=>AV.agg a.cells).length=p.procs[j].params.length:=length_map _;refine LoopK.inv QJ (fun y:Nat×Int=>⟨[(1,.p (.ip p.cells)),(3,.p (.int .i64 y.2)),(4,.p (.int .i64 j)),(5,.p (.ip p.procs[j].cells)),(6,.p (.int .i64 y.1))],[]⟩) (fun y=>y.1<=p.procs[j].params.length∧(0<=y.2∧y.2<=20001)∧XQ (y.2+(z8j (p.procs[j].params.drop y.1)+(gL p.procs[j].body+x5u (p.procs.drop (j+1))):Nat))=XQ (gPg p:Nat)) (fun y=>p.procs[j].params.length-y.1) (0,m0) (Le.of_eq rfl) ⟨zero_le _,q3,h5⟩ ?_;rintro ⟨a,m2⟩ ⟨h6,h7,h8⟩;simp only at h6 h7 h8 ⊢;have fin:XQ (m2+(gL p.procs[j].body+x5u (p.procs.drop (j+1)):Nat))=XQ (gPg p:Nat)->(0<=XQ (m2+gL p.procs[j].body)∧XQ (m2+gL p.procs[j].body)<=20001)∧XQ (XQ (m2+gL p.procs[j].body)+x5u (p.procs.drop (j+1)))=XQ (gPg p:Nat):=fun h=>by
  refine ⟨XS (by omega),?_⟩;rw [ZW (by omega),<- h];congr 1;omega
 have full:m2>20000->XQ (m2+(gL p.procs[j].body+x5u (p.procs.drop (j+1)):Nat))=XQ (gPg p:Nat):=fun h=>by
  rw [<- h8,<- UB h h7.2 (by omega),<- UB h h7.2 (by omega)]
 rcases Nat.lt_or_ge a p.procs[j].params.length with ha|ha;rotate_left 1
 ·have h9:XQ (m2+(gL p.procs[j].body+x5u (p.procs.drop (j+1)):Nat))=XQ (gPg p:Nat):=by
   rw [drop_eq_nil_of_le ha,z8j,Nat.zero_add] at h8;exact h8
  obtain ⟨f1,f2⟩:=fin h9;conv=>whnf
  repeat' (first|((first|(refine iM fun _=>?_)|refine wI ?_|(refine CallK.pure (VE (gL p.procs[j].body+1) p.procs[j].body (by omega) m2 h7) (.cons (Sub.refl _) (.cons (Sub.refl _) .nil)) ?_;rintro _ rfl));conv=>whnf)|(apply bD<;>intro _<;>first|omega|conv=>whnf))
  all_goals exact ⟨(j+1,XQ (m2+gL p.procs[j].body)),⟨by simp only;omega,f1,f2⟩,by simp only;omega,Le.of_eq rfl⟩
 rw [List.drop_eq_getElem_cons ha,z8j] at h8;conv=>whnf
 repeat' (first|((first|(refine iM fun _=>?_)|(refine iA fun _=>?_)|refine wI ?_|refine cP (QL p.procs[j].params[a].name _ h7) ?_|(refine CallK.pure (VE (gL p.procs[j].body+1) p.procs[j].body (by omega) m2 h7) (.cons (Sub.refl _) (.cons (Sub.refl _) .nil)) ?_;rintro _ rfl));conv=>whnf)|(apply bD<;>intro _<;>first|omega|conv=>whnf))
 ·have h10:XQ (XQ (m2+(1+p.procs[j].params[a].name.length:Nat))+(z8j (p.procs[j].params.drop (a+1))+(gL p.procs[j].body+x5u (p.procs.drop (j+1))):Nat))=XQ (gPg p:Nat):=by
   rw [ZW (by omega),<- h8];congr 1;omega
  exact ⟨(a+1,XQ (m2+(1+p.procs[j].params[a].name.length:Nat))),⟨by simp only;omega,XS (by omega),h10⟩,by simp only;omega,Le.of_eq rfl⟩
 ·obtain ⟨f1,f2⟩:=fin (full (by omega));exact ⟨(j+1,XQ (m2+gL p.procs[j].body)),⟨by simp only;omega,f1,f2⟩,by simp only;omega,Le.of_eq rfl⟩
inductive SubE:List AV->List AV->Prop
 | nil:SubE [] []
 | cons {a b:AV} {xs ys:List AV} (h:SubL a.cells b.cells) (hs:SubE xs ys):SubE (a::xs) (b::ys)
theorem SubE.get {xs ys:List AV} (h:SubE xs ys):xs.length=ys.length ∧ ∀ (i:Nat) (b:AV),ys[i]? = some b -> ∃ a,xs[i]? = some a∧SubL a.cells b.cells:=by
 induction h with
 | nil=>exact ⟨rfl,by simp⟩
 | cons h hs ih =>
   refine ⟨by simp [ih.1],fun i b hb => ?_⟩;cases i with
   | zero=>simp at hb;subst hb;exact ⟨_,rfl,h⟩
   | succ i=>exact ih.2 i b (by simpa using hb)
theorem Sub.sl {xs ys:List AV} (h:SubE xs ys):Sub (.sl xs) (.sl ys):=fun σ v hr=>by
 obtain ⟨hl,hg⟩:=h.get;cases hr with
 | nilsl =>
   obtain rfl:ys=[]:=by simpa using hl.symm
   exact .nilsl
 | slz b =>
   obtain rfl:ys=[]:=by simpa using hl.symm
   exact .slz b
 | sl _ b off cap sz cells u hb hcap hmax hsz hc hrr =>
   rw [hl];refine .sl ys b off cap sz cells u hb (by omega) hmax (fun i e hi => ?_) (fun i e j c hi hj => ?_) (fun i e j c hi hj => ?_)
   ·obtain ⟨a,h1,h2⟩:=hg i e hi;rw [<- hsz i a h1,h2.1]
   ·obtain ⟨a,h1,h2⟩:=hg i e hi;obtain ⟨d,h3,_⟩:=h2.get hj;exact hc i a j d h1 h3
   ·obtain ⟨a,h1,h2⟩:=hg i e hi;obtain ⟨d,h3,h4⟩:=h2.get hj;exact h4 _ _ (hrr i a j d h1 h3)
theorem GA (n:Int):SpecP Tryz.prog 125 [.int .i64 n] (fun r=>r = .agg (X.mk 1 n [] []).cells):=by
 refine sB NR Tryz.func125 rfl Tryz.call125 ?_;conv=>whnf
 repeat' (refine And.intro rfl ?_;conv=>whnf)
 exact ⟨_,.p (Sub.agg (by repeat' (first|exact SubL.nil|refine SubL.cons ?_ ?_|exact Sub.refl _|exact Sub.nils|exact Sub.ff rfl))),rfl⟩
theorem JL (s:Str):SpecP Tryz.prog 126 [.str s] (fun r=>r = .agg (X.mk 2 0 s []).cells):=by
 refine sB BL Tryz.func126 rfl Tryz.call126 ?_;conv=>whnf
 repeat' (refine And.intro rfl ?_;conv=>whnf)
 exact ⟨_,.p (Sub.agg (by repeat' (first|exact SubL.nil|refine SubL.cons ?_ ?_|exact Sub.refl _|exact Sub.nils|exact Sub.ff rfl))),rfl⟩
theorem VZ (op:Int) (a b:X):SpecP Tryz.prog 127 [.int .i64 op,.agg a.cells,.agg b.cells] (fun r=>r = .agg (X.mk op 0 [] [a,b]).cells):=by
 refine sB NF Tryz.func127 rfl Tryz.call127 ?_;conv=>whnf
 repeat' ((first|refine And.intro rfl ?_|refine aD ?_|refine KN rfl rfl ?_);conv=>whnf)
 have e:X.avs [a,b]=[.agg a.cells,.agg b.cells]:=by simp only [X.avs,X.av_eq]
 exact ⟨_,.p (Sub.agg (SubL.cons (Sub.refl _) (SubL.cons (Sub.refl _) (SubL.cons (Sub.refl _) (SubL.cons (Sub.of_eq (by show _=AV.sl (X.avs [a,b]);rw [e];rfl)) SubL.nil))))),rfl⟩
def bs (l:List Nat):Str:=l.map fun n=>UInt8.ofNat n
def someP:Pg:=⟨[[103]],[
 ⟨[109,97,105,110],[],[[118]],[
   .mk 1 1 [] [118] [] (.mk 1 2 [] []) false [] [] [],
   .mk 2 4 [] [103] [112] (.mk 0 0 [] []) false [⟨false,[],.mk 1 3 [] []⟩,⟨true,[118],.mk 0 0 [] []⟩] [] [],
   .mk 3 3 [] [] [] (.mk 2 0 [118] []) false [] [] [],
   .mk 4 3 [] [] [] (.mk 2 0 [103] []) false [] [] []],[]⟩,
 ⟨[112],[⟨[120],false⟩,⟨[121],true⟩],[],[
   .mk 5 1 [] [121] [] (.mk 8 0 [] [.mk 2 0 [121] [],.mk 2 0 [120] []]) false [] [] [],
   .mk 6 5 [] [] [] (.mk 12 0 [] [.mk 2 0 [121] [],.mk 1 9 [] []]) false [] [.mk 7 10 [] [101] [] (.mk 0 0 [] []) false [] [] []] [],
   .mk 8 9 [] [] [] (.mk 2 0 [121] []) true [] [] []],[[101]]⟩]⟩
theorem LC:SpecP Tryz.prog 72 [] (fun r=>r = .agg someP.cells):=by
 refine sB YE Tryz.func72 rfl Tryz.call72 ?_;conv=>whnf
 repeat' ((first|refine cP (GA _) ?_|refine cP (JL _) ?_|refine And.intro rfl ?_|refine aD ?_|refine bP ?_|refine KN rfl rfl ?_|refine cP (VZ 8 (.mk 2 0 [121] []) (.mk 2 0 [120] [])) ?_|refine cP (VZ 12 (.mk 2 0 [121] []) (.mk 1 9 [] [])) ?_);conv=>whnf)
 exact ⟨_,.p (Sub.agg (by repeat' (first|exact SubL.nil|exact SubE.nil|exact Sub.nils|exact Sub.ff rfl|exact Sub.tt rfl|refine SubL.cons ?_ ?_|refine SubE.cons ?_ ?_|exact Sub.refl _|refine Sub.agg ?_|refine Sub.sl ?_))),rfl⟩
theorem q9m:Fit someP:=by unfold Fit;decide
theorem x0y:XB someP=true:=by kernel_rfl
def f0:Pr:=someP.procs[0]'(by decide)
def f1:Pr:=someP.procs[1]'(by decide)
theorem w7l:WU (QG someP 0 f0)=[⟨0,1,1⟩,⟨1,2,1⟩,⟨2,3,1⟩,⟨3,4,1⟩,⟨4,-1,1⟩]:=by
 have h1:QG someP 0 f0=[⟨0,1,1⟩,⟨1,2,1⟩,⟨2,3,1⟩,⟨3,4,1⟩,⟨4,-1,1⟩]:=by kernel_rfl
 unfold WU UI;rw [h1,List.mergeSort_of_pairwise (by decide)];rfl
theorem w6n:WU (QG someP 1 f1)=[⟨0,5,1⟩,⟨5,6,1⟩,⟨6,7,1⟩,⟨6,8,1⟩,⟨7,-1,1⟩,⟨8,-1,1⟩]:=by
 have h1:QG someP 1 f1=[⟨0,5,1⟩,⟨5,6,1⟩,⟨6,7,1⟩,⟨6,8,1⟩,⟨7,-1,1⟩,⟨8,-1,1⟩]:=by kernel_rfl
 unfold WU UI;rw [h1,List.mergeSort_of_pairwise (by decide)];rfl
def x9g (n k:Int):Int:=if k<1 then 0 else if n.tmod k<0 then n.tmod k+k else n.tmod k
theorem x9q {n k:Int} (hk:0<k):0<=x9g n k∧x9g n k<k:=by
 unfold x9g;have h1:=Int.tmod_lt_of_pos n hk;have h2 : -k<n.tmod k:=by
  rcases Int.le_total 0 n with h|h
  ·have:=Int.tmod_nonneg k h;omega
  ·have h3:=Int.tmod_lt_of_pos (-n) hk;rw [Int.neg_tmod] at h3;omega
 rw [if_neg (by omega)];split<;>omega
theorem q1f (n k:Int) (hk:k<=1000000):SpecP Tryz.prog 66 [.int .i64 n,.int .i64 k] (fun r=>r = .int .i64 (x9g n k)):=by
 refine sB PL Tryz.func66 rfl Tryz.call66 ?_;conv=>whnf
 have h1:=fun h:0<k=>x9q (n:=n) h;repeat' (first|(refine And.intro (by omega) ?_;conv=>whnf)|(apply bD<;>intro _<;>first|omega|conv=>whnf))
 all_goals first
  | (refine Wr.i64 (by have:=h1 (by omega);unfold x9g at this;rw [if_neg (by omega),if_pos (by assumption)] at this;omega) (by have:=h1 (by omega);unfold x9g at this;rw [if_neg (by omega),if_pos (by assumption)] at this;omega) ?_
     conv=>whnf
     exact RetK.int (by unfold x9g;rw [if_neg (by assumption),if_pos (by assumption)]))
  | exact RetK.int (by unfold x9g;rw [if_pos (by assumption)])
  | exact RetK.int (by unfold x9g;rw [if_neg (by assumption),if_neg (by assumption)])
def inS (l:List Str) (x:Str):Bool:=l.any fun y=>y==x
theorem FQ (l:List Str) (x:Str):SpecP Tryz.prog 42 [eStrs l,.str x] (fun r=>r = .bool (inS l x)):=by
 refine sB LO Tryz.func42 rfl Tryz.call42 ?_;conv=>whnf
 repeat' (refine iM fun _=>?_;conv=>whnf)
 have hl:(l.map AV.str).length=l.length:=length_map _;refine LoopK.inv QJ (fun j:Nat=>⟨[(0,.p (eStrs l)),(1,.p (.str x)),(7,.p (.int .i64 (l.map AV.str).length)),(8,.p (.int .i64 j))],[]⟩) (fun j=>j<=l.length∧(l.drop j).any (fun y=>y==x)=inS l x) (fun j=>l.length-j) 0 (Le.of_eq rfl) ⟨zero_le _,rfl⟩ ?_;rintro j ⟨h2,h3⟩;rcases Nat.lt_or_ge j l.length with hj|hj
 ·conv=>whnf
  repeat' (first|((first|(refine iA fun _=>?_)|refine wI ?_);conv=>whnf)|(apply bD<;>intro _<;>first|omega|conv=>whnf)|(apply bB<;>intro _<;>conv=>whnf))
  ·exact RetK.tt (by rw [<- h3,x5j hj (by assumption)])
  ·exact ⟨j+1,⟨hj,by rw [x3j hj (by assumption)];exact h3⟩,by omega,Le.of_eq rfl⟩
 ·conv=>whnf
  repeat' (apply bD<;>intro _<;>first|omega|conv=>whnf)
  exact RetK.ff (by rw [<- h3,q4c hj])
def ZK (p:Pg) (n:Int):Str:=match p.procs[(x9g n p.procs.length).toNat]? with
 | some f=>f.name
 | none=>[]
theorem YA (p:Pg) (n:Int) (hp:p.procs.length<=20000):SpecP Tryz.prog 19 [.agg p.cells,.int .i64 n] (fun r=>r = .str (ZK p n)):=by
 refine sB FJ Tryz.func19 rfl Tryz.call19 ?_;conv=>whnf
 have hl:(p.procs.map fun f=>AV.agg f.cells).length=p.procs.length:=length_map _;have hr:=fun h:0<(p.procs.length:Int)=>x9q (n:=n) h;repeat' (first|((first|(refine iM fun _=>?_)|refine dA ?_|(refine CallK.pure (q1f n (p.procs.length:Int) (by omega)) (.cons (Sub.refl _) (.cons (Sub.int (by omega)) .nil)) ?_;rintro _ rfl));conv=>whnf)|(apply bD<;>intro _<;>first|omega|conv=>whnf))
 ·refine RetK.p ?_;have h0:p.procs=[]:=List.length_eq_zero_iff.1 (by omega);unfold ZK;rw [h0];rfl
 ·obtain ⟨h1,h2⟩:=hr (by omega);have hlt:(x9g n p.procs.length).toNat<p.procs.length:=by omega
  refine IdxK.at (k:=(x9g n p.procs.length).toNat) (e := .agg p.procs[(x9g n p.procs.length).toNat].cells) (by omega) (by rw [List.getElem?_map,List.getElem?_eq_getElem hlt];rfl) rfl ?_;conv=>whnf
  skip
  exact RetK.p (by unfold ZK;rw [List.getElem?_eq_getElem hlt])
theorem x3a {α β:Type} {f:α->β} : ∀ {l:List α},(l.map f).Nodup -> ∀ a∈l,∀ b∈l,f a=f b->a=b
 | [],_,a,ha,_,_,_=>by cases ha
 | c::r,h,a,ha,b,hb,e=>by
   rw [map_cons,nodup_cons] at h;rcases List.mem_cons.1 ha with ha1|ha1
   ·rcases List.mem_cons.1 hb with hb1|hb1
    ·rw [ha1,hb1]
    ·exact (h.1 (List.mem_map.2 ⟨b,hb1,by rw [<- e,ha1]⟩)).elim
   ·rcases List.mem_cons.1 hb with hb1|hb1
    ·exact (h.1 (List.mem_map.2 ⟨a,ha1,by rw [e,hb1]⟩)).elim
    ·exact x3a h.2 a ha1 b hb1 e
theorem HB {α:Type} [DecidableEq α] : ∀ {l m:List α},l.Nodup->(∀ s∈l,s∈m)->l.length<=m.length
 | [],m,_,_=>zero_le _
 | a::r,m,h,hs=>by
   rw [nodup_cons] at h;have ha:=hs a mem_cons_self;have h1:=HB (m:=m.erase a) h.2 fun s hsr=>(List.mem_erase_of_ne (fun e=>h.1 (by rw [<- e];exact hsr))).2 (hs s (mem_cons_of_mem _ hsr));rw [List.length_erase_of_mem ha] at h1;have:=List.length_pos_of_mem ha;simp only [List.length_cons];omega
theorem z1u (n c:Nat):(q5m n c).Nodup:=by
 unfold q5m List.Nodup;rw [List.pairwise_map];exact List.Pairwise.imp (fun h e=>h (by omega)) (List.nodup_range' (s:=n+1) (n:=c) (step:=1))
theorem z5g {p:Pg} (hm:MY p=true) {j:Nat} {f:Pr} (hj:p.procs[j]? = some f):(itsOf p j f).map (fun it=>it.s.id)=q5m (QM p.procs j) (cntL f.body):=by
 rw [<- z3f hm hj,<- LU (j:Nat) 0 (-1) 0 (QM p.procs j) f.body,List.map_map];rfl
theorem w6m {p:Pg} (hm:MY p=true) {j:Nat} {f:Pr} (hj:p.procs[j]? = some f) {a b:Item} (ha:a∈itsOf p j f) (hb:b∈itsOf p j f) (h:a.s.id=b.s.id):a=b :=
 x3a (f:=fun it:Item=>it.s.id) (by rw [z5g hm hj];exact z1u _ _) a ha b hb h
theorem w7n {p:Pg} {j:Nat} {f:Pr} {t:S} (h:t∈flL f.body) : ∃ it∈itsOf p j f,it.s=t:=by
 rw [<- LU (j:Nat) 0 (-1) 0 (QM p.procs j) f.body] at h;obtain ⟨it,h1,h2⟩:=List.mem_map.1 h;exact ⟨it,h1,h2⟩
theorem w0p {l:List Step} (h:l.Pairwise MM):l.Nodup:=h.imp fun h e=>by subst e;exact GQ h
theorem z9m {n c:Nat} {a:Int} (h1:(n:Int)+1<=a) (h2:a<=(n+c:Nat)):a∈q5m n c:=by
 unfold q5m;refine List.mem_map.2 ⟨a.toNat,List.mem_range'.2 ⟨a.toNat-(n+1),by omega,by omega⟩,by omega⟩
theorem x3s {p:Pg} (h:XB p=true):p.procs.length<=20000:=by have:=(ZP h).2.1;omega
inductive Rch {α:Type} (R:α->α->Prop) (a:α):α->Prop
 | refl:Rch R a a
 | tail {b c:α} (h:Rch R a b) (hr:R b c):Rch R a c
theorem Rch.trans {α:Type} {R:α->α->Prop} {a b c:α} (h:Rch R a b) (h':Rch R b c):Rch R a c:=by
 induction h' with
 | refl=>exact h
 | tail _ hr ih=>exact .tail ih hr
theorem Rch.head {α:Type} {R:α->α->Prop} {a b c:α} (hr:R a b) (h:Rch R b c):Rch R a c:=Rch.trans (.tail .refl hr) h
theorem Rch.mono {α:Type} {R R':α->α->Prop} (h : ∀ x y,R x y->R' x y) {a b:α} (hr:Rch R a b):Rch R' a b:=by
 induction hr with
 | refl=>exact .refl
 | tail _ hr ih=>exact .tail ih (h _ _ hr)
theorem Rch.closed {α:Type} {R:α->α->Prop} {S:α->Prop} (hS : ∀ x y,S x->R x y->S y) {a b:α} (ha:S a) (h:Rch R a b):S b:=by
 induction h with
 | refl=>exact ha
 | tail _ hr ih=>exact hS _ _ ih hr
structure WkM (n:Nat) (st:List Bool×List Int):Prop where
 inv:wkInv n st
 mem : ∀ x,x∈st.2↔(0<=x∧x<n)∧st.1.getD x.toNat false=true
theorem WkM.start (n:Nat):WkM n (List.replicate n false,[]):=⟨BT n,fun x=>by
 simp only [not_mem_nil,false_iff,not_and];intro _;rw [getD_eq_getElem?_getD,List.getElem?_replicate];split<;>simp⟩
theorem WkM.see {n:Nat} {st:List Bool×List Int} (h:WkM n st) {b:Int} (hb:0<=b∧b<n):WkM n (JU st b)∧(∀ x,x∈(JU st b).2↔x∈st.2∨x=b)∧st.2 <+: (JU st b).2:=by
 have hi:=MW h.inv hb;cases hs:st.1.getD b.toNat false with
 | true =>
   have e:JU st b=st:=by unfold JU;rw [hs];rfl
   rw [e];refine ⟨h,fun x=>⟨.inl,fun hx => ?_⟩,List.prefix_refl _⟩;rcases hx with hx|rfl
   ·exact hx
   ·exact (h.mem _).2 ⟨hb,hs⟩
 | false =>
   have e:JU st b=(st.1.set b.toNat true,st.2++[b]):=by unfold JU;rw [hs];rfl
   rw [e] at hi ⊢;have hlen:=h.inv.1;refine ⟨⟨hi,fun x => ?_⟩,fun x=>by simp,List.prefix_append _ _⟩;rw [List.mem_append,List.mem_singleton,h.mem];simp only [getD_eq_getElem?_getD,List.getElem?_set];by_cases hx:x=b
   ·subst hx;rw [if_pos rfl,if_pos (by omega)];simp [hb]
   ·constructor
    ·rintro (⟨h1,h2⟩|h2)
     ·refine ⟨h1,?_⟩;rw [if_neg (by omega)];exact h2
     ·exact absurd h2 hx
    ·rintro ⟨h1,h2⟩;rw [if_neg (by omega)] at h2;exact .inl ⟨h1,h2⟩
theorem WkM.fold {n:Nat} : ∀ (l:List Int) {st:List Bool×List Int},WkM n st->(∀ b∈l,0<=b∧b<n)->WkM n (l.foldl JU st)∧(∀ x,x∈(l.foldl JU st).2↔x∈st.2∨x∈l)∧st.2 <+: (l.foldl JU st).2
 | [],st,h,_=>⟨h,fun x=>by simp,List.prefix_refl _⟩
 | b::r,st,h,hl=>by
   obtain ⟨h1,h2,h3⟩:=h.see (hl b mem_cons_self);obtain ⟨h4,h5,h6⟩:=WkM.fold r h1 fun c hc=>hl c (mem_cons_of_mem _ hc);refine ⟨h4,fun x => ?_,h3.trans h6⟩;rw [foldl_cons,h5,h2,mem_cons,or_assoc]
def x0m (rows:List (List Int)) (x y:Int):Prop:=y∈rows.getD x.toNat []
theorem FB {n:Nat} {rows:List (List Int)} (hr:XG n rows) {x y:Int} (h:x0m rows x y):0<=y∧y<n:=by
 unfold x0m at h;rw [getD_eq_getElem?_getD] at h;cases hq:rows[x.toNat]? with
 | none=>rw [hq] at h;simp at h
 | some r=>rw [hq] at h;exact hr.2 r (List.mem_of_getElem? hq) y h
theorem q6s {α:Type} {l m:List α} (h:l <+: m) {i:Nat} {a:α} (ha:l[i]? = some a):m[i]? = some a:=by
 obtain ⟨t,rfl⟩:=h;rw [List.getElem?_append_left (List.getElem?_eq_some_iff.1 ha).1];exact ha
theorem q4g {n:Nat} {rows:List (List Int)} (hr:XG n rows) : ∀ (k i:Nat) {st:List Bool×List Int},WkM n st->i<=st.2.length->n+1<=k+i->(∀ (m:Nat) (a:Int),m<i->st.2[m]? = some a -> ∀ b,x0m rows a b->b∈st.2) ->
  WkM n (ZX rows k i st)∧(∀ x∈st.2,x∈(ZX rows k i st).2)∧(∀ x∈(ZX rows k i st).2,∀ b,x0m rows x b->b∈(ZX rows k i st).2)∧(∀ S:Int->Prop,(∀ x∈st.2,S x)->(∀ x b,S x->x0m rows x b->S b) -> ∀ x∈(ZX rows k i st).2,S x)
 | 0,i,st,h,hi,hk,_=>by
   have:=HK h.inv;omega
 | k+1,i,st,h,hi,hk,hc=>by
   rw [ZX];split
   ·rename_i a ha;have hlt:=(List.getElem?_eq_some_iff.1 ha).1;have hrow : ∀ b∈rows.getD a.toNat [],0<=b∧b<n:=fun b hb=>FB hr hb;obtain ⟨h1,h2,h3⟩:=h.fold (rows.getD a.toNat []) hrow;obtain ⟨h4,h5,h6,h7⟩:=q4g hr k (i+1) h1 (Nat.le_trans hlt h3.length_le) (by omega) fun m c hm hmc b hb=>by
     rw [h2];rcases Nat.lt_or_ge m i with hmi|hmi
     ·have hml:m<st.2.length:=by omega
      have hmc':st.2[m]? = some c:=by
       have:=q6s h3 (List.getElem?_eq_getElem hml);rw [List.getElem?_eq_getElem hml,<- this,hmc]
      exact .inl (hc m c hmi hmc' b hb)
     ·obtain rfl:m=i:=by omega
      have:=q6s h3 ha;rw [this] at hmc;cases hmc;exact .inr hb
    refine ⟨h4,fun x hx=>h5 x ((h2 x).2 (.inl hx)),h6,fun S hS hcl=>h7 S (fun x hx => ?_) hcl⟩;rcases (h2 x).1 hx with hx|hx
    ·exact hS x hx
    ·exact hcl a x (hS a (List.mem_of_getElem? ha)) hx
   ·rename_i ha;have hlen:st.2.length<=i:=List.getElem?_eq_none_iff.1 ha;refine ⟨h,fun x hx=>hx,fun x hx b hb => ?_,fun S hS _=>hS⟩;obtain ⟨m,hm⟩:=List.mem_iff_getElem?.1 hx;exact hc m x (by have:=(List.getElem?_eq_some_iff.1 hm).1;omega) hm b hb
theorem LP {n:Nat} : ∀ (l:List Int) {st:List Bool×List Int},WkM n st->WkM n (l.foldl (fun st a=>bif ZL n a then JU st a else st) st) ∧ ∀ x,x∈(l.foldl (fun st a=>bif ZL n a then JU st a else st) st).2↔x∈st.2∨(x∈l∧ZL n x=true)
 | [],st,h=>⟨h,fun x=>by simp⟩
 | a::r,st,h=>by
   rw [foldl_cons];cases hb:ZL n a with
   | true =>
     obtain ⟨h1,h2,_⟩:=h.see (XI hb);obtain ⟨h3,h4⟩:=LP r h1;rw [cond_true];refine ⟨h3,fun x => ?_⟩;rw [h4,h2,mem_cons];constructor
     ·rintro ((h5|rfl)|⟨h5,h6⟩)
      ·exact .inl h5
      ·exact .inr ⟨.inl rfl,hb⟩
      ·exact .inr ⟨.inr h5,h6⟩
     ·rintro (h5|⟨rfl|h5,h6⟩)
      ·exact .inl (.inl h5)
      ·exact .inl (.inr rfl)
      ·exact .inr ⟨h5,h6⟩
   | false =>
     obtain ⟨h3,h4⟩:=LP r h;rw [cond_false];refine ⟨h3,fun x => ?_⟩;rw [h4,mem_cons];constructor
     ·rintro (h5|⟨h5,h6⟩)
      ·exact .inl h5
      ·exact .inr ⟨.inr h5,h6⟩
     ·rintro (h5|⟨rfl|h5,h6⟩)
      ·exact .inl h5
      ·rw [hb] at h6;cases h6
      ·exact .inr ⟨h5,h6⟩
theorem x8z : ∀ (l:List Bool) (i:Nat) (y:Int),y∈HI i l ↔ ∃ k:Nat,l[k]? = some true∧y=((i+k:Nat):Int)
 | [],i,y=>by simp [HI]
 | b::r,i,y=>by
   have ih:=x8z r (i+1) y;have key:(∃ k:Nat,(b::r)[k]? = some true∧y=((i+k:Nat):Int))↔(b=true∧y=(i:Int)) ∨ ∃ k:Nat,r[k]? = some true∧y=((i+1+k:Nat):Int):=by
    constructor
    ·rintro ⟨k,h1,h2⟩;cases k with
     | zero=>simp at h1;exact .inl ⟨h1,by simpa using h2⟩
     | succ k=>exact .inr ⟨k,by simpa using h1,by rw [h2];omega⟩
    ·rintro (⟨h1,h2⟩|⟨k,h1,h2⟩)
     ·exact ⟨0,by simp [h1],by simpa using h2⟩
     ·exact ⟨k+1,by simpa using h1,by rw [h2];omega⟩
   rw [key,<- ih,HI];cases b<;>simp
theorem x4r {n:Nat} {rows:List (List Int)} (hr:XG n rows) (l:List Int) (y:Int):y∈HI 0 (ZE rows l) ↔ ∃ a∈l,ZL n a=true∧Rch (x0m rows) a y:=by
 obtain ⟨h1,h2⟩:=LP (n:=n) l (WkM.start n);obtain ⟨h3,h4,h5,h6⟩:=q4g hr (rows.length+1) 0 (st:=HR rows.length l) (by rw [hr.1];exact h1) (zero_le _) (by rw [hr.1];omega) (fun m a hm=>by omega);have hst : ∀ x,x∈(HR rows.length l).2↔x∈l∧ZL n x=true:=fun x=>by
  rw [hr.1];unfold HR;rw [h2];simp
 have hmem : ∀ y,y∈HI 0 (ZE rows l)↔y∈(ZX rows (rows.length+1) 0 (HR rows.length l)).2:=fun y=>by
  rw [x8z,h3.mem];show (∃ k:Nat,(ZX rows (rows.length+1) 0 (HR rows.length l)).1[k]? = some true∧_)↔_;constructor
  ·rintro ⟨k,h7,h8⟩;have hlt:=(List.getElem?_eq_some_iff.1 h7).1;rw [h3.inv.1] at hlt;refine ⟨by omega,?_⟩;rw [h8,getD_eq_getElem?_getD];simp [h7]
  ·rintro ⟨h7,h8⟩;have hlt:y.toNat<(ZX rows (rows.length+1) 0 (HR rows.length l)).1.length:=by rw [h3.inv.1];omega
   refine ⟨y.toNat,?_,by omega⟩;rw [getD_eq_getElem?_getD,List.getElem?_eq_getElem hlt] at h8;rw [List.getElem?_eq_getElem hlt];simpa using h8
 rw [hmem];constructor
 ·intro hy;refine h6 (fun y => ∃ a∈l,ZL n a=true∧Rch (x0m rows) a y) (fun x hx => ?_) (fun x b ⟨a,h7,h8,h9⟩ hb=>⟨a,h7,h8,.tail h9 hb⟩) y hy;obtain ⟨h7,h8⟩:=(hst x).1 hx;exact ⟨x,h7,h8,.refl⟩
 ·rintro ⟨a,h7,h8,h9⟩;exact h9.closed (S:=fun y=>y∈(ZX rows (rows.length+1) 0 (HR rows.length l)).2) (fun x b hx hb=>h5 x hx b hb) (h4 a ((hst a).2 ⟨h7,h8⟩))
theorem z0z {l:List Int} {k:Nat} {b x:Int}:x∈q0j l k b↔x∈l∨x=b:=by
 unfold q0j;rw [List.mem_append,mem_cons];have:x∈l↔x∈l.take k∨x∈l.drop k:=by rw [<- List.mem_append,List.take_append_drop]
 rw [this];constructor
 ·rintro (h|h|h)
  ·exact .inl (.inl h)
  ·exact .inr h
  ·exact .inl (.inr h)
 ·rintro ((h|h)|h)
  ·exact .inl h
  ·exact .inr (.inr h)
  ·exact .inr (.inl h)
theorem w1w {n:Nat} {g:List (List Int)×List (List Int)} (hl:g.1.length=n) (e:Int×Int) {x y:Int} (hx:0<=x∧x<n):y∈(x1x n g e).1.getD x.toNat []↔y∈g.1.getD x.toNat []∨((x,y)=e∧ZL n y=true):=by
 rw [q3v];cases hc:(ZL n e.1&&ZL n e.2 && !(g.1.getD e.1.toNat []).contains e.2) with
 | true =>
   simp only [Bool.and_eq_true,Bool.not_eq_true'] at hc;obtain ⟨⟨h1,h2⟩,_⟩:=hc;have h3:=XI h1;rw [cond_true];unfold q8x;rw [getD_eq_getElem?_getD,List.getElem?_set];by_cases he:e.1.toNat=x.toNat
   ·rw [if_pos he,if_pos (by omega)];simp only [Option.getD_some];rw [z0z,<- he];have:x=e.1:=by omega
    constructor
    ·rintro (h|h)
     ·exact .inl h
     ·exact .inr ⟨by rw [this,h],by rw [h];exact h2⟩
    ·rintro (h|⟨h,_⟩)
     ·exact .inl h
     ·exact .inr (by rw [<- h])
   ·rw [if_neg he,<- getD_eq_getElem?_getD];constructor
    ·exact .inl
    ·rintro (h|⟨h,_⟩)
     ·exact h
     ·exact absurd (by rw [<- h]) he
 | false =>
   rw [cond_false];constructor
   ·exact .inl
   ·rintro (h|⟨rfl,h⟩)
    ·exact h
    ·have h1:ZL n x=true:=by unfold ZL;simp [hx]
     simp only [h1,h,Bool.true_and,Bool.not_eq_false'] at hc;simpa using hc
theorem x9i {n:Nat} {g:List (List Int)×List (List Int)} (hl:g.1.length=n) (e:Int×Int):(x1x n g e).1.length=n:=by
 rw [q3v];cases (ZL n e.1&&ZL n e.2 && !(g.1.getD e.1.toNat []).contains e.2) with
 | true=>rw [cond_true];unfold q8x;rw [List.length_set];exact hl
 | false=>exact hl
theorem x4j {n:Nat} {x y:Int} (hx:0<=x∧x<n) : ∀ (l:List (Int×Int)) {g:List (List Int)×List (List Int)},g.1.length=n->(y∈(l.foldl (x1x n) g).1.getD x.toNat []↔y∈g.1.getD x.toNat []∨((x,y)∈l∧ZL n y=true))
 | [],g,_=>by simp
 | e::r,g,h=>by
   rw [foldl_cons,x4j hx r (x9i h e),w1w h e hx,mem_cons];constructor
   ·rintro ((h1|⟨h1,h2⟩)|⟨h1,h2⟩)
    ·exact .inl h1
    ·exact .inr ⟨.inl h1,h2⟩
    ·exact .inr ⟨.inr h1,h2⟩
   ·rintro (h1|⟨h1|h1,h2⟩)
    ·exact .inl (.inl h1)
    ·exact .inl (.inr ⟨h1,h2⟩)
    ·exact .inr ⟨h1,h2⟩
theorem FT {n:Nat} {l:List (Int×Int)} {x y:Int} (hx:0<=x∧x<n):x0m (QA n l).1 x y↔(x,y)∈l∧ZL n y=true:=by
 unfold x0m QA;rw [x4j hx l (by simp)];have:(List.replicate n ([]:List Int)).getD x.toNat []=[]:=by
  rw [getD_eq_getElem?_getD,List.getElem?_replicate];split<;>rfl
 rw [this];simp
theorem x5f {n:Nat} {l:List (Int×Int)} (h0:0<n) (y:Int):y∈HI 0 (ZE (QA n l).1 [0])↔Rch (fun a b=>(a,b)∈l∧ZL n b=true) 0 y:=by
 rw [x4r (JN n l).1];have hs:ZL n 0=true:=by unfold ZL;simp;omega
 constructor
 ·rintro ⟨a,ha,_,h⟩;obtain rfl:a=0:=by simpa using ha
  exact (h.closed (S:=fun x:Int=>(0<=x∧x<n)∧Rch (fun a b=>(a,b)∈l∧ZL n b=true) 0 x) (fun x y ⟨h1,h2⟩ h3=>by
   have h4:=(FT h1).1 h3;exact ⟨XI h4.2,.tail h2 h4⟩) ⟨⟨by omega,by omega⟩,.refl⟩).2
 ·intro h;refine ⟨0,by simp,hs,?_⟩;exact (h.closed (S:=fun x:Int=>(0<=x∧x<n)∧Rch (x0m (QA n l).1) 0 x) (fun x y ⟨h1,h2⟩ h3=>⟨XI h3.2,.tail h2 ((FT h1).2 h3)⟩) ⟨⟨by omega,by omega⟩,.refl⟩).2
def stR (F:List Step) (a b:Int):Prop := ∃ s∈F,s.src=a∧s.dst=b
def plP (p:Pg) (j:Nat) (f:Pr) (x:Int):Prop:=x=0∨x = -1∨((QM p.procs j:Int)+1<=x∧x<=(QM p.procs j+cntL f.body:Nat))
def ixI (p:Pg) (j:Nat) (f:Pr) (x:Int):Int:=JA (loI p j) (hiI p j f) (cntL f.body+2:Nat) x
theorem HF {p:Pg} {j:Nat} {f:Pr} {x:Int} (h:plP p j f x):0<=ixI p j f x∧ixI p j f x<(cntL f.body+2:Nat):=by
 unfold ixI JA loI hiI;unfold plP at h
 (repeat' split)<;>omega
theorem z6r {p:Pg} {j:Nat} {f:Pr} {x y:Int} (hx:plP p j f x) (hy:plP p j f y) (h:ixI p j f x=ixI p j f y):x=y:=by
 unfold ixI JA loI hiI at h;unfold plP at hx hy
 (repeat' split at h)<;>omega
theorem YH {p:Pg} (h:XB p=true) {j:Nat} {f:Pr} (hj:p.procs[j]? = some f) : ∀ s∈(QX p j f).real,plP p j f s.src∧plP p j f s.dst:=fun s hs=>by
 obtain ⟨_,h2⟩:=NH h hj;obtain ⟨_,h3,_⟩:=q4a h hj;obtain ⟨h4,h5⟩:=h3 s ((h2 s).1 hs);unfold okI at h5;unfold plP;omega
theorem z0n : ∀ (k:Nat) (l:List S) (_:cntL l<k) (_:cntL l<=1000000),SpecP Tryz.prog 78 [eSs l] (fun r=>r = .int .i64 (cntL l)):=by
 intro k;induction k with
 | zero=>intro l h;omega
 | succ k ih =>
   intro l hk hl;have hll:=S.avs_len l;have hlc:l.length<=cntL l:=by
    clear hk hl hll;induction l with
    | nil=>simp
    | cons t r ihr=>rw [cntL,WD,List.length_cons];omega
   refine sB x1p Tryz.func78 rfl Tryz.call78 ?_;conv=>whnf
   repeat' (refine iM fun _=>?_;conv=>whnf)
   refine LoopK.inv QJ (fun y:Nat×Nat=>⟨[(0,.p (eSs l)),(3,.p (.int .i64 y.2)),(8,.p (.int .i64 (S.avs l).length)),(9,.p (.int .i64 y.1))],[]⟩) (fun y=>y.1<=l.length∧y.2+cntL (l.drop y.1)=cntL l+(l.length-y.1)) (fun y=>l.length-y.1) (0,l.length) (Le.of_eq (by simp only [S.avs_len];rfl)) ⟨zero_le _,by simp;omega⟩ ?_;rintro ⟨j,n⟩ ⟨h2,h3⟩;simp only at h2 h3 ⊢;rcases Nat.lt_or_ge j l.length with hj|hj
   ·have hst:=NZ hj;have hcs:=WD l[j];have h4:cntL (l.drop j)<=cntL l:=by
     have : ∀ (l:List S) (j:Nat),cntL (l.drop j)<=cntL l:=fun l=>by
      induction l with
      | nil=>intro j;simp
      | cons t r ihr =>
        intro j;cases j with
        | zero=>simp
        | succ j=>rw [List.drop_succ_cons,cntL];have:=ihr j;omega
     exact this l j
    conv=>whnf
    repeat' (first|((first|refine dA ?_|refine QZ (by omega) ?_|refine wI ?_|(refine CallK.pure (ih l[j].thn (by omega) (by omega)) (.cons (Sub.refl _) .nil) ?_;rintro _ rfl)|(refine CallK.pure (ih l[j].els (by omega) (by omega)) (.cons (Sub.refl _) .nil) ?_;rintro _ rfl));conv=>whnf)|(apply bD<;>intro _<;>first|omega|conv=>whnf))
    all_goals exact ⟨(j+1,n+(cntL l[j].thn+cntL l[j].els)),⟨by simp only;omega,by simp only;omega⟩,by simp only;omega,Le.of_eq rfl⟩
   ·conv=>whnf
    rw [drop_eq_nil_of_le hj,cntL] at h3;repeat' (apply bD<;>intro _<;>first|omega|conv=>whnf)
    exact RetK.int (by omega)
theorem z0m (p:Pg) (hc:cntP p.procs<=1000):SpecP Tryz.prog 18 [.agg p.cells] (fun r=>r = .int .i64 (cntP p.procs)):=by
 refine sB x2e Tryz.func18 rfl Tryz.call18 ?_;conv=>whnf
 have hl2:(p.procs.map fun f=>AV.agg f.cells).length=p.procs.length:=length_map _;repeat' (refine iM fun _=>?_;conv=>whnf)
 refine LoopK.inv QJ (fun y:Nat×Nat=>⟨[(3,.p (.int .i64 y.2)),(7,.p (.sl (p.procs.map fun f => .agg f.cells))),(8,.p (.int .i64 (p.procs.map fun f=>AV.agg f.cells).length)),(9,.p (.int .i64 y.1))],[]⟩) (fun y=>y.1<=p.procs.length∧y.2+cntP (p.procs.drop y.1)=cntP p.procs) (fun y=>p.procs.length-y.1) (0,0) (Le.of_eq rfl) ⟨zero_le _,by simp⟩ ?_;rintro ⟨j,n⟩ ⟨h2,h3⟩;simp only at h2 h3 ⊢;rcases Nat.lt_or_ge j p.procs.length with hj|hj
 ·have hst:=q4f hj;have hcm:=x7c _ _ (List.getElem_mem hj);conv=>whnf
  repeat' (first|((first|refine And.intro rfl ?_|(refine iA fun _=>?_)|refine wI ?_|(refine CallK.pure (z0n (cntL p.procs[j].body+1) p.procs[j].body (by omega) (by omega)) (.cons (Sub.refl _) .nil) ?_;rintro _ rfl));conv=>whnf)|(apply bD<;>intro _<;>first|omega|conv=>whnf))
  exact ⟨(j+1,n+cntL p.procs[j].body),⟨by simp only;omega,by simp only;omega⟩,by simp only;omega,Le.of_eq rfl⟩
 ·conv=>whnf
  rw [drop_eq_nil_of_le hj,cntP] at h3;repeat' (apply bD<;>intro _<;>first|omega|conv=>whnf)
  exact RetK.int (by omega)
def x3b (p:Pg) (most:Int):Bool:=XB p&&decide ((cntP p.procs:Int)<=most)
theorem YG {l:List Str} {x:Str}:inS l x=true↔x∈l:=by
 unfold inS;rw [List.any_eq_true];constructor
 ·rintro ⟨y,h1,h2⟩;have:y=x:=by simpa using h2
  rw [<- this];exact h1
 ·intro h;exact ⟨x,h,by simp⟩
theorem x8d {p:Pg} (h:XB p=true) {j:Nat} {f:Pr} (hj:p.procs[j]? = some f) {a:Int} (h1:(QM p.procs j:Int)+1<=a) (h2:a<=(QM p.procs j+cntL f.body:Nat)) : ∃ t∈flL f.body,z8k p a=some t∧t.id=a:=by
 obtain ⟨it,h3,h4⟩:=x3t hj (k:=(a-1).toNat) (by omega) (by omega);refine ⟨it.s,x0g h4,by unfold z8k;rw [h3];rfl,?_⟩;obtain ⟨_,_,_,hlen,hsp⟩:=QK p;obtain ⟨_,_,hle,hd⟩:=hsp j f hj;have hids:=z5g (ZJ h).1 hj;have h5:(itsOf p j f)[(a-1).toNat-QM p.procs j]? = some it:=by
  unfold itsOf;rw [<- hd,List.getElem?_drop,getElem?_take,if_pos (by omega),show QM p.procs j+((a-1).toNat-QM p.procs j)=(a-1).toNat by omega];exact h3
 have h6:((itsOf p j f).map fun it=>it.s.id)[(a-1).toNat-QM p.procs j]? = some it.s.id:=by rw [List.getElem?_map,h5];rfl
 rw [hids] at h6;unfold q5m at h6;rw [List.getElem?_map,List.getElem?_range' (by omega)] at h6;simp at h6;omega
end Go.Ab
