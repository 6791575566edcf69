/- The law of a program that may be: every step leads from a place to a place. -/
import Derived.Laws.StructEq
import Derived.ChangeKeysEq
import Derived.Test.YtiaikoimoonlmaaGreatInoB5
import Derived.Test.YtiaikoimoonlmaaGreatInoB6
import Derived.Test.YtiaikoimoonlmaaGreatInoB8
import Derived.Test.YtiaikoimoonlmaaGreatInoB9
import Derived.Test.YtiaikoimoonlmaaGreatInoB10
import Derived.Test.YtiaikoimoonlmaaGreatInoB13
set_option linter.unusedSimpArgs false
set_option linter.unusedVariables false
set_option maxRecDepth 100000
set_option maxHeartbeats 16000000
open List (Nodup not_mem_nil)
namespace Go.Ab
open Go.Proofs.Tryz
open Go.Proofs
theorem QK {p:Pg} (h:QM p=true):UB p=true∧(QO p).1=0∧(UM p).1=0∧(LE p).1=0∧(FN p).1=0:=by
 unfold QM v3v at h;simp only [u4b] at h;by_cases h1:UB p=false
 ·rw [if_pos h1] at h;cases h
 rw [if_neg h1] at h;by_cases h2:(QO p).1=0
 ·rw [if_neg (by omega)] at h;by_cases h3:(UM p).1=0
  ·rw [if_neg (by omega)] at h;by_cases h4:(LE p).1=0
   ·rw [if_neg (by omega)] at h;exact ⟨by simpa using h1,h2,h3,h4,h⟩
   ·rw [if_pos h4] at h;exact absurd h h4
  ·rw [if_pos h3] at h;exact absurd h h3
 ·rw [if_pos h2] at h;exact absurd h h2
theorem x2v {f:Pr} : ∀ (l:List Item) (seen:List Str) {s:List Str},KQ f l seen = .ok s -> ∀ it∈l,US f it=true
 | [],_,_,_,it,h=>by cases h
 | a::r,seen,s,h,it,hi=>by
   rw [KQ] at h;cases hj:YY seen a.s.labels with
   | none=>rw [hj] at h;cases h
   | some s1 =>
     rw [hj] at h;simp only at h;cases hl:US f a with
     | false=>rw [hl] at h;cases h
     | true =>
       rw [hl,u4y] at h;rcases u3c.1 hi with rfl|hi
       ·exact hl
       ·exact x2v r s1 h it hi
theorem x4z {p:Pg} (hs:(QO p).1=0) (h:(LE p).1=0) {j:Nat} {f:Pr} (hj:p.procs[j]? = some f) : ∀ it∈itsOf p j f,US f it=true:=by
 unfold LE at h;rw [if_neg (by omega)] at h;have hn:(List.range p.procs.length).findSome? (JB p)=none:=by
  cases hq:(List.range p.procs.length).findSome? (JB p) with
  | none=>rfl
  | some a=>rw [hq] at h;cases h
 rw [u7f] at hn;have hlt:j<p.procs.length:=(u3e.1 hj).1;have:=hn j (u6c.2 hlt);unfold JB at this;rw [hj] at this;simp only at this;cases hr:KQ f (itL (j:Nat) 0 (-1) 0 (QN p.procs j) f.body) [] with
 | error id=>rw [hr] at this;cases this
 | ok seen=>exact x2v _ _ hr
mutual
theorem w8e : ∀ (t u v:S),u∈flS t->v∈u.thn∨v∈u.els->v∈flS t
 | .mk id kind labels name proc x has args thn els,u,v,h,hv=>by
   rw [flS] at h ⊢;rcases u3c.1 h with rfl|h
   ·refine u3n _ (u3p.2 ?_);rcases hv with hv|hv
    ·exact .inl (q3d thn v hv)
    ·exact .inr (q3d els v hv)
   ·rcases u3p.1 h with h|h
    ·exact u3n _ (u3p.2 (.inl (q9m thn u v h hv)))
    ·exact u3n _ (u3p.2 (.inr (q9m els u v h hv)))
theorem q9m : ∀ (l:List S) (u v:S),u∈flL l->v∈u.thn∨v∈u.els->v∈flL l
 | [],u,v,h,hv=>by rw [flL] at h;cases h
 | t::r,u,v,h,hv=>by
   rw [flL] at h ⊢;rcases u3p.1 h with h|h
   ·exact u3p.2 (.inl (w8e t u v h hv))
   ·exact u3p.2 (.inr (q9m r u v h hv))
end
theorem q1m {p:Pg} {j:Nat} {f:Pr} {it:Item} (h:it∈itsOf p j f):it.s∈flL f.body:=by
 unfold itsOf at h;rw [<- LA (j:Nat) 0 (-1) 0 (QN p.procs j) f.body];exact u3s.2 ⟨it,h,rfl⟩
theorem ZW {p:Pg} (hm:UB p=true) {j:Nat} {f:Pr} (hj:p.procs[j]? = some f) {t:S} (h:t∈flL f.body):(QN p.procs j:Int)+1<=t.id∧t.id<=(QN p.procs j+cntL f.body:Nat):=by
 have h1:=x8f hm hj;have h2:t.id∈KT (QN p.procs j) (cntL f.body):=by
  rw [<- h1];exact u3s.2 ⟨t,h,rfl⟩
 have:=q9s h2;omega
theorem q6p {p:Pg} {j:Nat} {f:Pr} {it:Item} (h:it∈itsOf p j f):okI (QN p.procs j) (QN p.procs j+cntL f.body) it.next∧(it.loop=0∨((QN p.procs j:Int)+1<=it.loop∧it.loop<=(QN p.procs j+cntL f.body:Nat))) :=
 x8u (j:Nat) _ _ f.body 0 (-1) 0 _ it h (.inl rfl) (.inl rfl) (u4j _) (u4j _)
theorem NO {p:Pg} {j:Nat} {f:Pr} (hj:p.procs[j]? = some f) {k:Nat} (h1:QN p.procs j<=k) (h2:k<QN p.procs j+cntL f.body) : ∃ it,(sheetOf p).l[k]? = some it∧it∈itsOf p j f:=by
 obtain ⟨_,_,_,hlen,hsp⟩:=QJ p;obtain ⟨_,_,hle,hd⟩:=hsp j f hj;have hk:k<(sheetOf p).l.length:=by omega
 refine ⟨(sheetOf p).l[k],u3h hk,?_⟩;unfold itsOf;rw [<- hd];refine u7q.2 ⟨k-QN p.procs j,?_⟩;rw [u5o,u5x,if_pos (by omega),show QN p.procs j+(k-QN p.procs j)=k by omega,u3h hk]
theorem v3l {p:Pg} (hm:UB p=true) {j:Nat} {f:Pr} (hj:p.procs[j]? = some f) {it:Item} (h:it∈itsOf p j f) (hl:US f it=true) : ∀ x∈VV (sheetOf p) f it,okI (QN p.procs j) (QN p.procs j+cntL f.body) x:=by
 obtain ⟨hnx,hlo⟩:=q6p h;have hs:=q1m h;have hid:=ZW hm hj hs;have hhead : ∀ (l:List S) (o:Int),(∀ v∈l,v∈it.s.thn∨v∈it.s.els)->okI (QN p.procs j) (QN p.procs j+cntL f.body) o->okI (QN p.procs j) (QN p.procs j+cntL f.body) (x4x l o):=fun l o hv ho=>by
  cases l with
  | nil=>exact ho
  | cons v r=>exact .inr (ZW hm hj (q9m f.body it.s v hs (hv v u3g)))
 have hloop:it.s.kind=7∨it.s.kind=8->(QN p.procs j:Int)+1<=it.loop∧it.loop<=(QN p.procs j+cntL f.body:Nat):=fun hk=>by
  unfold US at hl;rw [if_pos hk] at hl;rcases hlo with h0|h0
  ·rw [h0] at hl;cases hl
  ·exact h0
 intro x hx;unfold VV at hx;split at hx
 ·simp only [u3c,not_mem_nil,or_false] at hx;rcases hx with rfl|rfl
  ·exact hhead _ _ (fun v hv => .inl hv) hnx
  ·exact hhead _ _ (fun v hv => .inr hv) hnx
 split at hx
 ·simp only [u3c,not_mem_nil,or_false] at hx;rcases hx with rfl|rfl
  ·exact hhead _ _ (fun v hv => .inl hv) (.inr hid)
  ·exact hnx
 split at hx
 ·rename_i hk;have hlp:=hloop (.inl hk);obtain ⟨u,hu1,hu2⟩:=NO hj (k:=(it.loop-1).toNat) (by omega) (by omega);rw [hu1] at hx;rw [u3b.1 hx];exact (q6p hu2).1
 split at hx
 ·rename_i hk;rw [u3b.1 hx];exact .inr (hloop (.inr hk))
 split at hx
 ·rw [u3b.1 hx];exact .inl rfl
 split at hx
 ·rename_i h7 h8 _ hk;rw [u3b.1 hx];unfold US at hl;rw [if_neg (by omega),if_pos hk] at hl;unfold atB at hl ⊢;split
  ·rename_i t ht;exact .inr (ZW hm hj (u5i ht))
  ·rename_i hn;rw [hn] at hl;simp only at hl;cases hfin:f.fin.any fun s=>it.s.name==s with
   | true=>exact .inl rfl
   | false=>rw [hfin] at hl;cases hl
 ·rw [u3b.1 hx];exact hnx
theorem NU {p:Pg} (h:QM p=true) {j:Nat} {f:Pr} (hj:p.procs[j]? = some f):(∀ it∈itsOf p j f,it.s.kind=7->1<=it.loop∧it.loop<=(sheetOf p).l.length) ∧
  (∀ s∈QG p j f,(s.src=0∨((QN p.procs j:Int)+1<=s.src∧s.src<=(QN p.procs j+cntL f.body:Nat)))∧okI (QN p.procs j) (QN p.procs j+cntL f.body) s.dst) ∧ ∀ s∈QG p j f,okSt s:=by
 obtain ⟨hm,hs,_,hjm,_⟩:=QK h;have hld:=x4z hs hjm hj;obtain ⟨_,_,_,hlen,hsp⟩:=QJ p;obtain ⟨_,_,hle,_⟩:=hsp j f hj;obtain ⟨_,_,hcn⟩:=ZM hm;have key : ∀ s∈QG p j f,(s.src=0∨((QN p.procs j:Int)+1<=s.src∧s.src<=(QN p.procs j+cntL f.body:Nat)))∧okI (QN p.procs j) (QN p.procs j+cntL f.body) s.dst:=fun s hx=>by
  unfold QG at hx;rcases u3c.1 hx with rfl|hx
  ·refine ⟨.inl rfl,?_⟩;show okI _ _ (if QN p.procs j<QN p.procs j+cntL f.body then ((QN p.procs j:Nat)+1:Int) else -1);split
   ·exact .inr ⟨by omega,by omega⟩
   ·exact .inl rfl
  ·obtain ⟨it,hit,hz⟩:=u4o.1 hx;obtain ⟨y,hy,rfl⟩:=u3s.1 hz;exact ⟨.inr (ZW hm hj (q1m hit)),v3l hm hj hit (hld it hit) y hy⟩
 refine ⟨fun it hit hk => ?_,key,fun s hx => ?_⟩
 ·have hl:=hld it hit;unfold US at hl;rw [if_pos (.inl hk)] at hl;rcases (q6p hit).2 with h0|h0
  ·rw [h0] at hl;cases hl
  ·omega
 ·obtain ⟨h1,h2⟩:=key s hx;unfold okSt okI at *
  omega
def q9j (p:Pg) (n:Str):Option Way:=bif QM p then (match p.procs.find? (fun f=>f.name==n) with
 | some f=>some (QQ p (p.procs.findIdx fun f=>f.name==n) f)
 | none=>none) else none
theorem ZV {p:Pg} (h:QM p=true):p.globals.length<=16∧p.procs.length<=16∧cntP p.procs<=200:=ZM (QK h).1
theorem w9f {p:Pg} {n:Str} (h : ¬n∈procsN p):q3l (fun f=>f.name==n) p.procs = -1∧p.procs.find? (fun f=>f.name==n)=none:=by
 have h1:p.procs.any (fun f=>f.name==n)=false:=by
  rw [u7s];intro f hf hn;exact h (u3s.2 ⟨f,hf,by simpa using hn⟩)
 refine ⟨by unfold q3l;rw [h1];rfl,?_⟩;rw [u6p];intro f hf;have:=u7s.1 h1 f hf;simpa using this
theorem w4t {p:Pg} {n:Str} (h:n∈procsN p) : ∃ (k:Nat) (hk:k<p.procs.length),q3l (fun f=>f.name==n) p.procs=k∧p.procs.findIdx (fun f=>f.name==n)=k∧p.procs.find? (fun f=>f.name==n)=some p.procs[k]∧p.procs[k].name=n:=by
 obtain ⟨k,hk,h1,h2,h3⟩:=q4k h;refine ⟨k,hk,h1,?_,h2,h3⟩;unfold q3l at h1;cases ha:p.procs.any (fun f=>f.name==n) with
 | true=>rw [ha,u4y] at h1;omega
 | false=>rw [ha,u4h] at h1;omega
theorem DU {p:Pg} {n:Str} {w:Way} (h:q9j p n=some w) : ∃ (k:Nat) (f:Pr),p.procs[k]? = some f∧w=QQ p k f∧QM p=true∧f.name=n∧p.procs.find? (fun f=>f.name==n)=some f:=by
 unfold q9j at h;cases hc:QM p with
 | false=>rw [hc] at h;cases h
 | true =>
   rw [hc,u4y] at h;by_cases hn:n∈procsN p
   ·obtain ⟨k,hk,h1,h2,h3,h4⟩:=w4t hn;rw [h3,h2] at h;cases h;exact ⟨k,p.procs[k],by simp,rfl,rfl,h4,h3⟩
   ·rw [(w9f hn).2] at h;cases h
def v8b (p:Pg) (k:Nat) (f:Pr):Int:=if QN p.procs k<QN p.procs k+cntL f.body then ((QN p.procs k:Nat)+1:Int) else -1
def ofR (p:Pg) (n:Str):List Step:=match q9j p n with
 | some w=>w.real
 | none=>[]
def v8g (p:Pg) (id:Int):Int×Bool:=bif QM p&&(decide (1<=id)&&decide (id<=(sheetOf p).l.length)) then (((sheetOf p).l[(id-1).toNat]?.map Item.next).getD 0,true) else (0,false)
def XY (p:Pg) (j:Nat) (n i:Int):Int:=if i=0 then 0 else if i=n-1 then -1 else loI p j+i-1
theorem q4o (w:Way) (f:Pr) (hj:w.p.procs[w.j]? = some f) (hc:cntP w.p.procs<=1000) (hn:0<=w.n∧w.n<=5000) (i:Int) (hi:0<=i∧i<=5000):SpecP prog 94 [.ip w.cells,.int .i64 i] (fun r=>r = .int .i64 (XY w.p w.j w.n i)):=by
 refine sB x0l func94 rfl call94 ?_;conv=>whnf
 obtain ⟨_,_,_,hlen,hsp⟩:=QJ w.p;obtain ⟨hlo,hhi,hle,_⟩:=hsp w.j f hj;repeat' (first|((first|refine dA ?_|refine wI ?_|(refine IdxK.at rfl (YZ hlo) rfl ?_));conv=>whnf)|(apply bD<;>intro _<;>first|omega|conv=>whnf))
 all_goals exact RetK.int (by unfold XY loI;(repeat' split)<;>omega)
theorem w2z (l:List Int) : ∀ b:List Bool,(PQ l b).length=b.length:=by
 induction l with
 | nil=>intro b;rfl
 | cons a r ih =>
   intro b;show (PQ r (b.set a.toNat true)).length=b.length;rw [ih,u6i]
def w1g (w:Way):List Int:=((List.range' 1 (w.n-2).toNat).filter fun i=>w.live.getD i false).map fun (i:Nat)=>XY w.p w.j w.n i
def WJ (p:Pg) (n:Str):List Int:=match q9j p n with
 | some w=>w1g w
 | none=>[]
def OneRow (R:Nat->TypeId->Nat->List AV->Prop) (nil:Prop) (l:LV) (H:Heap):Prop :=
 (l = .p .nils∧H=[]∧nil) ∨ ∃ q e sz es,l = .hd q 0 es.length∧H=[(q,.own e sz es)]∧(∀ x∈es,∀ c∈x.cells,c.flat=true)∧R q e sz es
theorem WQ {P:Program} {N:Nat} {g:FuncId} {args:List LV} {dst:Option Nat} {s:St} {K:St->Prop} {avs:List AV} {R:Nat->TypeId->Nat->List AV->Prop} {nil:Prop} (k:Nat) (hu:WB k s=true)
  (hs:SpecH P g (avs.map .p) [] (OneRow R nil)) (ha:FrzL s.H args avs) (hn:nil->setD N s.sl dst (.p .nils) fun sl=>K ⟨sl,s.H⟩)
  (h : ∀ q e sz es,R q e sz es->setD N s.sl dst (.hd k 0 es.length) fun sl=>K ⟨sl,(k,.own e sz es)::s.H⟩):CallK P N g args dst s K:=by
 refine ⟨fun σ β a w hr vals hnv hv=>⟨hs.go vals,?_⟩⟩;obtain ⟨hlen,hget⟩:=ha.get;obtain ⟨τ,h5,h6,h7,h8⟩:=NF hr.heap;have hrel0:HRel τ (fun _=>none) [] w:=⟨h6,fun k c hc=>(by cases hc),u9a,fun k hk=>(by cases hk),fun k hk=>(by cases hk)⟩;have hno : ∀ b,¬owns (fun _=>none) [] b:=fun b ⟨j,hj,_⟩=>by cases hj
 refine (hs.ok τ (fun _=>none) w vals (by rw [u3k];exact hnv.trans hlen) (fun j l hj => ?_) hrel0).mono fun e w' ⟨l,u,σ',β',H',he,hR,hrep,hrel',hlat⟩ => ?_
 ·rw [u4q] at hj;cases hc:avs[j]? with
  | none=>rw [hc] at hj;cases hj
  | some c =>
    rw [hc] at hj;cases hj;obtain ⟨l,h1,h2⟩:=hget j c hc;exact .p (h8 l _ c (hv j l h1) h2)
 ·have hlies:σ.lies w':=fun b c hb=>hrel'.mem b c (hlat.le b c (h5 b c hb));have hf:Frm (fun _=>False) w w':=⟨hlat.frm.os,hlat.frm.tape,hlat.frm.output,hlat.frm.drawn,hlat.frm.size,fun b hb _=>hlat.frm.block b hb (hno b)⟩;have hf':Frm (owns β s.H) w w':=⟨hf.os,hf.tape,hf.output,hf.drawn,hf.size,fun b hb _=>hf.block b hb id⟩;have hk0:=hr.heap.kept (Mem.le_refl σ) hlies hf fun b h0 h1=>absurd h0 h1;rcases hR with ⟨rfl,rfl,hnil⟩|⟨q,e0,sz,es,rfl,rfl,hfl,hR⟩
  ·have hr':Rel N σ β s a w':=⟨hr.size,hr.defers,hr.slots,hk0⟩;have hrp:RepL σ β (.p .nils) u:=by
    cases hrep with
    | p h=>exact .p (h.flat rfl)
   obtain ⟨sl,hK,hr''⟩:=hr'.setD hrp (hn hnil);exact ⟨u,σ,β,_,he,hK,hr'',Mem.le_refl σ,hf',fun b h0 h1=>absurd h0 h1,fun b hb => .inl hb,fun _ _ _=>rfl⟩
  ·obtain ⟨hu1,hu2⟩:=ZK hu;have hkl:=GB hu;have hset : ∀ j,j≠k->(β.set k (β' q)) j=β j:=fun j hj=>by simp [Lab.set,hj]
   have hsetk:(β.set k (β' q)) k=β' q:=by simp [Lab.set]
   have hnew : ∀ i,β' q=some i -> ∀ b,i.has b->w.heap.size<=b∧σ b=none∧b<w'.heap.size:=fun i hi b hb=>by
    have h1:=hrel'.apart q (u3b.2 rfl) i hi b hb;refine ⟨?_,?_,h1.2⟩
    ·rcases hlat.own b ⟨q,u3b.2 rfl,i,hi,hb⟩ with h2|h2
     ·exact absurd h2 (hno b)
     ·exact h2
    ·cases h2:σ b with
     | none=>rfl
     | some c=>rw [hlat.le b c (h5 b c h2)] at h1;cases h1.1
   have hch:(Chunk.own e0 sz es).holds σ (β.set k (β' q)) w' k:=by
    rcases hrel'.chunks q (.own e0 sz es) (u3b.2 rfl) with ⟨h1,h2⟩|⟨i,vs,h1,h2,h3,h4,h5',h6',h7'⟩
    ·exact .inl ⟨hsetk.trans h1,h2⟩
    ·refine .inr ⟨i,vs,hsetk.trans h1,h2,h3,h4,h5',h6',fun m x hx=>⟨(h7' m x hx).1,fun jj c hc => ?_⟩⟩;obtain ⟨v,h8',h9⟩:=(h7' m x hx).2 jj c hc;exact ⟨v,h8',h9.flat (hfl x (u4d hx) c (u4d hc))⟩
   have hks : ∀ j∈s.H.map (·.1),j≠k:=fun j hj=>by
    obtain ⟨⟨j',c⟩,hm,rfl⟩:=u3s.1 hj;exact (hu1 j' c hm).1
   have hr':Rel N σ (β.set k (β' q)) ⟨s.sl,(k,.own e0 sz es)::s.H⟩ a w':=by
    refine ⟨hr.size,hr.defers,fun i=>(hr.slots i).set _ (hu2 i),hlies,fun j c hj => ?_,?_,fun j hj i hi b hb => ?_,fun j hj j' hj' i i' hi hi' b hb hb' => ?_⟩
    ·rcases u3c.1 hj with he'|hj
     ·cases he';exact hch
     ·exact (hk0.chunks j c hj).set _ (hu1 j c hj).1 (hu1 j c hj).2
    ·rw [u4m,u5l];exact ⟨fun hm=>hks k hm rfl,hk0.nodup⟩
    ·rcases u3c.1 hj with he'|hj
     ·have he':j=k:=he';subst he';rw [hsetk] at hi;exact (hnew i hi b hb).2
     ·rw [hset j (hks j hj)] at hi;exact hk0.apart j hj i hi b hb
    ·have hold : ∀ j∈s.H.map (·.1),∀ i,(β.set k (β' q)) j=some i -> ∀ b,i.has b->b<w.heap.size:=fun j hj i hi b hb=>by
      rw [hset j (hks j hj)] at hi;exact (hr.heap.apart j hj i hi b hb).2
     rcases u3c.1 hj with he'|hm<;>rcases u3c.1 hj' with he''|hm'
     ·exact he'.trans he''.symm
     ·have he':j=k:=he';subst he';rw [hsetk] at hi;have:=(hnew i hi b hb).1;have:=hold j' hm' i' hi' b hb';omega
     ·have he'':j'=k:=he'';subst he'';rw [hsetk] at hi';have:=(hnew i' hi' b hb').1;have:=hold j hm i hi b hb;omega
     ·rw [hset j (hks j hm)] at hi;rw [hset j' (hks j' hm')] at hi';exact hk0.inj j hm j' hm' i i' hi hi' b hb hb'
   have hrp:RepL σ (β.set k (β' q)) (.hd k 0 es.length) u:=by
    rcases hrep.hdI with ⟨h1,_,h2,rfl⟩|⟨i,o,h1,h2,h3,rfl⟩
    ·rw [h2];exact .hdn k (hsetk.trans h1)
    ·exact .hd k 0 es.length i o (hsetk.trans h1) h2 h3
   obtain ⟨sl,hK,hr''⟩:=hr'.setD hrp (h q e0 sz es hR);refine ⟨u,σ,_,_,he,hK,hr'',Mem.le_refl σ,hf',fun b h0 h1=>absurd h0 h1,fun b hb => ?_,fun j h1 _=>hset j (by omega)⟩;obtain ⟨j,hj,i,hi,hb⟩:=hb;rcases u3c.1 hj with he'|hj
   ·have he':j=k:=he';subst he';rw [hsetk] at hi;exact .inr (hnew i hi b hb).1
   ·rw [hset j (hks j hj)] at hi;exact .inl ⟨j,hj,i,hi,hb⟩
def x0k (L:List Str) (_:Nat) (e:TypeId) (sz:Nat) (es:List AV):Prop:=e=9∧sz=1∧es=L.map .str
theorem z9n (L:List Str) : ∀ x∈L.map AV.str,∀ c∈x.cells,c.flat=true:=fun x hx c hc=>by
 obtain ⟨s,_,rfl⟩:=u3s.1 hx;rw [u3b.1 (show c∈[AV.str s] from hc)];rfl
theorem UH {L:List Str} {q n:Nat} {nil:Prop} (h:n=L.length):OneRow (x0k L) nil (.hd q 0 n) [(q,.own 9 1 (L.map .str))] :=
 .inr ⟨q,_,_,_,by rw [h,u3k],rfl,z9n L,rfl,rfl,rfl⟩
theorem OneRow.str {L:List Str} {n:Nat} (h:n=L.length):OneRow (x0k L) False (.hd 0 0 n) [(0,.own 9 1 (L.map .str))]:=UH h
theorem JX {L:List Str} {n:Nat} {nil:Prop} (h:n=L.length):OneRow (x0k L) nil (.hd 0 0 n) [(0,.own 9 1 (L.map .str))]:=UH h
theorem w2c {N:Nat} {sl:List (Nat×LV)} {H:Heap} {k d:Nat} {e:TypeId} {sz:Nat} {es:List AV} (hu:WB k ⟨sl,H⟩=true):Le N ⟨q5p sl d (.hd k 0 es.length),(k,.own e sz es)::H⟩ ⟨q5p sl d (.p (.sl es)),H⟩:=fun σ β a w hr=>by
 obtain ⟨hu1,_⟩:=ZK hu;have hnd:(H.map (·.1)).Nodup:=(u5l.1 hr.heap.nodup).2;have hsub : ∀ j∈H.map (·.1),j∈((k,Chunk.own e sz es)::H).map (·.1):=fun j hj=>u3n _ hj;rcases YK.1 (hr.heap.chunks k _ u3g) with ⟨hb0,rfl⟩|⟨i,vs,hi,hisz,hh,hn,hle',hmax,hE⟩
 ·refine ⟨σ,β,⟨hr.size,hr.defers,fun j => ?_,⟨hr.heap.mem,fun j c' hj=>hr.heap.chunks j c' (u3n _ hj),hnd,fun j hj=>hr.heap.apart j (hsub j hj),fun j hj j' hj'=>hr.heap.inj j (hsub j hj) j' (hsub j' hj')⟩⟩,Mem.le_refl σ,Frm.refl _ _,fun _ h0 h1=>absurd h0 h1,fun b ⟨j,hj,r⟩ => .inl ⟨j,hsub j hj,r⟩,fun _ _ _=>rfl⟩;have hv:=hr.slots j;show RepL σ β (getS (q5p sl d _) j) _;have hv:RepL σ β (getS (q5p sl d (.hd k 0 [].length)) j) (a.tmps.getD j undef):=hv;rw [MD] at hv ⊢;by_cases hj:d=j
  ·rw [if_pos hj] at hv ⊢;rcases hv.hdI with ⟨_,_,_,he⟩|⟨i,_,hk,_⟩
   ·rw [he];exact .p .nilsl
   ·rw [hb0] at hk;cases hk
  ·rw [if_neg hj] at hv ⊢;exact hv
 ·refine hr.lay hi u3g hh (fun τ hle hτ j v hv => ?_) (fun τ hle hτ j c' hj=>⟨(hu1 j c' hj).1,c',u3n _ hj,fun hold=>hold.mono hle fun _ _ _ _=>rfl⟩) hnd;have hv:RepL σ β (getS (q5p sl d (.hd k 0 es.length)) j) v:=hv;show RepL τ β (getS (q5p sl d _) j) v;rw [MD] at hv ⊢;by_cases hj:d=j
  ·rw [if_pos hj] at hv ⊢;rcases hv.hdI with ⟨hk,_⟩|⟨i',oo,hk,hl,ho,rfl⟩
   ·rw [hi] at hk;cases hk
   ·rw [hi] at hk;cases hk;have hoo:oo=0:=by
     rcases ho with ho|ho
     ·simpa using ho
     ·omega
    subst hoo;obtain ⟨u,hu⟩ : ∃ u:Nat->Nat->Value,∀ (m:Nat) (x:AV) (j:Nat) (c:AV),es[m]? = some x->x.cells[j]? = some c->vs[m*sz+j]? = some (u m j)∧Rep σ c (u m j):=by
     refine ⟨fun m j=>(vs[m*sz+j]?).getD undef,fun m x j c hx hj => ?_⟩;obtain ⟨v,h1,h2⟩:=hE.rep m x j c hx hj;rw [u5x] at h1;split at h1
     ·have h1':vs[m*sz+j]? = some v:=by simpa using h1
      exact ⟨by simp [h1'],by simpa [h1'] using h2⟩
     ·cases h1
    exact .p (.sl es i.blk 0 _ sz vs u hτ (by omega) (by omega) hE.size (fun m x j c hx hj=>by simpa using (hu m x j c hx hj).1) fun m x j c hx hj=>(hu m x j c hx hj).2.mono hle)
  ·rw [if_neg hj] at hv ⊢;exact hv.mono hle
theorem v3z {N:Nat} {sl:List (Nat×LV)} {H:Heap} {d:Nat} {l l':LV} (h : ∀ σ β v,RepL σ β l v->RepL σ β l' v):Le N ⟨q5p sl d l,H⟩ ⟨q5p sl d l',H⟩:=fun σ β a w hr=>by
 refine ⟨σ,β,⟨hr.size,hr.defers,fun j => ?_,hr.heap⟩,Later.refl _ _ _ _⟩;have hv:RepL σ β (getS (q5p sl d l) j) (a.tmps.getD j undef):=hr.slots j;show RepL σ β (getS (q5p sl d l') j) _;rw [MD] at hv ⊢;by_cases hj:d=j
 ·rw [if_pos hj] at hv ⊢;exact h _ _ _ hv
 ·rw [if_neg hj] at hv ⊢;exact hv
theorem CallK.le {P:Program} {N:Nat} {g:FuncId} {args:List LV} {dst:Option Nat} {s:St} {K:St->Prop} (h:CallK P N g args dst s fun s' => ∃ s'',K s''∧Le N s' s''):CallK P N g args dst s K :=
 ⟨fun σ β a w hr vals hn hv=>⟨(h.ok σ β a w hr vals hn hv).1,(h.ok σ β a w hr vals hn hv).2.mono fun e w' ⟨u,σ',β',s',he,⟨s'',hK,hle⟩,hr',hl⟩=>by
   obtain ⟨σ2,β2,hr2,hl2⟩:=hl.le' hle hr';exact ⟨u,σ2,β2,s'',he,hK,hr2,hl2⟩⟩⟩
theorem z3n {N:Nat} {sl:List (Nat×LV)} {dst:Option Nat} {v v':LV} {K K':List (Nat×LV)->Prop} (h:setD N sl dst v K) (h0:K sl->K' sl) (h1 : ∀ d,K (q5p sl d v)->K' (q5p sl d v')):setD N sl dst v' K':=by
 unfold setD at h ⊢;cases dst with
 | none=>exact h0 h
 | some d =>
   simp only at h ⊢;cases hb:Nat.blt d N with
   | false=>rw [hb] at h;exact h
   | true =>
     rw [hb,u4y,q1a] at h;rw [u4y,q1a];exact h1 d h
theorem DB {P:Program} {N:Nat} {g:FuncId} {args:List LV} {dst:Option Nat} {s:St} {K:St->Prop} {avs:List AV} {R:Nat->TypeId->Nat->List AV->Prop} {nil:Prop} {E:List AV} (k:Nat) (hu:WB k s=true)
  (hs:SpecH P g (avs.map .p) [] (OneRow R nil)) (ha:FrzL s.H args avs) (hn:nil->E=[]) (hR : ∀ q e sz es,R q e sz es->es=E) (h:setD N s.sl dst (.p (.sl E)) fun sl=>K ⟨sl,s.H⟩):CallK P N g args dst s K:=by
 refine CallK.le (WQ k hu hs ha (fun hnil => ?_) fun q e sz es hr => ?_)
 ·obtain rfl:=hn hnil;exact z3n h (fun hk=>⟨_,hk,fun σ β a w hr=>⟨σ,β,hr,Later.refl _ _ _ _⟩⟩) fun d hk=>⟨_,hk,v3z fun σ β v hv=>by
   cases hv with
   | p hv=>exact .p (Sub.nils _ _ hv)⟩
 ·obtain rfl:=hR q e sz es hr;refine z3n h (fun hk=>⟨_,hk,q3w (fun i => .inl rfl) (List.sublist_cons_self _ _)⟩) fun d hk=>⟨_,hk,w2c (by obtain ⟨sl,H⟩:=s;exact hu)⟩
theorem SpecH.toP {P:Program} {g:FuncId} {avs:List AV} {R:Nat->TypeId->Nat->List AV->Prop} {nil:Prop} {E:List AV} (hs:SpecH P g (avs.map .p) [] (OneRow R nil)) (hn:nil->E=[]) (hR : ∀ q e sz es,R q e sz es->es=E):SpecP P g avs (fun r=>r = .sl E):=by
 refine ⟨hs.go,fun σ w vals h1 h2 h3 => ?_⟩;have hrel0:Rel 1 σ (fun _=>none) ⟨[],[]⟩ { tmps := #[undef],defers:=[] } w:=⟨rfl,rfl,fun i => .p (.any _),h3,fun k c hc=>(by cases hc),u9a,fun k hk=>(by cases hk),fun k hk=>(by cases hk)⟩;have hc:CallK P 1 g (avs.map .p) (some 0) ⟨[],[]⟩ (fun s=>s=⟨[(0,.p (.sl E))],[]⟩):=DB 0 rfl hs (by
  clear hs h1 h2;induction avs with
  | nil=>exact .nil
  | cons a r ih=>exact .cons (.p (Sub.refl _)) ih) hn hR (by rfl)
 refine (hc.ok σ _ _ w hrel0 vals (by rw [u3k];exact h1) fun j l hj => ?_).2.mono fun e w' ⟨u,σ',β',s',he,hK,hr,hl⟩ => ?_
 ·rw [u4q] at hj;cases hq:avs[j]? with
  | none=>rw [hq] at hj;cases hj
  | some c=>rw [hq] at hj;cases hj;exact .p (h2 j c hq)
 ·subst hK;have hno : ∀ b,¬owns (fun _=>none) [] b:=fun b ⟨j,hj,_⟩=>by cases hj
  have h4:=hr.slots 0;refine ⟨.sl E,u,σ',he,rfl,?_,hl.le,hr.heap.mem,⟨hl.frm.os,hl.frm.tape,hl.frm.output,hl.frm.drawn,hl.frm.size,fun b hb _=>hl.frm.block b hb (hno b)⟩,fun b h5 h6 => ?_⟩
  ·have h5:RepL σ' β' (.p (.sl E)) u:=by simpa [getS,Act.put] using h4
   cases h5 with
   | p h5=>exact h5
  ·rcases hl.mem b h5 h6 with h7|h7
   ·exact absurd h7 (hno b)
   ·exact h7
theorem w0k {P:Program} {T:Tab} {hr:Bool} {s:St} {o:Oper} {K:LV->Prop} (hT:TabOK P T) {t u:TypeId} {x:Operand} (hop:o.op = .binOp .eql t x (.const (.slice none 0 0)) u) {i:TyI} (ht:T.get t=some i) {e:TypeId} (hd:i.desc = .slice e) {es:List AV} (hx:XX s.sl x = .p (.sl es)) (hK : ∀ b:Bool,(b=true->es=[])->K (.p (.bool b))):ValO P hr s o K:=by
 refine ⟨fun σ β ac w hs _ => ?_⟩;have h1:=QY hs x;rw [hx] at h1;have hu:=hT.of ht;rw [hd] at hu;have hv : ∃ ad n c,ac.eval x = .slice ad n c∧(ad.isNone=true->es=[]):=by
  generalize ac.eval x=v at h1;cases h1 with
  | p h1 =>
    cases h1 with
    | nilsl=>exact ⟨none,0,0,rfl,fun _=>rfl⟩
    | slz b=>exact ⟨some b,0,0,rfl,fun _=>rfl⟩
    | sl _ b off cap sz cells u hb hcap hmax hsz hc hrr=>exact ⟨_,_,_,rfl,fun h=>(by cases h)⟩
 obtain ⟨ad,n,c,hv,he⟩:=hv;refine ⟨_,.bool ad.isNone,hK ad.isNone he,.p (.bool _),fun w' _ _ => ?_⟩;have h2:ac.eval (.const (.slice none 0 0)) = .slice none 0 0:=rfl;have hg:(eqGuard .eql t x (.const (.slice none 0 0)) (.slice ad n c) (.slice none 0 0)).run P w' = .ok () w':=by unfold eqGuard;rfl
 have he:(Op.equal t (.slice ad n c) (.slice none 0 0)).run P w' = .ok ad.isNone w':=by
  have e:Op.equal t (.slice ad n c) (.slice none 0 0)=Op.equalIn (9999+1) t (.slice ad n c) (.slice none 0 0):=rfl;rw [e,Op.equalIn,Sem.run_bind,run_underlying hu,Result.andThen_ok];cases ad<;>rfl
 simp only [execOp,hop,hv,h2,Sem.run_bind,hg,Result.andThen_ok,binOp];simp [he]
theorem w0y {L:List Str} {es:List AV} {n:Nat} {nil:Prop} (q:Nat) (he:es=L.map .str) (h:n=L.length):OneRow (x0k L) nil (.hd q 0 n) [(q,.own 9 1 es)]:=by
 subst he;exact .inr ⟨q,_,_,_,by rw [h,u3k],rfl,z9n L,rfl,rfl,rfl⟩
theorem GD (l:List Str) (hl:l.length<=1000000):SpecH prog 214 [.p (eStrs l)] [] (fun r H=>OneRow (x0k l) (l=[]) r H):=by
 refine sH JA func214 rfl call214 ?_;conv=>whnf
 repeat' (first|((first|refine u3d rfl ?_|refine aD ?_|refine w0k QX rfl rfl rfl rfl (fun q hq => ?_)|refine u8x (fun x hx=>by cases hx) rfl ?_|refine XR _ (by simp) (by simp;omega) ?_);conv=>whnf)|(apply bB<;>intro _<;>conv=>whnf))
 all_goals first
  | exact u6h _ (u4v _) (.inl ⟨rfl,rfl,List.map_eq_nil_iff.1 (hq (by assumption))⟩)
  | exact u6h _ (u4v _) (w0y 0 rfl (by simp))
inductive CutH:Heap->Heap->Prop
 | nil:CutH [] []
 | same {c:Nat×Chunk} {H H':Heap} (h:CutH H H'):CutH (c::H) (c::H')
 | cut {k:Nat} {e:TypeId} {sz:Nat} {es es':List AV} {H H':Heap} (hp:es' <+: es) (h:CutH H H'):CutH ((k,.own e sz es)::H) ((k,.own e sz es')::H')
theorem CutH.get {H H':Heap} (h:CutH H H'):H'.map (·.1)=H.map (·.1) ∧ ∀ j c',(j,c')∈H'->(j,c')∈H ∨ ∃ e sz es es',(j,Chunk.own e sz es)∈H∧c' = .own e sz es'∧es' <+: es:=by
 induction h with
 | nil=>exact ⟨rfl,by simp⟩
 | same h ih =>
   refine ⟨by simp [ih.1],fun j c' hj => ?_⟩;rcases u3c.1 hj with rfl|hj
   ·exact .inl u3g
   ·rcases ih.2 j c' hj with h1|⟨e,sz,es,es',h1,h2⟩
    ·exact .inl (u3n _ h1)
    ·exact .inr ⟨e,sz,es,es',u3n _ h1,h2⟩
 | @cut k e sz es es' H H' hp h ih =>
   refine ⟨by simp [ih.1],fun j c' hj => ?_⟩;rcases u3c.1 hj with hj|hj
   ·cases hj;exact .inr ⟨e,sz,es,es',u3g,rfl,hp⟩
   ·rcases ih.2 j c' hj with h1|⟨e,sz,es,es',h1,h2⟩
    ·exact .inl (u3n _ h1)
    ·exact .inr ⟨e,sz,es,es',u3n _ h1,h2⟩
theorem Le.cut {N:Nat} {sl:List (Nat×LV)} {H H':Heap} (h:CutH H H'):Le N ⟨sl,H⟩ ⟨sl,H'⟩:=fun σ β a w hr=>by
 obtain ⟨hk,hc⟩:=h.get;refine ⟨σ,β,⟨hr.size,hr.defers,hr.slots,⟨hr.heap.mem,fun j c' hj => ?_,by show (H'.map (·.1)).Nodup;rw [hk];exact hr.heap.nodup,fun j hj=>hr.heap.apart j (by rw [<- hk];exact hj),fun j hj j' hj'=>hr.heap.inj j (by rw [<- hk];exact hj) j' (by rw [<- hk];exact hj')⟩⟩,Mem.le_refl σ,Frm.refl _ w,fun b h0 h1=>absurd h0 h1,fun b ⟨j,hj,r⟩ => .inl ⟨j,by rw [<- hk];exact hj,r⟩,fun _ _ _=>rfl⟩;rcases hc j c' hj with h1|⟨e,sz,es,es',h1,rfl,h2⟩
 ·exact hr.heap.chunks j c' h1
 ·rcases hr.heap.chunks j _ h1 with ⟨h3,h4⟩|⟨i,vs,h3,h4,h5,h6,h7,h8,h9⟩
  ·refine .inl ⟨h3,?_⟩;rw [h4] at h2;exact List.prefix_nil.1 h2
  ·exact .inr ⟨i,vs,h3,h4,h5,h6,u5r h2.length_le h7,h8,fun m x hx=>h9 m x (by
    obtain ⟨t,rfl⟩:=h2;rw [u5g (u3e.1 hx).1];exact hx)⟩
theorem DrawK.le {P:Program} {T:Tab} {N:Nat} {ops:Array Oper} {info:Info} {id:Nat} {K:St->Prop} {s s':St} (hle:Le N s s') (h:DrawK P T N info id ops K s'):DrawK P T N info id ops K s:=by
 refine ⟨⟨fun σ β a w hr => ?_⟩⟩;obtain ⟨σ1,β1,hr1,hl1⟩:=hle σ β a w hr;refine Code.wp_mono (fun e a' w' hk => ?_) (h.ok.ok σ1 β1 a w hr1);obtain ⟨σ',β',s2,hk,hr',hl⟩:=hk;exact ⟨σ',β',s2,hk,hr',hl1.trans hl⟩
def v2b (p:Pg) (id:Int):Option S:=((sheetOf p).l[(id-1).toNat]?).map Item.s
def q4q (a b:Step):Prop:=ZD a.src<ZD b.src∨(ZD a.src=ZD b.src∧ZD a.dst<ZD b.dst)
def w8w (s:Step):Prop:=okSt s∧s.kind=1
theorem JZ {a b:Step} (h1:a.src=b.src) (h2:a.dst=b.dst) (h3:a.kind=b.kind):a=b:=by
 cases a;cases b;simp_all
theorem DW {a b:Step}:PX a b=true↔ZD a.src<ZD b.src∨(ZD a.src=ZD b.src∧(ZD a.dst<ZD b.dst∨(ZD a.dst=ZD b.dst∧a.kind<b.kind))):=by
 have h:PX a b=decide (z6d a b<0):=rfl;rw [h,u4b];unfold z6d;simp only [orI];split
 ·rename_i h1;rw [GV] at h1;split
  ·rename_i h2;rw [GV] at h2;split
   ·rename_i h3;rw [GV] at h3;omega
   ·rw [MG];omega
  ·rename_i h2;rw [GV] at h2;rw [MG];omega
 ·rename_i h1;rw [GV] at h1;rw [MG];omega
theorem q4r (l:List Step):(KJ l).Pairwise fun a b=>PX b a=false:=by
 have:=List.pairwise_mergeSort (le:=fun x y => !PX y x) (fun a b c h1 h2=>by
  simp only [u7x] at h1 h2 ⊢;rw [u8r,ne_eq,DW] at h1 h2 ⊢;omega) (fun a b=>by
  cases h1:PX b a with
  | false=>rfl
  | true =>
    have h2:PX a b=false:=by
     rw [u8r,ne_eq,DW];rw [DW] at h1;omega
    rw [h2];rfl) l
 refine List.Pairwise.imp ?_ this;intro a b h;simpa using h
theorem q8p {a b:Step} (ha:w8w a) (hb:w8w b):ZO a b=true↔a=b:=by
 unfold ZO;simp only [u4u,u4b];refine ⟨fun h=>JZ h.1 h.2 (by rw [ha.2,hb.2]),fun h=>by rw [h];exact ⟨rfl,rfl⟩⟩
theorem v4h {a b:Step} (ha:w8w a) (hb:w8w b) (h:PX b a=false) (hne:a≠b):q4q a b:=by
 rw [u8r,ne_eq,DW] at h;unfold q4q;by_cases h1:ZD a.src=ZD b.src
 ·by_cases h2:ZD a.dst=ZD b.dst
  ·exact absurd (JZ (DX ha.1.1 hb.1.1 h1) (DX ha.1.2 hb.1.2 h2) (by rw [ha.2,hb.2])) hne
  ·omega
 ·omega
theorem q6n {a b c:Step} (h:q4q a b) (h':q4q b c):q4q a c:=by unfold q4q at *;omega
theorem BV {a:Step} (h:q4q a a):False:=by unfold q4q at h;omega
theorem q3g : ∀ (l:List Step) (a:Step),w8w a->(∀ s∈l,w8w s)->(a::l).Pairwise (fun a b=>PX b a=false)->(a::XH a l).Pairwise q4q ∧ ∀ s,s∈a::XH a l↔s∈a::l
 | [],a,_,_,_=>⟨by simp [XH],by simp [XH]⟩
 | b::r,a,ha,hl,h=>by
   have hb:=hl b u3g;have hr : ∀ s∈r,w8w s:=fun s hs=>hl s (u3n _ hs);rw [u6s] at h;obtain ⟨h1,h2⟩:=h;obtain ⟨i1,i2⟩:=q3g r b hb hr h2;rw [XH];cases hs:ZO b a with
   | true =>
     obtain rfl:=(q8p hb ha).1 hs;rw [u4y];exact ⟨i1,fun s=>by rw [i2];simp⟩
   | false =>
     rw [u4h];have hne:a≠b:=fun e=>by
      rw [(q8p hb ha).2 e.symm] at hs;cases hs
     have hlt:=v4h ha hb (h1 b u3g) hne;refine ⟨?_,fun s=>by rw [u3c,i2,<- u3c (a:=s) (b:=a)]⟩;rw [u6s];refine ⟨fun s hsm => ?_,i1⟩;rcases u3c.1 hsm with rfl|hsm
     ·exact hlt
     ·exact q6n hlt ((u6s.1 i1).1 s hsm)
theorem w1t {l:List Step} (hok : ∀ s∈l,w8w s):(WZ l).Pairwise q4q ∧ ∀ s,s∈WZ l↔s∈l:=by
 have hp : ∀ s,s∈KJ l↔s∈l:=fun s=>(x3u l).mem_iff;have hs:=q4r l;unfold WZ;cases hq:KJ l with
 | nil =>
   rw [hq] at hp;exact ⟨by simp [q1k],fun s=>by rw [<- hp];simp [q1k]⟩
 | cons a r =>
   rw [hq] at hp hs;have hok' : ∀ s∈a::r,w8w s:=fun s h=>hok s ((hp s).1 h);obtain ⟨h1,h2⟩:=q3g r a (hok' a u3g) (fun s h=>hok' s (u3n _ h)) hs;exact ⟨h1,fun s=>by rw [q1k,h2,hp]⟩
theorem x6h : ∀ {l m:List Step},l.Pairwise q4q->m.Pairwise q4q->(∀ s,s∈l↔s∈m)->l=m
 | [],[],_,_,_=>rfl
 | [],b::m,_,_,h=>by have:=(h b).2 u3g;cases this
 | a::l,[],_,_,h=>by have:=(h a).1 u3g;cases this
 | a::l,b::m,hl,hm,h=>by
   rw [u6s] at hl hm;have hab:a=b:=by
    rcases u3c.1 ((h a).1 u3g) with e|ha
    ·exact e
    ·rcases u3c.1 ((h b).2 u3g) with e|hb
     ·exact e.symm
     ·exact (BV (q6n (hl.1 b hb) (hm.1 a ha))).elim
   subst hab;congr 1;refine x6h hl.2 hm.2 fun s=>⟨fun hs => ?_,fun hs => ?_⟩
   ·rcases u3c.1 ((h s).1 (u3n _ hs)) with rfl|h'
    ·exact (BV (hl.1 _ hs)).elim
    ·exact h'
   ·rcases u3c.1 ((h s).2 (u3n _ hs)) with rfl|h'
    ·exact (BV (hm.1 _ hs)).elim
    ·exact h'
theorem z3s {p:Pg} (h:QM p=true) {j:Nat} {f:Pr} (hj:p.procs[j]? = some f) : ∀ s∈QG p j f,w8w s:=by
 obtain ⟨_,_,h3⟩:=NU h hj;intro s hs;refine ⟨h3 s hs,?_⟩;unfold QG at hs;rcases u3c.1 hs with rfl|hs
 ·rfl
 ·obtain ⟨it,_,hz⟩:=u4o.1 hs;obtain ⟨y,_,rfl⟩:=u3s.1 hz;rfl
theorem GH {p:Pg} (h:QM p=true) {j:Nat} {f:Pr} (hj:p.procs[j]? = some f):(QQ p j f).real.Pairwise q4q ∧ ∀ s,s∈(QQ p j f).real↔s∈QG p j f:=w1t (z3s h hj)
theorem v0n {p:Pg} (h:QM p=true) {j:Nat} {f:Pr} (hj:p.procs[j]? = some f) {s:Step} (hs:s∈QG p j f):s=⟨0,v8b p j f,1⟩∨(1<=s.src∧s.src<=9223372036854775806):=by
 obtain ⟨_,_,hcn⟩:=ZV h;obtain ⟨_,_,_,hlen,hsp⟩:=QJ p;obtain ⟨_,_,hle,_⟩:=hsp j f hj;unfold QG at hs;rcases u3c.1 hs with rfl|hs
 ·exact .inl rfl
 ·obtain ⟨it,hit,hz⟩:=u4o.1 hs;obtain ⟨y,_,rfl⟩:=u3s.1 hz;have:=ZW (QK h).1 hj (q1m hit);refine .inr ?_;simp only;omega
theorem w8o {p:Pg} (h:QM p=true) {j:Nat} {f:Pr} (hj:p.procs[j]? = some f):v8b p j f=x4x f.body (-1):=by
 have h1:=x8f (QK h).1 hj;unfold v8b;cases hb:f.body with
 | nil=>rw [cntL,if_neg (by omega)];rfl
 | cons t r =>
   rw [hb,flL,z7n] at h1;have h3:1<=cntL (t::r):=by rw [cntL,WK];omega
   rw [if_pos (by omega)];have h4:=u5j (fun l=>l[0]?) h1;simp only [u7i,u4m] at h4;unfold KT at h4;rw [u4q,u8j (by omega)] at h4;simp at h4;show _=t.id;omega
def v1e (p:Pg):Bool:=decide (gPg p<=20000)
theorem v6e {p:Pg} (h:v1e p=true):Fit p:=by
 have:=u1h p;have h1:gPg p<=20000:=by simpa [v1e] using h
 unfold Fit;omega
theorem VD (p:Pg):SpecP prog 16 [.agg p.cells] (fun r=>r = .bool (v1e p)):=by
 refine sB q0s func16 rfl call16 ?_;conv=>whnf
 have hl:(p.procs.map fun f=>AV.agg f.cells).length=p.procs.length:=u3k _;have q0:=ZH (a:=0+q0k p.globals) (by omega);repeat' (refine CallK.pure (XI p.globals 0 (by omega)) (.cons (Sub.refl _) (.cons (Sub.refl _) .nil)) ?_;rintro _ rfl;conv=>whnf)
 refine LoopK.inv QX (fun y:Nat×Int=>⟨[(1,.p (.ip p.cells)),(3,.p (.int .i64 y.2)),(4,.p (.int .i64 y.1))],[]⟩) (fun y=>y.1<=p.procs.length∧(0<=y.2∧y.2<=20001)∧XB (y.2+z5j (p.procs.drop y.1))=XB (gPg p:Nat)) (fun y=>p.procs.length-y.1) (0,XB (0+q0k p.globals)) (Le.of_eq rfl) ⟨u3l _,q0,by
  show XB (XB (0+q0k p.globals)+z5j p.procs)=_;rw [ZR (by omega)];congr 1;unfold gPg;omega⟩ ?_
 rintro ⟨j,m⟩ ⟨h2,h3,h4⟩;simp only at h2 h3 h4 ⊢;have last : ∀ {x:Int},0<=x∧x<=20001->XB x=XB (gPg p:Nat)->(decide (x<=20000))=v1e p:=fun {x} hx h=>by
  unfold v1e;unfold XB at h;by_cases h1:gPg p<=20000
  ·rw [u5z h1,u4b];split at h<;>split at h<;>omega
  ·rw [u5h h1,u5a];split at h<;>split at h<;>omega
 rcases u3r j p.procs.length with hj|hj;rotate_left 1
 ·rw [u4z hj,z5j] at h4;conv=>whnf
  repeat' (first|(refine iM fun _=>?_;conv=>whnf)|(apply bD<;>intro _<;>first|omega|conv=>whnf))
  all_goals exact RetK.bool (last h3 (by rw [<- h4];simp))
 rw [u4n hj,z5j] at h4;have hpe:gPr p.procs[j]=1+p.procs[j].name.length+q0k p.procs[j].vars+q0k p.procs[j].fin+w8z p.procs[j].params+gL p.procs[j].body:=rfl;have q1:=ZH (a:=m+(1+p.procs[j].name.length:Nat)) (by omega);have q2:=ZH (a:=XB (m+(1+p.procs[j].name.length:Nat))+q0k p.procs[j].vars) (by omega);have q3:=ZH (a:=XB (XB (m+(1+p.procs[j].name.length:Nat))+q0k p.procs[j].vars)+q0k p.procs[j].fin) (by omega);conv=>whnf
 repeat' (first|((first|(refine iM fun _=>?_)|refine dA ?_|refine u3d rfl ?_|(refine iA fun _=>?_)|refine cP (QI p.procs[j].name _ h3) ?_|refine cP (XI p.procs[j].vars _ q1) ?_|refine cP (XI p.procs[j].fin _ q2) ?_);conv=>whnf)|(apply bD<;>intro _<;>first|omega|conv=>whnf))
 rotate_left 1
 ·exact RetK.bool (last h3 (by rw [<- h4,<- JM (by omega) h3.2 (by omega),x9x h3.2]))
 have h5:XB (XB (XB (XB (m+(1+p.procs[j].name.length:Nat))+q0k p.procs[j].vars)+q0k p.procs[j].fin)+(w8z p.procs[j].params+(gL p.procs[j].body+z5j (p.procs.drop (j+1))):Nat))=XB (gPg p:Nat):=by
  rw [ZR (by omega),u9w,ZR (by omega),u9w,ZR (by omega),<- h4,hpe];congr 1;omega
 generalize XB (XB (XB (m+(1+p.procs[j].name.length:Nat))+q0k p.procs[j].vars)+q0k p.procs[j].fin)=m0 at q3 h5 ⊢;have hal:(p.procs[j].params.map fun a=>AV.agg a.cells).length=p.procs[j].params.length:=u3k _;refine LoopK.inv QX (fun y:Nat×Int=>⟨[(1,.p (.ip p.cells)),(3,.p (.int .i64 y.2)),(4,.p (.int .i64 j)),(5,.p (.ip p.procs[j].cells)),(6,.p (.int .i64 y.1))],[]⟩) (fun y=>y.1<=p.procs[j].params.length∧(0<=y.2∧y.2<=20001)∧XB (y.2+(w8z (p.procs[j].params.drop y.1)+(gL p.procs[j].body+z5j (p.procs.drop (j+1))):Nat))=XB (gPg p:Nat)) (fun y=>p.procs[j].params.length-y.1) (0,m0) (Le.of_eq rfl) ⟨u3l _,q3,h5⟩ ?_;rintro ⟨a,m2⟩ ⟨h6,h7,h8⟩;simp only at h6 h7 h8 ⊢;have fin:XB (m2+(gL p.procs[j].body+z5j (p.procs.drop (j+1)):Nat))=XB (gPg p:Nat)->(0<=XB (m2+gL p.procs[j].body)∧XB (m2+gL p.procs[j].body)<=20001)∧XB (XB (m2+gL p.procs[j].body)+z5j (p.procs.drop (j+1)))=XB (gPg p:Nat):=fun h=>by
  refine ⟨ZH (by omega),?_⟩;rw [ZR (by omega),<- h];congr 1;omega
 have full:m2>20000->XB (m2+(gL p.procs[j].body+z5j (p.procs.drop (j+1)):Nat))=XB (gPg p:Nat):=fun h=>by
  rw [<- h8,<- JM h h7.2 (by omega),<- JM h h7.2 (by omega)]
 rcases u3r a p.procs[j].params.length with ha|ha;rotate_left 1
 ·have h9:XB (m2+(gL p.procs[j].body+z5j (p.procs.drop (j+1)):Nat))=XB (gPg p:Nat):=by
   rw [u4z ha,w8z,u5s] at h8;exact h8
  obtain ⟨f1,f2⟩:=fin h9;conv=>whnf
  repeat' (first|((first|(refine iM fun _=>?_)|refine wI ?_|(refine CallK.pure (YR (gL p.procs[j].body+1) p.procs[j].body (by omega) m2 h7) (.cons (Sub.refl _) (.cons (Sub.refl _) .nil)) ?_;rintro _ rfl));conv=>whnf)|(apply bD<;>intro _<;>first|omega|conv=>whnf))
  all_goals exact ⟨(j+1,XB (m2+gL p.procs[j].body)),⟨by simp only;omega,f1,f2⟩,by simp only;omega,Le.of_eq rfl⟩
 rw [u4n ha,w8z] at h8;conv=>whnf
 repeat' (first|((first|(refine iM fun _=>?_)|(refine iA fun _=>?_)|refine wI ?_|refine cP (QI p.procs[j].params[a].name _ h7) ?_|(refine CallK.pure (YR (gL p.procs[j].body+1) p.procs[j].body (by omega) m2 h7) (.cons (Sub.refl _) (.cons (Sub.refl _) .nil)) ?_;rintro _ rfl));conv=>whnf)|(apply bD<;>intro _<;>first|omega|conv=>whnf))
 ·have h10:XB (XB (m2+(1+p.procs[j].params[a].name.length:Nat))+(w8z (p.procs[j].params.drop (a+1))+(gL p.procs[j].body+z5j (p.procs.drop (j+1))):Nat))=XB (gPg p:Nat):=by
   rw [ZR (by omega),<- h8];congr 1;omega
  exact ⟨(a+1,XB (m2+(1+p.procs[j].params[a].name.length:Nat))),⟨by simp only;omega,ZH (by omega),h10⟩,by simp only;omega,Le.of_eq rfl⟩
 ·obtain ⟨f1,f2⟩:=fin (full (by omega));exact ⟨(j+1,XB (m2+gL p.procs[j].body)),⟨by simp only;omega,f1,f2⟩,by simp only;omega,Le.of_eq rfl⟩
inductive SubE:List AV->List AV->Prop
 | nil:SubE [] []
 | cons {a b:AV} {xs ys:List AV} (h:SubL a.cells b.cells) (hs:SubE xs ys):SubE (a::xs) (b::ys)
theorem SubE.get {xs ys:List AV} (h:SubE xs ys):xs.length=ys.length ∧ ∀ (i:Nat) (b:AV),ys[i]? = some b -> ∃ a,xs[i]? = some a∧SubL a.cells b.cells:=by
 induction h with
 | nil=>exact ⟨rfl,by simp⟩
 | cons h hs ih =>
   refine ⟨by simp [ih.1],fun i b hb => ?_⟩;cases i with
   | zero=>simp at hb;subst hb;exact ⟨_,rfl,h⟩
   | succ i=>exact ih.2 i b (by simpa using hb)
theorem Sub.sl {xs ys:List AV} (h:SubE xs ys):Sub (.sl xs) (.sl ys):=fun σ v hr=>by
 obtain ⟨hl,hg⟩:=h.get;cases hr with
 | nilsl =>
   obtain rfl:ys=[]:=by simpa using hl.symm
   exact .nilsl
 | slz b =>
   obtain rfl:ys=[]:=by simpa using hl.symm
   exact .slz b
 | sl _ b off cap sz cells u hb hcap hmax hsz hc hrr =>
   rw [hl];refine .sl ys b off cap sz cells u hb (by omega) hmax (fun i e hi => ?_) (fun i e j c hi hj => ?_) (fun i e j c hi hj => ?_)
   ·obtain ⟨a,h1,h2⟩:=hg i e hi;rw [<- hsz i a h1,h2.1]
   ·obtain ⟨a,h1,h2⟩:=hg i e hi;obtain ⟨d,h3,_⟩:=h2.get hj;exact hc i a j d h1 h3
   ·obtain ⟨a,h1,h2⟩:=hg i e hi;obtain ⟨d,h3,h4⟩:=h2.get hj;exact h4 _ _ (hrr i a j d h1 h3)
theorem PZ (n:Int):SpecP prog 120 [.int .i64 n] (fun r=>r = .agg (X.mk 1 n [] []).cells):=by
 refine sB q2i func120 rfl call120 ?_;conv=>whnf
 repeat' (refine u3d rfl ?_;conv=>whnf)
 exact ⟨_,.p (Sub.agg (by repeat' (first|exact SubL.nil|refine SubL.cons ?_ ?_|exact Sub.refl _|exact Sub.nils|exact Sub.ff rfl))),rfl⟩
theorem DG (s:Str):SpecP prog 121 [.str s] (fun r=>r = .agg (X.mk 2 0 s []).cells):=by
 refine sB q0e func121 rfl call121 ?_;conv=>whnf
 repeat' (refine u3d rfl ?_;conv=>whnf)
 exact ⟨_,.p (Sub.agg (by repeat' (first|exact SubL.nil|refine SubL.cons ?_ ?_|exact Sub.refl _|exact Sub.nils|exact Sub.ff rfl))),rfl⟩
theorem UJ (op:Int) (a b:X):SpecP prog 122 [.int .i64 op,.agg a.cells,.agg b.cells] (fun r=>r = .agg (X.mk op 0 [] [a,b]).cells):=by
 refine sB q3x func122 rfl call122 ?_;conv=>whnf
 repeat' ((first|refine u3d rfl ?_|refine aD ?_|refine BsK.pureL rfl rfl ?_);conv=>whnf)
 have e:X.avs [a,b]=[.agg a.cells,.agg b.cells]:=by simp only [X.avs,X.av_eq]
 exact ⟨_,.p (Sub.agg (SubL.cons (Sub.refl _) (SubL.cons (Sub.refl _) (SubL.cons (Sub.refl _) (SubL.cons (Sub.of_eq (by show _=AV.sl (X.avs [a,b]);rw [e];rfl)) SubL.nil))))),rfl⟩
def bs (l:List Nat):Str:=l.map fun n=>UInt8.ofNat n
def someP:Pg:=⟨[[103]],[
 ⟨[109,97,105,110],[],[[118]],[
   .mk 1 1 [] [118] [] (.mk 1 2 [] []) false [] [] [],
   .mk 2 4 [] [103] [112] (.mk 0 0 [] []) false [⟨false,[],.mk 1 3 [] []⟩,⟨true,[118],.mk 0 0 [] []⟩] [] [],
   .mk 3 3 [] [] [] (.mk 2 0 [118] []) false [] [] [],
   .mk 4 3 [] [] [] (.mk 2 0 [103] []) false [] [] []],[]⟩,
 ⟨[112],[⟨[120],false⟩,⟨[121],true⟩],[],[
   .mk 5 1 [] [121] [] (.mk 8 0 [] [.mk 2 0 [121] [],.mk 2 0 [120] []]) false [] [] [],
   .mk 6 5 [] [] [] (.mk 12 0 [] [.mk 2 0 [121] [],.mk 1 9 [] []]) false [] [.mk 7 10 [] [101] [] (.mk 0 0 [] []) false [] [] []] [],
   .mk 8 9 [] [] [] (.mk 2 0 [121] []) true [] [] []],[[101]]⟩]⟩
theorem q7d:SpecP prog 68 [] (fun r=>r = .agg someP.cells):=by
 refine sB KO func68 rfl call68 ?_;conv=>whnf
 repeat' ((first|refine cP (PZ _) ?_|refine cP (DG _) ?_|refine u3d rfl ?_|refine aD ?_|refine bP ?_|refine BsK.pureL rfl rfl ?_|refine cP (UJ 8 (.mk 2 0 [121] []) (.mk 2 0 [120] [])) ?_|refine cP (UJ 12 (.mk 2 0 [121] []) (.mk 1 9 [] [])) ?_);conv=>whnf)
 exact ⟨_,.p (Sub.agg (by repeat' (first|exact SubL.nil|exact SubE.nil|exact Sub.nils|exact Sub.ff rfl|exact Sub.tt rfl|refine SubL.cons ?_ ?_|refine SubE.cons ?_ ?_|exact Sub.refl _|refine Sub.agg ?_|refine Sub.sl ?_))),rfl⟩
theorem x9j:Fit someP:=by unfold Fit;decide
theorem x9y:QM someP=true:=by kernel_rfl
def f0:Pr:=someP.procs[0]'(by decide)
def f1:Pr:=someP.procs[1]'(by decide)
theorem v7p:WZ (QG someP 0 f0)=[⟨0,1,1⟩,⟨1,2,1⟩,⟨2,3,1⟩,⟨3,4,1⟩,⟨4,-1,1⟩]:=by
 have h1:QG someP 0 f0=[⟨0,1,1⟩,⟨1,2,1⟩,⟨2,3,1⟩,⟨3,4,1⟩,⟨4,-1,1⟩]:=by kernel_rfl
 unfold WZ KJ;rw [h1,List.mergeSort_of_pairwise (by decide)];rfl
theorem v7n:WZ (QG someP 1 f1)=[⟨0,5,1⟩,⟨5,6,1⟩,⟨6,7,1⟩,⟨6,8,1⟩,⟨7,-1,1⟩,⟨8,-1,1⟩]:=by
 have h1:QG someP 1 f1=[⟨0,5,1⟩,⟨5,6,1⟩,⟨6,7,1⟩,⟨6,8,1⟩,⟨7,-1,1⟩,⟨8,-1,1⟩]:=by kernel_rfl
 unfold WZ KJ;rw [h1,List.mergeSort_of_pairwise (by decide)];rfl
theorem w1i {p:Pg} {n:Str} (h:q9j p n=none) (hc:QM p=true):YC p n=(Pr0,false):=by
 unfold q9j at h;rw [hc,u4y] at h;unfold YC;cases hq:p.procs.find? (fun f=>f.name==n) with
 | none=>rfl
 | some f=>rw [hq] at h;cases h
def w1p (n k:Int):Int:=if k<1 then 0 else if n.tmod k<0 then n.tmod k+k else n.tmod k
theorem z8b {n k:Int} (hk:0<k):0<=w1p n k∧w1p n k<k:=by
 unfold w1p;have h1:=Int.tmod_lt_of_pos n hk;have h2 : -k<n.tmod k:=by
  rcases Int.le_total 0 n with h|h
  ·have:=Int.tmod_nonneg k h;omega
  ·have h3:=Int.tmod_lt_of_pos (-n) hk;rw [Int.neg_tmod] at h3;omega
 rw [if_neg (by omega)];split<;>omega
theorem q9k (n k:Int) (hk:k<=1000000):SpecP prog 55 [.int .i64 n,.int .i64 k] (fun r=>r = .int .i64 (w1p n k)):=by
 refine sB q2c func55 rfl call55 ?_;conv=>whnf
 have h1:=fun h:0<k=>z8b (n:=n) h;repeat' (first|(refine u3d (by omega) ?_;conv=>whnf)|(apply bD<;>intro _<;>first|omega|conv=>whnf))
 all_goals first
  | (refine Wr.i64 (by have:=h1 (by omega);unfold w1p at this;rw [if_neg (by omega),if_pos (by assumption)] at this;omega) (by have:=h1 (by omega);unfold w1p at this;rw [if_neg (by omega),if_pos (by assumption)] at this;omega) ?_
     conv=>whnf
     exact RetK.int (by unfold w1p;rw [if_neg (by assumption),if_pos (by assumption)]))
  | exact RetK.int (by unfold w1p;rw [if_pos (by assumption)])
  | exact RetK.int (by unfold w1p;rw [if_neg (by assumption),if_neg (by assumption)])
def JS (l:List Int) (x:Int):Bool:=l.any fun y=>decide (x=y)
theorem XG (l:List Int) (x:Int):SpecP prog 103 [QR l,.int .i64 x] (fun r=>r = .bool (JS l x)):=by
 refine sB q0n func103 rfl call103 ?_;conv=>whnf
 repeat' (refine iM fun _=>?_;conv=>whnf)
 have hl:(l.map (AV.int .i64)).length=l.length:=u3k _;refine LoopK.inv QX (fun j:Nat=>⟨[(1,.p (.int .i64 x)),(7,.p (QR l)),(8,.p (.int .i64 (l.map (AV.int .i64)).length)),(9,.p (.int .i64 j))],[]⟩) (fun j=>j<=l.length∧(l.drop j).any (fun y=>decide (x=y))=JS l x) (fun j=>l.length-j) 0 (Le.of_eq rfl) ⟨u3l _,rfl⟩ ?_;rintro j ⟨h2,h3⟩;rcases u3r j l.length with hj|hj
 ·conv=>whnf
  repeat' (first|((first|(refine iA fun _=>?_)|refine wI ?_);conv=>whnf)|(apply bD<;>intro _<;>first|omega|conv=>whnf))
  all_goals first
   | exact RetK.tt (by rw [<- h3,q1u hj (by simp_all)])
   | exact ⟨j+1,⟨hj,by rw [q0u hj (by simp;omega)];exact h3⟩,by omega,Le.of_eq rfl⟩
 ·conv=>whnf
  repeat' (apply bD<;>intro _<;>first|omega|conv=>whnf)
  exact RetK.ff (by rw [<- h3,HI hj])
def inS (l:List Str) (x:Str):Bool:=l.any fun y=>y==x
theorem QB (l:List Str) (x:Str):SpecP prog 57 [eStrs l,.str x] (fun r=>r = .bool (inS l x)):=by
 refine sB q5s func57 rfl call57 ?_;conv=>whnf
 repeat' (refine iM fun _=>?_;conv=>whnf)
 have hl:(l.map AV.str).length=l.length:=u3k _;refine LoopK.inv QX (fun j:Nat=>⟨[(0,.p (eStrs l)),(1,.p (.str x)),(7,.p (.int .i64 (l.map AV.str).length)),(8,.p (.int .i64 j))],[]⟩) (fun j=>j<=l.length∧(l.drop j).any (fun y=>y==x)=inS l x) (fun j=>l.length-j) 0 (Le.of_eq rfl) ⟨u3l _,rfl⟩ ?_;rintro j ⟨h2,h3⟩;rcases u3r j l.length with hj|hj
 ·conv=>whnf
  repeat' (first|((first|(refine iA fun _=>?_)|refine wI ?_);conv=>whnf)|(apply bD<;>intro _<;>first|omega|conv=>whnf)|(apply bB<;>intro _<;>conv=>whnf))
  ·exact RetK.tt (by rw [<- h3,q1u hj (by assumption)])
  ·exact ⟨j+1,⟨hj,by rw [q0u hj (by assumption)];exact h3⟩,by omega,Le.of_eq rfl⟩
 ·conv=>whnf
  repeat' (apply bD<;>intro _<;>first|omega|conv=>whnf)
  exact RetK.ff (by rw [<- h3,HI hj])
def WW (p:Pg) (n:Int):Str:=match p.procs[(w1p n p.procs.length).toNat]? with
 | some f=>f.name
 | none=>[]
theorem q2y (p:Pg) (n:Int) (hp:p.procs.length<=20000):SpecP prog 19 [.agg p.cells,.int .i64 n] (fun r=>r = .str (WW p n)):=by
 refine sB PI func19 rfl call19 ?_;conv=>whnf
 have hl:(p.procs.map fun f=>AV.agg f.cells).length=p.procs.length:=u3k _;have hr:=fun h:0<(p.procs.length:Int)=>z8b (n:=n) h;repeat' (first|((first|(refine iM fun _=>?_)|refine dA ?_|(refine CallK.pure (q9k n (p.procs.length:Int) (by omega)) (.cons (Sub.refl _) (.cons (Sub.int (by omega)) .nil)) ?_;rintro _ rfl));conv=>whnf)|(apply bD<;>intro _<;>first|omega|conv=>whnf))
 ·refine RetK.p ?_;have h0:p.procs=[]:=List.length_eq_zero_iff.1 (by omega);unfold WW;rw [h0];rfl
 ·obtain ⟨h1,h2⟩:=hr (by omega);have hlt:(w1p n p.procs.length).toNat<p.procs.length:=by omega
  refine IdxK.at (k:=(w1p n p.procs.length).toNat) (e := .agg p.procs[(w1p n p.procs.length).toNat].cells) (by omega) (by rw [u4q,u3h hlt];rfl) rfl ?_;conv=>whnf
  skip
  exact RetK.p (by unfold WW;rw [u3h hlt])
def v0k (a b:Int):Bool:=bif decide (a = -1)||decide (b = -1) then decide (b = -1) && !decide (a = -1) else decide (a<b)
theorem GN (a b:Int):SpecP prog 104 [.int .i64 a,.int .i64 b] (fun r=>r = .bool (v0k a b)):=by
 refine sB PR func104 rfl call104 ?_;conv=>whnf
 repeat' (apply bD<;>intro _<;>first|omega|conv=>whnf)
 all_goals first
  | exact RetK.bool (by unfold v0k;simp_all)
  | exact RetK.ff (by unfold v0k;simp_all)
  | exact RetK.bool (by unfold v0k;simp_all;omega)
theorem NL {α β:Type} {f:α->β} : ∀ {l:List α},(l.map f).Nodup -> ∀ a∈l,∀ b∈l,f a=f b->a=b
 | [],_,a,ha,_,_,_=>by cases ha
 | c::r,h,a,ha,b,hb,e=>by
   rw [u4m,u5l] at h;rcases u3c.1 ha with ha1|ha1
   ·rcases u3c.1 hb with hb1|hb1
    ·rw [ha1,hb1]
    ·exact (h.1 (u3s.2 ⟨b,hb1,by rw [<- e,ha1]⟩)).elim
   ·rcases u3c.1 hb with hb1|hb1
    ·exact (h.1 (u3s.2 ⟨a,ha1,by rw [e,hb1]⟩)).elim
    ·exact NL h.2 a ha1 b hb1 e
theorem UZ {α:Type} [DecidableEq α] : ∀ {l m:List α},l.Nodup->(∀ s∈l,s∈m)->l.length<=m.length
 | [],m,_,_=>u3l _
 | a::r,m,h,hs=>by
   rw [u5l] at h;have ha:=hs a u3g;have h1:=UZ (m:=m.erase a) h.2 fun s hsr=>(List.mem_erase_of_ne (fun e=>h.1 (by rw [<- e];exact hsr))).2 (hs s (u3n _ hsr));rw [List.length_erase_of_mem ha] at h1;have:=u9j ha;simp only [u4t];omega
theorem q6d (n c:Nat):(KT n c).Nodup:=by
 unfold KT Nodup;rw [u8f];exact List.Pairwise.imp (fun h e=>h (by omega)) (List.nodup_range' (s:=n+1) (n:=c) (step:=1))
theorem w4i {p:Pg} (hm:UB p=true) {j:Nat} {f:Pr} (hj:p.procs[j]? = some f):(itsOf p j f).map (fun it=>it.s.id)=KT (QN p.procs j) (cntL f.body):=by
 rw [<- x8f hm hj,<- LA (j:Nat) 0 (-1) 0 (QN p.procs j) f.body,u8a];rfl
theorem v2w {p:Pg} (hm:UB p=true) {j:Nat} {f:Pr} (hj:p.procs[j]? = some f) {a b:Item} (ha:a∈itsOf p j f) (hb:b∈itsOf p j f) (h:a.s.id=b.s.id):a=b :=
 NL (f:=fun it:Item=>it.s.id) (by rw [w4i hm hj];exact q6d _ _) a ha b hb h
theorem v4y {p:Pg} {j:Nat} {f:Pr} {t:S} (h:t∈flL f.body) : ∃ it∈itsOf p j f,it.s=t:=by
 rw [<- LA (j:Nat) 0 (-1) 0 (QN p.procs j) f.body] at h;obtain ⟨it,h1,h2⟩:=u3s.1 h;exact ⟨it,h1,h2⟩
theorem z2z (sh:Sheet) (f:Pr) (it:Item):1<=(VV sh f it).length∧(VV sh f it).length<=2∧((VV sh f it).length=2->it.s.kind=5∨it.s.kind=6):=by
 unfold VV;split
 ·rename_i h;exact ⟨by simp,by simp,fun _ => .inl h⟩
 split
 ·rename_i h;exact ⟨by simp,by simp,fun _ => .inr h⟩
 split
 ·simp
 split
 ·simp
 split
 ·simp
 split<;>simp
theorem z8d {l:List Step} (h:l.Pairwise q4q):l.Nodup:=h.imp fun h e=>by subst e;exact BV h
theorem ZI {l:List Int} {x:Int}:JS l x=true↔x∈l:=by
 unfold JS;rw [u5n];refine ⟨fun ⟨y,h1,h2⟩=>by simp at h2;exact h2▸h1,fun h=>⟨x,h,by simp⟩⟩
theorem w9g {n c:Nat} {a:Int} (h1:(n:Int)+1<=a) (h2:a<=(n+c:Nat)):a∈KT n c:=by
 unfold KT;refine u3s.2 ⟨a.toNat,List.mem_range'.2 ⟨a.toNat-(n+1),by omega,by omega⟩,by omega⟩
theorem z6e {p:Pg} (h:QM p=true) {j:Nat} {f:Pr} (hj:p.procs[j]? = some f):(QQ p j f).real.length<=100000:=by
 obtain ⟨h1,h2⟩:=GH h hj;have h3:=UZ (z8d h1) fun s hs=>(h2 s).1 hs;have h4:=MX p j f;have h5:=DC _ _ (u4d hj);have:=(ZV h).2.2;omega
inductive Rch {α:Type} (R:α->α->Prop) (a:α):α->Prop
 | refl:Rch R a a
 | tail {b c:α} (h:Rch R a b) (hr:R b c):Rch R a c
theorem Rch.trans {α:Type} {R:α->α->Prop} {a b c:α} (h:Rch R a b) (h':Rch R b c):Rch R a c:=by
 induction h' with
 | refl=>exact h
 | tail _ hr ih=>exact .tail ih hr
theorem Rch.head {α:Type} {R:α->α->Prop} {a b c:α} (hr:R a b) (h:Rch R b c):Rch R a c:=Rch.trans (.tail .refl hr) h
theorem Rch.mono {α:Type} {R R':α->α->Prop} (h : ∀ x y,R x y->R' x y) {a b:α} (hr:Rch R a b):Rch R' a b:=by
 induction hr with
 | refl=>exact .refl
 | tail _ hr ih=>exact .tail ih (h _ _ hr)
theorem Rch.closed {α:Type} {R:α->α->Prop} {S:α->Prop} (hS : ∀ x y,S x->R x y->S y) {a b:α} (ha:S a) (h:Rch R a b):S b:=by
 induction h with
 | refl=>exact ha
 | tail _ hr ih=>exact hS _ _ ih hr
structure WkM (n:Nat) (st:List Bool×List Int):Prop where
 inv:wkInv n st
 mem : ∀ x,x∈st.2↔(0<=x∧x<n)∧st.1.getD x.toNat false=true
theorem WkM.start (n:Nat):WkM n (List.replicate n false,[]):=⟨q2h n,fun x=>by
 simp only [not_mem_nil,false_iff,not_and];intro _;rw [u3m,u4r];split<;>simp⟩
theorem WkM.see {n:Nat} {st:List Bool×List Int} (h:WkM n st) {b:Int} (hb:0<=b∧b<n):WkM n (HH st b)∧(∀ x,x∈(HH st b).2↔x∈st.2∨x=b)∧st.2 <+: (HH st b).2:=by
 have hi:=q4b h.inv hb;cases hs:st.1.getD b.toNat false with
 | true =>
   have e:HH st b=st:=by unfold HH;rw [hs];rfl
   rw [e];refine ⟨h,fun x=>⟨.inl,fun hx => ?_⟩,List.prefix_refl _⟩;rcases hx with hx|rfl
   ·exact hx
   ·exact (h.mem _).2 ⟨hb,hs⟩
 | false =>
   have e:HH st b=(st.1.set b.toNat true,st.2++[b]):=by unfold HH;rw [hs];rfl
   rw [e] at hi ⊢;have hlen:=h.inv.1;refine ⟨⟨hi,fun x => ?_⟩,fun x=>by simp,List.prefix_append _ _⟩;rw [u3p,u3b,h.mem];simp only [u3m,u7c];by_cases hx:x=b
   ·subst hx;rw [if_pos rfl,if_pos (by omega)];simp [hb]
   ·constructor
    ·rintro (⟨h1,h2⟩|h2)
     ·refine ⟨h1,?_⟩;rw [if_neg (by omega)];exact h2
     ·exact absurd h2 hx
    ·rintro ⟨h1,h2⟩;rw [if_neg (by omega)] at h2;exact .inl ⟨h1,h2⟩
theorem WkM.fold {n:Nat} : ∀ (l:List Int) {st:List Bool×List Int},WkM n st->(∀ b∈l,0<=b∧b<n)->WkM n (l.foldl HH st)∧(∀ x,x∈(l.foldl HH st).2↔x∈st.2∨x∈l)∧st.2 <+: (l.foldl HH st).2
 | [],st,h,_=>⟨h,fun x=>by simp,List.prefix_refl _⟩
 | b::r,st,h,hl=>by
   obtain ⟨h1,h2,h3⟩:=h.see (hl b u3g);obtain ⟨h4,h5,h6⟩:=WkM.fold r h1 fun c hc=>hl c (u3n _ hc);refine ⟨h4,fun x => ?_,h3.trans h6⟩;rw [u6e,h5,h2,u3c,or_assoc]
def x8o (rows:List (List Int)) (x y:Int):Prop:=y∈rows.getD x.toNat []
theorem NI {n:Nat} {rows:List (List Int)} (hr:XT n rows) {x y:Int} (h:x8o rows x y):0<=y∧y<n:=by
 unfold x8o at h;rw [u3m] at h;cases hq:rows[x.toNat]? with
 | none=>rw [hq] at h;simp at h
 | some r=>rw [hq] at h;exact hr.2 r (u4d hq) y h
theorem q6a {α:Type} {l m:List α} (h:l <+: m) {i:Nat} {a:α} (ha:l[i]? = some a):m[i]? = some a:=by
 obtain ⟨t,rfl⟩:=h;rw [u5g (u3e.1 ha).1];exact ha
theorem x3h {n:Nat} {rows:List (List Int)} (hr:XT n rows) : ∀ (k i:Nat) {st:List Bool×List Int},WkM n st->i<=st.2.length->n+1<=k+i->(∀ (m:Nat) (a:Int),m<i->st.2[m]? = some a -> ∀ b,x8o rows a b->b∈st.2) ->
  WkM n (ZT rows k i st)∧(∀ x∈st.2,x∈(ZT rows k i st).2)∧(∀ x∈(ZT rows k i st).2,∀ b,x8o rows x b->b∈(ZT rows k i st).2)∧(∀ S:Int->Prop,(∀ x∈st.2,S x)->(∀ x b,S x->x8o rows x b->S b) -> ∀ x∈(ZT rows k i st).2,S x)
 | 0,i,st,h,hi,hk,_=>by
   have:=MY h.inv;omega
 | k+1,i,st,h,hi,hk,hc=>by
   rw [ZT];split
   ·rename_i a ha;have hlt:=(u3e.1 ha).1;have hrow : ∀ b∈rows.getD a.toNat [],0<=b∧b<n:=fun b hb=>NI hr hb;obtain ⟨h1,h2,h3⟩:=h.fold (rows.getD a.toNat []) hrow;obtain ⟨h4,h5,h6,h7⟩:=x3h hr k (i+1) h1 (u5r hlt h3.length_le) (by omega) fun m c hm hmc b hb=>by
     rw [h2];rcases u3r m i with hmi|hmi
     ·have hml:m<st.2.length:=by omega
      have hmc':st.2[m]? = some c:=by
       have:=q6a h3 (u3h hml);rw [u3h hml,<- this,hmc]
      exact .inl (hc m c hmi hmc' b hb)
     ·obtain rfl:m=i:=by omega
      have:=q6a h3 ha;rw [this] at hmc;cases hmc;exact .inr hb
    refine ⟨h4,fun x hx=>h5 x ((h2 x).2 (.inl hx)),h6,fun S hS hcl=>h7 S (fun x hx => ?_) hcl⟩;rcases (h2 x).1 hx with hx|hx
    ·exact hS x hx
    ·exact hcl a x (hS a (u4d ha)) hx
   ·rename_i ha;have hlen:st.2.length<=i:=List.getElem?_eq_none_iff.1 ha;refine ⟨h,fun x hx=>hx,fun x hx b hb => ?_,fun S hS _=>hS⟩;obtain ⟨m,hm⟩:=u7q.1 hx;exact hc m x (by have:=(u3e.1 hm).1;omega) hm b hb
theorem q7v {n:Nat} : ∀ (l:List Int) {st:List Bool×List Int},WkM n st->WkM n (l.foldl (fun st a=>bif WP n a then HH st a else st) st) ∧ ∀ x,x∈(l.foldl (fun st a=>bif WP n a then HH st a else st) st).2↔x∈st.2∨(x∈l∧WP n x=true)
 | [],st,h=>⟨h,fun x=>by simp⟩
 | a::r,st,h=>by
   rw [u6e];cases hb:WP n a with
   | true =>
     obtain ⟨h1,h2,_⟩:=h.see (ZN hb);obtain ⟨h3,h4⟩:=q7v r h1;rw [u4y];refine ⟨h3,fun x => ?_⟩;rw [h4,h2,u3c];constructor
     ·rintro ((h5|rfl)|⟨h5,h6⟩)
      ·exact .inl h5
      ·exact .inr ⟨.inl rfl,hb⟩
      ·exact .inr ⟨.inr h5,h6⟩
     ·rintro (h5|⟨rfl|h5,h6⟩)
      ·exact .inl (.inl h5)
      ·exact .inl (.inr rfl)
      ·exact .inr ⟨h5,h6⟩
   | false =>
     obtain ⟨h3,h4⟩:=q7v r h;rw [u4h];refine ⟨h3,fun x => ?_⟩;rw [h4,u3c];constructor
     ·rintro (h5|⟨h5,h6⟩)
      ·exact .inl h5
      ·exact .inr ⟨.inr h5,h6⟩
     ·rintro (h5|⟨rfl|h5,h6⟩)
      ·exact .inl h5
      ·rw [hb] at h6;cases h6
      ·exact .inr ⟨h5,h6⟩
theorem z8f : ∀ (l:List Bool) (i:Nat) (y:Int),y∈PF i l ↔ ∃ k:Nat,l[k]? = some true∧y=((i+k:Nat):Int)
 | [],i,y=>by simp [PF]
 | b::r,i,y=>by
   have ih:=z8f r (i+1) y;have key:(∃ k:Nat,(b::r)[k]? = some true∧y=((i+k:Nat):Int))↔(b=true∧y=(i:Int)) ∨ ∃ k:Nat,r[k]? = some true∧y=((i+1+k:Nat):Int):=by
    constructor
    ·rintro ⟨k,h1,h2⟩;cases k with
     | zero=>simp at h1;exact .inl ⟨h1,by simpa using h2⟩
     | succ k=>exact .inr ⟨k,by simpa using h1,by rw [h2];omega⟩
    ·rintro (⟨h1,h2⟩|⟨k,h1,h2⟩)
     ·exact ⟨0,by simp [h1],by simpa using h2⟩
     ·exact ⟨k+1,by simpa using h1,by rw [h2];omega⟩
   rw [key,<- ih,PF];cases b<;>simp
theorem z3g {n:Nat} {rows:List (List Int)} (hr:XT n rows) (l:List Int) (y:Int):y∈PF 0 (WD rows l) ↔ ∃ a∈l,WP n a=true∧Rch (x8o rows) a y:=by
 obtain ⟨h1,h2⟩:=q7v (n:=n) l (WkM.start n);obtain ⟨h3,h4,h5,h6⟩:=x3h hr (rows.length+1) 0 (st:=MQ rows.length l) (by rw [hr.1];exact h1) (u3l _) (by rw [hr.1];omega) (fun m a hm=>by omega);have hst : ∀ x,x∈(MQ rows.length l).2↔x∈l∧WP n x=true:=fun x=>by
  rw [hr.1];unfold MQ;rw [h2];simp
 have hmem : ∀ y,y∈PF 0 (WD rows l)↔y∈(ZT rows (rows.length+1) 0 (MQ rows.length l)).2:=fun y=>by
  rw [z8f,h3.mem];show (∃ k:Nat,(ZT rows (rows.length+1) 0 (MQ rows.length l)).1[k]? = some true∧_)↔_;constructor
  ·rintro ⟨k,h7,h8⟩;have hlt:=(u3e.1 h7).1;rw [h3.inv.1] at hlt;refine ⟨by omega,?_⟩;rw [h8,u3m];simp [h7]
  ·rintro ⟨h7,h8⟩;have hlt:y.toNat<(ZT rows (rows.length+1) 0 (MQ rows.length l)).1.length:=by rw [h3.inv.1];omega
   refine ⟨y.toNat,?_,by omega⟩;rw [u3m,u3h hlt] at h8;rw [u3h hlt];simpa using h8
 rw [hmem];constructor
 ·intro hy;refine h6 (fun y => ∃ a∈l,WP n a=true∧Rch (x8o rows) a y) (fun x hx => ?_) (fun x b ⟨a,h7,h8,h9⟩ hb=>⟨a,h7,h8,.tail h9 hb⟩) y hy;obtain ⟨h7,h8⟩:=(hst x).1 hx;exact ⟨x,h7,h8,.refl⟩
 ·rintro ⟨a,h7,h8,h9⟩;exact h9.closed (S:=fun y=>y∈(ZT rows (rows.length+1) 0 (MQ rows.length l)).2) (fun x b hx hb=>h5 x hx b hb) (h4 a ((hst a).2 ⟨h7,h8⟩))
theorem z8x {l:List Int} {k:Nat} {b x:Int}:x∈q8k l k b↔x∈l∨x=b:=by
 unfold q8k;rw [u3p,u3c];have:x∈l↔x∈l.take k∨x∈l.drop k:=by rw [<- u3p,u8m]
 rw [this];constructor
 ·rintro (h|h|h)
  ·exact .inl (.inl h)
  ·exact .inr h
  ·exact .inl (.inr h)
 ·rintro ((h|h)|h)
  ·exact .inl h
  ·exact .inr (.inr h)
  ·exact .inr (.inl h)
theorem w8g {n:Nat} {g:List (List Int)×List (List Int)} (hl:g.1.length=n) (e:Int×Int) {x y:Int} (hx:0<=x∧x<n):y∈(z0x n g e).1.getD x.toNat []↔y∈g.1.getD x.toNat []∨((x,y)=e∧WP n y=true):=by
 rw [x0c];cases hc:(WP n e.1&&WP n e.2 && !(g.1.getD e.1.toNat []).contains e.2) with
 | true =>
   simp only [u4u,u7x] at hc;obtain ⟨⟨h1,h2⟩,_⟩:=hc;have h3:=ZN h1;rw [u4y];unfold x6q;rw [u3m,u7c];by_cases he:e.1.toNat=x.toNat
   ·rw [if_pos he,if_pos (by omega)];simp only [u6v];rw [z8x,<- he];have:x=e.1:=by omega
    constructor
    ·rintro (h|h)
     ·exact .inl h
     ·exact .inr ⟨by rw [this,h],by rw [h];exact h2⟩
    ·rintro (h|⟨h,_⟩)
     ·exact .inl h
     ·exact .inr (by rw [<- h])
   ·rw [if_neg he,<- u3m];constructor
    ·exact .inl
    ·rintro (h|⟨h,_⟩)
     ·exact h
     ·exact absurd (by rw [<- h]) he
 | false =>
   rw [u4h];constructor
   ·exact .inl
   ·rintro (h|⟨rfl,h⟩)
    ·exact h
    ·have h1:WP n x=true:=by unfold WP;simp [hx]
     simp only [h1,h,u7e,Bool.not_eq_false'] at hc;simpa using hc
theorem z7z {n:Nat} {g:List (List Int)×List (List Int)} (hl:g.1.length=n) (e:Int×Int):(z0x n g e).1.length=n:=by
 rw [x0c];cases (WP n e.1&&WP n e.2 && !(g.1.getD e.1.toNat []).contains e.2) with
 | true=>rw [u4y];unfold x6q;rw [u6i];exact hl
 | false=>exact hl
theorem z2k {n:Nat} {x y:Int} (hx:0<=x∧x<n) : ∀ (l:List (Int×Int)) {g:List (List Int)×List (List Int)},g.1.length=n->(y∈(l.foldl (z0x n) g).1.getD x.toNat []↔y∈g.1.getD x.toNat []∨((x,y)∈l∧WP n y=true))
 | [],g,_=>by simp
 | e::r,g,h=>by
   rw [u6e,z2k hx r (z7z h e),w8g h e hx,u3c];constructor
   ·rintro ((h1|⟨h1,h2⟩)|⟨h1,h2⟩)
    ·exact .inl h1
    ·exact .inr ⟨.inl h1,h2⟩
    ·exact .inr ⟨.inr h1,h2⟩
   ·rintro (h1|⟨h1|h1,h2⟩)
    ·exact .inl (.inl h1)
    ·exact .inl (.inr ⟨h1,h2⟩)
    ·exact .inr ⟨h1,h2⟩
theorem MB {n:Nat} {l:List (Int×Int)} {x y:Int} (hx:0<=x∧x<n):x8o (XJ n l).1 x y↔(x,y)∈l∧WP n y=true:=by
 unfold x8o XJ;rw [z2k hx l (by simp)];have:(List.replicate n ([]:List Int)).getD x.toNat []=[]:=by
  rw [u3m,u4r];split<;>rfl
 rw [this];simp
theorem x1a {n:Nat} {l:List (Int×Int)} (h0:0<n) (y:Int):y∈PF 0 (WD (XJ n l).1 [0])↔Rch (fun a b=>(a,b)∈l∧WP n b=true) 0 y:=by
 rw [z3g (FA n l).1];have hs:WP n 0=true:=by unfold WP;simp;omega
 constructor
 ·rintro ⟨a,ha,_,h⟩;obtain rfl:a=0:=by simpa using ha
  exact (h.closed (S:=fun x:Int=>(0<=x∧x<n)∧Rch (fun a b=>(a,b)∈l∧WP n b=true) 0 x) (fun x y ⟨h1,h2⟩ h3=>by
   have h4:=(MB h1).1 h3;exact ⟨ZN h4.2,.tail h2 h4⟩) ⟨⟨by omega,by omega⟩,.refl⟩).2
 ·intro h;refine ⟨0,by simp,hs,?_⟩;exact (h.closed (S:=fun x:Int=>(0<=x∧x<n)∧Rch (x8o (XJ n l).1) 0 x) (fun x y ⟨h1,h2⟩ h3=>⟨ZN h3.2,.tail h2 ((MB h1).2 h3)⟩) ⟨⟨by omega,by omega⟩,.refl⟩).2
def stR (F:List Step) (a b:Int):Prop := ∃ s∈F,s.src=a∧s.dst=b
def plP (p:Pg) (j:Nat) (f:Pr) (x:Int):Prop:=x=0∨x = -1∨((QN p.procs j:Int)+1<=x∧x<=(QN p.procs j+cntL f.body:Nat))
def ixI (p:Pg) (j:Nat) (f:Pr) (x:Int):Int:=VL (loI p j) (hiI p j f) (cntL f.body+2:Nat) x
theorem JD {p:Pg} {j:Nat} {f:Pr} {x:Int} (h:plP p j f x):0<=ixI p j f x∧ixI p j f x<(cntL f.body+2:Nat):=by
 unfold ixI VL loI hiI;unfold plP at h
 (repeat' split)<;>omega
theorem KZ {p:Pg} {j:Nat} {f:Pr} {x y:Int} (hx:plP p j f x) (hy:plP p j f y) (h:ixI p j f x=ixI p j f y):x=y:=by
 unfold ixI VL loI hiI at h;unfold plP at hx hy
 (repeat' split at h)<;>omega
theorem w2h {p:Pg} {j:Nat} {f:Pr} {F:List Step} (hF : ∀ s∈F,plP p j f s.src∧plP p j f s.dst) {y:Int} (hy:plP p j f y) :
  ixI p j f y∈PF 0 (WD (XJ (cntL f.body+2) (F.map (ixP p j f (cntL f.body+2:Nat)))).1 [0])↔Rch (stR F) 0 y:=by
 rw [x1a (by omega)];have e0:ixI p j f 0=0:=by unfold ixI VL;rw [if_pos rfl]
 have p0:plP p j f 0 := .inl rfl;constructor
 ·intro h;obtain ⟨z,h1,h2,h3⟩:=h.closed (S:=fun i => ∃ z,plP p j f z∧ixI p j f z=i∧Rch (stR F) 0 z) (by
   rintro a b ⟨z,h1,h2,h3⟩ ⟨h4,_⟩;obtain ⟨s,hs,he⟩:=u3s.1 h4;obtain ⟨h5,h6⟩:=hF s hs;have e1:ixI p j f s.src=a:=u5j Prod.fst he;have e2:ixI p j f s.dst=b:=u5j Prod.snd he;have e3:s.src=z:=KZ h5 h1 (by rw [e1,h2]);exact ⟨s.dst,h6,e2,.tail h3 ⟨s,hs,e3,rfl⟩⟩) ⟨0,p0,e0,.refl⟩
  rw [<- KZ h1 hy h2];exact h3
 ·intro h;have:=h.closed (S:=fun z=>plP p j f z∧Rch (fun a b=>(a,b)∈F.map (ixP p j f (cntL f.body+2:Nat))∧WP (cntL f.body+2) b=true) 0 (ixI p j f z)) (by
   rintro a b ⟨h1,h2⟩ ⟨s,hs,rfl,rfl⟩;obtain ⟨h5,h6⟩:=hF s hs;refine ⟨h6,.tail h2 ⟨u3s.2 ⟨s,hs,rfl⟩,?_⟩⟩;have:=JD h6;unfold WP;simp only [u4u,u4b];exact this) ⟨p0,by rw [e0];exact .refl⟩
  exact this.2
theorem UP {p:Pg} (h:QM p=true) {j:Nat} {f:Pr} (hj:p.procs[j]? = some f) : ∀ s∈(QQ p j f).real,plP p j f s.src∧plP p j f s.dst:=fun s hs=>by
 obtain ⟨_,h2⟩:=GH h hj;obtain ⟨_,h3,_⟩:=NU h hj;obtain ⟨h4,h5⟩:=h3 s ((h2 s).1 hs);unfold okI at h5;unfold plP;omega
theorem z9e {l:List Str} (h:XM l=false):l.Nodup:=by
 unfold XM at h;rw [u7s] at h;unfold Nodup;rw [List.pairwise_iff_getElem];intro i j hi hj hij he;have h1:=h j (u6c.2 hj);apply h1;rw [u5n];refine ⟨l[i],?_,?_⟩
 ·exact u5w.2 ⟨i,by simp;omega,by simp⟩
 ·rw [u3h hj];simp [he]
theorem x2b {p:Pg} (h:QM p=true):(procsN p).Nodup:=by
 obtain ⟨hm,hs,_⟩:=QK h;unfold QO at hs;rw [hm,u4y] at hs;cases hb:WX p with
 | true=>rw [hb] at hs;cases hs
 | false =>
   unfold WX at hb;simp only [u8t] at hb;exact z9e hb.2.1
theorem z9q {p:Pg} (h:QM p=true) {j k:Nat} {f g:Pr} (hj:p.procs[j]? = some f) (hk:p.procs[k]? = some g) (he:f.name=g.name):j=k∧f=g:=by
 have hn:=x2b h;have h1:(procsN p)[j]? = some f.name:=by simp [procsN,hj]
 have h2:(procsN p)[k]? = some g.name:=by simp [procsN,hk]
 rw [he] at h1;have hjl:=(u3e.1 h1).1;obtain rfl:j=k:=(List.getElem?_inj hjl hn).1 (h1.trans h2.symm);rw [hj] at hk;exact ⟨rfl,u6y hk⟩
theorem w2m : ∀ (k:Nat) (l:List S) (_:cntL l<k) (_:cntL l<=1000000),SpecP prog 74 [eSs l] (fun r=>r = .int .i64 (cntL l)):=by
 intro k;induction k with
 | zero=>intro l h;omega
 | succ k ih =>
   intro l hk hl;have hll:=S.avs_len l;have hlc:l.length<=cntL l:=by
    clear hk hl hll;induction l with
    | nil=>simp
    | cons t r ihr=>rw [cntL,WK,u4t];omega
   refine sB z0m func74 rfl call74 ?_;conv=>whnf
   repeat' (refine iM fun _=>?_;conv=>whnf)
   refine LoopK.inv QX (fun y:Nat×Nat=>⟨[(0,.p (eSs l)),(3,.p (.int .i64 y.2)),(8,.p (.int .i64 (S.avs l).length)),(9,.p (.int .i64 y.1))],[]⟩) (fun y=>y.1<=l.length∧y.2+cntL (l.drop y.1)=cntL l+(l.length-y.1)) (fun y=>l.length-y.1) (0,l.length) (Le.of_eq (by simp only [S.avs_len];rfl)) ⟨u3l _,by simp;omega⟩ ?_;rintro ⟨j,n⟩ ⟨h2,h3⟩;simp only at h2 h3 ⊢;rcases u3r j l.length with hj|hj
   ·have hst:=q3k hj;have hcs:=WK l[j];have h4:cntL (l.drop j)<=cntL l:=by
     have : ∀ (l:List S) (j:Nat),cntL (l.drop j)<=cntL l:=fun l=>by
      induction l with
      | nil=>intro j;simp
      | cons t r ihr =>
        intro j;cases j with
        | zero=>simp
        | succ j=>rw [List.drop_succ_cons,cntL];have:=ihr j;omega
     exact this l j
    conv=>whnf
    repeat' (first|((first|refine dA ?_|refine GZ (by omega) ?_|refine wI ?_|(refine CallK.pure (ih l[j].thn (by omega) (by omega)) (.cons (Sub.refl _) .nil) ?_;rintro _ rfl)|(refine CallK.pure (ih l[j].els (by omega) (by omega)) (.cons (Sub.refl _) .nil) ?_;rintro _ rfl));conv=>whnf)|(apply bD<;>intro _<;>first|omega|conv=>whnf))
    all_goals exact ⟨(j+1,n+(cntL l[j].thn+cntL l[j].els)),⟨by simp only;omega,by simp only;omega⟩,by simp only;omega,Le.of_eq rfl⟩
   ·conv=>whnf
    rw [u4z hj,cntL] at h3;repeat' (apply bD<;>intro _<;>first|omega|conv=>whnf)
    exact RetK.int (by omega)
theorem w2n (p:Pg) (hc:cntP p.procs<=1000):SpecP prog 18 [.agg p.cells] (fun r=>r = .int .i64 (cntP p.procs)):=by
 refine sB z0n func18 rfl call18 ?_;conv=>whnf
 have hl2:(p.procs.map fun f=>AV.agg f.cells).length=p.procs.length:=u3k _;repeat' (refine iM fun _=>?_;conv=>whnf)
 refine LoopK.inv QX (fun y:Nat×Nat=>⟨[(3,.p (.int .i64 y.2)),(7,.p (.sl (p.procs.map fun f => .agg f.cells))),(8,.p (.int .i64 (p.procs.map fun f=>AV.agg f.cells).length)),(9,.p (.int .i64 y.1))],[]⟩) (fun y=>y.1<=p.procs.length∧y.2+cntP (p.procs.drop y.1)=cntP p.procs) (fun y=>p.procs.length-y.1) (0,0) (Le.of_eq rfl) ⟨u3l _,by simp⟩ ?_;rintro ⟨j,n⟩ ⟨h2,h3⟩;simp only at h2 h3 ⊢;rcases u3r j p.procs.length with hj|hj
 ·have hst:=x1w hj;have hcm:=DC _ _ (u3i hj);conv=>whnf
  repeat' (first|((first|refine u3d rfl ?_|(refine iA fun _=>?_)|refine wI ?_|(refine CallK.pure (w2m (cntL p.procs[j].body+1) p.procs[j].body (by omega) (by omega)) (.cons (Sub.refl _) .nil) ?_;rintro _ rfl));conv=>whnf)|(apply bD<;>intro _<;>first|omega|conv=>whnf))
  exact ⟨(j+1,n+cntL p.procs[j].body),⟨by simp only;omega,by simp only;omega⟩,by simp only;omega,Le.of_eq rfl⟩
 ·conv=>whnf
  rw [u4z hj,cntP] at h3;repeat' (apply bD<;>intro _<;>first|omega|conv=>whnf)
  exact RetK.int (by omega)
end Go.Ab
