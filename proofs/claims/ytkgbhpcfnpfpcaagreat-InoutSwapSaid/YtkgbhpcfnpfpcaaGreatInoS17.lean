/- struct == on api.Param; slices.Index, slices.Contains there; slices.Clone at strings. -/
import Derived.Test.YtkgbhpcfnpfpcaaGreatInoS9
import Derived.Test.YtkgbhpcfnpfpcaaGreatInoS10
import Derived.Test.YtkgbhpcfnpfpcaaGreatInoS14
import Derived.Test.YtkgbhpcfnpfpcaaGreatInoS15
import Derived.Test.YtkgbhpcfnpfpcaaGreatInoS16
set_option linter.unusedSimpArgs false
set_option linter.unusedVariables false
set_option maxRecDepth 100000
set_option maxHeartbeats 16000000
open List (append_nil filter_cons_of_pos getD_eq_getElem?_getD length_append length_map length_take mem_cons_of_mem mem_cons_self take_of_length_le take_succ_eq_append_getElem)
open Nat (zero_le)
namespace Go.Ab
open Go.Proofs
theorem x4x {σ:Mem} {a:Param} {v:Value} (h:Rep σ (.agg a.cells) v):v = .agg #[.string ⟨a.name.toArray⟩,.bool a.ref]:=by
 cases h with
 | agg cs vs u hn hc hr =>
   have hs:vs.size=2:=hn;have g0:vs[0]? = some (.string ⟨a.name.toArray⟩):=by
    have h1:=hc 0 (.str a.name) rfl;have h2:=hr 0 (.str a.name) rfl;generalize u 0=w at h1 h2;cases h2;exact h1
   have g1:vs[1]? = some (.bool a.ref):=by
    have h1:=hc 1 (.bool a.ref) rfl;have h2:=hr 1 (.bool a.ref) rfl;generalize u 1=w at h1 h2;cases h2;exact h1
   congr 1;apply Array.ext_getElem?;intro i
   match i with
   | 0=>exact g0
   | 1=>exact g1
   | i+2=>rw [Array.getElem?_eq_none (by omega),Array.getElem?_eq_none (by simp)]
instance:DecidableEq Param:=fun a b=>decidable_of_iff (a.name=b.name∧a.ref=b.ref) (by cases a;cases b;simp)
theorem ValO.params {hr:Bool} {s:St} {o:Oper} {K:LV->Prop} {x y:Operand} {u:TypeId} (hop:o.op = .binOp .eql 104 x y u) {a b:Param} (hx:QT s.sl x = .p (.agg a.cells)) (hy:QT s.sl y = .p (.agg b.cells))
  (hK:K (.p (.bool (decide (a=b))))):ValO Tryz.prog hr s o K:=by
 refine ⟨fun σ β ac w hs _=>⟨_,.bool (decide (a=b)),hK,.p (.bool _),fun w' _ _ => ?_⟩⟩;have h1:ac.eval x = .agg #[.string ⟨a.name.toArray⟩,.bool a.ref]:=by
  have:=QV hs x;rw [hx] at this;cases this with
  | p h=>exact x4x h
 have h2:ac.eval y = .agg #[.string ⟨b.name.toArray⟩,.bool b.ref]:=by
  have:=QV hs y;rw [hy] at this;cases this with
  | p h=>exact x4x h
 have hu:Tryz.prog.underlying 104=some (.struct (Tryz.prog.fieldsOf 104)):=by kernel_rfl
 have hs':Tryz.prog.underlying 9=some .string:=by kernel_rfl
 have hb':Tryz.prog.underlying 4=some .bool:=by kernel_rfl
 have hf:(Tryz.prog.fieldsOf 104).toList=(match ty104.desc with | .struct fs=>fs.toList|_=>[]):=by kernel_rfl
 have he:(Op.equalIn 10000 104 (.agg #[.string ⟨a.name.toArray⟩,.bool a.ref]) (.agg #[.string ⟨b.name.toArray⟩,.bool b.ref])).run Tryz.prog w' = .ok (decide (a=b)) w':=by
  rw [run_equalIn_struct w' 9999 _ _ _ hu (by kernel_rfl),hf];simp only [ty104,Op.eqFields];have p0 : ∀ (x:ByteArray) (y:Bool),(part 9 #[.string x,.bool y] 0).run Tryz.prog w' = .ok (.string x) w':=fun x y=>run_part_plain w' (by kernel_rfl) rfl;have p1 : ∀ (x:ByteArray) (y:Bool),(part 4 #[.string x,.bool y] 1).run Tryz.prog w' = .ok (.bool y) w':=fun x y=>run_part_plain w' (by kernel_rfl) rfl;have es : ∀ x y:ByteArray,(Op.equalIn 9999 9 (.string x) (.string y)).run Tryz.prog w' = .ok (x.toList==y.toList) w':=fun x y=>run_equalIn_string (P:=Tryz.prog) w' 9998 9 x y hs';have eb : ∀ x y:Bool,(Op.equalIn 9999 4 (.bool x) (.bool y)).run Tryz.prog w' = .ok (x==y) w':=fun x y=>run_equalIn_bool (P:=Tryz.prog) w' 9998 4 x y hb';have e:decide (a=b)=(((⟨a.name.toArray⟩:ByteArray).toList==(⟨b.name.toArray⟩:ByteArray).toList)&&(a.ref==b.ref)):=by
   rw [ByteArray.toList_eq,ByteArray.toList_eq,Bool.eq_iff_iff,decide_eq_true_iff,Bool.and_eq_true,beq_iff_eq,beq_iff_eq];cases a;cases b;simp
  simp only [ne_eq,show ¬("Name" = "_") by decide,show ¬("Ref" = "_") by decide,not_false_eq_true,if_true,Sem.run_bind,p0,p1,Result.andThen_ok,es,eb,Sem.run_ite,Sem.run_pure,e];cases ((⟨a.name.toArray⟩:ByteArray).toList==(⟨b.name.toArray⟩:ByteArray).toList)<;>cases (a.ref==b.ref)<;>simp
 simp only [execOp,hop,h1,h2,Sem.run_bind,run_eqGuard_agg _ _ _ _ _ _ _ (show Tryz.prog.eqGuardType Tryz.prog.depth 104=false by kernel_rfl),Result.andThen_ok,run_eql_struct,he,Sem.run_pure]
theorem VM (l:List Param) (x:Param):SpecP Tryz.prog 277 [.sl (l.map fun a => .agg a.cells),.agg x.cells] (fun r => ∃ k:Int,r = .int .i64 k∧(0<=k↔x∈l)):=by
 refine sB VV Tryz.func277 rfl Tryz.call277 ?_;conv=>whnf
 have hll:(l.map fun a=>AV.agg a.cells).length=l.length:=length_map _;repeat' (first|((first|(refine iM fun _=>?_)|refine dA ?_|refine And.intro rfl ?_|refine aD ?_|refine aR ?_|refine bP ?_|(refine iA fun _=>?_)|refine IdxK.xs (by omega) ?_|refine QZ (by omega) ?_|(refine ByteK.at (by omega) ?_)|refine wI ?_);conv=>whnf)|(apply bD<;>intro _<;>first|omega|conv=>whnf)|(apply bE<;>intro _<;>first|omega|conv=>whnf)|(apply bN<;>intro _<;>conv=>whnf)|(apply bB<;>intro _<;>conv=>whnf))
 refine LoopK.inv QJ (fun j:Nat=>⟨[(0,.p (.sl (l.map fun a => .agg a.cells))),(3,.p (.ip x.cells)),(7,.p (.int .i64 (l.map fun a=>AV.agg a.cells).length)),(8,.p (.int .i64 j))],[]⟩) (fun j=>j<=l.length∧x∉l.take j) (fun j=>l.length-j) 0 (Le.of_eq rfl) ⟨zero_le _,by simp⟩ ?_;rintro j ⟨h2,h3⟩;rcases Nat.lt_or_ge j l.length with hj|hj
 ·have htk:x∈l.take (j+1)↔x∈l.take j∨x=l[j]:=ZQ hj;conv=>whnf
  repeat' (first|((first|(refine iM fun _=>?_)|refine dA ?_|refine And.intro rfl ?_|refine aD ?_|refine aR ?_|refine bP ?_|(refine iA fun _=>?_)|refine IdxK.xs (by omega) ?_|refine QZ (by omega) ?_|(refine ByteK.at (by omega) ?_)|refine wI ?_|refine ValO.params (a:=x) (b:=l[j]) rfl rfl rfl ?_);conv=>whnf)|(apply bD<;>intro _<;>first|omega|conv=>whnf)|(apply bE<;>intro _<;>first|omega|conv=>whnf)|(apply bN<;>intro _<;>conv=>whnf)|(apply bB<;>intro _<;>conv=>whnf)|(refine And.intro ?_ ?_<;>conv=>whnf))
  all_goals first
   | (have h9:x=l[j]:=by assumption
      exact ⟨_,.p (Sub.refl _),j,rfl,⟨fun _=>by rw [h9];exact List.getElem_mem hj,fun _=>by omega⟩⟩)
   | (have h9 : ¬x=l[j]:=by assumption
      exact ⟨j+1,⟨hj,fun h8=>(htk.1 h8).elim h3 h9⟩,by omega,Le.of_eq rfl⟩)
 ·rw [take_of_length_le hj] at h3;conv=>whnf
  repeat' (first|((first|(refine iM fun _=>?_)|refine dA ?_|refine And.intro rfl ?_|refine aD ?_|refine aR ?_|refine bP ?_|(refine iA fun _=>?_)|refine IdxK.xs (by omega) ?_|refine QZ (by omega) ?_|(refine ByteK.at (by omega) ?_)|refine wI ?_);conv=>whnf)|(apply bD<;>intro _<;>first|omega|conv=>whnf)|(apply bE<;>intro _<;>first|omega|conv=>whnf)|(apply bN<;>intro _<;>conv=>whnf)|(apply bB<;>intro _<;>conv=>whnf))
  all_goals exact ⟨_,.p (Sub.refl _),-1,rfl,by simp [h3]⟩
theorem WT (l:List Param) (x:Param):SpecP Tryz.prog 210 [.sl (l.map fun a => .agg a.cells),.agg x.cells] (fun r=>r = .bool (decide (x∈l))):=by
 refine sB WH Tryz.func210 rfl Tryz.call210 ?_;conv=>whnf
 have hI:=VM l x;repeat' (first|((first|(refine iM fun _=>?_)|refine dA ?_|refine And.intro rfl ?_|refine aD ?_|refine aR ?_|refine bP ?_|(refine iA fun _=>?_)|refine IdxK.xs (by omega) ?_|refine QZ (by omega) ?_|(refine ByteK.at (by omega) ?_)|refine wI ?_|(refine CallK.pure hI (.cons (Sub.refl _) (.cons (Sub.refl _) .nil)) ?_;rintro _ ⟨k,rfl,hk⟩));conv=>whnf)|(apply bD<;>intro _<;>first|omega|conv=>whnf)|(apply bE<;>intro _<;>first|omega|conv=>whnf)|(apply bN<;>intro _<;>conv=>whnf)|(apply bB<;>intro _<;>conv=>whnf))
 all_goals first
  | exact RetK.bool (by rw [Bool.eq_iff_iff,decide_eq_true_iff,decide_eq_true_iff];exact hk)
  | trace_state
theorem w8z {p:Pg} (h:XB p=true) {j:Nat} {f:Pr} (hj:p.procs[j]? = some f) : ∀ s∈q6n (QX p j f) f,okSt s:=fun s hs=>by
 unfold q6n at hs;rcases List.mem_append.1 hs with hs|hs
 ·rcases List.mem_append.1 hs with hs|hs
  ·exact x0z h hj s hs
  ·rw [List.mem_singleton.1 hs];exact ⟨by decide,by decide⟩
 ·obtain ⟨it,hi,hs⟩:=List.mem_flatMap.1 hs;exact x9r h hj it hi s hs
def x0b (n:Nat):List Pr->List Pr
 | []=>[]
 | f::r=>⟨f.name,f.params,f.vars,nmL n f.body,f.fin⟩::x0b (n+cntL f.body) r
def w5e (p:Pg):Pg:=⟨p.globals,x0b 0 p.procs⟩
section
variable {p:Pg} {k:Nat} {f:Pr}
end
theorem q6i : ∀ (l:List Pr) {n:Nat} {m:Int},ZG n l=some m -> ∀ (j:Nat) (f:Pr),l[j]? = some f -> ∃ m',YZ 1 ((n+QM l j:Nat):Int) f.body=some m'
 | [],_,_,_,j,f,hj=>by simp at hj
 | g::r,n,m,h,j,f,hj=>by
   rw [ZG] at h;cases hm:BE g<;>rw [hm] at h
   ·cases h
   simp only [cond_true] at h;split at h
   ·rename_i m1 h1;cases j with
    | zero =>
      cases hj;exact ⟨m1,h1⟩
    | succ j =>
      have h2:=GP _ _ g.body h1;have h':ZG ((n+cntL g.body:Nat):Int) r=some m:=by rw [<- h,h2];rfl
      obtain ⟨m',h3⟩:=q6i r h' j f (by simpa using hj);exact ⟨m',by rw [<- h3,QM];congr 1;omega⟩
   ·cases h
theorem w4b {p:Pg} (h:MY p=true) {j:Nat} {f:Pr} (hj:p.procs[j]? = some f) : ∃ m,YZ 1 ((QM p.procs j:Nat):Int) f.body=some m:=by
 unfold MY at h;simp only [Bool.and_eq_true] at h;obtain ⟨m,hm⟩:=Option.isSome_iff_exists.1 h.2;obtain ⟨m',h'⟩:=q6i p.procs (n:=0) hm j f hj;exact ⟨m',by rw [<- h'];congr 1;omega⟩
section
variable {p:Pg} {k:Nat} {f:Pr}
end
theorem x2c : ∀ (l:List (Int×Int)) (rows:List (List Int)),(∀ t∈l,0<=t.1∧t.1<rows.length) -> ∀ (a:Nat) (x:Int),x∈(l.foldl nxE rows).getD a []↔x∈rows.getD a [] ∨ ∃ t∈l,t.1=a∧t.2=x
 | [],rows,_,a,x=>by simp
 | t::r,rows,h,a,x=>by
   obtain ⟨h1,h2⟩:=h t mem_cons_self;rw [List.foldl_cons,x2c r (nxE rows t) (fun u hu=>by rw [z7z];exact h u (mem_cons_of_mem _ hu))];have e:x∈(nxE rows t).getD a []↔x∈rows.getD a []∨(t.1=a∧t.2=x):=by
    unfold nxE;simp only [getD_eq_getElem?_getD,List.getElem?_set];by_cases he:t.1.toNat=a
    ·subst he;have e0:t.1=(t.1.toNat:Int):=by omega
     rw [if_pos rfl,if_pos (by omega)];simp only [Option.getD_some,List.mem_append,List.mem_singleton];constructor
     ·rintro (h3|h3)
      ·exact .inl h3
      ·exact .inr ⟨e0,h3.symm⟩
     ·rintro (h3|⟨_,h3⟩)
      ·exact .inl h3
      ·exact .inr h3.symm
    ·rw [if_neg he];constructor
     ·exact .inl
     ·rintro (h3|⟨h3,_⟩)
      ·exact h3
      ·omega
   rw [e];simp only [List.mem_cons,exists_eq_or_imp,or_assoc]
theorem q5y {n:Nat} {l:List (Int×Int)} (h : ∀ t∈l,0<=t.1∧t.1<n) {a:Nat} {x:Int}:x∈(PB n l).getD a [] ↔ ∃ t∈l,t.1=a∧t.2=x:=by
 unfold PB;rw [x2c l _ (by simpa using h)];have:(List.replicate n ([]:List Int)).getD a []=[]:=by
  rw [getD_eq_getElem?_getD,List.getElem?_replicate];split<;>rfl
 rw [this];simp
mutual
theorem w1k : ∀ (t:S) {nest seen m:Int},q6h nest seen t=some m -> ∀ u∈flS t,z1x u=true
 | .mk id kind labels name pr x has args thn els,nest,seen,m,h,u,hu=>by
   obtain ⟨h1,_,m1,h3,h4⟩:=z1n h;rw [flS] at hu;rcases List.mem_cons.1 hu with rfl|hu
   ·exact h1
   ·rcases List.mem_append.1 hu with hu|hu
    ·exact q2n thn h3 u hu
    ·exact q2n els h4 u hu
theorem q2n : ∀ (l:List S) {nest seen m:Int},YZ nest seen l=some m -> ∀ u∈flL l,z1x u=true
 | [],_,_,_,_,u,hu=>by rw [flL] at hu;cases hu
 | t::r,nest,seen,m,h,u,hu=>by
   obtain ⟨_,m1,h1,h2⟩:=z0a h;rw [flL] at hu;rcases List.mem_append.1 hu with hu|hu
   ·exact w1k t h1 u hu
   ·exact q2n r h2 u hu
end
theorem z8s {p:Pg} {j:Nat} {f:Pr} (h:XB p=true) (hj:p.procs[j]? = some f) {t:S} (ht:t∈flL f.body):OneF t:=by
 obtain ⟨m,hr⟩:=w4b (ZJ h).1 hj;exact z7i (q2n _ hr t ht)
section
variable {p:Pg} {j:Nat} {f:Pr}
def w8d (p:Pg) (j:Nat) (f:Pr):Int->Int->Prop:=stR (v2v (QX p j f) f)
theorem z6s (h:XB p=true) (hj:p.procs[j]? = some f) {a b:Int}:w8d p j f a b↔wR p j f a b∨(a=0∧b = -1)∨(∃ l∈trapsW (QX p j f) f,∃ t∈flL f.body,t.id∈l∧t.kind=10∧a=t.id∧b = -1) ∨ ∃ it∈itsOf p j f,7<=it.s.kind∧a=it.s.id∧b=it.next:=by
 have hA:=HN (w8z h hj);have hraw : ∀ s,s∈q6n (QX p j f) f↔s∈VU (QX p j f) f∨s∈(QX p j f).real∨s=⟨0,-1,2⟩∨s∈(itsOf p j f).flatMap fOf:=fun s=>by
  have e:q6n (QX p j f) f=VU (QX p j f) f++(QX p j f).real++[⟨0,-1,2⟩]++(itsOf p j f).flatMap fOf:=rfl;rw [e];simp only [List.mem_append,List.mem_singleton,or_assoc]
 have hof : ∀ s∈q6n (QX p j f) f,w8d p j f s.src s.dst:=fun s hs=>by
  obtain ⟨s',h1,h2,h3,_⟩:=hA.2.2 s hs;exact ⟨s',h1,h2,h3⟩
 constructor
 ·rintro ⟨s,hs,rfl,rfl⟩;rcases (hraw s).1 (hA.2.1 s hs) with h1|h1|h1|h1
  ·obtain ⟨l,hl,t,ht,hid,hk,rfl⟩:=(NN h hj).1 h1;exact .inr (.inr (.inl ⟨l,hl,t,ht,hid,hk,rfl,rfl⟩))
  ·exact .inl ⟨s,h1,rfl,rfl⟩
  ·rw [h1];exact .inr (.inl ⟨rfl,rfl⟩)
  ·obtain ⟨it,hi,hs⟩:=List.mem_flatMap.1 h1;unfold fOf at hs;split at hs
   ·rw [List.mem_singleton.1 hs];exact .inr (.inr (.inr ⟨it,hi,by omega,rfl,rfl⟩))
   ·cases hs
 ·rintro (⟨s,hs,rfl,rfl⟩|⟨rfl,rfl⟩|⟨l,hl,t,ht,hid,hk,rfl,rfl⟩|⟨it,hi,hk,rfl,rfl⟩)
  ·exact hof s ((hraw s).2 (.inr (.inl hs)))
  ·exact hof ⟨0,-1,2⟩ ((hraw _).2 (.inr (.inr (.inl rfl))))
  ·exact hof ⟨t.id,-1,3⟩ ((hraw _).2 (.inl ((NN h hj).2 ⟨l,hl,t,ht,hid,hk,rfl⟩)))
  ·refine hof ⟨it.s.id,it.next,2⟩ ((hraw _).2 (.inr (.inr (.inr (List.mem_flatMap.2 ⟨it,hi,?_⟩)))));have hF:=(z8s h hj (x0g hi)).hi;unfold fOf;rw [if_pos (by omega)];exact List.mem_singleton.2 rfl
theorem w6v (h:XB p=true) (hj:p.procs[j]? = some f) {a b:Int} (hr:w8d p j f a b):plP p j f a∧plP p j f b∧a ≠ -1∧b≠0:=by
 have hst : ∀ t∈flL f.body,plP p j f t.id∧t.id ≠ -1:=fun t ht=>by
  have hb:=JK (ZJ h).1 hj ht;exact ⟨.inr (.inr hb),by omega⟩
 rcases (z6s h hj).1 hr with h1|⟨rfl,rfl⟩|⟨l,hl,t,ht,hid,hk,rfl,rfl⟩|⟨it,hi,hk,rfl,rfl⟩
 ·obtain ⟨h2,h3⟩:=w8t h hj h1;refine ⟨h2,h3,?_,fun e=>z9s h hj (e▸h1)⟩;obtain ⟨s,hs,rfl,rfl⟩:=h1;rcases w0d h hj (((NH h hj).2 s).1 hs) with h4|h4
  ·rw [h4];show (0:Int) ≠ -1;decide
  ·omega
 ·exact ⟨.inl rfl,.inr (.inl rfl),by decide,by decide⟩
 ·exact ⟨(hst t ht).1,.inr (.inl rfl),(hst t ht).2,by decide⟩
 ·have h1:=(q3t hi).1;unfold okI at h1;refine ⟨(hst _ (x0g hi)).1,?_,(hst _ (x0g hi)).2,by omega⟩;rcases h1 with h1|h1
  ·exact .inr (.inl h1)
  ·exact .inr (.inr h1)
end
namespace Own
end Own
open Go.Proofs
def rng (a b:Int) (v:Int):Prop:=a<=v∧v<=b
def v1n (l:List Int) (i:Nat):Int:=l.getD i 0
def srt (K:Int->Int) (l:List Int) (a b:Nat):Prop := ∀ i k,a<=i->i<k->k<b->K (v1n l k)<=K (v1n l i)
def blk (K:Int->Int) (l:List Int) (bs n:Nat):Prop := ∀ q,srt K l (q*bs) (min (q*bs+bs) n)
def w0b:List AV:=[.int .i64 (-1),.int .i64 0,.nils,.str [],.str [],.int .i64 0,.int .i64 0,.str [],.nils,.ff,.nils,.nils,.nils]
theorem q1s : ∀ (k:Nat) (l:List S) (_:cntL l<k) (_:cntL l<=1000000) (_ : ∀ t∈flL l,okC t∧t.id ≠ -1),SpecP Tryz.prog 108 [eSs l,.agg w0b] (fun r=>r=eSs l):=by
 intro k;induction k with
 | zero=>intro l h;omega
 | succ k ih =>
   intro l hk hn hok;have hsl:(S.avs l).length=l.length:=by rw [S.avs_eq,length_map]
   have hcl:=q1e l;refine sB NX Tryz.func108 rfl Tryz.call108 ?_;conv=>whnf
   repeat' (refine iM fun _=>?_;conv=>whnf)
   refine LoopK.inv QJ (fun j:Nat=>⟨[(3,.p (.ip w0b)),(5,.hd 0 0 j),(9,.p (eSs l)),(10,.p (.int .i64 (S.avs l).length)),(11,.p (.int .i64 j))],[(0,.own 40 13 (S.avs (l.take j)))]⟩) (fun j=>j<=l.length) (fun j=>l.length-j) 0
    (Le.mk [(0,.own 40 13 [])] (by simp [Chunk.new0];rfl) (by simp) (by simp) (.cons (.refl _) (.cons (.nil mem_cons_self) (.cons (.refl _) (.cons (.refl _) (.cons (.refl _) .nil))))) (.new mem_cons_self .nil)) (zero_le _) ?_
   intro j h2;rcases Nat.lt_or_ge j l.length with hj|hj
   ·have htm:=q2p (List.getElem_mem hj);have hcs:=WD l[j];have hself:=hok _ (PH l _ (List.getElem_mem hj));have hsub : ∀ t,t∈flL l[j].thn∨t∈flL l[j].els->okC t∧t.id ≠ -1:=fun t ht=>hok t (by
     have:t∈flS l[j]:=by
      rw [q6b];exact mem_cons_of_mem _ (List.mem_append.2 ht)
     have key : ∀ (m:List S) (i:Nat) (h:i<m.length),t∈flS m[i]->t∈flL m:=fun m=>by
      induction m with
      | nil=>intro i h;simp at h
      | cons a r ih =>
        intro i h ht;rw [flL];cases i with
        | zero=>exact List.mem_append.2 (.inl ht)
        | succ i=>exact List.mem_append.2 (.inr (ih i (by simpa using h) ht))
     exact key l j hj this)
    have h5:=UE l[j] hself.1.1 hself.1.2.1 hself.1.2.2.1 hself.1.2.2.2;have hid:=hself.2;have h6:=ih l[j].thn (by omega) (by omega) fun t ht=>hsub t (.inl ht);have h7:=ih l[j].els (by omega) (by omega) fun t ht=>hsub t (.inr ht);have hacl:j=(S.avs (l.take j)).length:=by rw [S.avs_eq,length_map,length_take];omega
    have hav:S.avs (l.take (j+1))=S.avs (l.take j)++[.agg l[j].cells]:=by
     rw [S.avs_eq,S.avs_eq,take_succ_eq_append_getElem hj,List.map_append];rfl
    generalize S.avs (l.take j)=acc at hacl hav ⊢;have e:l[j] = .mk l[j].id l[j].kind l[j].labels l[j].name l[j].proc l[j].x l[j].has l[j].args l[j].thn l[j].els:=by cases l[j];rfl
    conv=>whnf
    repeat' (first|((first|refine dA ?_|refine And.intro rfl ?_|refine aD ?_|refine bP ?_|refine QZ (by omega) ?_|refine wI ?_|refine cP h5 ?_|refine cP h6 ?_|refine cP h7 ?_|refine AppK.mk hacl rfl (by show (j+1)*208<=140737488355328;omega) (by show j+1<=9223372036854775807;omega) (fun x hx=>by rcases List.mem_singleton.1 hx with rfl;exact ⟨rfl,rfl⟩) ?_);conv=>whnf)|(apply bD<;>intro _<;>first|omega|conv=>whnf))
    all_goals first
     | exact ⟨j+1,hj,by omega,Le.of_eq (by rw [hav];rfl)⟩
     | contradiction
     | trace_state
   ·have hall:l.take j=l:=take_of_length_le hj;have hjl:j=(S.avs l).length:=by rw [S.avs_eq,length_map];omega
    rw [hall];conv=>whnf
    repeat' (apply bD<;>intro _<;>first|omega|conv=>whnf)
    exact ⟨_,.hd rfl hjl,rfl⟩
theorem w3m {l:List S} {j:Nat} (hj:j<l.length) {P:S->Prop} (hok : ∀ t∈flL l,P t):P l[j]∧(∀ t∈flL l[j].thn,P t) ∧ ∀ t∈flL l[j].els,P t:=by
 have key : ∀ (m:List S) (i:Nat) (h:i<m.length) (t:S),t∈flS m[i]->t∈flL m:=fun m=>by
  induction m with
  | nil=>intro i h;simp at h
  | cons a r ih =>
    intro i h t ht;rw [flL];cases i with
    | zero=>exact List.mem_append.2 (.inl ht)
    | succ i=>exact List.mem_append.2 (.inr (ih i (by simpa using h) t ht))
 have hs : ∀ t,t∈flS l[j]->P t:=fun t ht=>hok t (key l j hj t ht);refine ⟨hs _ (by rw [q6b];exact mem_cons_self),fun t ht=>hs t ?_,fun t ht=>hs t ?_⟩
 ·rw [q6b];exact mem_cons_of_mem _ (List.mem_append.2 (.inl ht))
 ·rw [q6b];exact mem_cons_of_mem _ (List.mem_append.2 (.inr ht))
def w8l (a b:Str) (s:S):S := .mk s.id s.kind (s.labels.map (QQ a b)) (QQ a b s.name) (QQ a b s.proc) (swX a b s.x) s.has (s.args.map (swA a b)) (swL a b s.thn) (swL a b s.els)
theorem HX (a b:Str) : ∀ (k:Nat) (l:List S) (_:cntL l<k) (_:cntL l<=1000000) (_ : ∀ t∈flL l,okC t),SpecP Tryz.prog 93 [eSs l,.str a,.str b] (fun r=>r=eSs (swL a b l)):=by
 intro k;induction k with
 | zero=>intro l h;omega
 | succ k ih =>
   intro l hk hn hok;have hsl:(S.avs l).length=l.length:=by rw [S.avs_eq,length_map]
   have hcl:=q1e l;refine sB JR Tryz.func93 rfl Tryz.call93 ?_;conv=>whnf
   repeat' (refine iM fun _=>?_;conv=>whnf)
   refine LoopK.inv QJ (fun j:Nat=>⟨[(1,.p (.str a)),(2,.p (.str b)),(7,.hd 0 0 j),(13,.p (eSs l)),(14,.p (.int .i64 (S.avs l).length)),(15,.p (.int .i64 j))],[(0,.own 40 13 (S.avs ((swL a b l).take j)))]⟩) (fun j=>j<=l.length) (fun j=>l.length-j) 0
    (Le.mk [(0,.own 40 13 [])] (by simp [Chunk.new0];rfl) (by simp) (by simp) (.cons (.refl _) (.cons (.refl _) (.cons (.nil mem_cons_self) (.cons (.refl _) (.cons (.refl _) (.cons (.refl _) .nil)))))) (.new mem_cons_self .nil)) (zero_le _) ?_
   intro j h2;rcases Nat.lt_or_ge j l.length with hj|hj
   ·have htm:=q2p (List.getElem_mem hj);have hcs:=WD l[j];obtain ⟨hself,hsub1,hsub2⟩:=w3m hj hok;have h5:=XW l[j].labels a b hself.2.1;have hC:=UH a b 20001 l[j].x (by have:=hself.1;omega) (by omega);have h6:=ih l[j].thn (by omega) (by omega) hsub1;have h7:=ih l[j].els (by omega) (by omega) hsub2;have hargl:(l[j].args.map fun x=>AV.agg x.cells).length=l[j].args.length:=length_map _;have hacl:j=(S.avs ((swL a b l).take j)).length:=by rw [S.avs_eq,length_map,length_take,q5g];omega
    have hav:S.avs ((swL a b l).take (j+1))=S.avs ((swL a b l).take j)++[.agg (w8l a b l[j]).cells]:=by
     rw [S.avs_eq,S.avs_eq,x6t,List.take_add_one,List.getElem?_map,List.getElem?_eq_getElem hj,List.map_append];show _++[AV.agg (swS a b l[j]).cells]=_;rw [show swS a b l[j]=w8l a b l[j] from HU a b l[j]]
    generalize S.avs ((swL a b l).take j)=acc at hacl hav ⊢;have hal:=hself.2.2.1;have hax:=hself.2.2.2;conv=>whnf
    repeat' (first|((first|(refine iM fun _=>?_)|refine cP (XF _ _ _) ?_|refine dA ?_|refine And.intro rfl ?_|refine QZ (by omega) ?_|refine cP h5 ?_|refine cP hC ?_);conv=>whnf)|(apply bD<;>intro _<;>first|omega|conv=>whnf)|(refine And.intro ?_ ?_<;>conv=>whnf))
    all_goals
     refine LoopK.inv QJ (fun i:Nat=>⟨[(1,.p (.str a)),(2,.p (.str b)),(7,.hd 0 0 j),(9,.p (.ip l[j].cells)),(10,.ptr 1 0),(13,.p (eSs l)),(14,.p (.int .i64 (S.avs l).length)),(15,.p (.int .i64 j)),(47,.p (z1q l[j].args)),(48,.p (.int .i64 (l[j].args.map fun x=>AV.agg x.cells).length)),(49,.p (.int .i64 i))],[(1,.obj 40 [.p (.int .i64 l[j].id),.p (.int .i64 l[j].kind),.p (eStrs (l[j].labels.map (QQ a b))),.p (.str (QQ a b l[j].name)),.p (.str (QQ a b l[j].proc)),.p (.int .i64 (swX a b l[j].x).op),.p (.int .i64 (swX a b l[j].x).n),.p (.str (swX a b l[j].x).name),.p (.sl (X.avs (swX a b l[j].x).kids)),.p (.bool l[j].has),.hd 2 0 i,.p .nils,.p .nils]),(0,.own 40 13 acc),(2,.own 128 6 ((l[j].args.take i).map fun x => .agg (swA a b x).cells))]⟩) (fun i=>i<=l[j].args.length) (fun i=>l[j].args.length-i) 0
      (Le.mk [(2,.own 128 6 [])] (by simp [Chunk.new0];rfl) (by simp) (by simp) (.cons (.refl _) (.cons (.refl _) (.cons (.refl _) (.cons (.refl _) (.cons (.refl _) (.cons (.refl _) (.cons (.refl _) (.cons (.refl _) (.cons (.refl _) (.cons (.refl _) (.cons (.refl _) (.nil)))))))))))) (.cons rfl (.obj (.cons (.refl _) (.cons (.refl _) (.cons (.refl _) (.cons (.refl _) (.cons (.refl _) (.cons (.refl _) (.cons (.refl _) (.cons (.refl _) (.cons (.refl _) (.cons (.refl _) (.cons (.nil mem_cons_self) (.cons (.refl _) (.cons (.refl _) .nil)))))))))))))) (.cons rfl (.refl _) (.new mem_cons_self .nil)))) (zero_le _) ?_
     intro i h3;rcases Nat.lt_or_ge i l[j].args.length with hi|hi
     ·have hax1:=hax _ (List.getElem_mem hi);have hD:=UH a b 20001 l[j].args[i].x (by omega) (by omega);have htk:((l[j].args.take (i+1)).map fun x=>AV.agg (swA a b x).cells)=((l[j].args.take i).map fun x=>AV.agg (swA a b x).cells)++[.agg (swA a b l[j].args[i]).cells]:=by
       rw [take_succ_eq_append_getElem hi,List.map_append];rfl
      have hcl:((l[j].args.take i).map fun x=>AV.agg (swA a b x).cells).length=i:=by rw [length_map,length_take];omega
      generalize ((l[j].args.take i).map fun x=>AV.agg (swA a b x).cells)=accA at htk hcl ⊢;conv=>whnf
      repeat' (first|((first|refine cP (XF _ _ _) ?_|refine dA ?_|refine And.intro rfl ?_|refine aD ?_|refine bP ?_|(refine iA fun _=>?_)|refine wI ?_|refine cP hD ?_|refine AppK.mk hcl.symm rfl (by show (i+1)*80<=140737488355328;omega) (by show i+1<=9223372036854775807;omega) (fun x hx=>by rcases List.mem_singleton.1 hx with rfl;exact ⟨rfl,rfl⟩) ?_);conv=>whnf)|(apply bD<;>intro _<;>first|omega|conv=>whnf)|(refine And.intro ?_ ?_<;>conv=>whnf))
      all_goals exact ⟨i+1,hi,by omega,Le.of_eq (by rw [htk];rfl)⟩
     ·have hA:((l[j].args.take i).map fun x=>AV.agg (swA a b x).cells)=((w8l a b l[j]).args.map fun x => .agg x.cells):=by
       rw [take_of_length_le hi];show _=(l[j].args.map (swA a b)).map _;rw [List.map_map];rfl
      have hcl:i=((l[j].args.take i).map fun x=>AV.agg (swA a b x).cells).length:=by rw [length_map,length_take];omega
      generalize ((l[j].args.take i).map fun x=>AV.agg (swA a b x).cells)=accA at hA hcl ⊢;conv=>whnf
      repeat' (first|((first|refine dA ?_|refine And.intro rfl ?_|refine cP h6 ?_|refine cP h7 ?_);conv=>whnf)|(apply bD<;>intro _<;>first|omega|conv=>whnf))
      all_goals
       refine q0v QJ (k:=2) 85 (w8l a b l[j]).cells rfl rfl rfl (fun q u c h1 h2 => ?_) ?_
       ·match q,h1,h2 with
        | 0,h1,h2=>cases h1;cases h2;exact .inl ⟨_,rfl,Sub.refl _⟩
        | 1,h1,h2=>cases h1;cases h2;exact .inl ⟨_,rfl,Sub.refl _⟩
        | 2,h1,h2=>cases h1;cases h2;exact .inl ⟨_,rfl,Sub.refl _⟩
        | 3,h1,h2=>cases h1;cases h2;exact .inl ⟨_,rfl,Sub.refl _⟩
        | 4,h1,h2=>cases h1;cases h2;exact .inl ⟨_,rfl,Sub.refl _⟩
        | 5,h1,h2=>cases h1;cases h2;exact .inl ⟨_,rfl,Sub.refl _⟩
        | 6,h1,h2=>cases h1;cases h2;exact .inl ⟨_,rfl,Sub.refl _⟩
        | 7,h1,h2=>cases h1;cases h2;exact .inl ⟨_,rfl,Sub.refl _⟩
        | 8,h1,h2=>cases h1;cases h2;exact .inl ⟨_,rfl,Sub.refl _⟩
        | 9,h1,h2=>cases h1;cases h2;exact .inl ⟨_,rfl,Sub.refl _⟩
        | 10,h1,h2=>cases h1;cases h2;exact .inr ⟨_,rfl,hcl,by rw [hA]⟩
        | 11,h1,h2=>cases h1;cases h2;exact .inl ⟨_,rfl,Sub.refl _⟩
        | 12,h1,h2=>cases h1;cases h2;exact .inl ⟨_,rfl,Sub.refl _⟩
        | q+13,h1,h2=>simp at h1
       conv=>whnf
       repeat' ((first|refine And.intro rfl ?_|refine aD ?_|refine bP ?_|refine wI ?_|refine AppK.mk hacl rfl (by show (j+1)*208<=140737488355328;omega) (by show j+1<=9223372036854775807;omega) (fun x hx=>by rcases List.mem_singleton.1 hx with rfl;exact ⟨rfl,rfl⟩) ?_);conv=>whnf)
       exact ⟨j+1,hj,by omega,Le.of_eq (by rw [hav];rfl)⟩
   ·have hall:(swL a b l).take j=swL a b l:=take_of_length_le (by rw [q5g];exact hj);have hjl:j=(S.avs (swL a b l)).length:=by rw [S.avs_eq,length_map,q5g];omega
    rw [hall];conv=>whnf
    repeat' (apply bD<;>intro _<;>first|omega|conv=>whnf)
    exact ⟨_,.hd rfl hjl,rfl⟩
theorem z3u : ∀ (l:List Pr) (j:Nat),QM l j<=cntP l
 | _,0=>by rw [QM];omega
 | [],j+1=>by rw [QM];omega
 | g::r,j+1=>by rw [QM,cntP];have:=z3u r j;omega
structure CopyF (p:Pg):Prop where
 procs:p.procs.length<=1000
 globals:p.globals.length<=1000000
 pr : ∀ f∈p.procs,f.vars.length<=1000000∧f.fin.length<=1000000∧f.params.length<=1000000∧cntL f.body<=100000 ∧ ∀ t∈flL f.body,okC t∧t.id ≠ -1
def v2x (p:Pg):Heap:=[(2,.obj 25 [.p (eStrs p.globals),.hd 1 0 p.procs.length]),(1,.own 98 5 (p.procs.map fun f => .agg f.cells))]
def w9h (p:Pg):Heap:=[(6,.own 98 5 (p.procs.map fun f => .agg f.cells)),(1,.obj 25 [.p (eStrs p.globals),.hd 6 0 p.procs.length])]
theorem q1a (p:Pg) (h:CopyF p):SpecH Tryz.prog 47 [.p (.agg p.cells),.p (.agg w0b)] [] (fun r H=>r = .agg [.p (eStrs p.globals),.hd 1 0 p.procs.length]∧H=v2x p):=by
 refine sH NG Tryz.func47 rfl Tryz.call47 ?_;conv=>whnf
 have hgt:=ZM p.globals h.globals;have hpm:(p.procs.map fun f=>AV.agg f.cells).length=p.procs.length:=length_map _;have hpl:=h.procs;repeat' ((first|(refine iM fun _=>?_)|refine And.intro rfl ?_|refine cP hgt ?_);conv=>whnf)
 refine LoopK.inv QJ (fun j:Nat=>⟨[(3,.p (.ip w0b)),(4,.ptr 2 0),(5,.ptr 0 0),(14,.p (.sl (p.procs.map fun f=>AV.agg f.cells))),(15,.p (.int .i64 (p.procs.map fun f=>AV.agg f.cells).length)),(16,.p (.int .i64 j))],[(0,.obj 25 [.p (eStrs p.globals),.hd 1 0 j]),(2,.obj 25 [.p .nils,.p .nils]),(1,.own 98 5 ((p.procs.take j).map fun f => .agg f.cells))]⟩) (fun j=>j<=p.procs.length) (fun j=>p.procs.length-j) 0
  (Le.mk [(1,.own 98 5 [])] (by simp [Chunk.new0];rfl) (by simp) (by simp) (.cons (.refl _) (.cons (.refl _) (.cons (.refl _) (.cons (.refl _) (.cons (.refl _) (.cons (.refl _) .nil)))))) (.cons rfl (.obj (.cons (.refl _) (.cons (.nil mem_cons_self) .nil))) (.cons rfl (.refl _) (.new mem_cons_self .nil)))) (zero_le _) ?_
 intro j h2;rcases Nat.lt_or_ge j p.procs.length with hj|hj
 ·obtain ⟨hv,hfin,hpm2,hcb,hok⟩:=h.pr _ (List.getElem_mem hj);have h5:=ZM p.procs[j].vars hv;have h6:=ZM p.procs[j].fin hfin;have h7:=q1s (cntL p.procs[j].body+1) p.procs[j].body (by omega) (by omega) hok;have htl:((p.procs.take j).map fun f=>AV.agg f.cells).length=j:=by rw [length_map,length_take];omega
  have htk:((p.procs.take (j+1)).map fun f=>AV.agg f.cells)=((p.procs.take j).map fun f=>AV.agg f.cells)++[.agg p.procs[j].cells]:=by
   rw [take_succ_eq_append_getElem hj,List.map_append];rfl
  generalize ((p.procs.take j).map fun f=>AV.agg f.cells)=acc at htl htk ⊢;have hpa:(p.procs[j].params.map fun x=>AV.agg x.cells).length=p.procs[j].params.length:=length_map _;conv=>whnf
  repeat' (first|((first|refine dA ?_|refine And.intro rfl ?_|refine aD ?_|(refine iA fun _=>?_)|refine cP h5 ?_|refine cP h6 ?_|refine cP h7 ?_|refine AppK.mk rfl rfl (by rw [hpa];show (0+p.procs[j].params.length)*24<=140737488355328;omega) (by rw [hpa];show 0+p.procs[j].params.length<=9223372036854775807;omega) (fun x hx=>by obtain ⟨y,_,rfl⟩:=List.mem_map.1 hx;exact ⟨rfl,rfl⟩) ?_);conv=>whnf)|(apply bD<;>intro _<;>first|omega|conv=>whnf)|(refine And.intro ?_ ?_<;>conv=>whnf))
  all_goals
   refine q0v QJ (k:=4) 41 p.procs[j].cells rfl rfl rfl (fun q u c h1 h2 => ?_) ?_
   ·match q,h1,h2 with
    | 0,h1,h2=>cases h1;cases h2;exact .inl ⟨_,rfl,Sub.refl _⟩
    | 1,h1,h2=>cases h1;cases h2;exact .inr ⟨_,rfl,by simp,rfl⟩
    | 2,h1,h2=>cases h1;cases h2;exact .inl ⟨_,rfl,Sub.refl _⟩
    | 3,h1,h2=>cases h1;cases h2;exact .inl ⟨_,rfl,Sub.refl _⟩
    | 4,h1,h2=>cases h1;cases h2;exact .inl ⟨_,rfl,Sub.refl _⟩
    | q+5,h1,h2=>simp at h1
   conv=>whnf
   repeat' ((first|refine And.intro rfl ?_|refine aD ?_|refine bP ?_|refine wI ?_|refine AppK.mk htl.symm rfl (by show (j+1)*112<=140737488355328;omega) (by show j+1<=9223372036854775807;omega) (fun x hx=>by rcases List.mem_singleton.1 hx with rfl;exact ⟨rfl,rfl⟩) ?_);conv=>whnf)
   exact ⟨j+1,hj,by omega,Le.of_eq (by rw [htk];rfl)⟩
 ·have hA:((p.procs.take j).map fun f=>AV.agg f.cells)=p.procs.map fun f => .agg f.cells:=by
   rw [take_of_length_le hj]
  have hje:j=p.procs.length:=by omega
  subst hje;rw [hA];conv=>whnf
  repeat' (first|(refine And.intro rfl ?_;conv=>whnf)|(apply bD<;>intro _<;>first|omega|conv=>whnf))
  exact ⟨_,LSub.refl _,rfl,rfl⟩
theorem ML (p:Pg) (h:CopyF p):SpecH Tryz.prog 97 [.p (.agg p.cells)] [] (fun r H=>r = .agg [.p (eStrs p.globals),.hd 6 0 p.procs.length]∧H=w9h p):=by
 refine sH DC Tryz.func97 rfl Tryz.call97 ?_;conv=>whnf
 repeat' ((first|refine And.intro rfl ?_|(refine CallK.heap [] 5 (ArgsH.cons (LSub.refl _) (ArgsH.cons (LSub.refl _) ArgsH.nil)) BlksH.nil (q1a p h) rfl rfl ?_;rintro l' H' ⟨rfl,rfl⟩));conv=>whnf)
 exact ⟨_,LSub.refl _,rfl,rfl⟩
def DO (p:Pg) (j:Nat):List Pr:=(x0b 0 p.procs).take j++p.procs.drop j
theorem x2z : ∀ (l:List Pr) (n j:Nat) (f:Pr),l[j]? = some f->(x0b n l)[j]? = some ⟨f.name,f.params,f.vars,nmL (n+QM l j) f.body,f.fin⟩
 | g::r,n,0,f,h=>by cases h;rw [x0b];rfl
 | g::r,n,j+1,f,h=>by
   rw [x0b,List.getElem?_cons_succ,x2z r (n+cntL g.body) j f (by simpa using h),QM,Nat.add_assoc]
theorem JS : ∀ (l:List Pr) (n:Nat),(x0b n l).length=l.length
 | [],n=>rfl
 | g::r,n=>by rw [x0b,List.length_cons,List.length_cons,JS r]
theorem z4f (p:Pg) {j:Nat} (h:j<=p.procs.length):(DO p j).length=p.procs.length:=by
 unfold DO;rw [length_append,length_take,List.length_drop,JS];omega
theorem z3g (p:Pg) {j:Nat} (hj:j<p.procs.length):(DO p j)[j]? = some p.procs[j]:=by
 unfold DO;rw [List.getElem?_append_right (by rw [length_take,JS];omega),length_take,JS,List.getElem?_drop];rw [show j+(j-min j p.procs.length)=j by omega,List.getElem?_eq_getElem hj]
theorem z1s (p:Pg) {j:Nat} (hj:j<p.procs.length):DO p (j+1)=(DO p j).set j ⟨p.procs[j].name,p.procs[j].params,p.procs[j].vars,nmL (QM p.procs j) p.procs[j].body,p.procs[j].fin⟩:=by
 have h1:=x2z p.procs 0 j _ (List.getElem?_eq_getElem hj);rw [Nat.zero_add] at h1;unfold DO;have hl:((x0b 0 p.procs).take j).length=j:=by rw [length_take,JS];omega
 rw [List.set_append_right _ _ (by omega),hl,Nat.sub_self,List.drop_eq_getElem_cons hj,List.set_cons_zero,List.take_add_one,h1];simp
theorem z3y {l:List Pr} {j:Nat} (hj:j<l.length):QM l (j+1)=QM l j+cntL l[j].body:=by
 induction l generalizing j with
 | nil=>simp at hj
 | cons g r ih =>
   cases j with
   | zero=>rw [QM,QM,QM];simp
   | succ j =>
     rw [QM,QM,ih (by simpa using hj)];simp only [List.getElem_cons_succ];omega
theorem BP (p:Pg) (h:CopyF p) (hc:cntP p.procs<=100000):SpecP Tryz.prog 99 [.agg p.cells] (fun r=>r = .agg (w5e p).cells):=by
 refine sB HS Tryz.func99 rfl Tryz.call99 ?_;conv=>whnf
 have hpm:(p.procs.map fun f=>AV.agg f.cells).length=p.procs.length:=length_map _;have hpl:=h.procs;repeat' ((first|(refine iM fun _=>?_)|refine And.intro rfl ?_|(refine CallK.heap [] 20 (ArgsH.cons (LSub.refl _) ArgsH.nil) BlksH.nil (ML p h) rfl rfl ?_;rintro l' H' ⟨rfl,rfl⟩));conv=>whnf)
 refine LoopK.inv QJ (fun j:Nat=>⟨[(1,.p (.ip p.cells)),(2,.ptr 1 0),(3,.ptr 0 0),(4,.p (.int .i64 (QM p.procs j))),(10,.p (.int .i64 p.procs.length)),(11,.p (.int .i64 j))],[(0,.obj 25 [.p (eStrs p.globals),.hd 26 0 p.procs.length]),(26,.own 98 5 ((DO p j).map fun f => .agg f.cells)),(1,.obj 25 [.p .nils,.p .nils])]⟩) (fun j=>j<=p.procs.length) (fun j=>p.procs.length-j) 0
  (Le.of_eq (by rw [show DO p 0=p.procs from rfl,show QM p.procs 0=0 by rw [QM]];rfl)) (zero_le _) ?_
 intro j h2;have hrl:=z4f p h2;rcases Nat.lt_or_ge j p.procs.length with hj|hj
 ·obtain ⟨hv,hfin,hpm2,hcb,hok⟩:=h.pr _ (List.getElem_mem hj);have hle:=z3u p.procs j;have h5:=HG (cntL p.procs[j].body+1) p.procs[j].body (by omega) (QM p.procs j) (by omega) fun t ht=>(hok t ht).1;have hget:((DO p j).map fun f=>AV.agg f.cells)[j]? = some (.agg p.procs[j].cells):=by rw [List.getElem?_map,z3g p hj];rfl
  have hset:((DO p j).map fun f=>AV.agg f.cells).set j (.agg (Pr.mk p.procs[j].name p.procs[j].params p.procs[j].vars (nmL (QM p.procs j) p.procs[j].body) p.procs[j].fin).cells)=(DO p (j+1)).map fun f=>AV.agg f.cells:=by
   rw [z1s p hj,<- List.map_set]
  have hst:=z3y hj;generalize ((DO p j).map fun f=>AV.agg f.cells)=row at hget hset ⊢;conv=>whnf
  repeat' (first|((first|refine And.intro rfl ?_|(refine iA fun _=>?_)|refine wI ?_|refine DrawK.of QJ mixed (.cons 3 false (.cons 4 false (.cons 5 false (.cons 6 false (.cons 7 false (.cons 8 false (.cons 9 false (.cons 0 false (.cons 2 false (.fork 1 (.cons 10 true (.cons 11 false (.cons 12 false (.cons 14 true (.cons 15 true (.cons 13 false (.cons 16 true (.cons 17 true .nil)))))))) 10 (.cons 1 true (.cons 11 false (.cons 12 false (.cons 14 true (.cons 15 true (.cons 13 false (.cons 16 true (.cons 17 true .nil)))))))))))))))))) (by kernel_rfl) ?_|refine cP h5 ?_|refine IdxL.mk j rfl hj ?_|refine StOwn.mk j 3 (.agg p.procs[j].cells) (.agg (Pr.mk p.procs[j].name p.procs[j].params p.procs[j].vars (nmL (QM p.procs j) p.procs[j].body) p.procs[j].fin).cells) (by show (0+j)*5+3=j*5+3;omega) hget (Nat.le_of_ble_eq_true rfl) rfl ?_);conv=>whnf)|(apply bD<;>intro _<;>first|omega|conv=>whnf)|(refine And.intro ?_ ?_<;>conv=>whnf))
  all_goals exact ⟨j+1,hj,by omega,Le.of_eq (by rw [<- hset,hst];rfl)⟩
 ·have hje:j=p.procs.length:=by omega
  subst hje;have hA:DO p p.procs.length=(w5e p).procs:=by
   unfold DO w5e;rw [take_of_length_le (by rw [JS];exact Nat.le_refl _),List.drop_eq_nil_of_le (Nat.le_refl _),append_nil]
  have hcl:p.procs.length=((w5e p).procs.map fun f=>AV.agg f.cells).length:=by rw [length_map,<- hA,hrl]
  rw [hA];conv=>whnf
  repeat' (first|(refine And.intro rfl ?_;conv=>whnf)|(apply bD<;>intro _<;>first|omega|conv=>whnf))
  refine ⟨_,.agg (cs:=(w5e p).cells) rfl fun i l c h1 h3 => ?_,rfl⟩
  match i,h1,h3 with
  | 0,h1,h3=>cases h1;cases h3;exact .p (Sub.refl _)
  | 1,h1,h3 =>
    cases h1;cases h3;exact .hd rfl hcl
  | i+2,h1,h3=>simp at h1
section
variable {p:Pg} {j:Nat} {f:Pr}
end
section
variable {p:Pg} {j:Nat} {f:Pr}
end
structure Book where
 s:Sheet
 ways:List Way
 defs:List (List Str)
 uses:List (List Str)
 ins:List (List Str)
 outs:List (List Str)
def Book.cells (b:Book):List AV:=[.ip b.s.cells,.sl (b.ways.map fun w => .ip w.cells),.sl (b.defs.map eStrs),.sl (b.uses.map eStrs),.sl (b.ins.map eStrs),.sl (b.outs.map eStrs)]
def tapeS:Str:=[36,105,110]
def comB (p:Pg) (n:Str):Bool:=(n==tapeS)||p.globals.any fun s=>n==s
theorem GR (b:Book) (n:Str):SpecP Tryz.prog 209 [.ip b.cells,.str n] (fun r=>r = .bool (comB b.s.p n)):=by
 refine sB NQ Tryz.func209 rfl Tryz.call209 ?_;conv=>whnf
 repeat' (first|((first|(refine iM fun _=>?_)|refine cP (QW _ _) ?_|refine dA ?_|refine And.intro rfl ?_|refine aD ?_|refine aR ?_|refine bP ?_|(refine iA fun _=>?_)|refine IdxK.xs (by omega) ?_|refine QZ (by omega) ?_|(refine ByteK.at (by omega) ?_)|refine wI ?_);conv=>whnf)|(apply bD<;>intro _<;>first|omega|conv=>whnf)|(apply bE<;>intro _<;>first|omega|conv=>whnf)|(apply bN<;>intro _<;>conv=>whnf)|(apply bB<;>intro _<;>conv=>whnf))
 all_goals first
  | (have h9:(n==tapeS)=true:=by assumption
     exact RetK.tt (by unfold comB;rw [h9];rfl))
  | (have h9:(n==tapeS)=false:=by assumption
     exact RetK.bool (by unfold comB;rw [h9,Bool.false_or]))
theorem q8r (p:Pg) (j:Nat) (f:Pr) (h:XB p=true) (hj:p.procs[j]? = some f) (id:Int) (hid:plP p j f id):SpecP Tryz.prog 208 [.ip (QX p j f).cells,.int .i64 id] (fun r=>r = .bool ((QX p j f).live.getD (ixI p j f id).toNat false)):=by
 refine sB q2l Tryz.func208 rfl Tryz.call208 ?_;conv=>whnf
 have hT:=w8r h hj;have hI:=PM (QX p j f) f hT.hj hT.hc (by have:=hT.hn2;have:=hT.hn;have:=hT.hw;omega) id;have he:JA (loI (QX p j f).p (QX p j f).j) (hiI (QX p j f).p (QX p j f).j f) (QX p j f).n id=ixI p j f id:=rfl;rw [he] at hI;have hr:=HF hid;have hll:(QX p j f).live.length=cntL f.body+2:=by show (q3h _ (List.replicate (cntL f.body+2) false)).length=_;rw [z0f];simp
 generalize ixI p j f id=ix at *
 have hg:((QX p j f).live.map bv)[ix.toNat]? = some (bv ((QX p j f).live.getD ix.toNat false)):=by
  rw [List.getElem?_map,getD_eq_getElem?_getD,List.getElem?_eq_getElem (by omega)];rfl
 generalize (QX p j f).live.getD ix.toNat false=v at *
 cases v;all_goals
  repeat' (first|((first|(refine iM fun _=>?_)|refine dA ?_|refine And.intro rfl ?_|refine aD ?_|refine aR ?_|refine bP ?_|(refine iA fun _=>?_)|refine IdxK.xs (by omega) ?_|refine QZ (by omega) ?_|(refine ByteK.at (by omega) ?_)|refine wI ?_|refine cP hI ?_|(refine IdxK.at (k:=ix.toNat) (by omega) hg rfl ?_));conv=>whnf)|(apply bD<;>intro _<;>first|omega|conv=>whnf)|(apply bE<;>intro _<;>first|omega|conv=>whnf)|(apply bN<;>intro _<;>conv=>whnf)|(apply bB<;>intro _<;>conv=>whnf)|(refine And.intro ?_ ?_<;>conv=>whnf))
 all_goals first
  | exact RetK.tt rfl
  | exact RetK.ff rfl
  | trace_state
theorem x6j (l:List Str) (hlen:l.length<=1000000000):SpecH Tryz.prog 133 [.hd 1000 0 l.length] [(1000,.own 9 1 (l.map .str))] (fun r H=>r = .hd 1000 0 (XA l).length∧H=[(1000,.own 9 1 ((XA l).map .str))]):=by
 refine sH x0f Tryz.func133 rfl Tryz.call133 ?_;conv=>whnf
 repeat' (first|((first|(refine iM fun _=>?_)|refine dA ?_|refine And.intro rfl ?_|refine aD ?_|refine aR ?_|refine bP ?_|(refine iA fun _=>?_)|refine IdxK.xs (by omega) ?_|refine QZ (by omega) ?_|(refine ByteK.at (by omega) ?_)|refine wI ?_);conv=>whnf)|(apply bD<;>intro _<;>first|omega|conv=>whnf)|(apply bE<;>intro _<;>first|omega|conv=>whnf)|(apply bN<;>intro _<;>conv=>whnf)|(apply bB<;>intro _<;>conv=>whnf)|(refine CallK.heap [(1000,1000)] 0 (by repeat' (first|exact ArgsH.nil|refine ArgsH.cons ?_ ?_|exact LSub.refl _|exact LSub.p Sub.nils|exact LSub.p (Sub.tt rfl)|exact LSub.p (Sub.ff rfl)|exact LSub.p (Sub.int (by omega)))) (by refine BlksH.cons (j:=1000) rfl rfl ?_ ?_;exact CSub.refl _;exact BlksH.nil) (GZ l hlen) rfl rfl ?_;rintro l' H' ⟨rfl,rfl⟩;conv=>whnf)|(refine CallK.heap [(1000,1000)] 0 (ArgsH.cons (LSub.of_eq (by rw [VA];rfl)) ArgsH.nil) (by refine BlksH.cons (j:=1000) rfl rfl ?_ ?_;exact CSub.refl _;exact BlksH.nil) (JH (YK l) (by rw [VA];omega)) rfl rfl ?_;rintro l' H' ⟨rfl,rfl⟩;conv=>whnf))
 all_goals first
  | exact RetHK.mk _ (LSub.refl _) ⟨rfl,rfl⟩
  | trace_state
theorem GI (b:Book) (t:S):SpecP Tryz.prog 212 [.ip b.cells,.agg t.cells] (fun r=>r = .int .i64 (q0t (fun f=>f.name==t.proc) b.s.p.procs)):=by
 refine sB MU Tryz.func212 rfl Tryz.call212 ?_;conv=>whnf
 have hP:=WZ b.s t.proc;repeat' (first|((first|(refine iM fun _=>?_)|refine dA ?_|refine And.intro rfl ?_|refine aD ?_|refine aR ?_|refine bP ?_|(refine iA fun _=>?_)|refine IdxK.xs (by omega) ?_|refine QZ (by omega) ?_|(refine ByteK.at (by omega) ?_)|refine wI ?_|refine cP hP ?_);conv=>whnf)|(apply bD<;>intro _<;>first|omega|conv=>whnf)|(apply bE<;>intro _<;>first|omega|conv=>whnf)|(apply bN<;>intro _<;>conv=>whnf)|(apply bB<;>intro _<;>conv=>whnf)|(refine And.intro ?_ ?_<;>conv=>whnf))
 all_goals exact RetK.p rfl
def w8f (O:List Str) (x:Arg×Param):Bool:=x.1.ref&&inS O x.2.name
def x8m (t:S) (f:Pr) (O:List Str) (j:Nat):List Str:=(((t.args.zip f.params).take j).filter (w8f O)).map fun x=>x.1.name
def w1s (p:Pg) (t:S) (f:Pr) (O:List Str):List Str:=(if t.name=[] then [] else [t.name])++x8m t f O t.args.length++O.filter (comB p)
theorem x8r (t:S) (f:Pr) (O:List Str) (j:Nat):(x8m t f O j).length<=j:=by
 unfold x8m;rw [length_map];exact Nat.le_trans (List.length_filter_le _ _) (by rw [length_take];omega)
theorem z5w {t:S} {f:Pr} {O:List Str} {j:Nat} (h1:j<t.args.length) (h2:j<f.params.length):x8m t f O (j+1)=x8m t f O j++(if t.args[j].ref=true∧inS O f.params[j].name=true then [t.args[j].name] else []):=by
 have hz:j<(t.args.zip f.params).length:=by rw [List.length_zip];omega
 unfold x8m;rw [take_succ_eq_append_getElem hz,List.filter_append,List.map_append];congr 1;have e:(t.args.zip f.params)[j]=(t.args[j],f.params[j]):=List.getElem_zip;rw [e];by_cases h:t.args[j].ref=true∧inS O f.params[j].name=true
 ·rw [if_pos h,filter_cons_of_pos (by unfold w8f;simp [h])];rfl
 ·rw [if_neg h,List.filter_cons_of_neg (by unfold w8f;simpa using h)];rfl
theorem q1b (b:Book) (t:S) (i:Nat) (f:Pr) (O:List Str) (hi:q0t (fun f=>f.name==t.proc) b.s.p.procs=i) (hf:b.s.p.procs[i]? = some f) (hO:b.outs[i]? = some O) (hs:O.Pairwise ltT) (hl:O.length<=1000000) (ha:t.args.length<=f.params.length) (hal:t.args.length<=1000000):SpecH Tryz.prog 207 [.p (.ip b.cells),.p (.agg t.cells)] [] (fun r H=>OneRow (q6m (w1s b.s.p t f O)) False r H):=by
 refine sH PY Tryz.func207 rfl Tryz.call207 ?_;conv=>whnf
 have hC:=GI b t;rw [hi] at hC;have hH:=fun x=>q2y O x hs (by omega);have hCo:=fun x=>GR b x;have hg1:(b.outs.map eStrs)[i]? = some (eStrs O):=by rw [List.getElem?_map,hO];rfl
 have hg2:(b.s.p.procs.map fun f=>AV.agg f.cells)[i]? = some (.agg f.cells):=by rw [List.getElem?_map,hf];rfl
 have ham:(t.args.map fun a=>AV.agg a.cells).length=t.args.length:=length_map _;have hOm:(O.map AV.str).length=O.length:=length_map _;repeat' (first|((first|(refine iM fun _=>?_)|refine dA ?_|refine And.intro rfl ?_|refine aD ?_|refine aR ?_|refine bP ?_|(refine iA fun _=>?_)|refine IdxK.xs (by omega) ?_|refine QZ (by omega) ?_|(refine ByteK.at (by omega) ?_)|refine wI ?_|refine QE (es:=[]) rfl (by simp) ?_|refine cP hC ?_);conv=>whnf)|(apply bD<;>intro _<;>first|omega|conv=>whnf)|(apply bE<;>intro _<;>first|omega|conv=>whnf)|(apply bN<;>intro _<;>conv=>whnf)|(apply bB<;>intro _<;>conv=>whnf))
 all_goals
  refine LoopK.inv QJ (fun x:Nat×List Str=>⟨[(0,.p (.ip b.cells)),(5,.hd 0 0 x.2.length),(6,.p (.int .i64 i)),(23,.p (.sl (t.args.map fun a => .agg a.cells))),(24,.p (.int .i64 (t.args.map fun a=>AV.agg a.cells).length)),(25,.p (.int .i64 x.1))],[(0,.own 9 1 (x.2.map .str))]⟩) (fun x=>x.1<=t.args.length∧x.2=(if t.name=[] then [] else [t.name])++x8m t f O x.1) (fun x=>t.args.length-x.1) (0,if t.name=[] then [] else [t.name]) ?_ ⟨zero_le _,by simp [x8m]⟩ ?_
  ·first
    | (have h9:(t.name==[])=true:=by assumption
       rw [if_pos (eq_of_beq h9)];exact Le.mk [(0,.own 9 1 [])] (by simp [Chunk.new0];rfl) (by simp) (by simp) (.cons (.refl _) (.cons (.nil mem_cons_self) (.cons (.refl _) (.cons (.refl _) (.cons (.refl _) (.cons (.refl _) .nil)))))) (.new mem_cons_self .nil))
    | (have h9:(t.name==[])=false:=by assumption
       rw [if_neg (by simpa using h9)];exact Le.of_eq rfl)
  rintro ⟨j,acc⟩ ⟨h2,h3⟩;simp only at h2 h3 ⊢;have hal2:acc.length<=j+1:=by
   rw [h3,length_append];have:=x8r t f O j;split<;>simp<;>omega
  rcases Nat.lt_or_ge j t.args.length with hj|hj
  ·have hjp:j<f.params.length:=by omega
   have hst:=z5w (O:=O) hj hjp;have hHj:=hH f.params[j].name;have hg3:(f.params.map fun a=>AV.agg a.cells)[j]? = some (.agg f.params[j].cells):=by rw [List.getElem?_map,List.getElem?_eq_getElem hjp];rfl
   conv=>whnf
   repeat' (first|((first|(refine iM fun _=>?_)|refine dA ?_|refine And.intro rfl ?_|refine aD ?_|refine aR ?_|refine bP ?_|(refine iA fun _=>?_)|refine IdxK.xs (by omega) ?_|refine QZ (by omega) ?_|(refine ByteK.at (by omega) ?_)|refine wI ?_|(refine IdxK.at (k:=i) rfl hg1 rfl ?_)|(refine IdxK.at (k:=i) rfl hg2 rfl ?_)|(refine IdxK.at (k:=j) rfl hg3 rfl ?_)|refine cP hHj ?_|refine QE (by simp) (by rw [length_map];omega) ?_);conv=>whnf)|(apply bD<;>intro _<;>first|omega|conv=>whnf)|(apply bE<;>intro _<;>first|omega|conv=>whnf)|(apply bN<;>intro _<;>conv=>whnf)|(apply bB<;>intro _<;>conv=>whnf)|(refine And.intro ?_ ?_<;>conv=>whnf))
   all_goals first
    | (have h9:t.args[j].ref=true:=by assumption
       have h10:inS O f.params[j].name=true:=by assumption
       exact ⟨(j+1,acc++[t.args[j].name]),⟨hj,by simp only;rw [hst,if_pos (show t.args[j].ref=true∧inS O f.params[j].name=true from ⟨h9,h10⟩),h3,List.append_assoc]⟩,by simp only;omega,Le.of_eq (by simp only [length_append,List.map_append];rfl)⟩)
    | (have h10:inS O f.params[j].name=false:=by assumption
       exact ⟨(j+1,acc),⟨hj,by simp only;rw [hst,if_neg (show ¬(t.args[j].ref=true∧inS O f.params[j].name=true) from fun hh=>by rw [h10] at hh;cases hh.2),append_nil];exact h3⟩,by simp only;omega,Le.of_eq rfl⟩)
    | (have h9:t.args[j].ref=false:=by assumption
       exact ⟨(j+1,acc),⟨hj,by simp only;rw [hst,if_neg (show ¬(t.args[j].ref=true∧inS O f.params[j].name=true) from fun hh=>by rw [h9] at hh;cases hh.1),append_nil];exact h3⟩,by simp only;omega,Le.of_eq rfl⟩)
    | trace_state
  ·obtain rfl:j=t.args.length:=by omega
   conv=>whnf
   repeat' (first|((first|(refine iM fun _=>?_)|refine dA ?_|refine And.intro rfl ?_|refine aD ?_|refine aR ?_|refine bP ?_|(refine iA fun _=>?_)|refine IdxK.xs (by omega) ?_|refine QZ (by omega) ?_|(refine ByteK.at (by omega) ?_)|refine wI ?_|(refine IdxK.at (k:=i) rfl hg1 rfl ?_));conv=>whnf)|(apply bD<;>intro _<;>first|omega|conv=>whnf)|(apply bE<;>intro _<;>first|omega|conv=>whnf)|(apply bN<;>intro _<;>conv=>whnf)|(apply bB<;>intro _<;>conv=>whnf))
   refine LoopK.inv QJ (fun x:Nat×List Str=>⟨[(0,.p (.ip b.cells)),(5,.hd 0 0 x.2.length),(70,.p (eStrs O)),(71,.p (.int .i64 (O.map AV.str).length)),(72,.p (.int .i64 x.1))],[(0,.own 9 1 (x.2.map .str))]⟩) (fun x=>x.1<=O.length∧x.2=acc++(O.take x.1).filter (comB b.s.p)∧x.2.length<=acc.length+x.1) (fun x=>O.length-x.1) (0,acc) (Le.of_eq rfl) ⟨zero_le _,by simp,by simp⟩ ?_;rintro ⟨q,o⟩ ⟨h4,h5,h6⟩;simp only at h4 h5 h6 ⊢;rcases Nat.lt_or_ge q O.length with hq|hq
   ·have hn1:=take_succ_eq_append_getElem hq;have hCq:=hCo O[q];conv=>whnf
    repeat' (first|((first|(refine iM fun _=>?_)|refine dA ?_|refine And.intro rfl ?_|refine aD ?_|refine aR ?_|refine bP ?_|(refine iA fun _=>?_)|refine IdxK.xs (by omega) ?_|refine QZ (by omega) ?_|(refine ByteK.at (by omega) ?_)|refine wI ?_|refine cP hCq ?_|refine QE (by simp) (by rw [length_map];omega) ?_);conv=>whnf)|(apply bD<;>intro _<;>first|omega|conv=>whnf)|(apply bE<;>intro _<;>first|omega|conv=>whnf)|(apply bN<;>intro _<;>conv=>whnf)|(apply bB<;>intro _<;>conv=>whnf))
    all_goals first
     | (have h9:comB b.s.p O[q]=true:=by assumption
        exact ⟨(q+1,o++[O[q]]),⟨hq,by simp only;rw [hn1,List.filter_append,filter_cons_of_pos h9,h5,List.append_assoc];rfl,by simp;omega⟩,by simp only;omega,Le.of_eq (by simp only [length_append,List.map_append];rfl)⟩)
     | (have h9:comB b.s.p O[q]=false:=by assumption
        exact ⟨(q+1,o),⟨hq,by simp only;rw [hn1,List.filter_append,List.filter_cons_of_neg (by rw [h9];decide),h5];simp,by simp only;omega⟩,by simp only;omega,Le.of_eq rfl⟩)
     | trace_state
   ·rw [take_of_length_le hq] at h5;have hfin:o=w1s b.s.p t f O:=by rw [h5,h3];rfl
    subst hfin;conv=>whnf
    repeat' (first|((first|(refine iM fun _=>?_)|refine dA ?_|refine And.intro rfl ?_|refine aD ?_|refine aR ?_|refine bP ?_|(refine iA fun _=>?_)|refine IdxK.xs (by omega) ?_|refine QZ (by omega) ?_|(refine ByteK.at (by omega) ?_)|refine wI ?_);conv=>whnf)|(apply bD<;>intro _<;>first|omega|conv=>whnf)|(apply bE<;>intro _<;>first|omega|conv=>whnf)|(apply bN<;>intro _<;>conv=>whnf)|(apply bB<;>intro _<;>conv=>whnf))
    all_goals exact RetHK.mk _ (LSub.refl _) (OneRow.str rfl)
def retS:Str:=[36,114,101,116]
def caI (p:Pg) (t:S):Int:=q0t (fun f=>f.name==t.proc) p.procs
def caP (p:Pg) (t:S):Pr:=p.procs.getD (caI p t).toNat Pr0
def caO (b:Book) (t:S):List Str:=b.outs.getD (caI b.s.p t).toNat []
def FR (b:Book) (t:S):List Str:=if t.kind=1 then [t.name] else if t.kind=2 then [t.name,tapeS] else if t.kind=9 then [retS] else if t.kind=4 then w1s b.s.p t (caP b.s.p t) (caO b t) else []
structure CallOk (b:Book) (t:S):Prop where
 i0:0<=caI b.s.p t
 i1:(caI b.s.p t).toNat<b.s.p.procs.length
 io:b.s.p.procs.length<=b.outs.length
 rise:(caO b t).Pairwise ltT
 len:(caO b t).length<=1000000
 args:t.args.length<=(caP b.s.p t).params.length
 al:t.args.length<=1000000
theorem z5x {b:Book} {t:S} (h:CallOk b t):SpecH Tryz.prog 207 ([AV.ip b.cells,.agg t.cells].map .p) [] (OneRow (q6m (w1s b.s.p t (caP b.s.p t) (caO b t))) False):=by
 have h1:=h.i1;have h2:=h.io;refine q1b b t (caI b.s.p t).toNat (caP b.s.p t) (caO b t) ?_ ?_ ?_ h.rise h.len h.args h.al
 ·rw [Int.toNat_of_nonneg h.i0];rfl
 ·unfold caP;rw [getD_eq_getElem?_getD,List.getElem?_eq_getElem h1];rfl
 ·unfold caO;rw [getD_eq_getElem?_getD,List.getElem?_eq_getElem (by omega)];rfl
theorem q5s (b:Book) (t:S) (h4:t.kind=4->CallOk b t):SpecH Tryz.prog 134 [.p (.ip b.cells),.p (.agg t.cells)] [] (fun r H=>OneRow (q6m (FR b t)) (FR b t=[]) r H):=by
 refine sH q1p Tryz.func134 rfl Tryz.call134 ?_;conv=>whnf
 have hC:=fun h=>z5x (h4 h);repeat' (first|((first|(refine iM fun _=>?_)|refine dA ?_|refine And.intro rfl ?_|refine aD ?_|refine aR ?_|(refine iA fun _=>?_)|refine IdxK.xs (by omega) ?_|refine QZ (by omega) ?_|(refine ByteK.at (by omega) ?_)|refine wI ?_|refine BsK.own (fun x hx=>by rcases List.mem_singleton.1 hx with rfl;rfl) rfl ?_|refine BsK.own (fun x hx=>by rcases List.mem_cons.1 hx with rfl|hx;rfl;rcases List.mem_singleton.1 hx with rfl;rfl) rfl ?_|(refine KB 0 rfl (hC (by assumption)) (.cons (.p (Sub.refl _)) (.cons (.p (Sub.refl _)) .nil)) (fun h=>h.elim) ?_;rintro _ _ _ _ ⟨rfl,rfl,rfl⟩));conv=>whnf)|(apply bD<;>intro _<;>first|omega|conv=>whnf)|(apply bE<;>intro _<;>first|omega|conv=>whnf)|(apply bN<;>intro _<;>conv=>whnf)|(apply bB<;>intro _<;>conv=>whnf))
 ·rw [show FR b t=[t.name] by unfold FR;rw [if_pos (by assumption)]];exact RetHK.mk _ (LSub.refl _) (UG (L:=[t.name]) rfl)
 ·rw [show FR b t=[t.name,tapeS] by unfold FR;rw [if_neg (by assumption),if_pos (by assumption)]];exact RetHK.mk _ (LSub.refl _) (UG (L:=[t.name,tapeS]) rfl)
 ·rw [show FR b t=[retS] by unfold FR;rw [if_neg (by assumption),if_neg (by assumption),if_pos (by assumption)]];exact RetHK.mk _ (LSub.refl _) (UG (L:=[retS]) rfl)
 ·rw [show FR b t=w1s b.s.p t (caP b.s.p t) (caO b t) by unfold FR;rw [if_neg (by assumption),if_neg (by assumption),if_neg (by assumption),if_pos (by assumption)]];exact RetHK.mk _ (LSub.refl _) (UG (by rw [length_map]))
 ·exact RetHK.mk _ (LSub.refl _) (.inl ⟨rfl,rfl,by unfold FR;rw [if_neg (by assumption),if_neg (by assumption),if_neg (by assumption),if_neg (by assumption)]⟩)
def outB (p:Pg) (f:Pr) (n:Str):Bool:=comB p n||decide ((⟨n,true⟩:Param)∈f.params)
def BC (D:List (List Str)) (id:Int):List Str:=D.getD (id-1).toNat []
def w6f (p:Pg) (i:Nat) (f:Pr) (D:List (List Str)) (it:Item):List Str:=bif (QX p i f).live.getD (ixI p i f it.s.id).toNat false then (BC D it.s.id).filter (outB p f) else []
def x5x (p:Pg) (i:Nat) (f:Pr) (D:List (List Str)) (its:List Item):List Str:=its.flatMap (w6f p i f D)
theorem z5n {p:Pg} {i:Nat} {f:Pr} {D:List (List Str)} {its:List Item} {k:Nat} (hk:k<its.length):x5x p i f D (its.take (k+1))=x5x p i f D (its.take k)++w6f p i f D its[k]:=by
 unfold x5x;rw [take_succ_eq_append_getElem hk,List.flatMap_append];simp
theorem x8f {p:Pg} {i:Nat} {f:Pr} {D:List (List Str)} (hD : ∀ d∈D,d.length<=1000) (its:List Item):(x5x p i f D its).length<=its.length*1000:=by
 refine VQ its fun it _ => ?_;unfold w6f;cases (QX p i f).live.getD (ixI p i f it.s.id).toNat false with
 | false=>exact zero_le _
 | true =>
   refine Nat.le_trans (List.length_filter_le _ _) ?_;unfold BC;rcases Nat.lt_or_ge (it.s.id-1).toNat D.length with h|h
   ·rw [getD_eq_getElem?_getD,List.getElem?_eq_getElem h];exact hD _ (List.getElem_mem h)
   ·rw [getD_eq_getElem?_getD,List.getElem?_eq_none h];exact zero_le _
theorem q6x (b:Book) (p:Pg) (hp:b.s=sheetOf p) (h:XB p=true) (i:Nat) (f:Pr) (hj:p.procs[i]? = some f) (hW:b.ways[i]? = some (QX p i f)) (hD:b.defs.length=(sheetOf p).l.length) (hd : ∀ d∈b.defs,d.length<=1000):SpecH Tryz.prog 135 [.p (.ip b.cells),.p (.int .i64 i)] [] (fun r H=>OneRow (q6m (x5x p i f b.defs (itsOf p i f))) False r H):=by
 refine sH q1r Tryz.func135 rfl Tryz.call135 ?_;conv=>whnf
 obtain ⟨hsp,_,_,hlen,hs⟩:=QK p;obtain ⟨s1,s2,s3,s4⟩:=hs i f hj;have hcn:=(ZP h).2.2;have hO:=NC (sheetOf p) i (QM p.procs i) (QM p.procs i+cntL f.body) s1 s2 (by omega) (by omega) (by omega);rw [s4] at hO;have e1:itL (i:Nat) 0 (-1) 0 (QM p.procs i) f.body=itsOf p i f:=rfl;rw [e1,<- hp] at hO;have hbp:b.s.p=p:=by rw [hp,hsp]
 have hCo:=fun x=>GR b x;rw [hbp] at hCo;have hg1:(b.s.p.procs.map fun f=>AV.agg f.cells)[i]? = some (.agg f.cells):=by rw [hbp,List.getElem?_map,hj];rfl
 have hg2:(b.ways.map fun w=>AV.ip w.cells)[i]? = some (.ip (QX p i f).cells):=by rw [List.getElem?_map,hW];rfl
 have hIl:((itsOf p i f).map fun i=>AV.agg i.cells).length=(itsOf p i f).length:=length_map _;have hil:(itsOf p i f).length<=200:=by
  have h1:=congrArg List.length s4;rw [e1,List.length_drop,length_take] at h1;omega
 have hall : ∀ k,(x5x p i f b.defs ((itsOf p i f).take k)).length<=200*1000:=fun k=>by
  have h1:=x8f (p:=p) (i:=i) (f:=f) hd ((itsOf p i f).take k);have h2:((itsOf p i f).take k).length*1000<=200*1000:=Nat.mul_le_mul_right _ (by rw [length_take];omega);omega
 repeat' (first|((first|(refine iM fun _=>?_)|refine dA ?_|refine And.intro rfl ?_|refine aD ?_|refine aR ?_|refine bP ?_|(refine iA fun _=>?_)|refine IdxK.xs (by omega) ?_|refine QZ (by omega) ?_|(refine ByteK.at (by omega) ?_)|refine wI ?_|(refine IdxK.at (k:=i) rfl hg1 rfl ?_)|refine cP hO ?_);conv=>whnf)|(apply bD<;>intro _<;>first|omega|conv=>whnf)|(apply bE<;>intro _<;>first|omega|conv=>whnf)|(apply bN<;>intro _<;>conv=>whnf)|(apply bB<;>intro _<;>conv=>whnf))
 refine LoopK.inv QJ (fun k:Nat=>⟨[(0,.p (.ip b.cells)),(1,.p (.int .i64 i)),(5,.hd 0 0 (x5x p i f b.defs ((itsOf p i f).take k)).length),(6,.p (.ip f.cells)),(27,.p (VT (itsOf p i f))),(28,.p (.int .i64 ((itsOf p i f).map fun i=>AV.agg i.cells).length)),(29,.p (.int .i64 k))],[(0,.own 9 1 ((x5x p i f b.defs ((itsOf p i f).take k)).map .str))]⟩) (fun k=>k<=(itsOf p i f).length) (fun k=>(itsOf p i f).length-k) 0
  (Le.mk [(0,.own 9 1 [])] (by simp [Chunk.new0];rfl) (by simp) (by simp) (.cons (.refl _) (.cons (.refl _) (.cons (.nil mem_cons_self) (.cons (.refl _) (.cons (.refl _) (.cons (.refl _) (.cons (.refl _) .nil))))))) (.new mem_cons_self .nil)) (zero_le _) ?_
 intro k hk;have hak:=hall k;rcases Nat.lt_or_ge k (itsOf p i f).length with hk2|hk2;rotate_left 1
 ·rw [take_of_length_le hk2];conv=>whnf
  repeat' (first|((first|(refine iM fun _=>?_)|refine dA ?_|refine And.intro rfl ?_|refine aD ?_|refine aR ?_|refine bP ?_|(refine iA fun _=>?_)|refine IdxK.xs (by omega) ?_|refine QZ (by omega) ?_|(refine ByteK.at (by omega) ?_)|refine wI ?_);conv=>whnf)|(apply bD<;>intro _<;>first|omega|conv=>whnf)|(apply bE<;>intro _<;>first|omega|conv=>whnf)|(apply bN<;>intro _<;>conv=>whnf)|(apply bB<;>intro _<;>conv=>whnf))
  all_goals exact RetHK.mk _ (LSub.refl _) (OneRow.str rfl)
 have hst:=z5n (p:=p) (i:=i) (f:=f) (D:=b.defs) hk2;have hb:=JK (ZJ h).1 hj (x0g (List.getElem_mem hk2));have hLv:=q8r p i f h hj (itsOf p i f)[k].s.id (.inr (.inr hb));have hoi:w6f p i f b.defs (itsOf p i f)[k]=bif (QX p i f).live.getD (ixI p i f (itsOf p i f)[k].s.id).toNat false then (BC b.defs (itsOf p i f)[k].s.id).filter (outB p f) else []:=rfl;have hdl:((itsOf p i f)[k].s.id-1).toNat<b.defs.length:=by omega
 have hg3:(b.defs.map eStrs)[((itsOf p i f)[k].s.id-1).toNat]? = some (eStrs (BC b.defs (itsOf p i f)[k].s.id)):=by
  unfold BC;rw [List.getElem?_map,getD_eq_getElem?_getD,List.getElem?_eq_getElem hdl];rfl
 have hDl:(BC b.defs (itsOf p i f)[k].s.id).length<=1000:=by
  unfold BC;rw [getD_eq_getElem?_getD,List.getElem?_eq_getElem hdl];exact hd _ (List.getElem_mem hdl)
 generalize (QX p i f).live.getD (ixI p i f (itsOf p i f)[k].s.id).toNat false=lv at *
 rw [hoi] at hst;generalize BC b.defs (itsOf p i f)[k].s.id=D at *
 generalize x5x p i f b.defs ((itsOf p i f).take k)=acc at *
 have hDm:(D.map AV.str).length=D.length:=length_map _;cases lv;all_goals
  conv=>whnf
  repeat' (first|((first|(refine iM fun _=>?_)|refine dA ?_|refine And.intro rfl ?_|refine aD ?_|refine aR ?_|refine bP ?_|(refine iA fun _=>?_)|refine IdxK.xs (by omega) ?_|refine QZ (by omega) ?_|(refine ByteK.at (by omega) ?_)|refine wI ?_|(refine IdxK.at (k:=i) rfl hg2 rfl ?_)|refine cP hLv ?_|(refine IdxK.at (k:=((itsOf p i f)[k].s.id-1).toNat) (by omega) hg3 rfl ?_));conv=>whnf)|(apply bD<;>intro _<;>first|omega|conv=>whnf)|(apply bE<;>intro _<;>first|omega|conv=>whnf)|(apply bN<;>intro _<;>conv=>whnf)|(apply bB<;>intro _<;>conv=>whnf)|(refine And.intro ?_ ?_<;>conv=>whnf))
 all_goals first
  | contradiction
  | exact ⟨k+1,hk2,by omega,Le.of_eq (by rw [hst,cond_false,append_nil];rfl)⟩
  | skip
 all_goals
  rw [cond_true] at hst;refine LoopK.inv QJ (fun x:Nat×List Str=>⟨[(0,.p (.ip b.cells)),(1,.p (.int .i64 i)),(5,.hd 0 0 x.2.length),(6,.p (.ip f.cells)),(27,.p (VT (itsOf p i f))),(28,.p (.int .i64 ((itsOf p i f).map fun i=>AV.agg i.cells).length)),(29,.p (.int .i64 k)),(54,.p (eStrs D)),(55,.p (.int .i64 (D.map AV.str).length)),(56,.p (.int .i64 x.1))],[(0,.own 9 1 (x.2.map .str))]⟩) (fun x=>x.1<=D.length∧x.2=acc++(D.take x.1).filter (outB p f)∧x.2.length<=acc.length+x.1) (fun x=>D.length-x.1) (0,acc) (Le.of_eq rfl) ⟨zero_le _,by simp,by simp⟩ ?_;rintro ⟨q,o⟩ ⟨h4,h5,h6⟩;simp only at h4 h5 h6 ⊢;rcases Nat.lt_or_ge q D.length with hq|hq
  ·have hn1:=take_succ_eq_append_getElem hq;have hCq:=hCo D[q];have hKq:=WT f.params ⟨D[q],true⟩;have hob:outB p f D[q]=(comB p D[q]||decide ((⟨D[q],true⟩:Param)∈f.params)):=rfl;generalize hdc:decide ((⟨D[q],true⟩:Param)∈f.params)=dc at hKq hob;conv=>whnf
   repeat' (first|((first|(refine iM fun _=>?_)|refine dA ?_|refine And.intro rfl ?_|refine aD ?_|refine aR ?_|refine bP ?_|(refine iA fun _=>?_)|refine IdxK.xs (by omega) ?_|refine QZ (by omega) ?_|(refine ByteK.at (by omega) ?_)|refine wI ?_|refine cP hCq ?_|(refine CallK.pure hKq (.cons (Sub.refl _) (.cons (Sub.agg (.cons (Sub.refl _) (.cons (Sub.tt rfl) .nil))) .nil)) ?_;rintro _ rfl)|refine QE (by simp) (by rw [length_map];omega) ?_);conv=>whnf)|(apply bD<;>intro _<;>first|omega|conv=>whnf)|(apply bE<;>intro _<;>first|omega|conv=>whnf)|(apply bN<;>intro _<;>conv=>whnf)|(apply bB<;>intro _<;>conv=>whnf))
   all_goals first
    | (have h9:outB p f D[q]=true:=by rw [hob,show comB p D[q]=true by assumption];rfl
       exact ⟨(q+1,o++[D[q]]),⟨hq,by simp only;rw [hn1,List.filter_append,filter_cons_of_pos h9,h5,List.append_assoc];rfl,by simp;omega⟩,by simp only;omega,Le.of_eq (by simp only [length_append,List.map_append];rfl)⟩)
    | (have h9:outB p f D[q]=true:=by rw [hob,show dc=true by assumption,Bool.or_true]
       exact ⟨(q+1,o++[D[q]]),⟨hq,by simp only;rw [hn1,List.filter_append,filter_cons_of_pos h9,h5,List.append_assoc];rfl,by simp;omega⟩,by simp only;omega,Le.of_eq (by simp only [length_append,List.map_append];rfl)⟩)
    | (have h9:outB p f D[q]=false:=by rw [hob,show comB p D[q]=false by assumption,show dc=false by assumption];rfl
       exact ⟨(q+1,o),⟨hq,by simp only;rw [hn1,List.filter_append,List.filter_cons_of_neg (by rw [h9];decide),h5];simp,by simp only;omega⟩,by simp only;omega,Le.of_eq rfl⟩)
    | trace_state
  ·rw [take_of_length_le hq,<- hst] at h5;subst h5;conv=>whnf
   repeat' (first|((first|(refine iM fun _=>?_)|refine dA ?_|refine And.intro rfl ?_|refine aD ?_|refine aR ?_|refine bP ?_|(refine iA fun _=>?_)|refine IdxK.xs (by omega) ?_|refine QZ (by omega) ?_|(refine ByteK.at (by omega) ?_)|refine wI ?_);conv=>whnf)|(apply bD<;>intro _<;>first|omega|conv=>whnf)|(apply bE<;>intro _<;>first|omega|conv=>whnf)|(apply bN<;>intro _<;>conv=>whnf)|(apply bB<;>intro _<;>conv=>whnf))
   all_goals exact ⟨k+1,hk2,by omega,Le.of_eq rfl⟩
theorem z7k (x:X):SpecH Tryz.prog 211 ([AV.agg x.cells].map .p) [] (OneRow (q6m (XD x)) (XD x=[])):=by
 refine sH q0i Tryz.func211 rfl Tryz.call211 ?_;conv=>whnf
 repeat' (first|((first|(refine iM fun _=>?_)|refine cP (UD _) ?_|refine dA ?_|refine And.intro rfl ?_|refine aD ?_|refine aR ?_|refine bP ?_|(refine iA fun _=>?_)|refine IdxK.xs (by omega) ?_|refine QZ (by omega) ?_|(refine ByteK.at (by omega) ?_)|refine wI ?_);conv=>whnf)|(apply bD<;>intro _<;>first|omega|conv=>whnf)|(apply bE<;>intro _<;>first|omega|conv=>whnf)|(apply bN<;>intro _<;>conv=>whnf)|(apply bB<;>intro _<;>conv=>whnf))
 ·refine CallK.nil 5 9 1 rfl (.cons rfl (.row .nil)) ?_;refine CallK.heap [(2000,5)] 0 (by repeat' (first|exact ArgsH.nil|refine ArgsH.cons ?_ ?_|exact LSub.refl _|exact LSub.p Sub.nils|exact LSub.p (Sub.tt rfl)|exact LSub.p (Sub.ff rfl)|exact LSub.p (Sub.int (by omega)))) (by refine BlksH.cons (j:=5) rfl rfl ?_ ?_;exact CSub.refl _;exact BlksH.nil) (q2s 20 (by omega) x (by assumption) [] (by simp)) rfl rfl ?_;rintro l' H' ⟨rfl,rfl⟩;conv=>whnf
  have e:XD x=q6v x []:=by
   unfold XD;rw [show x6h x=true by assumption];rfl
  rw [e];exact RetHK.mk _ (LSub.refl _) (PZ rfl)
 ·have e:XD x=[]:=by
   unfold XD;rw [show x6h x=false by assumption];rfl
  exact RetHK.mk _ (LSub.refl _) (.inl ⟨rfl,rfl,e⟩)
def usA (a:Arg):List Str:=(if a.ref=true then [a.name] else [])++XD a.x
def inAt (b:Book) (t:S):List Str:=b.ins.getD (caI b.s.p t).toNat []
def x6v (t:S):List Str:=XD t.x++(if t.kind=2 then [tapeS] else [])
def DH (b:Book) (t:S):List Str:=if t.kind=4 then x6v t++t.args.flatMap usA++inAt b t else x6v t
theorem z6p (a:Arg):(usA a).length<=1048577:=by
 have:=VH a.x;unfold usA;rw [length_append];split<;>simp<;>omega
theorem x7d (t:S):(x6v t).length<=1048577:=by
 have:=VH t.x;unfold x6v;rw [length_append];split<;>simp<;>omega
def z2n (t:S) (j:Nat):List Str:=x6v t++(t.args.take j).flatMap usA
theorem z9h (t:S) {j:Nat} (ha:t.args.length<=20000):(z2n t j).length<=21000000000:=by
 have h1:=x7d t;have h2:=KR z6p (t.args.take j);have h3:(t.args.take j).length*1048577<=20000*1048577:=Nat.mul_le_mul_right _ (by simp;omega);unfold z2n;simp only [length_append];omega
theorem z6h {t:S} {j:Nat} (hj:j<t.args.length):z2n t (j+1)=z2n t j++usA t.args[j]:=by
 unfold z2n;rw [take_succ_eq_append_getElem hj,List.flatMap_append,List.append_assoc];simp
theorem OneRow.es {L:List Str} {es:List AV} {n:Nat} {nil:Prop} (he:es=L.map .str) (h:n=L.length):OneRow (q6m L) nil (.hd 0 0 n) [(0,.own 9 1 es)]:=by
 subst he;exact UG h
structure UseOk (b:Book) (t:S):Prop where
 i0:0<=caI b.s.p t
 ii:(caI b.s.p t).toNat<b.ins.length
 al:t.args.length<=20000
 len:(inAt b t).length<=1000000
theorem q5a (b:Book) (t:S) (h4:t.kind=4->UseOk b t):SpecH Tryz.prog 137 [.p (.ip b.cells),.p (.agg t.cells)] [] (fun r H=>OneRow (q6m (DH b t)) (DH b t=[]) r H):=by
 refine sH q1g Tryz.func137 rfl Tryz.call137 ?_;conv=>whnf
 have hN:=z7k t.x;have hC:=GI b t;have hI:q0t (fun f=>f.name==t.proc) b.s.p.procs=caI b.s.p t:=rfl;rw [hI] at hC;have hnx:=VH t.x;conv=>whnf
 refine KB 0 rfl hN (.cons (.p (Sub.refl _)) .nil) (fun hnil => ?_) (fun q e sz es hR => ?_);rotate_left;obtain ⟨rfl,rfl,rfl⟩:=hR
 rotate_right
 all_goals
  conv=>whnf
  repeat' (first|((first|(refine iM fun _=>?_)|refine dA ?_|refine And.intro rfl ?_|refine aD ?_|refine aR ?_|refine bP ?_|(refine iA fun _=>?_)|refine IdxK.xs (by omega) ?_|refine QZ (by omega) ?_|(refine ByteK.at (by omega) ?_)|refine wI ?_|refine QE (es:=[]) rfl (by simp) ?_|refine QE (by simp) (by simp;omega) ?_);conv=>whnf)|(apply bD<;>intro _<;>first|omega|conv=>whnf)|(apply bE<;>intro _<;>first|omega|conv=>whnf)|(apply bN<;>intro _<;>conv=>whnf)|(apply bB<;>intro _<;>conv=>whnf))
 ·have e:DH b t=[tapeS]:=by unfold DH x6v;rw [if_neg (by assumption),if_pos (by assumption),hnil];rfl
  rw [e];exact RetHK.mk _ (LSub.refl _) (UG (L:=[tapeS]) rfl)
 rotate_left
 ·have e:DH b t=[]:=by unfold DH x6v;rw [if_neg (by assumption),if_neg (by assumption),hnil];rfl
  exact RetHK.mk _ (LSub.refl _) (.inl ⟨rfl,rfl,e⟩)
 ·have e:DH b t=XD t.x++[tapeS]:=by unfold DH x6v;rw [if_neg (by assumption),if_pos (by assumption)]
  rw [e];exact RetHK.mk _ (LSub.refl _) (OneRow.es (by rw [List.map_append];rfl) (by simp))
 rotate_left
 ·have e:DH b t=XD t.x:=by unfold DH x6v;rw [if_neg (by assumption),if_neg (by assumption),append_nil]
  rw [e];exact RetHK.mk _ (LSub.refl _) (OneRow.es rfl (by simp))
 all_goals
  have hk4:t.kind=4:=by assumption
  have hU:=h4 hk4;have e0:z2n t 0=XD t.x:=by unfold z2n x6v;rw [if_neg (by omega),List.take_zero,List.flatMap_nil,append_nil,append_nil]
  have hl:(t.args.map fun a=>AV.agg a.cells).length=t.args.length:=length_map _;have hg:(b.ins.map eStrs)[(caI b.s.p t).toNat]? = some (eStrs (inAt b t)):=by
   unfold inAt;rw [List.getElem?_map,getD_eq_getElem?_getD,List.getElem?_eq_getElem hU.ii];rfl
  have hi0:=hU.i0;have hil:=hU.len;have hia:=hU.al;refine LoopK.inv QJ (fun j:Nat=>⟨[(0,.p (.ip b.cells)),(3,.p (.ip t.cells)),(5,.hd 0 0 (z2n t j).length),(22,.p (.sl (t.args.map fun a => .agg a.cells))),(23,.p (.int .i64 (t.args.map fun a=>AV.agg a.cells).length)),(24,.p (.int .i64 j))],[(0,.own 9 1 ((z2n t j).map .str))]⟩) (fun j=>j<=t.args.length) (fun j=>t.args.length-j) 0 ?_ (zero_le _) ?_
  ·first
    | (rw [e0,hnil]
       exact Le.mk [(0,.own 9 1 [])] (by simp [Chunk.new0];rfl) (by simp) (by simp) (.cons (.refl _) (.cons (.refl _) (.cons (.nil mem_cons_self) (.cons (.refl _) (.cons (.refl _) (.cons (.refl _) .nil)))))) (.new mem_cons_self .nil))
    | (rw [e0]
       exact Le.of_eq (by rw [length_map];rfl))
  intro j hj;have hacc:=z9h t (j:=j) hia;have hfin:t.args.length<=j->DH b t=z2n t j++inAt b t:=fun h=>by
   unfold DH z2n;rw [if_pos hk4,take_of_length_le h]
  have hst:=fun h=>z6h (t:=t) (j:=j) h;generalize z2n t j=acc at *
  rcases Nat.lt_or_ge j t.args.length with hj2|hj2
  ·have hnl:=VH t.args[j].x;conv=>whnf
   repeat' (first|((first|(refine iM fun _=>?_)|refine cP (q0z _) ?_|refine dA ?_|refine And.intro rfl ?_|refine aD ?_|refine aR ?_|refine bP ?_|(refine iA fun _=>?_)|refine IdxK.xs (by omega) ?_|refine QZ (by omega) ?_|(refine ByteK.at (by omega) ?_)|refine wI ?_|refine FN _ (by simp) (by simp;omega) ?_|refine QE (by simp) (by simp;omega) ?_);conv=>whnf)|(apply bD<;>intro _<;>first|omega|conv=>whnf)|(apply bE<;>intro _<;>first|omega|conv=>whnf)|(apply bN<;>intro _<;>conv=>whnf)|(apply bB<;>intro _<;>conv=>whnf))
   all_goals
    refine ⟨j+1,hj2,by omega,Le.of_eq ?_⟩;first
     | (have hn:usA t.args[j]=[t.args[j].name]++XD t.args[j].x:=by rw [usA,if_pos (by assumption)]
        rw [hst hj2,hn];simp only [length_append,List.map_append,length_map,<- List.append_assoc,<- Nat.add_assoc];rfl)
     | (have hn:usA t.args[j]=XD t.args[j].x:=by rw [usA,if_neg (by rw [show t.args[j].ref=false by assumption];decide)];rfl
        rw [hst hj2,hn];simp only [length_append,List.map_append,length_map];rfl)
  ·rw [hfin hj2];conv=>whnf
   repeat' (first|((first|(refine iM fun _=>?_)|refine dA ?_|refine And.intro rfl ?_|refine aD ?_|refine aR ?_|refine bP ?_|(refine iA fun _=>?_)|refine IdxK.xs (by omega) ?_|refine QZ (by omega) ?_|(refine ByteK.at (by omega) ?_)|refine wI ?_|refine cP hC ?_|(refine IdxK.at (k:=(caI b.s.p t).toNat) (by omega) hg rfl ?_)|refine FN _ (by simp) (by simp;omega) ?_);conv=>whnf)|(apply bD<;>intro _<;>first|omega|conv=>whnf)|(apply bE<;>intro _<;>first|omega|conv=>whnf)|(apply bN<;>intro _<;>conv=>whnf)|(apply bB<;>intro _<;>conv=>whnf)|(refine And.intro ?_ ?_<;>conv=>whnf))
   all_goals exact RetHK.mk _ (LSub.refl _) (OneRow.es (by rw [List.map_append]) (by simp))
def YO (w:Way) (f:Pr):List (Int×Int):=(HV w f).map (ixP w.p w.j f w.n)
theorem x7j (w:Way) (f:Pr) (n:Nat) (h:WayT w f n) (hp : ∀ t∈YO w f,(0<=t.1∧t.1<n)∧0<=t.2∧t.2<n) (hlen:(HV w f).length<=1000000):SpecP Tryz.prog 213 [.ip w.cells] (fun r=>r=q5r (PB n (YO w f))):=by
 refine sB q8h Tryz.func213 rfl Tryz.call213 ?_;conv=>whnf
 have hwn:=h.hw;have hn5:=h.hn;have hn2:=h.hn2;have hA:=x3o w f n h;have hP:=KC w f h.hj h.hc (by omega) (HV w f) hlen;have hpl:(avP (YO w f)).length=(YO w f).length:=by unfold avP;rw [length_map]
 have hpl2:(YO w f).length<=1000000:=by unfold YO;rw [length_map];exact hlen
 have hPe:(HV w f).map (ixP w.p w.j f w.n)=YO w f:=rfl;rw [hPe] at hP;repeat' (first|((first|(refine iM fun _=>?_)|refine dA ?_|refine And.intro rfl ?_|refine aD ?_|refine aR ?_|refine bP ?_|(refine iA fun _=>?_)|refine IdxK.xs (by omega) ?_|refine QZ (by omega) ?_|(refine ByteK.at (by omega) ?_)|refine wI ?_|refine MkK.mk n (by omega) (by show 24*_<=140737488355328;omega) (by unfold maxLen;omega) ?_|refine cP hA ?_|refine cP hP ?_);conv=>whnf)|(apply bD<;>intro _<;>first|omega|conv=>whnf)|(apply bE<;>intro _<;>first|omega|conv=>whnf)|(apply bN<;>intro _<;>conv=>whnf)|(apply bB<;>intro _<;>conv=>whnf))
 refine LoopK.inv QJ (fun j:Nat=>⟨[(3,.hd 0 0 n),(14,.p (.sl (avP (YO w f)))),(15,.p (.int .i64 (avP (YO w f)).length)),(16,.p (.int .i64 j))],[(0,.ext (.mat 74 3 1 (avI (PB n ((YO w f).take j))) []))]⟩) (fun j=>j<=(YO w f).length) (fun j=>(YO w f).length-j) 0
  (by
    refine Le.trans (z7t n rfl) ?_;exact Le.mk [] (by simp) (by simp) (by simp) (.cons (.refl _) (.cons (.refl _) (.cons (.refl _) (.cons (.refl _) .nil)))) (.cons rfl (.of_eq (by simp [avI,PB])) .nil)) (zero_le _) ?_
 intro j h2;rcases Nat.lt_or_ge j (YO w f).length with hj|hj
 ·have hme:(avP (YO w f))[j]? = some (.agg [.int .i64 (YO w f)[j].1,.int .i64 (YO w f)[j].2]):=by simp [avP,hj]
  obtain ⟨⟨q1,q2⟩,q3,q4⟩:=hp _ (List.getElem_mem hj);have hst:PB n ((YO w f).take (j+1))=nxE (PB n ((YO w f).take j)) (YO w f)[j]:=by
   unfold PB;rw [take_succ_eq_append_getElem hj,List.foldl_append];rfl
  have hrl:=q4y n ((YO w f).take j);have hcnt:=x2u n ((YO w f).take j) (YO w f)[j].1.toNat;generalize (YO w f)[j]=t at hme q1 q2 q3 q4 hst hcnt;generalize PB n ((YO w f).take j)=rows at hst hrl hcnt ⊢;obtain ⟨a,ha⟩ : ∃ a:Nat,t.1=a:=⟨t.1.toNat,by omega⟩;have hal:a<rows.length:=by omega
  have hrow:(avI rows)[a]? = some (rows[a].map (.int .i64)):=by unfold avI;rw [List.getElem?_map,List.getElem?_eq_getElem hal];rfl
  have hput:(avI rows).set a (rows[a].map (.int .i64)++[.int .i64 t.2])=avI (nxE rows t):=by
   unfold nxE avI;rw [ha,Int.toNat_natCast,getD_eq_getElem?_getD,List.getElem?_eq_getElem hal,Option.getD_some,List.map_set,List.map_append];rfl
  have hcl:rows[a].length<=1000000:=by
   rw [ha,Int.toNat_natCast,getD_eq_getElem?_getD,List.getElem?_eq_getElem hal,Option.getD_some,length_take] at hcnt;omega
  rw [ha] at hme;conv=>whnf
  repeat' (first|((first|(refine iM fun _=>?_)|refine And.intro rfl ?_|refine aD ?_|refine aR ?_|(refine iA fun _=>?_)|refine IdxK.xs (by omega) ?_|refine QZ (by omega) ?_|(refine ByteK.at (by omega) ?_)|refine wI ?_|refine DrawK.of QJ mixed (.cons 0 false (.cons 1 false (.cons 2 false (.cons 3 false (.cons 4 false (.cons 5 false (.cons 6 false (.cons 8 false (.cons 9 false (.alo 7 (.cons 10 true (.cons 11 true (.cons 12 true (.cons 13 true .nil)))))))))))))) (by kernel_rfl) ?_|(refine IdxK.at (k:=j) rfl hme rfl ?_)|refine IdxL.mk 0 rfl (by decide) ?_|refine IdxL.mk 1 rfl (by decide) ?_|refine IdxL.mk a rfl (by omega) ?_|refine RowK.mk a _ (by omega) hrow (by simp) ?_|refine BsK.own (fun x hx=>by rcases List.mem_singleton.1 hx with rfl;rfl) rfl ?_|refine OpK.focus QJ 27 0 a 2 rfl rfl hrow (by simp) rfl rfl ?_|refine WO rfl (by rw [length_map];omega) ?_|(refine q5p QJ rfl rfl rfl rfl rfl rfl rfl rfl rfl (by decide) a [] (by omega) (by unfold avI;rw [length_map];omega) (by simp) ⟨by simp,by simp,by simp⟩ ?_));conv=>whnf)|(apply bD<;>intro _<;>first|omega|conv=>whnf)|(apply bE<;>intro _<;>first|omega|conv=>whnf)|(apply bN<;>intro _<;>conv=>whnf)|(apply bB<;>intro _<;>conv=>whnf))
  all_goals exact ⟨j+1,hj,by omega,Le.of_eq (by rw [hst,<- hput];rfl)⟩
 ·have hje:(YO w f).take j=YO w f:=take_of_length_le hj;rw [hje];have hNl:=q4y n (YO w f);conv=>whnf
  repeat' (first|((first|(refine iM fun _=>?_)|refine dA ?_|refine And.intro rfl ?_|refine aD ?_|refine aR ?_|refine bP ?_|(refine iA fun _=>?_)|refine IdxK.xs (by omega) ?_|refine QZ (by omega) ?_|(refine ByteK.at (by omega) ?_)|refine wI ?_);conv=>whnf)|(apply bD<;>intro _<;>first|omega|conv=>whnf)|(apply bE<;>intro _<;>first|omega|conv=>whnf)|(apply bN<;>intro _<;>conv=>whnf)|(apply bB<;>intro _<;>conv=>whnf))
  exact ⟨_,.mat rfl (by unfold avI;rw [length_map,hNl]),rfl⟩
section
variable {p:Pg} {j:Nat} {f:Pr}
def dR (p:Pg) (j:Nat) (f:Pr):Int->Int->Prop:=stR (HV (QX p j f) f)
theorem w7j (h:XB p=true) (hj:p.procs[j]? = some f) {a b:Int}:dR p j f a b↔wR p j f a b ∨ ∃ l∈trapsW (QX p j f) f,∃ t∈flL f.body,t.id∈l∧t.kind=10∧a=t.id∧b = -1:=by
 constructor
 ·rintro ⟨s,hs,rfl,rfl⟩;rcases List.mem_append.1 ((HN (x0z h hj)).2.1 s hs) with h1|h1
  ·obtain ⟨l,hl,t,ht,hid,hk,rfl⟩:=(NN h hj).1 h1;exact .inr ⟨l,hl,t,ht,hid,hk,rfl,rfl⟩
  ·exact .inl ⟨s,h1,rfl,rfl⟩
 ·rintro (⟨s,hs,rfl,rfl⟩|⟨l,hl,t,ht,hid,hk,rfl,rfl⟩)
  ·exact z5s h hj (List.mem_append.2 (.inr hs))
  ·exact z5s h hj (s:=⟨t.id,-1,3⟩) (List.mem_append.2 (.inl ((NN h hj).2 ⟨l,hl,t,ht,hid,hk,rfl⟩)))
theorem v0m (h:XB p=true) (hj:p.procs[j]? = some f) {a b:Int} (hd:dR p j f a b):plP p j f a∧plP p j f b:=by
 have hA:w8d p j f a b:=by
  rcases (w7j h hj).1 hd with h1|h1
  ·exact (z6s h hj).2 (.inl h1)
  ·exact (z6s h hj).2 (.inr (.inr (.inl h1)))
 exact ⟨(w6v h hj hA).1,(w6v h hj hA).2.1⟩
theorem FW (h:XB p=true) (hj:p.procs[j]? = some f) : ∀ t∈YO (QX p j f) f,(0<=t.1∧t.1<(cntL f.body+2:Nat))∧0<=t.2∧t.2<(cntL f.body+2:Nat):=fun t ht=>by
 obtain ⟨s,hs,rfl⟩:=List.mem_map.1 ht;obtain ⟨h1,h2⟩:=v0m h hj ⟨s,hs,rfl,rfl⟩;exact ⟨HF h1,HF h2⟩
end


section
variable {p:Pg} {j:Nat} {f:Pr}
end
theorem z7p {p:Pg} (hs:(QC p).1=0):(WS p).1=0 ↔ ∀ t∈WP p,t.kind=4->UO p t=true:=by
 unfold WS;rw [if_neg (by omega)];cases hf:(WP p).find? fun t=>decide (t.kind=4) && !UO p t with
 | some t =>
   have h1:=List.mem_of_find?_eq_some hf;have h2:=List.find?_some hf;simp only [Bool.and_eq_true,decide_eq_true_eq,Bool.not_eq_true'] at h2;refine ⟨fun h=>by simp at h,fun h => ?_⟩;have:=h t h1 h2.1;rw [h2.2] at this;cases this
 | none =>
   refine ⟨fun _ t ht hk => ?_,fun _=>rfl⟩;have:=List.find?_eq_none.1 hf t ht;simp only [Bool.and_eq_true,decide_eq_true_eq,Bool.not_eq_true',not_and] at this;simpa using this hk
end Go.Ab
