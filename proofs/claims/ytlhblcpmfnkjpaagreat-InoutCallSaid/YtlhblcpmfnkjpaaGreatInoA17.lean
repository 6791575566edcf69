/- struct == on api.Param; slices.Index, slices.Contains there; slices.Clone at strings. -/
import Derived.Test.YtlhblcpmfnkjpaaGreatInoA5
import Derived.Test.YtlhblcpmfnkjpaaGreatInoA6
import Derived.Test.YtlhblcpmfnkjpaaGreatInoA10
import Derived.Test.YtlhblcpmfnkjpaaGreatInoA14
import Derived.Test.YtlhblcpmfnkjpaaGreatInoA15
import Derived.Test.YtlhblcpmfnkjpaaGreatInoA16
set_option linter.unusedSimpArgs false
set_option linter.unusedVariables false
set_option maxRecDepth 100000
set_option maxHeartbeats 16000000
open List (append_nil filter_cons_of_neg filter_cons_of_pos getD_eq_getElem?_getD length_append length_map length_take map_cons mem_cons mem_cons_self take_of_length_le take_succ_eq_append_getElem)
open Nat (zero_le)
namespace Go.Ab
open Go.Proofs
theorem x6o {σ:Mem} {a:Param} {v:Value} (h:Rep σ (.agg a.cells) v):v = .agg #[.string ⟨a.name.toArray⟩,.bool a.ref]:=by
 cases h with
 | agg cs vs u hn hc hr =>
   have hs:vs.size=2:=hn;have g0:vs[0]? = some (.string ⟨a.name.toArray⟩):=by
    have h1:=hc 0 (.str a.name) rfl;have h2:=hr 0 (.str a.name) rfl;generalize u 0=w at h1 h2;cases h2;exact h1
   have g1:vs[1]? = some (.bool a.ref):=by
    have h1:=hc 1 (.bool a.ref) rfl;have h2:=hr 1 (.bool a.ref) rfl;generalize u 1=w at h1 h2;cases h2;exact h1
   congr 1;apply Array.ext_getElem?;intro i
   match i with
   | 0=>exact g0
   | 1=>exact g1
   | i+2=>rw [Array.getElem?_eq_none (by omega),Array.getElem?_eq_none (by simp)]
instance:DecidableEq Param:=fun a b=>decidable_of_iff (a.name=b.name∧a.ref=b.ref) (by cases a;cases b;simp)
theorem ValO.params {hr:Bool} {s:St} {o:Oper} {K:LV->Prop} {x y:Operand} {u:TypeId} (hop:o.op = .binOp .eql 72 x y u) {a b:Param} (hx:QR s.sl x = .p (.agg a.cells)) (hy:QR s.sl y = .p (.agg b.cells))
  (hK:K (.p (.bool (decide (a=b))))):ValO Tryz.prog hr s o K:=by
 refine ⟨fun σ β ac w hs _=>⟨_,.bool (decide (a=b)),hK,.p (.bool _),fun w' _ _ => ?_⟩⟩;have h1:ac.eval x = .agg #[.string ⟨a.name.toArray⟩,.bool a.ref]:=by
  have:=QU hs x;rw [hx] at this;cases this with
  | p h=>exact x6o h
 have h2:ac.eval y = .agg #[.string ⟨b.name.toArray⟩,.bool b.ref]:=by
  have:=QU hs y;rw [hy] at this;cases this with
  | p h=>exact x6o h
 have hu:Tryz.prog.underlying 72=some (.struct (Tryz.prog.fieldsOf 72)):=by kernel_rfl
 have hs':Tryz.prog.underlying 9=some .string:=by kernel_rfl
 have hb':Tryz.prog.underlying 4=some .bool:=by kernel_rfl
 have hf:(Tryz.prog.fieldsOf 72).toList=(match ty72.desc with | .struct fs=>fs.toList|_=>[]):=by kernel_rfl
 have he:(Op.equalIn 10000 72 (.agg #[.string ⟨a.name.toArray⟩,.bool a.ref]) (.agg #[.string ⟨b.name.toArray⟩,.bool b.ref])).run Tryz.prog w' = .ok (decide (a=b)) w':=by
  rw [run_equalIn_struct w' 9999 _ _ _ hu (by kernel_rfl),hf];simp only [ty72,Op.eqFields];have p0 : ∀ (x:ByteArray) (y:Bool),(part 9 #[.string x,.bool y] 0).run Tryz.prog w' = .ok (.string x) w':=fun x y=>run_part_plain w' (by kernel_rfl) rfl;have p1 : ∀ (x:ByteArray) (y:Bool),(part 4 #[.string x,.bool y] 1).run Tryz.prog w' = .ok (.bool y) w':=fun x y=>run_part_plain w' (by kernel_rfl) rfl;have es : ∀ x y:ByteArray,(Op.equalIn 9999 9 (.string x) (.string y)).run Tryz.prog w' = .ok (x.toList==y.toList) w':=fun x y=>run_equalIn_string (P:=Tryz.prog) w' 9998 9 x y hs';have eb : ∀ x y:Bool,(Op.equalIn 9999 4 (.bool x) (.bool y)).run Tryz.prog w' = .ok (x==y) w':=fun x y=>run_equalIn_bool (P:=Tryz.prog) w' 9998 4 x y hb';have e:decide (a=b)=(((⟨a.name.toArray⟩:ByteArray).toList==(⟨b.name.toArray⟩:ByteArray).toList)&&(a.ref==b.ref)):=by
   rw [ByteArray.toList_eq,ByteArray.toList_eq,Bool.eq_iff_iff,decide_eq_true_iff,Bool.and_eq_true,beq_iff_eq,beq_iff_eq];cases a;cases b;simp
  simp only [ne_eq,show ¬("Name" = "_") by decide,show ¬("Ref" = "_") by decide,not_false_eq_true,if_true,Sem.run_bind,p0,p1,Result.andThen_ok,es,eb,Sem.run_ite,Sem.run_pure,e];cases ((⟨a.name.toArray⟩:ByteArray).toList==(⟨b.name.toArray⟩:ByteArray).toList)<;>cases (a.ref==b.ref)<;>simp
 simp only [execOp,hop,h1,h2,Sem.run_bind,run_eqGuard_agg _ _ _ _ _ _ _ (show Tryz.prog.eqGuardType Tryz.prog.depth 72=false by kernel_rfl),Result.andThen_ok,run_eql_struct,he,Sem.run_pure]
theorem VW (l:List Param) (x:Param):SpecP Tryz.prog 308 [.sl (l.map fun a => .agg a.cells),.agg x.cells] (fun r => ∃ k:Int,r = .int .i64 k∧(0<=k↔x∈l)):=by
 refine sB WL Tryz.func308 rfl Tryz.call308 ?_;conv=>whnf
 have hll:(l.map fun a=>AV.agg a.cells).length=l.length:=length_map _;repeat' (first|((first|(refine iM fun _=>?_)|refine dA ?_|refine And.intro rfl ?_|refine aD ?_|refine aR ?_|refine bP ?_|(refine iA fun _=>?_)|refine IdxK.xs (by omega) ?_|refine QX (by omega) ?_|(refine ByteK.at (by omega) ?_)|refine wI ?_);conv=>whnf)|(apply bD<;>intro _<;>first|omega|conv=>whnf)|(apply bE<;>intro _<;>first|omega|conv=>whnf)|(apply bN<;>intro _<;>conv=>whnf)|(apply bB<;>intro _<;>conv=>whnf))
 refine LoopK.inv QY (fun j:Nat=>⟨[(0,.p (.sl (l.map fun a => .agg a.cells))),(3,.p (.ip x.cells)),(7,.p (.int .i64 (l.map fun a=>AV.agg a.cells).length)),(8,.p (.int .i64 j))],[]⟩) (fun j=>j<=l.length∧x∉l.take j) (fun j=>l.length-j) 0 (Le.of_eq rfl) ⟨zero_le _,by simp⟩ ?_;rintro j ⟨h2,h3⟩;rcases Nat.lt_or_ge j l.length with hj|hj
 ·have htk:x∈l.take (j+1)↔x∈l.take j∨x=l[j]:=GY hj;conv=>whnf
  repeat' (first|((first|(refine iM fun _=>?_)|refine dA ?_|refine And.intro rfl ?_|refine aD ?_|refine aR ?_|refine bP ?_|(refine iA fun _=>?_)|refine IdxK.xs (by omega) ?_|refine QX (by omega) ?_|(refine ByteK.at (by omega) ?_)|refine wI ?_|refine ValO.params (a:=x) (b:=l[j]) rfl rfl rfl ?_);conv=>whnf)|(apply bD<;>intro _<;>first|omega|conv=>whnf)|(apply bE<;>intro _<;>first|omega|conv=>whnf)|(apply bN<;>intro _<;>conv=>whnf)|(apply bB<;>intro _<;>conv=>whnf)|(refine And.intro ?_ ?_<;>conv=>whnf))
  all_goals first
   | (have h9:x=l[j]:=by assumption
      exact ⟨_,.p (Sub.refl _),j,rfl,⟨fun _=>by rw [h9];exact List.getElem_mem hj,fun _=>by omega⟩⟩)
   | (have h9 : ¬x=l[j]:=by assumption
      exact ⟨j+1,⟨hj,fun h8=>(htk.1 h8).elim h3 h9⟩,by omega,Le.of_eq rfl⟩)
 ·rw [take_of_length_le hj] at h3;conv=>whnf
  repeat' (first|((first|(refine iM fun _=>?_)|refine dA ?_|refine And.intro rfl ?_|refine aD ?_|refine aR ?_|refine bP ?_|(refine iA fun _=>?_)|refine IdxK.xs (by omega) ?_|refine QX (by omega) ?_|(refine ByteK.at (by omega) ?_)|refine wI ?_);conv=>whnf)|(apply bD<;>intro _<;>first|omega|conv=>whnf)|(apply bE<;>intro _<;>first|omega|conv=>whnf)|(apply bN<;>intro _<;>conv=>whnf)|(apply bB<;>intro _<;>conv=>whnf))
  all_goals exact ⟨_,.p (Sub.refl _),-1,rfl,by simp [h3]⟩
theorem WJ (l:List Param) (x:Param):SpecP Tryz.prog 241 [.sl (l.map fun a => .agg a.cells),.agg x.cells] (fun r=>r = .bool (decide (x∈l))):=by
 refine sB ZE Tryz.func241 rfl Tryz.call241 ?_;conv=>whnf
 have hI:=VW l x;repeat' (first|((first|(refine iM fun _=>?_)|refine dA ?_|refine And.intro rfl ?_|refine aD ?_|refine aR ?_|refine bP ?_|(refine iA fun _=>?_)|refine IdxK.xs (by omega) ?_|refine QX (by omega) ?_|(refine ByteK.at (by omega) ?_)|refine wI ?_|(refine CallK.pure hI (.cons (Sub.refl _) (.cons (Sub.refl _) .nil)) ?_;rintro _ ⟨k,rfl,hk⟩));conv=>whnf)|(apply bD<;>intro _<;>first|omega|conv=>whnf)|(apply bE<;>intro _<;>first|omega|conv=>whnf)|(apply bN<;>intro _<;>conv=>whnf)|(apply bB<;>intro _<;>conv=>whnf))
 all_goals first
  | exact RetK.bool (by rw [Bool.eq_iff_iff,decide_eq_true_iff,decide_eq_true_iff];exact hk)
  | trace_state
theorem w2k {p:Pg} (h:QO p=true) {j:Nat} {f:Pr} (hj:p.procs[j]? = some f) {t:S} (ht:t∈flL f.body):z3d p t.id=t:=by
 have hm:=(QP h).1;have hf:=List.mem_of_getElem? hj;have e4:(flatU f).map RI.s=flL f.body:=x7l 1 0 false f.body;have ex : ∃ x∈UG f,x.s=t:=by
  rw [q4u hm hf];rw [<- e4] at ht;obtain ⟨x,hx,hs⟩:=List.mem_map.1 ht;exact ⟨x,hx,hs⟩
 obtain ⟨x,hx,hs⟩:=ex;unfold z3d BB;cases hr:x5o p t.id with
 | none =>
   exfalso;unfold x5o at hr;have h1:=List.findSome?_eq_none_iff.1 hr f hf;unfold x7e at h1;rw [Option.map_eq_none_iff,List.find?_eq_none] at h1;exact h1 x hx (by simp [hs])
 | some y =>
   obtain ⟨y,n⟩:=y;unfold x5o at hr;obtain ⟨g,hg,h1⟩:=List.exists_of_findSome?_eq_some hr;unfold x7e at h1;rw [Option.map_eq_some_iff] at h1;obtain ⟨z,h2,h3⟩:=h1;obtain rfl:z=y:=congrArg Prod.fst h3;obtain ⟨k,hk⟩:=List.mem_iff_getElem?.1 hg;have h4:=z5d h hk (List.mem_of_find?_eq_some h2);have h5:z.s.id=t.id:=by simpa using List.find?_some h2
   have h6:=PN h hk h4;have h7:=PN h hj ht;rw [h5,h7] at h6;exact (Option.some.inj h6).symm
theorem w8m {p:Pg} (h:QO p=true) {j:Nat} {f:Pr} (hj:p.procs[j]? = some f) : ∀ s∈q8d (QQ p j f) f,okSt s:=fun s hs=>by
 unfold q8d at hs;rcases List.mem_append.1 hs with hs|hs
 ·rcases List.mem_append.1 hs with hs|hs
  ·exact x1r h hj s hs
  ·rw [List.mem_singleton.1 hs];exact ⟨by decide,by decide⟩
 ·obtain ⟨it,hi,hs⟩:=List.mem_flatMap.1 hs;exact z1u h hj it hi s hs
def x1b (n:Nat):List Pr->List Pr
 | []=>[]
 | f::r=>⟨f.name,f.params,f.vars,nmL n f.body,f.fin⟩::x1b (n+cntL f.body) r
def w6s (p:Pg):Pg:=⟨p.globals,x1b 0 p.procs⟩
section
variable {p:Pg} {k:Nat} {f:Pr}
end
theorem x0q : ∀ (l:List Pr) {n:Nat} {m:Int},XR n l=some m -> ∀ (j:Nat) (f:Pr),l[j]? = some f -> ∃ m',UR 1 ((n+QL l j:Nat):Int) f.body=some m'
 | [],_,_,_,j,f,hj=>by simp at hj
 | g::r,n,m,h,j,f,hj=>by
   rw [XR] at h;cases hm:JH g<;>rw [hm] at h
   ·cases h
   simp only [cond_true] at h;split at h
   ·rename_i m1 h1;cases j with
    | zero =>
      cases hj;exact ⟨m1,h1⟩
    | succ j =>
      have h2:=JK _ _ g.body h1;have h':XR ((n+cntL g.body:Nat):Int) r=some m:=by rw [<- h,h2];rfl
      obtain ⟨m',h3⟩:=x0q r h' j f (by simpa using hj);exact ⟨m',by rw [<- h3,QL];congr 1;omega⟩
   ·cases h
theorem w5s {p:Pg} (h:YS p=true) {j:Nat} {f:Pr} (hj:p.procs[j]? = some f) : ∃ m,UR 1 ((QL p.procs j:Nat):Int) f.body=some m:=by
 unfold YS at h;simp only [Bool.and_eq_true] at h;obtain ⟨m,hm⟩:=Option.isSome_iff_exists.1 h.2;obtain ⟨m',h'⟩:=x0q p.procs (n:=0) hm j f hj;exact ⟨m',by rw [<- h'];congr 1;omega⟩
theorem q8m : ∀ (l:List Int) (b:List Bool) (i:Nat),i<b.length->((KP l b).getD i false=true↔b.getD i false=true ∨ ∃ a∈l,a.toNat=i)
 | [],b,i,hi=>by simp [KP]
 | a::r,b,i,hi=>by
   have ih:=q8m r (b.set a.toNat true) i (by rw [List.length_set];exact hi);have e:KP (a::r) b=KP r (b.set a.toNat true):=rfl;rw [e,ih];simp only [mem_cons,exists_eq_or_imp];by_cases ha:a.toNat=i
   ·simp [ha,hi,getD_eq_getElem?_getD,List.getElem?_set]
   ·simp [ha,getD_eq_getElem?_getD,List.getElem?_set]
theorem x1d {p:Pg} (h:QO p=true) {j:Nat} {f:Pr} (hj:p.procs[j]? = some f) {y:Int} (hy:plP p j f y):(QQ p j f).live.getD (ixI p j f y).toNat false=true↔Rch (wR p j f) 0 y:=by
 have hrng:=YY hy;have hl:(QQ p j f).live=KP (HX 0 (ZU (QS (cntL f.body+2) ((QQ p j f).real.map (ixP p j f (cntL f.body+2:Nat)))).1 [0])) (List.replicate (cntL f.body+2) false):=rfl;rw [hl,q8m _ _ _ (by rw [List.length_replicate];omega)];have h0:(List.replicate (cntL f.body+2) false).getD (ixI p j f y).toNat false=false:=by
  rw [getD_eq_getElem?_getD,List.getElem?_replicate];split<;>rfl
 rw [h0];have hs:=x0x (F:=(QQ p j f).real) (ZY h hj) hy;unfold wR;rw [<- hs];constructor
 ·rintro (h1|⟨a,h1,h2⟩)
  ·cases h1
  ·have ha:=x1e _ _ _ h1
   rwa [show ixI p j f y=a by omega]
 ·exact fun h1 => .inr ⟨_,h1,rfl⟩
section
variable {p:Pg} {k:Nat} {f:Pr}
end
theorem x6c : ∀ (l:List (Int×Int)) (rows:List (List Int)),(∀ t∈l,0<=t.1∧t.1<rows.length) -> ∀ (a:Nat) (x:Int),x∈(l.foldl nxE rows).getD a []↔x∈rows.getD a [] ∨ ∃ t∈l,t.1=a∧t.2=x
 | [],rows,_,a,x=>by simp
 | t::r,rows,h,a,x=>by
   obtain ⟨h1,h2⟩:=h t mem_cons_self;rw [List.foldl_cons,x6c r (nxE rows t) (fun u hu=>by rw [z8j];exact h u (List.mem_cons_of_mem _ hu))];have e:x∈(nxE rows t).getD a []↔x∈rows.getD a []∨(t.1=a∧t.2=x):=by
    unfold nxE;simp only [getD_eq_getElem?_getD,List.getElem?_set];by_cases he:t.1.toNat=a
    ·subst he;have e0:t.1=(t.1.toNat:Int):=by omega
     rw [if_pos rfl,if_pos (by omega)];simp only [Option.getD_some,List.mem_append,List.mem_singleton];constructor
     ·rintro (h3|h3)
      ·exact .inl h3
      ·exact .inr ⟨e0,h3.symm⟩
     ·rintro (h3|⟨_,h3⟩)
      ·exact .inl h3
      ·exact .inr h3.symm
    ·rw [if_neg he];constructor
     ·exact .inl
     ·rintro (h3|⟨h3,_⟩)
      ·exact h3
      ·omega
   rw [e];simp only [mem_cons,exists_eq_or_imp,or_assoc]
theorem q6i {n:Nat} {l:List (Int×Int)} (h : ∀ t∈l,0<=t.1∧t.1<n) {a:Nat} {x:Int}:x∈(q0x n l).getD a [] ↔ ∃ t∈l,t.1=a∧t.2=x:=by
 unfold q0x;rw [x6c l _ (by simpa using h)];have:(List.replicate n ([]:List Int)).getD a []=[]:=by
  rw [getD_eq_getElem?_getD,List.getElem?_replicate];split<;>rfl
 rw [this];simp
mutual
theorem w2f : ∀ (t:S) {nest seen m:Int},x0e nest seen t=some m -> ∀ u∈flS t,oneOk u=true
 | .mk id kind labels name pr x has args thn els,nest,seen,m,h,u,hu=>by
   obtain ⟨h1,_,m1,h3,h4⟩:=q0s h;rw [flS] at hu;rcases List.mem_cons.1 hu with rfl|hu
   ·exact h1
   ·rcases List.mem_append.1 hu with hu|hu
    ·exact q3e thn h3 u hu
    ·exact q3e els h4 u hu
theorem q3e : ∀ (l:List S) {nest seen m:Int},UR nest seen l=some m -> ∀ u∈flL l,oneOk u=true
 | [],_,_,_,_,u,hu=>by rw [flL] at hu;cases hu
 | t::r,nest,seen,m,h,u,hu=>by
   obtain ⟨_,m1,h1,h2⟩:=DT h;rw [flL] at hu;rcases List.mem_append.1 hu with hu|hu
   ·exact w2f t h1 u hu
   ·exact q3e r h2 u hu
end
theorem w0v {p:Pg} {j:Nat} {f:Pr} (h:QO p=true) (hj:p.procs[j]? = some f) {t:S} (ht:t∈flL f.body):OneF t:=by
 obtain ⟨m,hr⟩:=w5s (QP h).1 hj;exact YJ (q3e _ hr t ht)
section
variable {p:Pg} {j:Nat} {f:Pr}
def w9g (p:Pg) (j:Nat) (f:Pr):Int->Int->Prop:=stR (v2e (QQ p j f) f)
theorem x4b (h:QO p=true) (hj:p.procs[j]? = some f) {a b:Int}:w9g p j f a b↔wR p j f a b∨(a=0∧b = -1)∨(∃ l∈trapsW (QQ p j f) f,∃ t∈flL f.body,t.id∈l∧t.kind=10∧a=t.id∧b = -1) ∨ ∃ it∈itsOf p j f,7<=it.s.kind∧a=it.s.id∧b=it.next:=by
 have hA:=HL (w8m h hj);have hraw : ∀ s,s∈q8d (QQ p j f) f↔s∈VD (QQ p j f) f∨s∈(QQ p j f).real∨s=⟨0,-1,2⟩∨s∈(itsOf p j f).flatMap fOf:=fun s=>by
  have e:q8d (QQ p j f) f=VD (QQ p j f) f++(QQ p j f).real++[⟨0,-1,2⟩]++(itsOf p j f).flatMap fOf:=rfl;rw [e];simp only [List.mem_append,List.mem_singleton,or_assoc]
 have hof : ∀ s∈q8d (QQ p j f) f,w9g p j f s.src s.dst:=fun s hs=>by
  obtain ⟨s',h1,h2,h3,_⟩:=hA.2.2 s hs;exact ⟨s',h1,h2,h3⟩
 constructor
 ·rintro ⟨s,hs,rfl,rfl⟩;rcases (hraw s).1 (hA.2.1 s hs) with h1|h1|h1|h1
  ·obtain ⟨l,hl,t,ht,hid,hk,rfl⟩:=(NT h hj).1 h1;exact .inr (.inr (.inl ⟨l,hl,t,ht,hid,hk,rfl,rfl⟩))
  ·exact .inl ⟨s,h1,rfl,rfl⟩
  ·rw [h1];exact .inr (.inl ⟨rfl,rfl⟩)
  ·obtain ⟨it,hi,hs⟩:=List.mem_flatMap.1 h1;unfold fOf at hs;split at hs
   ·rw [List.mem_singleton.1 hs];exact .inr (.inr (.inr ⟨it,hi,by omega,rfl,rfl⟩))
   ·cases hs
 ·rintro (⟨s,hs,rfl,rfl⟩|⟨rfl,rfl⟩|⟨l,hl,t,ht,hid,hk,rfl,rfl⟩|⟨it,hi,hk,rfl,rfl⟩)
  ·exact hof s ((hraw s).2 (.inr (.inl hs)))
  ·exact hof ⟨0,-1,2⟩ ((hraw _).2 (.inr (.inr (.inl rfl))))
  ·exact hof ⟨t.id,-1,3⟩ ((hraw _).2 (.inl ((NT h hj).2 ⟨l,hl,t,ht,hid,hk,rfl⟩)))
  ·refine hof ⟨it.s.id,it.next,2⟩ ((hraw _).2 (.inr (.inr (.inr (List.mem_flatMap.2 ⟨it,hi,?_⟩)))));have hF:=(w0v h hj (x1q hi)).hi;unfold fOf;rw [if_pos (by omega)];exact List.mem_singleton.2 rfl
theorem w1x (h:QO p=true) (hj:p.procs[j]? = some f) {a b:Int} (hr:w9g p j f a b):plP p j f a∧plP p j f b∧a ≠ -1∧b≠0:=by
 have hst : ∀ t∈flL f.body,plP p j f t.id∧t.id ≠ -1:=fun t ht=>by
  have hb:=WT (QP h).1 hj ht;exact ⟨.inr (.inr hb),by omega⟩
 rcases (x4b h hj).1 hr with h1|⟨rfl,rfl⟩|⟨l,hl,t,ht,hid,hk,rfl,rfl⟩|⟨it,hi,hk,rfl,rfl⟩
 ·obtain ⟨h2,h3⟩:=w9h h hj h1;refine ⟨h2,h3,?_,fun e=>w1g h hj (e▸h1)⟩;obtain ⟨s,hs,rfl,rfl⟩:=h1;rcases w1y h hj (((LQ h hj).2 s).1 hs) with h4|h4
  ·rw [h4];show (0:Int) ≠ -1;decide
  ·omega
 ·exact ⟨.inl rfl,.inr (.inl rfl),by decide,by decide⟩
 ·exact ⟨(hst t ht).1,.inr (.inl rfl),(hst t ht).2,by decide⟩
 ·have h1:=(q7j hi).1;unfold okI at h1;refine ⟨(hst _ (x1q hi)).1,?_,(hst _ (x1q hi)).2,by omega⟩;rcases h1 with h1|h1
  ·exact .inr (.inl h1)
  ·exact .inr (.inr h1)
theorem ix_exit:ixI p j f (-1)=(cntL f.body+2:Nat)-1:=by
 unfold ixI ZO;rw [if_neg (by decide),if_pos rfl]
end
def x2l (k:Int) (x:RI):Bool:=decide (k=0)||decide (x.s.kind=k)
def q9b (p:Pg) (k:Int):List Int:=((allR p).filter (x2l k)).map fun x=>x.s.id
theorem q3s (p:Pg) (k:Int) (hl:(allR p).length<=1000):SpecP Tryz.prog 36 [.agg p.cells,.int .i64 k] (fun r=>r=ZM (q9b p k)):=by
 refine sB LA Tryz.func36 rfl Tryz.call36 ?_;conv=>whnf
 have hrl:=q9e (allR p);repeat' ((first|(refine iM fun _=>?_)|refine cP (HQ _) ?_);conv=>whnf)
 refine LoopK.inv QY (fun x:Nat×List Int=>⟨[(1,.p (.int .i64 k)),(5,.hd 0 0 x.2.length),(9,.p (w6e (allR p))),(10,.p (.int .i64 ((allR p).map fun i=>AV.agg i.cells).length)),(11,.p (.int .i64 x.1))],[(0,.own 3 1 (x.2.map (.int .i64)))]⟩) (fun x=>x.1<=(allR p).length∧x.2.length<=x.1∧x.2++(((allR p).drop x.1).filter (x2l k)).map (fun y=>y.s.id)=q9b p k) (fun x=>(allR p).length-x.1) (0,[])
  (Le.mk [(0,.own 3 1 [])] (by simp [Chunk.new0];rfl) (by simp) (by simp) (.cons (.refl _) (.cons (.nil mem_cons_self) (.cons (.refl _) (.cons (.refl _) (.cons (.refl _) .nil))))) (.new mem_cons_self .nil)) ⟨zero_le _,Nat.le_refl _,rfl⟩ ?_
 rintro ⟨j,o⟩ ⟨h2,h4,h3⟩;simp only at h2 h3 h4 ⊢;generalize hL:allR p=L at h2 h3 hrl hl ⊢;rcases Nat.lt_or_ge j L.length with hj|hj
 ·rw [List.drop_eq_getElem_cons hj] at h3;conv=>whnf
  repeat' (first|((first|refine And.intro rfl ?_|refine aD ?_|refine bP ?_|(refine iA fun _=>?_)|refine wI ?_|refine ZJ (by simp) (by simp;omega) ?_);conv=>whnf)|(apply bD<;>intro _<;>first|omega|conv=>whnf))
  all_goals first
   | (have e:x2l k L[j]=true:=by unfold x2l;simp [*];done
      rw [filter_cons_of_pos e,map_cons] at h3;exact ⟨(j+1,o++[L[j].s.id]),⟨hj,by simp;omega,by rw [List.append_assoc];exact h3⟩,by simp only;omega,Le.of_eq (by simp only [length_append,List.map_append,length_map];rfl)⟩)
   | (have e:x2l k L[j]=false:=by unfold x2l;simp [*];done
      rw [filter_cons_of_neg (fun hh=>by rw [e] at hh;cases hh)] at h3;exact ⟨(j+1,o),⟨hj,by simp only;omega,h3⟩,by simp only;omega,Le.of_eq rfl⟩)
   | trace_state
 ·rw [List.drop_eq_nil_of_le hj] at h3;simp only [List.filter_nil,List.map_nil,append_nil] at h3;conv=>whnf
  repeat' (apply bD<;>intro _<;>first|omega|conv=>whnf)
  all_goals first
   | exact ⟨_,.hd rfl (by simp),by rw [<- h3];rfl⟩
   | trace_state
namespace Own
end Own
open Go.Proofs
def rng (a b:Int) (v:Int):Prop:=a<=v∧v<=b
def v2g (l:List Int) (i:Nat):Int:=l.getD i 0
def srt (K:Int->Int) (l:List Int) (a b:Nat):Prop := ∀ i k,a<=i->i<k->k<b->K (v2g l k)<=K (v2g l i)
def blk (K:Int->Int) (l:List Int) (bs n:Nat):Prop := ∀ q,srt K l (q*bs) (min (q*bs+bs) n)
def w0l:List AV:=[.int .i64 (-1),.int .i64 0,.nils,.str [],.str [],.int .i64 0,.int .i64 0,.str [],.nils,.ff,.nils,.nils,.nils]
theorem q3t : ∀ (k:Nat) (l:List S) (_:cntL l<k) (_:cntL l<=1000000) (_ : ∀ t∈flL l,okC t∧t.id ≠ -1),SpecP Tryz.prog 124 [eSs l,.agg w0l] (fun r=>r=eSs l):=by
 intro k;induction k with
 | zero=>intro l h;omega
 | succ k ih =>
   intro l hk hn hok;have hsl:(S.avs l).length=l.length:=by rw [S.avs_eq,length_map]
   have hcl:=x0i l;refine sB MU Tryz.func124 rfl Tryz.call124 ?_;conv=>whnf
   repeat' (refine iM fun _=>?_;conv=>whnf)
   refine LoopK.inv QY (fun j:Nat=>⟨[(3,.p (.ip w0l)),(5,.hd 0 0 j),(9,.p (eSs l)),(10,.p (.int .i64 (S.avs l).length)),(11,.p (.int .i64 j))],[(0,.own 40 13 (S.avs (l.take j)))]⟩) (fun j=>j<=l.length) (fun j=>l.length-j) 0
    (Le.mk [(0,.own 40 13 [])] (by simp [Chunk.new0];rfl) (by simp) (by simp) (.cons (.refl _) (.cons (.nil mem_cons_self) (.cons (.refl _) (.cons (.refl _) (.cons (.refl _) .nil))))) (.new mem_cons_self .nil)) (zero_le _) ?_
   intro j h2;rcases Nat.lt_or_ge j l.length with hj|hj
   ·have htm:=x2j (List.getElem_mem hj);have hcs:=ZA l[j];have hself:=hok _ (ML l _ (List.getElem_mem hj));have hsub : ∀ t,t∈flL l[j].thn∨t∈flL l[j].els->okC t∧t.id ≠ -1:=fun t ht=>hok t (by
     have:t∈flS l[j]:=by
      rw [z4i];exact List.mem_cons_of_mem _ (List.mem_append.2 ht)
     have key : ∀ (m:List S) (i:Nat) (h:i<m.length),t∈flS m[i]->t∈flL m:=fun m=>by
      induction m with
      | nil=>intro i h;simp at h
      | cons a r ih =>
        intro i h ht;rw [flL];cases i with
        | zero=>exact List.mem_append.2 (.inl ht)
        | succ i=>exact List.mem_append.2 (.inr (ih i (by simpa using h) ht))
     exact key l j hj this)
    have h5:=UF l[j] hself.1.1 hself.1.2.1 hself.1.2.2.1 hself.1.2.2.2;have hid:=hself.2;have h6:=ih l[j].thn (by omega) (by omega) fun t ht=>hsub t (.inl ht);have h7:=ih l[j].els (by omega) (by omega) fun t ht=>hsub t (.inr ht);have hacl:j=(S.avs (l.take j)).length:=by rw [S.avs_eq,length_map,length_take];omega
    have hav:S.avs (l.take (j+1))=S.avs (l.take j)++[.agg l[j].cells]:=by
     rw [S.avs_eq,S.avs_eq,take_succ_eq_append_getElem hj,List.map_append];rfl
    generalize S.avs (l.take j)=acc at hacl hav ⊢;have e:l[j] = .mk l[j].id l[j].kind l[j].labels l[j].name l[j].proc l[j].x l[j].has l[j].args l[j].thn l[j].els:=by cases l[j];rfl
    conv=>whnf
    repeat' (first|((first|refine dA ?_|refine And.intro rfl ?_|refine aD ?_|refine bP ?_|refine QX (by omega) ?_|refine wI ?_|refine cP h5 ?_|refine cP h6 ?_|refine cP h7 ?_|refine AppK.mk hacl rfl (by show (j+1)*208<=140737488355328;omega) (by show j+1<=9223372036854775807;omega) (fun x hx=>by rcases List.mem_singleton.1 hx with rfl;exact ⟨rfl,rfl⟩) ?_);conv=>whnf)|(apply bD<;>intro _<;>first|omega|conv=>whnf))
    all_goals first
     | exact ⟨j+1,hj,by omega,Le.of_eq (by rw [hav];rfl)⟩
     | contradiction
     | trace_state
   ·have hall:l.take j=l:=take_of_length_le hj;have hjl:j=(S.avs l).length:=by rw [S.avs_eq,length_map];omega
    rw [hall];conv=>whnf
    repeat' (apply bD<;>intro _<;>first|omega|conv=>whnf)
    exact ⟨_,.hd rfl hjl,rfl⟩
theorem z6p : ∀ (l:List Pr) (j:Nat),QL l j<=cntP l
 | _,0=>by rw [QL];omega
 | [],j+1=>by rw [QL];omega
 | g::r,j+1=>by rw [QL,cntP];have:=z6p r j;omega
structure CopyF (p:Pg):Prop where
 procs:p.procs.length<=1000
 globals:p.globals.length<=1000000
 pr : ∀ f∈p.procs,f.vars.length<=1000000∧f.fin.length<=1000000∧f.params.length<=1000000∧cntL f.body<=100000 ∧ ∀ t∈flL f.body,okC t∧t.id ≠ -1
def v2a (p:Pg):Heap:=[(2,.obj 25 [.p (eStrs p.globals),.hd 1 0 p.procs.length]),(1,.own 68 5 (p.procs.map fun f => .agg f.cells))]
def v1g (p:Pg):Heap:=[(6,.own 68 5 (p.procs.map fun f => .agg f.cells)),(1,.obj 25 [.p (eStrs p.globals),.hd 6 0 p.procs.length])]
theorem q3c (p:Pg) (h:CopyF p):SpecH Tryz.prog 62 [.p (.agg p.cells),.p (.agg w0l)] [] (fun r H=>r = .agg [.p (eStrs p.globals),.hd 1 0 p.procs.length]∧H=v2a p):=by
 refine sH LY Tryz.func62 rfl Tryz.call62 ?_;conv=>whnf
 have hgt:=ZD p.globals h.globals;have hpm:(p.procs.map fun f=>AV.agg f.cells).length=p.procs.length:=length_map _;have hpl:=h.procs;repeat' ((first|(refine iM fun _=>?_)|refine And.intro rfl ?_|refine cP hgt ?_);conv=>whnf)
 refine LoopK.inv QY (fun j:Nat=>⟨[(3,.p (.ip w0l)),(4,.ptr 2 0),(5,.ptr 0 0),(14,.p (.sl (p.procs.map fun f=>AV.agg f.cells))),(15,.p (.int .i64 (p.procs.map fun f=>AV.agg f.cells).length)),(16,.p (.int .i64 j))],[(0,.obj 25 [.p (eStrs p.globals),.hd 1 0 j]),(2,.obj 25 [.p .nils,.p .nils]),(1,.own 68 5 ((p.procs.take j).map fun f => .agg f.cells))]⟩) (fun j=>j<=p.procs.length) (fun j=>p.procs.length-j) 0
  (Le.mk [(1,.own 68 5 [])] (by simp [Chunk.new0];rfl) (by simp) (by simp) (.cons (.refl _) (.cons (.refl _) (.cons (.refl _) (.cons (.refl _) (.cons (.refl _) (.cons (.refl _) .nil)))))) (.cons rfl (.obj (.cons (.refl _) (.cons (.nil mem_cons_self) .nil))) (.cons rfl (.refl _) (.new mem_cons_self .nil)))) (zero_le _) ?_
 intro j h2;rcases Nat.lt_or_ge j p.procs.length with hj|hj
 ·obtain ⟨hv,hfin,hpm2,hcb,hok⟩:=h.pr _ (List.getElem_mem hj);have h5:=ZD p.procs[j].vars hv;have h6:=ZD p.procs[j].fin hfin;have h7:=q3t (cntL p.procs[j].body+1) p.procs[j].body (by omega) (by omega) hok;have htl:((p.procs.take j).map fun f=>AV.agg f.cells).length=j:=by rw [length_map,length_take];omega
  have htk:((p.procs.take (j+1)).map fun f=>AV.agg f.cells)=((p.procs.take j).map fun f=>AV.agg f.cells)++[.agg p.procs[j].cells]:=by
   rw [take_succ_eq_append_getElem hj,List.map_append];rfl
  generalize ((p.procs.take j).map fun f=>AV.agg f.cells)=acc at htl htk ⊢;have hpa:(p.procs[j].params.map fun x=>AV.agg x.cells).length=p.procs[j].params.length:=length_map _;conv=>whnf
  repeat' (first|((first|refine dA ?_|refine And.intro rfl ?_|refine aD ?_|(refine iA fun _=>?_)|refine cP h5 ?_|refine cP h6 ?_|refine cP h7 ?_|refine AppK.mk rfl rfl (by rw [hpa];show (0+p.procs[j].params.length)*24<=140737488355328;omega) (by rw [hpa];show 0+p.procs[j].params.length<=9223372036854775807;omega) (fun x hx=>by obtain ⟨y,_,rfl⟩:=List.mem_map.1 hx;exact ⟨rfl,rfl⟩) ?_);conv=>whnf)|(apply bD<;>intro _<;>first|omega|conv=>whnf)|(refine And.intro ?_ ?_<;>conv=>whnf))
  all_goals
   refine z4d QY (k:=4) 41 p.procs[j].cells rfl rfl rfl (fun q u c h1 h2 => ?_) ?_
   ·match q,h1,h2 with
    | 0,h1,h2=>cases h1;cases h2;exact .inl ⟨_,rfl,Sub.refl _⟩
    | 1,h1,h2=>cases h1;cases h2;exact .inr ⟨_,rfl,by simp,rfl⟩
    | 2,h1,h2=>cases h1;cases h2;exact .inl ⟨_,rfl,Sub.refl _⟩
    | 3,h1,h2=>cases h1;cases h2;exact .inl ⟨_,rfl,Sub.refl _⟩
    | 4,h1,h2=>cases h1;cases h2;exact .inl ⟨_,rfl,Sub.refl _⟩
    | q+5,h1,h2=>simp at h1
   conv=>whnf
   repeat' ((first|refine And.intro rfl ?_|refine aD ?_|refine bP ?_|refine wI ?_|refine AppK.mk htl.symm rfl (by show (j+1)*112<=140737488355328;omega) (by show j+1<=9223372036854775807;omega) (fun x hx=>by rcases List.mem_singleton.1 hx with rfl;exact ⟨rfl,rfl⟩) ?_);conv=>whnf)
   exact ⟨j+1,hj,by omega,Le.of_eq (by rw [htk];rfl)⟩
 ·have hA:((p.procs.take j).map fun f=>AV.agg f.cells)=p.procs.map fun f => .agg f.cells:=by
   rw [take_of_length_le hj]
  have hje:j=p.procs.length:=by omega
  subst hje;rw [hA];conv=>whnf
  repeat' (first|(refine And.intro rfl ?_;conv=>whnf)|(apply bD<;>intro _<;>first|omega|conv=>whnf))
  exact ⟨_,LSub.refl _,rfl,rfl⟩
theorem q1m (p:Pg) (h:CopyF p):SpecH Tryz.prog 121 [.p (.agg p.cells)] [] (fun r H=>r = .agg [.p (eStrs p.globals),.hd 6 0 p.procs.length]∧H=v1g p):=by
 refine sH BN Tryz.func121 rfl Tryz.call121 ?_;conv=>whnf
 repeat' ((first|refine And.intro rfl ?_|(refine CallK.heap [] 5 (ArgsH.cons (LSub.refl _) (ArgsH.cons (LSub.refl _) ArgsH.nil)) BlksH.nil (q3c p h) rfl rfl ?_;rintro l' H' ⟨rfl,rfl⟩));conv=>whnf)
 exact ⟨_,LSub.refl _,rfl,rfl⟩
def NP (p:Pg) (j:Nat):List Pr:=(x1b 0 p.procs).take j++p.procs.drop j
theorem x4z : ∀ (l:List Pr) (n j:Nat) (f:Pr),l[j]? = some f->(x1b n l)[j]? = some ⟨f.name,f.params,f.vars,nmL (n+QL l j) f.body,f.fin⟩
 | g::r,n,0,f,h=>by cases h;rw [x1b];rfl
 | g::r,n,j+1,f,h=>by
   rw [x1b,List.getElem?_cons_succ,x4z r (n+cntL g.body) j f (by simpa using h),QL,Nat.add_assoc]
theorem KB : ∀ (l:List Pr) (n:Nat),(x1b n l).length=l.length
 | [],n=>rfl
 | g::r,n=>by rw [x1b,List.length_cons,List.length_cons,KB r]
theorem z7m (p:Pg) {j:Nat} (h:j<=p.procs.length):(NP p j).length=p.procs.length:=by
 unfold NP;rw [length_append,length_take,List.length_drop,KB];omega
theorem z8d (p:Pg) {j:Nat} (hj:j<p.procs.length):(NP p j)[j]? = some p.procs[j]:=by
 unfold NP;rw [List.getElem?_append_right (by rw [length_take,KB];omega),length_take,KB,List.getElem?_drop];rw [show j+(j-min j p.procs.length)=j by omega,List.getElem?_eq_getElem hj]
theorem z4j (p:Pg) {j:Nat} (hj:j<p.procs.length):NP p (j+1)=(NP p j).set j ⟨p.procs[j].name,p.procs[j].params,p.procs[j].vars,nmL (QL p.procs j) p.procs[j].body,p.procs[j].fin⟩:=by
 have h1:=x4z p.procs 0 j _ (List.getElem?_eq_getElem hj);rw [Nat.zero_add] at h1;unfold NP;have hl:((x1b 0 p.procs).take j).length=j:=by rw [length_take,KB];omega
 rw [List.set_append_right _ _ (by omega),hl,Nat.sub_self,List.drop_eq_getElem_cons hj,List.set_cons_zero,List.take_add_one,h1];simp
theorem z6x {l:List Pr} {j:Nat} (hj:j<l.length):QL l (j+1)=QL l j+cntL l[j].body:=by
 induction l generalizing j with
 | nil=>simp at hj
 | cons g r ih =>
   cases j with
   | zero=>rw [QL,QL,QL];simp
   | succ j =>
     rw [QL,QL,ih (by simpa using hj)];simp only [List.getElem_cons_succ];omega
theorem PG (p:Pg) (h:CopyF p) (hc:cntP p.procs<=100000):SpecP Tryz.prog 123 [.agg p.cells] (fun r=>r = .agg (w6s p).cells):=by
 refine sB FN Tryz.func123 rfl Tryz.call123 ?_;conv=>whnf
 have hpm:(p.procs.map fun f=>AV.agg f.cells).length=p.procs.length:=length_map _;have hpl:=h.procs;repeat' ((first|(refine iM fun _=>?_)|refine And.intro rfl ?_|(refine CallK.heap [] 20 (ArgsH.cons (LSub.refl _) ArgsH.nil) BlksH.nil (q1m p h) rfl rfl ?_;rintro l' H' ⟨rfl,rfl⟩));conv=>whnf)
 refine LoopK.inv QY (fun j:Nat=>⟨[(1,.p (.ip p.cells)),(2,.ptr 1 0),(3,.ptr 0 0),(4,.p (.int .i64 (QL p.procs j))),(10,.p (.int .i64 p.procs.length)),(11,.p (.int .i64 j))],[(0,.obj 25 [.p (eStrs p.globals),.hd 26 0 p.procs.length]),(26,.own 68 5 ((NP p j).map fun f => .agg f.cells)),(1,.obj 25 [.p .nils,.p .nils])]⟩) (fun j=>j<=p.procs.length) (fun j=>p.procs.length-j) 0
  (Le.of_eq (by rw [show NP p 0=p.procs from rfl,show QL p.procs 0=0 by rw [QL]];rfl)) (zero_le _) ?_
 intro j h2;have hrl:=z7m p h2;rcases Nat.lt_or_ge j p.procs.length with hj|hj
 ·obtain ⟨hv,hfin,hpm2,hcb,hok⟩:=h.pr _ (List.getElem_mem hj);have hle:=z6p p.procs j;have h5:=HO (cntL p.procs[j].body+1) p.procs[j].body (by omega) (QL p.procs j) (by omega) fun t ht=>(hok t ht).1;have hget:((NP p j).map fun f=>AV.agg f.cells)[j]? = some (.agg p.procs[j].cells):=by rw [List.getElem?_map,z8d p hj];rfl
  have hset:((NP p j).map fun f=>AV.agg f.cells).set j (.agg (Pr.mk p.procs[j].name p.procs[j].params p.procs[j].vars (nmL (QL p.procs j) p.procs[j].body) p.procs[j].fin).cells)=(NP p (j+1)).map fun f=>AV.agg f.cells:=by
   rw [z4j p hj,<- List.map_set]
  have hst:=z6x hj;generalize ((NP p j).map fun f=>AV.agg f.cells)=row at hget hset ⊢;conv=>whnf
  repeat' (first|((first|refine And.intro rfl ?_|(refine iA fun _=>?_)|refine wI ?_|refine DrawK.of QY mixed (.cons 3 false (.cons 4 false (.cons 5 false (.cons 6 false (.cons 7 false (.cons 8 false (.cons 9 false (.cons 0 false (.cons 2 false (.fork 1 (.cons 10 true (.cons 11 false (.cons 12 false (.cons 14 true (.cons 15 true (.cons 13 false (.cons 16 true (.cons 17 true .nil)))))))) 10 (.cons 1 true (.cons 11 false (.cons 12 false (.cons 14 true (.cons 15 true (.cons 13 false (.cons 16 true (.cons 17 true .nil)))))))))))))))))) (by kernel_rfl) ?_|refine cP h5 ?_|refine IdxL.mk j rfl hj ?_|refine StOwn.mk j 3 (.agg p.procs[j].cells) (.agg (Pr.mk p.procs[j].name p.procs[j].params p.procs[j].vars (nmL (QL p.procs j) p.procs[j].body) p.procs[j].fin).cells) (by show (0+j)*5+3=j*5+3;omega) hget (Nat.le_of_ble_eq_true rfl) rfl ?_);conv=>whnf)|(apply bD<;>intro _<;>first|omega|conv=>whnf)|(refine And.intro ?_ ?_<;>conv=>whnf))
  all_goals exact ⟨j+1,hj,by omega,Le.of_eq (by rw [<- hset,hst];rfl)⟩
 ·have hje:j=p.procs.length:=by omega
  subst hje;have hA:NP p p.procs.length=(w6s p).procs:=by
   unfold NP w6s;rw [take_of_length_le (by rw [KB];exact Nat.le_refl _),List.drop_eq_nil_of_le (Nat.le_refl _),append_nil]
  have hcl:p.procs.length=((w6s p).procs.map fun f=>AV.agg f.cells).length:=by rw [length_map,<- hA,hrl]
  rw [hA];conv=>whnf
  repeat' (first|(refine And.intro rfl ?_;conv=>whnf)|(apply bD<;>intro _<;>first|omega|conv=>whnf))
  refine ⟨_,.agg (cs:=(w6s p).cells) rfl fun i l c h1 h3 => ?_,rfl⟩
  match i,h1,h3 with
  | 0,h1,h3=>cases h1;cases h3;exact .p (Sub.refl _)
  | 1,h1,h3 =>
    cases h1;cases h3;exact .hd rfl hcl
  | i+2,h1,h3=>simp at h1
section
variable {p:Pg} {j:Nat} {f:Pr}
end
section
variable {p:Pg} {j:Nat} {f:Pr}
end
structure Book where
 s:Sheet
 ways:List Way
 defs:List (List Str)
 uses:List (List Str)
 ins:List (List Str)
 outs:List (List Str)
def Book.cells (b:Book):List AV:=[.ip b.s.cells,.sl (b.ways.map fun w => .ip w.cells),.sl (b.defs.map eStrs),.sl (b.uses.map eStrs),.sl (b.ins.map eStrs),.sl (b.outs.map eStrs)]
def tapeS:Str:=[36,105,110]
def comB (p:Pg) (n:Str):Bool:=(n==tapeS)||p.globals.any fun s=>n==s
theorem HK (b:Book) (n:Str):SpecP Tryz.prog 240 [.ip b.cells,.str n] (fun r=>r = .bool (comB b.s.p n)):=by
 refine sB LF Tryz.func240 rfl Tryz.call240 ?_;conv=>whnf
 repeat' (first|((first|(refine iM fun _=>?_)|refine cP (QZ _ _) ?_|refine dA ?_|refine And.intro rfl ?_|refine aD ?_|refine aR ?_|refine bP ?_|(refine iA fun _=>?_)|refine IdxK.xs (by omega) ?_|refine QX (by omega) ?_|(refine ByteK.at (by omega) ?_)|refine wI ?_);conv=>whnf)|(apply bD<;>intro _<;>first|omega|conv=>whnf)|(apply bE<;>intro _<;>first|omega|conv=>whnf)|(apply bN<;>intro _<;>conv=>whnf)|(apply bB<;>intro _<;>conv=>whnf))
 all_goals first
  | (have h9:(n==tapeS)=true:=by assumption
     exact RetK.tt (by unfold comB;rw [h9];rfl))
  | (have h9:(n==tapeS)=false:=by assumption
     exact RetK.bool (by unfold comB;rw [h9,Bool.false_or]))
theorem x2k (p:Pg) (j:Nat) (f:Pr) (h:QO p=true) (hj:p.procs[j]? = some f) (id:Int) (hid:plP p j f id):SpecP Tryz.prog 239 [.ip (QQ p j f).cells,.int .i64 id] (fun r=>r = .bool ((QQ p j f).live.getD (ixI p j f id).toNat false)):=by
 refine sB q6u Tryz.func239 rfl Tryz.call239 ?_;conv=>whnf
 have hT:=w9q h hj;have hI:=q0v (QQ p j f) f hT.hj hT.hc (by have:=hT.hn2;have:=hT.hn;have:=hT.hw;omega) id;have he:ZO (loI (QQ p j f).p (QQ p j f).j) (hiI (QQ p j f).p (QQ p j f).j f) (QQ p j f).n id=ixI p j f id:=rfl;rw [he] at hI;have hr:=YY hid;have hll:(QQ p j f).live.length=cntL f.body+2:=by show (KP _ (List.replicate (cntL f.body+2) false)).length=_;rw [q9x];simp
 generalize ixI p j f id=ix at *
 have hg:((QQ p j f).live.map bv)[ix.toNat]? = some (bv ((QQ p j f).live.getD ix.toNat false)):=by
  rw [List.getElem?_map,getD_eq_getElem?_getD,List.getElem?_eq_getElem (by omega)];rfl
 generalize (QQ p j f).live.getD ix.toNat false=v at *
 cases v;all_goals
  repeat' (first|((first|(refine iM fun _=>?_)|refine dA ?_|refine And.intro rfl ?_|refine aD ?_|refine aR ?_|refine bP ?_|(refine iA fun _=>?_)|refine IdxK.xs (by omega) ?_|refine QX (by omega) ?_|(refine ByteK.at (by omega) ?_)|refine wI ?_|refine cP hI ?_|(refine IdxK.at (k:=ix.toNat) (by omega) hg rfl ?_));conv=>whnf)|(apply bD<;>intro _<;>first|omega|conv=>whnf)|(apply bE<;>intro _<;>first|omega|conv=>whnf)|(apply bN<;>intro _<;>conv=>whnf)|(apply bB<;>intro _<;>conv=>whnf)|(refine And.intro ?_ ?_<;>conv=>whnf))
 all_goals first
  | exact RetK.tt rfl
  | exact RetK.ff rfl
  | trace_state
def OneRow (R:Nat->TypeId->Nat->List AV->Prop) (nil:Prop) (l:LV) (H:Heap):Prop :=
 (l = .p .nils∧H=[]∧nil) ∨ ∃ q e sz es,l = .hd q 0 es.length∧H=[(q,.own e sz es)]∧(∀ x∈es,∀ c∈x.cells,c.flat=true)∧R q e sz es
theorem DC {P:Program} {N:Nat} {g:FuncId} {args:List LV} {dst:Option Nat} {s:St} {K:St->Prop} {avs:List AV} {R:Nat->TypeId->Nat->List AV->Prop} {nil:Prop} (k:Nat) (hu:ZT k s=true)
  (hs:SpecH P g (avs.map .p) [] (OneRow R nil)) (ha:FrzL s.H args avs) (hn:nil->setD N s.sl dst (.p .nils) fun sl=>K ⟨sl,s.H⟩)
  (h : ∀ q e sz es,R q e sz es->setD N s.sl dst (.hd k 0 es.length) fun sl=>K ⟨sl,(k,.own e sz es)::s.H⟩):CallK P N g args dst s K:=by
 refine ⟨fun σ β a w hr vals hnv hv=>⟨hs.go vals,?_⟩⟩;obtain ⟨hlen,hget⟩:=ha.get;obtain ⟨τ,h5,h6,h7,h8⟩:=q0u hr.heap;have hrel0:HRel τ (fun _=>none) [] w:=⟨h6,fun k c hc=>(by cases hc),List.nodup_nil,fun k hk=>(by cases hk),fun k hk=>(by cases hk)⟩;have hno : ∀ b,¬owns (fun _=>none) [] b:=fun b ⟨j,hj,_⟩=>by cases hj
 refine (hs.ok τ (fun _=>none) w vals (by rw [length_map];exact hnv.trans hlen) (fun j l hj => ?_) hrel0).mono fun e w' ⟨l,u,σ',β',H',he,hR,hrep,hrel',hlat⟩ => ?_
 ·rw [List.getElem?_map] at hj;cases hc:avs[j]? with
  | none=>rw [hc] at hj;cases hj
  | some c =>
    rw [hc] at hj;cases hj;obtain ⟨l,h1,h2⟩:=hget j c hc;exact .p (h8 l _ c (hv j l h1) h2)
 ·have hlies:σ.lies w':=fun b c hb=>hrel'.mem b c (hlat.le b c (h5 b c hb));have hf:Frm (fun _=>False) w w':=⟨hlat.frm.os,hlat.frm.tape,hlat.frm.output,hlat.frm.drawn,hlat.frm.size,fun b hb _=>hlat.frm.block b hb (hno b)⟩;have hf':Frm (owns β s.H) w w':=⟨hf.os,hf.tape,hf.output,hf.drawn,hf.size,fun b hb _=>hf.block b hb id⟩;have hk0:=hr.heap.kept (Mem.le_refl σ) hlies hf fun b h0 h1=>absurd h0 h1;rcases hR with ⟨rfl,rfl,hnil⟩|⟨q,e0,sz,es,rfl,rfl,hfl,hR⟩
  ·have hr':Rel N σ β s a w':=⟨hr.size,hr.defers,hr.slots,hk0⟩;have hrp:RepL σ β (.p .nils) u:=by
    cases hrep with
    | p h=>exact .p (h.flat rfl)
   obtain ⟨sl,hK,hr''⟩:=hr'.setD hrp (hn hnil);exact ⟨u,σ,β,_,he,hK,hr'',Mem.le_refl σ,hf',fun b h0 h1=>absurd h0 h1,fun b hb => .inl hb,fun _ _ _=>rfl⟩
  ·obtain ⟨hu1,hu2⟩:=ZQ hu;have hkl:=YK hu;have hset : ∀ j,j≠k->(β.set k (β' q)) j=β j:=fun j hj=>by simp [Lab.set,hj]
   have hsetk:(β.set k (β' q)) k=β' q:=by simp [Lab.set]
   have hnew : ∀ i,β' q=some i -> ∀ b,i.has b->w.heap.size<=b∧σ b=none∧b<w'.heap.size:=fun i hi b hb=>by
    have h1:=hrel'.apart q (List.mem_singleton.2 rfl) i hi b hb;refine ⟨?_,?_,h1.2⟩
    ·rcases hlat.own b ⟨q,List.mem_singleton.2 rfl,i,hi,hb⟩ with h2|h2
     ·exact absurd h2 (hno b)
     ·exact h2
    ·cases h2:σ b with
     | none=>rfl
     | some c=>rw [hlat.le b c (h5 b c h2)] at h1;cases h1.1
   have hch:(Chunk.own e0 sz es).holds σ (β.set k (β' q)) w' k:=by
    rcases hrel'.chunks q (.own e0 sz es) (List.mem_singleton.2 rfl) with ⟨h1,h2⟩|⟨i,vs,h1,h2,h3,h4,h5',h6',h7'⟩
    ·exact .inl ⟨hsetk.trans h1,h2⟩
    ·refine .inr ⟨i,vs,hsetk.trans h1,h2,h3,h4,h5',h6',fun m x hx=>⟨(h7' m x hx).1,fun jj c hc => ?_⟩⟩;obtain ⟨v,h8',h9⟩:=(h7' m x hx).2 jj c hc;exact ⟨v,h8',h9.flat (hfl x (List.mem_of_getElem? hx) c (List.mem_of_getElem? hc))⟩
   have hks : ∀ j∈s.H.map (·.1),j≠k:=fun j hj=>by
    obtain ⟨⟨j',c⟩,hm,rfl⟩:=List.mem_map.1 hj;exact (hu1 j' c hm).1
   have hr':Rel N σ (β.set k (β' q)) ⟨s.sl,(k,.own e0 sz es)::s.H⟩ a w':=by
    refine ⟨hr.size,hr.defers,fun i=>(hr.slots i).set _ (hu2 i),hlies,fun j c hj => ?_,?_,fun j hj i hi b hb => ?_,fun j hj j' hj' i i' hi hi' b hb hb' => ?_⟩
    ·rcases List.mem_cons.1 hj with he'|hj
     ·cases he';exact hch
     ·exact (hk0.chunks j c hj).set _ (hu1 j c hj).1 (hu1 j c hj).2
    ·rw [map_cons,List.nodup_cons];exact ⟨fun hm=>hks k hm rfl,hk0.nodup⟩
    ·rcases List.mem_cons.1 hj with he'|hj
     ·have he':j=k:=he';subst he';rw [hsetk] at hi;exact (hnew i hi b hb).2
     ·rw [hset j (hks j hj)] at hi;exact hk0.apart j hj i hi b hb
    ·have hold : ∀ j∈s.H.map (·.1),∀ i,(β.set k (β' q)) j=some i -> ∀ b,i.has b->b<w.heap.size:=fun j hj i hi b hb=>by
      rw [hset j (hks j hj)] at hi;exact (hr.heap.apart j hj i hi b hb).2
     rcases List.mem_cons.1 hj with he'|hm<;>rcases List.mem_cons.1 hj' with he''|hm'
     ·exact he'.trans he''.symm
     ·have he':j=k:=he';subst he';rw [hsetk] at hi;have:=(hnew i hi b hb).1;have:=hold j' hm' i' hi' b hb';omega
     ·have he'':j'=k:=he'';subst he'';rw [hsetk] at hi';have:=(hnew i' hi' b hb').1;have:=hold j hm i hi b hb;omega
     ·rw [hset j (hks j hm)] at hi;rw [hset j' (hks j' hm')] at hi';exact hk0.inj j hm j' hm' i i' hi hi' b hb hb'
   have hrp:RepL σ (β.set k (β' q)) (.hd k 0 es.length) u:=by
    rcases hrep.hdI with ⟨h1,_,h2,rfl⟩|⟨i,o,h1,h2,h3,rfl⟩
    ·rw [h2];exact .hdn k (hsetk.trans h1)
    ·exact .hd k 0 es.length i o (hsetk.trans h1) h2 h3
   obtain ⟨sl,hK,hr''⟩:=hr'.setD hrp (h q e0 sz es hR);refine ⟨u,σ,_,_,he,hK,hr'',Mem.le_refl σ,hf',fun b h0 h1=>absurd h0 h1,fun b hb => ?_,fun j h1 _=>hset j (by omega)⟩;obtain ⟨j,hj,i,hi,hb⟩:=hb;rcases List.mem_cons.1 hj with he'|hj
   ·have he':j=k:=he';subst he';rw [hsetk] at hi;exact .inr (hnew i hi b hb).1
   ·rw [hset j (hks j hj)] at hi;exact .inl ⟨j,hj,i,hi,hb⟩
theorem x7p (l:List Str) (hlen:l.length<=1000000000):SpecH Tryz.prog 149 [.hd 1000 0 l.length] [(1000,.own 9 1 (l.map .str))] (fun r H=>r = .hd 1000 0 (VK l).length∧H=[(1000,.own 9 1 ((VK l).map .str))]):=by
 refine sH x3w Tryz.func149 rfl Tryz.call149 ?_;conv=>whnf
 repeat' (first|((first|(refine iM fun _=>?_)|refine dA ?_|refine And.intro rfl ?_|refine aD ?_|refine aR ?_|refine bP ?_|(refine iA fun _=>?_)|refine IdxK.xs (by omega) ?_|refine QX (by omega) ?_|(refine ByteK.at (by omega) ?_)|refine wI ?_);conv=>whnf)|(apply bD<;>intro _<;>first|omega|conv=>whnf)|(apply bE<;>intro _<;>first|omega|conv=>whnf)|(apply bN<;>intro _<;>conv=>whnf)|(apply bB<;>intro _<;>conv=>whnf)|(refine CallK.heap [(1000,1000)] 0 (by repeat' (first|exact ArgsH.nil|refine ArgsH.cons ?_ ?_|exact LSub.refl _|exact LSub.p Sub.nils|exact LSub.p (Sub.tt rfl)|exact LSub.p (Sub.ff rfl)|exact LSub.p (Sub.int (by omega)))) (by refine BlksH.cons (j:=1000) rfl rfl ?_ ?_;exact CSub.refl _;exact BlksH.nil) (YG l hlen) rfl rfl ?_;rintro l' H' ⟨rfl,rfl⟩;conv=>whnf)|(refine CallK.heap [(1000,1000)] 0 (ArgsH.cons (LSub.of_eq (by rw [WV];rfl)) ArgsH.nil) (by refine BlksH.cons (j:=1000) rfl rfl ?_ ?_;exact CSub.refl _;exact BlksH.nil) (JM (UH l) (by rw [WV];omega)) rfl rfl ?_;rintro l' H' ⟨rfl,rfl⟩;conv=>whnf))
 all_goals first
  | exact RetHK.mk _ (LSub.refl _) ⟨rfl,rfl⟩
  | trace_state
def x1z (L:List Str) (_:Nat) (e:TypeId) (sz:Nat) (es:List AV):Prop:=e=9∧sz=1∧es=L.map .str
theorem q4q (L:List Str) : ∀ x∈L.map AV.str,∀ c∈x.cells,c.flat=true:=fun x hx c hc=>by
 obtain ⟨s,_,rfl⟩:=List.mem_map.1 hx;rw [List.mem_singleton.1 (show c∈[AV.str s] from hc)];rfl
theorem OneRow.str {L:List Str} {n:Nat} (h:n=L.length):OneRow (x1z L) False (.hd 0 0 n) [(0,.own 9 1 (L.map .str))] :=
 .inr ⟨0,_,_,_,by rw [h,length_map],rfl,q4q L,rfl,rfl,rfl⟩
theorem HG (b:Book) (t:S):SpecP Tryz.prog 243 [.ip b.cells,.agg t.cells] (fun r=>r = .int .i64 (q0y (fun f=>f.name==t.proc) b.s.p.procs)):=by
 refine sB MZ Tryz.func243 rfl Tryz.call243 ?_;conv=>whnf
 have hP:=XL b.s t.proc;repeat' (first|((first|(refine iM fun _=>?_)|refine dA ?_|refine And.intro rfl ?_|refine aD ?_|refine aR ?_|refine bP ?_|(refine iA fun _=>?_)|refine IdxK.xs (by omega) ?_|refine QX (by omega) ?_|(refine ByteK.at (by omega) ?_)|refine wI ?_|refine cP hP ?_);conv=>whnf)|(apply bD<;>intro _<;>first|omega|conv=>whnf)|(apply bE<;>intro _<;>first|omega|conv=>whnf)|(apply bN<;>intro _<;>conv=>whnf)|(apply bB<;>intro _<;>conv=>whnf)|(refine And.intro ?_ ?_<;>conv=>whnf))
 all_goals exact RetK.p rfl
def w9y (O:List Str) (x:Arg×Param):Bool:=x.1.ref&&inS O x.2.name
def z2h (t:S) (f:Pr) (O:List Str) (j:Nat):List Str:=(((t.args.zip f.params).take j).filter (w9y O)).map fun x=>x.1.name
def w3y (p:Pg) (t:S) (f:Pr) (O:List Str):List Str:=(if t.name=[] then [] else [t.name])++z2h t f O t.args.length++O.filter (comB p)
theorem z1j (t:S) (f:Pr) (O:List Str) (j:Nat):(z2h t f O j).length<=j:=by
 unfold z2h;rw [length_map];exact Nat.le_trans (List.length_filter_le _ _) (by rw [length_take];omega)
theorem z7g {t:S} {f:Pr} {O:List Str} {j:Nat} (h1:j<t.args.length) (h2:j<f.params.length):z2h t f O (j+1)=z2h t f O j++(if t.args[j].ref=true∧inS O f.params[j].name=true then [t.args[j].name] else []):=by
 have hz:j<(t.args.zip f.params).length:=by rw [List.length_zip];omega
 unfold z2h;rw [take_succ_eq_append_getElem hz,List.filter_append,List.map_append];congr 1;have e:(t.args.zip f.params)[j]=(t.args[j],f.params[j]):=List.getElem_zip;rw [e];by_cases h:t.args[j].ref=true∧inS O f.params[j].name=true
 ·rw [if_pos h,filter_cons_of_pos (by unfold w9y;simp [h])];rfl
 ·rw [if_neg h,filter_cons_of_neg (by unfold w9y;simpa using h)];rfl
theorem q3u (b:Book) (t:S) (i:Nat) (f:Pr) (O:List Str) (hi:q0y (fun f=>f.name==t.proc) b.s.p.procs=i) (hf:b.s.p.procs[i]? = some f) (hO:b.outs[i]? = some O) (hs:O.Pairwise ltT) (hl:O.length<=1000000) (ha:t.args.length<=f.params.length) (hal:t.args.length<=1000000):SpecH Tryz.prog 238 [.p (.ip b.cells),.p (.agg t.cells)] [] (fun r H=>OneRow (x1z (w3y b.s.p t f O)) False r H):=by
 refine sH MD Tryz.func238 rfl Tryz.call238 ?_;conv=>whnf
 have hC:=HG b t;rw [hi] at hC;have hH:=fun x=>q4y O x hs (by omega);have hCo:=fun x=>HK b x;have hg1:(b.outs.map eStrs)[i]? = some (eStrs O):=by rw [List.getElem?_map,hO];rfl
 have hg2:(b.s.p.procs.map fun f=>AV.agg f.cells)[i]? = some (.agg f.cells):=by rw [List.getElem?_map,hf];rfl
 have ham:(t.args.map fun a=>AV.agg a.cells).length=t.args.length:=length_map _;have hOm:(O.map AV.str).length=O.length:=length_map _;repeat' (first|((first|(refine iM fun _=>?_)|refine dA ?_|refine And.intro rfl ?_|refine aD ?_|refine aR ?_|refine bP ?_|(refine iA fun _=>?_)|refine IdxK.xs (by omega) ?_|refine QX (by omega) ?_|(refine ByteK.at (by omega) ?_)|refine wI ?_|refine QC (es:=[]) rfl (by simp) ?_|refine cP hC ?_);conv=>whnf)|(apply bD<;>intro _<;>first|omega|conv=>whnf)|(apply bE<;>intro _<;>first|omega|conv=>whnf)|(apply bN<;>intro _<;>conv=>whnf)|(apply bB<;>intro _<;>conv=>whnf))
 all_goals
  refine LoopK.inv QY (fun x:Nat×List Str=>⟨[(0,.p (.ip b.cells)),(5,.hd 0 0 x.2.length),(6,.p (.int .i64 i)),(23,.p (.sl (t.args.map fun a => .agg a.cells))),(24,.p (.int .i64 (t.args.map fun a=>AV.agg a.cells).length)),(25,.p (.int .i64 x.1))],[(0,.own 9 1 (x.2.map .str))]⟩) (fun x=>x.1<=t.args.length∧x.2=(if t.name=[] then [] else [t.name])++z2h t f O x.1) (fun x=>t.args.length-x.1) (0,if t.name=[] then [] else [t.name]) ?_ ⟨zero_le _,by simp [z2h]⟩ ?_
  ·first
    | (have h9:(t.name==[])=true:=by assumption
       rw [if_pos (eq_of_beq h9)];exact Le.mk [(0,.own 9 1 [])] (by simp [Chunk.new0];rfl) (by simp) (by simp) (.cons (.refl _) (.cons (.nil mem_cons_self) (.cons (.refl _) (.cons (.refl _) (.cons (.refl _) (.cons (.refl _) .nil)))))) (.new mem_cons_self .nil))
    | (have h9:(t.name==[])=false:=by assumption
       rw [if_neg (by simpa using h9)];exact Le.of_eq rfl)
  rintro ⟨j,acc⟩ ⟨h2,h3⟩;simp only at h2 h3 ⊢;have hal2:acc.length<=j+1:=by
   rw [h3,length_append];have:=z1j t f O j;split<;>simp<;>omega
  rcases Nat.lt_or_ge j t.args.length with hj|hj
  ·have hjp:j<f.params.length:=by omega
   have hst:=z7g (O:=O) hj hjp;have hHj:=hH f.params[j].name;have hg3:(f.params.map fun a=>AV.agg a.cells)[j]? = some (.agg f.params[j].cells):=by rw [List.getElem?_map,List.getElem?_eq_getElem hjp];rfl
   conv=>whnf
   repeat' (first|((first|(refine iM fun _=>?_)|refine dA ?_|refine And.intro rfl ?_|refine aD ?_|refine aR ?_|refine bP ?_|(refine iA fun _=>?_)|refine IdxK.xs (by omega) ?_|refine QX (by omega) ?_|(refine ByteK.at (by omega) ?_)|refine wI ?_|(refine IdxK.at (k:=i) rfl hg1 rfl ?_)|(refine IdxK.at (k:=i) rfl hg2 rfl ?_)|(refine IdxK.at (k:=j) rfl hg3 rfl ?_)|refine cP hHj ?_|refine QC (by simp) (by rw [length_map];omega) ?_);conv=>whnf)|(apply bD<;>intro _<;>first|omega|conv=>whnf)|(apply bE<;>intro _<;>first|omega|conv=>whnf)|(apply bN<;>intro _<;>conv=>whnf)|(apply bB<;>intro _<;>conv=>whnf)|(refine And.intro ?_ ?_<;>conv=>whnf))
   all_goals first
    | (have h9:t.args[j].ref=true:=by assumption
       have h10:inS O f.params[j].name=true:=by assumption
       exact ⟨(j+1,acc++[t.args[j].name]),⟨hj,by simp only;rw [hst,if_pos (show t.args[j].ref=true∧inS O f.params[j].name=true from ⟨h9,h10⟩),h3,List.append_assoc]⟩,by simp only;omega,Le.of_eq (by simp only [length_append,List.map_append];rfl)⟩)
    | (have h10:inS O f.params[j].name=false:=by assumption
       exact ⟨(j+1,acc),⟨hj,by simp only;rw [hst,if_neg (show ¬(t.args[j].ref=true∧inS O f.params[j].name=true) from fun hh=>by rw [h10] at hh;cases hh.2),append_nil];exact h3⟩,by simp only;omega,Le.of_eq rfl⟩)
    | (have h9:t.args[j].ref=false:=by assumption
       exact ⟨(j+1,acc),⟨hj,by simp only;rw [hst,if_neg (show ¬(t.args[j].ref=true∧inS O f.params[j].name=true) from fun hh=>by rw [h9] at hh;cases hh.1),append_nil];exact h3⟩,by simp only;omega,Le.of_eq rfl⟩)
    | trace_state
  ·obtain rfl:j=t.args.length:=by omega
   conv=>whnf
   repeat' (first|((first|(refine iM fun _=>?_)|refine dA ?_|refine And.intro rfl ?_|refine aD ?_|refine aR ?_|refine bP ?_|(refine iA fun _=>?_)|refine IdxK.xs (by omega) ?_|refine QX (by omega) ?_|(refine ByteK.at (by omega) ?_)|refine wI ?_|(refine IdxK.at (k:=i) rfl hg1 rfl ?_));conv=>whnf)|(apply bD<;>intro _<;>first|omega|conv=>whnf)|(apply bE<;>intro _<;>first|omega|conv=>whnf)|(apply bN<;>intro _<;>conv=>whnf)|(apply bB<;>intro _<;>conv=>whnf))
   refine LoopK.inv QY (fun x:Nat×List Str=>⟨[(0,.p (.ip b.cells)),(5,.hd 0 0 x.2.length),(70,.p (eStrs O)),(71,.p (.int .i64 (O.map AV.str).length)),(72,.p (.int .i64 x.1))],[(0,.own 9 1 (x.2.map .str))]⟩) (fun x=>x.1<=O.length∧x.2=acc++(O.take x.1).filter (comB b.s.p)∧x.2.length<=acc.length+x.1) (fun x=>O.length-x.1) (0,acc) (Le.of_eq rfl) ⟨zero_le _,by simp,by simp⟩ ?_;rintro ⟨q,o⟩ ⟨h4,h5,h6⟩;simp only at h4 h5 h6 ⊢;rcases Nat.lt_or_ge q O.length with hq|hq
   ·have hn1:=take_succ_eq_append_getElem hq;have hCq:=hCo O[q];conv=>whnf
    repeat' (first|((first|(refine iM fun _=>?_)|refine dA ?_|refine And.intro rfl ?_|refine aD ?_|refine aR ?_|refine bP ?_|(refine iA fun _=>?_)|refine IdxK.xs (by omega) ?_|refine QX (by omega) ?_|(refine ByteK.at (by omega) ?_)|refine wI ?_|refine cP hCq ?_|refine QC (by simp) (by rw [length_map];omega) ?_);conv=>whnf)|(apply bD<;>intro _<;>first|omega|conv=>whnf)|(apply bE<;>intro _<;>first|omega|conv=>whnf)|(apply bN<;>intro _<;>conv=>whnf)|(apply bB<;>intro _<;>conv=>whnf))
    all_goals first
     | (have h9:comB b.s.p O[q]=true:=by assumption
        exact ⟨(q+1,o++[O[q]]),⟨hq,by simp only;rw [hn1,List.filter_append,filter_cons_of_pos h9,h5,List.append_assoc];rfl,by simp;omega⟩,by simp only;omega,Le.of_eq (by simp only [length_append,List.map_append];rfl)⟩)
     | (have h9:comB b.s.p O[q]=false:=by assumption
        exact ⟨(q+1,o),⟨hq,by simp only;rw [hn1,List.filter_append,filter_cons_of_neg (by rw [h9];decide),h5];simp,by simp only;omega⟩,by simp only;omega,Le.of_eq rfl⟩)
     | trace_state
   ·rw [take_of_length_le hq] at h5;have hfin:o=w3y b.s.p t f O:=by rw [h5,h3];rfl
    subst hfin;conv=>whnf
    repeat' (first|((first|(refine iM fun _=>?_)|refine dA ?_|refine And.intro rfl ?_|refine aD ?_|refine aR ?_|refine bP ?_|(refine iA fun _=>?_)|refine IdxK.xs (by omega) ?_|refine QX (by omega) ?_|(refine ByteK.at (by omega) ?_)|refine wI ?_);conv=>whnf)|(apply bD<;>intro _<;>first|omega|conv=>whnf)|(apply bE<;>intro _<;>first|omega|conv=>whnf)|(apply bN<;>intro _<;>conv=>whnf)|(apply bB<;>intro _<;>conv=>whnf))
    all_goals exact RetHK.mk _ (LSub.refl _) (OneRow.str rfl)
def w5r:Str:=[36,114,101,116]
def caI (p:Pg) (t:S):Int:=q0y (fun f=>f.name==t.proc) p.procs
def caP (p:Pg) (t:S):Pr:=p.procs.getD (caI p t).toNat Pr0
def caO (b:Book) (t:S):List Str:=b.outs.getD (caI b.s.p t).toNat []
def HU (b:Book) (t:S):List Str:=if t.kind=1 then [t.name] else if t.kind=2 then [t.name,tapeS] else if t.kind=9 then [w5r] else if t.kind=4 then w3y b.s.p t (caP b.s.p t) (caO b t) else []
structure CallOk (b:Book) (t:S):Prop where
 i0:0<=caI b.s.p t
 i1:(caI b.s.p t).toNat<b.s.p.procs.length
 io:b.s.p.procs.length<=b.outs.length
 rise:(caO b t).Pairwise ltT
 len:(caO b t).length<=1000000
 args:t.args.length<=(caP b.s.p t).params.length
 al:t.args.length<=1000000
theorem z9q {b:Book} {t:S} (h:CallOk b t):SpecH Tryz.prog 238 ([AV.ip b.cells,.agg t.cells].map .p) [] (OneRow (x1z (w3y b.s.p t (caP b.s.p t) (caO b t))) False):=by
 have h1:=h.i1;have h2:=h.io;refine q3u b t (caI b.s.p t).toNat (caP b.s.p t) (caO b t) ?_ ?_ ?_ h.rise h.len h.args h.al
 ·rw [Int.toNat_of_nonneg h.i0];rfl
 ·unfold caP;rw [getD_eq_getElem?_getD,List.getElem?_eq_getElem h1];rfl
 ·unfold caO;rw [getD_eq_getElem?_getD,List.getElem?_eq_getElem (by omega)];rfl
theorem VE {L:List Str} {n:Nat} {nil:Prop} (h:n=L.length):OneRow (x1z L) nil (.hd 0 0 n) [(0,.own 9 1 (L.map .str))] :=
 .inr ⟨0,_,_,_,by rw [h,length_map],rfl,q4q L,rfl,rfl,rfl⟩
theorem q8u (b:Book) (t:S) (h4:t.kind=4->CallOk b t):SpecH Tryz.prog 150 [.p (.ip b.cells),.p (.agg t.cells)] [] (fun r H=>OneRow (x1z (HU b t)) (HU b t=[]) r H):=by
 refine sH q3r Tryz.func150 rfl Tryz.call150 ?_;conv=>whnf
 have hC:=fun h=>z9q (h4 h);repeat' (first|((first|(refine iM fun _=>?_)|refine dA ?_|refine And.intro rfl ?_|refine aD ?_|refine aR ?_|(refine iA fun _=>?_)|refine IdxK.xs (by omega) ?_|refine QX (by omega) ?_|(refine ByteK.at (by omega) ?_)|refine wI ?_|refine BsK.own (fun x hx=>by rcases List.mem_singleton.1 hx with rfl;rfl) rfl ?_|refine BsK.own (fun x hx=>by rcases List.mem_cons.1 hx with rfl|hx;rfl;rcases List.mem_singleton.1 hx with rfl;rfl) rfl ?_|(refine DC 0 rfl (hC (by assumption)) (.cons (.p (Sub.refl _)) (.cons (.p (Sub.refl _)) .nil)) (fun h=>h.elim) ?_;rintro _ _ _ _ ⟨rfl,rfl,rfl⟩));conv=>whnf)|(apply bD<;>intro _<;>first|omega|conv=>whnf)|(apply bE<;>intro _<;>first|omega|conv=>whnf)|(apply bN<;>intro _<;>conv=>whnf)|(apply bB<;>intro _<;>conv=>whnf))
 ·rw [show HU b t=[t.name] by unfold HU;rw [if_pos (by assumption)]];exact RetHK.mk _ (LSub.refl _) (VE (L:=[t.name]) rfl)
 ·rw [show HU b t=[t.name,tapeS] by unfold HU;rw [if_neg (by assumption),if_pos (by assumption)]];exact RetHK.mk _ (LSub.refl _) (VE (L:=[t.name,tapeS]) rfl)
 ·rw [show HU b t=[w5r] by unfold HU;rw [if_neg (by assumption),if_neg (by assumption),if_pos (by assumption)]];exact RetHK.mk _ (LSub.refl _) (VE (L:=[w5r]) rfl)
 ·rw [show HU b t=w3y b.s.p t (caP b.s.p t) (caO b t) by unfold HU;rw [if_neg (by assumption),if_neg (by assumption),if_neg (by assumption),if_pos (by assumption)]];exact RetHK.mk _ (LSub.refl _) (VE (by rw [length_map]))
 ·exact RetHK.mk _ (LSub.refl _) (.inl ⟨rfl,rfl,by unfold HU;rw [if_neg (by assumption),if_neg (by assumption),if_neg (by assumption),if_neg (by assumption)]⟩)
def outB (p:Pg) (f:Pr) (n:Str):Bool:=comB p n||decide ((⟨n,true⟩:Param)∈f.params)
def HM (D:List (List Str)) (id:Int):List Str:=D.getD (id-1).toNat []
def w8s (p:Pg) (i:Nat) (f:Pr) (D:List (List Str)) (it:Item):List Str:=bif (QQ p i f).live.getD (ixI p i f it.s.id).toNat false then (HM D it.s.id).filter (outB p f) else []
def x7g (p:Pg) (i:Nat) (f:Pr) (D:List (List Str)) (its:List Item):List Str:=its.flatMap (w8s p i f D)
theorem z7z {p:Pg} {i:Nat} {f:Pr} {D:List (List Str)} {its:List Item} {k:Nat} (hk:k<its.length):x7g p i f D (its.take (k+1))=x7g p i f D (its.take k)++w8s p i f D its[k]:=by
 unfold x7g;rw [take_succ_eq_append_getElem hk,List.flatMap_append];simp
theorem x9i {p:Pg} {i:Nat} {f:Pr} {D:List (List Str)} (hD : ∀ d∈D,d.length<=1000) (its:List Item):(x7g p i f D its).length<=its.length*1000:=by
 refine WP its fun it _ => ?_;unfold w8s;cases (QQ p i f).live.getD (ixI p i f it.s.id).toNat false with
 | false=>exact zero_le _
 | true =>
   refine Nat.le_trans (List.length_filter_le _ _) ?_;unfold HM;rcases Nat.lt_or_ge (it.s.id-1).toNat D.length with h|h
   ·rw [getD_eq_getElem?_getD,List.getElem?_eq_getElem h];exact hD _ (List.getElem_mem h)
   ·rw [getD_eq_getElem?_getD,List.getElem?_eq_none h];exact zero_le _
theorem q8q (b:Book) (p:Pg) (hp:b.s=sheetOf p) (h:QO p=true) (i:Nat) (f:Pr) (hj:p.procs[i]? = some f) (hW:b.ways[i]? = some (QQ p i f)) (hD:b.defs.length=(sheetOf p).l.length) (hd : ∀ d∈b.defs,d.length<=1000):SpecH Tryz.prog 151 [.p (.ip b.cells),.p (.int .i64 i)] [] (fun r H=>OneRow (x1z (x7g p i f b.defs (itsOf p i f))) False r H):=by
 refine sH q3j Tryz.func151 rfl Tryz.call151 ?_;conv=>whnf
 obtain ⟨hsp,_,_,hlen,hs⟩:=QJ p;obtain ⟨s1,s2,s3,s4⟩:=hs i f hj;have hcn:=(ZZ h).2.2;have hO:=LD (sheetOf p) i (QL p.procs i) (QL p.procs i+cntL f.body) s1 s2 (by omega) (by omega) (by omega);rw [s4] at hO;have e1:itL (i:Nat) 0 (-1) 0 (QL p.procs i) f.body=itsOf p i f:=rfl;rw [e1,<- hp] at hO;have hbp:b.s.p=p:=by rw [hp,hsp]
 have hCo:=fun x=>HK b x;rw [hbp] at hCo;have hg1:(b.s.p.procs.map fun f=>AV.agg f.cells)[i]? = some (.agg f.cells):=by rw [hbp,List.getElem?_map,hj];rfl
 have hg2:(b.ways.map fun w=>AV.ip w.cells)[i]? = some (.ip (QQ p i f).cells):=by rw [List.getElem?_map,hW];rfl
 have hIl:((itsOf p i f).map fun i=>AV.agg i.cells).length=(itsOf p i f).length:=length_map _;have hil:(itsOf p i f).length<=200:=by
  have h1:=congrArg List.length s4;rw [e1,List.length_drop,length_take] at h1;omega
 have hall : ∀ k,(x7g p i f b.defs ((itsOf p i f).take k)).length<=200*1000:=fun k=>by
  have h1:=x9i (p:=p) (i:=i) (f:=f) hd ((itsOf p i f).take k);have h2:((itsOf p i f).take k).length*1000<=200*1000:=Nat.mul_le_mul_right _ (by rw [length_take];omega);omega
 repeat' (first|((first|(refine iM fun _=>?_)|refine dA ?_|refine And.intro rfl ?_|refine aD ?_|refine aR ?_|refine bP ?_|(refine iA fun _=>?_)|refine IdxK.xs (by omega) ?_|refine QX (by omega) ?_|(refine ByteK.at (by omega) ?_)|refine wI ?_|(refine IdxK.at (k:=i) rfl hg1 rfl ?_)|refine cP hO ?_);conv=>whnf)|(apply bD<;>intro _<;>first|omega|conv=>whnf)|(apply bE<;>intro _<;>first|omega|conv=>whnf)|(apply bN<;>intro _<;>conv=>whnf)|(apply bB<;>intro _<;>conv=>whnf))
 refine LoopK.inv QY (fun k:Nat=>⟨[(0,.p (.ip b.cells)),(1,.p (.int .i64 i)),(5,.hd 0 0 (x7g p i f b.defs ((itsOf p i f).take k)).length),(6,.p (.ip f.cells)),(27,.p (VH (itsOf p i f))),(28,.p (.int .i64 ((itsOf p i f).map fun i=>AV.agg i.cells).length)),(29,.p (.int .i64 k))],[(0,.own 9 1 ((x7g p i f b.defs ((itsOf p i f).take k)).map .str))]⟩) (fun k=>k<=(itsOf p i f).length) (fun k=>(itsOf p i f).length-k) 0
  (Le.mk [(0,.own 9 1 [])] (by simp [Chunk.new0];rfl) (by simp) (by simp) (.cons (.refl _) (.cons (.refl _) (.cons (.nil mem_cons_self) (.cons (.refl _) (.cons (.refl _) (.cons (.refl _) (.cons (.refl _) .nil))))))) (.new mem_cons_self .nil)) (zero_le _) ?_
 intro k hk;have hak:=hall k;rcases Nat.lt_or_ge k (itsOf p i f).length with hk2|hk2;rotate_left 1
 ·rw [take_of_length_le hk2];conv=>whnf
  repeat' (first|((first|(refine iM fun _=>?_)|refine dA ?_|refine And.intro rfl ?_|refine aD ?_|refine aR ?_|refine bP ?_|(refine iA fun _=>?_)|refine IdxK.xs (by omega) ?_|refine QX (by omega) ?_|(refine ByteK.at (by omega) ?_)|refine wI ?_);conv=>whnf)|(apply bD<;>intro _<;>first|omega|conv=>whnf)|(apply bE<;>intro _<;>first|omega|conv=>whnf)|(apply bN<;>intro _<;>conv=>whnf)|(apply bB<;>intro _<;>conv=>whnf))
  all_goals exact RetHK.mk _ (LSub.refl _) (OneRow.str rfl)
 have hst:=z7z (p:=p) (i:=i) (f:=f) (D:=b.defs) hk2;have hb:=WT (QP h).1 hj (x1q (List.getElem_mem hk2));have hLv:=x2k p i f h hj (itsOf p i f)[k].s.id (.inr (.inr hb));have hoi:w8s p i f b.defs (itsOf p i f)[k]=bif (QQ p i f).live.getD (ixI p i f (itsOf p i f)[k].s.id).toNat false then (HM b.defs (itsOf p i f)[k].s.id).filter (outB p f) else []:=rfl;have hdl:((itsOf p i f)[k].s.id-1).toNat<b.defs.length:=by omega
 have hg3:(b.defs.map eStrs)[((itsOf p i f)[k].s.id-1).toNat]? = some (eStrs (HM b.defs (itsOf p i f)[k].s.id)):=by
  unfold HM;rw [List.getElem?_map,getD_eq_getElem?_getD,List.getElem?_eq_getElem hdl];rfl
 have hDl:(HM b.defs (itsOf p i f)[k].s.id).length<=1000:=by
  unfold HM;rw [getD_eq_getElem?_getD,List.getElem?_eq_getElem hdl];exact hd _ (List.getElem_mem hdl)
 generalize (QQ p i f).live.getD (ixI p i f (itsOf p i f)[k].s.id).toNat false=lv at *
 rw [hoi] at hst;generalize HM b.defs (itsOf p i f)[k].s.id=D at *
 generalize x7g p i f b.defs ((itsOf p i f).take k)=acc at *
 have hDm:(D.map AV.str).length=D.length:=length_map _;cases lv;all_goals
  conv=>whnf
  repeat' (first|((first|(refine iM fun _=>?_)|refine dA ?_|refine And.intro rfl ?_|refine aD ?_|refine aR ?_|refine bP ?_|(refine iA fun _=>?_)|refine IdxK.xs (by omega) ?_|refine QX (by omega) ?_|(refine ByteK.at (by omega) ?_)|refine wI ?_|(refine IdxK.at (k:=i) rfl hg2 rfl ?_)|refine cP hLv ?_|(refine IdxK.at (k:=((itsOf p i f)[k].s.id-1).toNat) (by omega) hg3 rfl ?_));conv=>whnf)|(apply bD<;>intro _<;>first|omega|conv=>whnf)|(apply bE<;>intro _<;>first|omega|conv=>whnf)|(apply bN<;>intro _<;>conv=>whnf)|(apply bB<;>intro _<;>conv=>whnf)|(refine And.intro ?_ ?_<;>conv=>whnf))
 all_goals first
  | contradiction
  | exact ⟨k+1,hk2,by omega,Le.of_eq (by rw [hst,cond_false,append_nil];rfl)⟩
  | skip
 all_goals
  rw [cond_true] at hst;refine LoopK.inv QY (fun x:Nat×List Str=>⟨[(0,.p (.ip b.cells)),(1,.p (.int .i64 i)),(5,.hd 0 0 x.2.length),(6,.p (.ip f.cells)),(27,.p (VH (itsOf p i f))),(28,.p (.int .i64 ((itsOf p i f).map fun i=>AV.agg i.cells).length)),(29,.p (.int .i64 k)),(54,.p (eStrs D)),(55,.p (.int .i64 (D.map AV.str).length)),(56,.p (.int .i64 x.1))],[(0,.own 9 1 (x.2.map .str))]⟩) (fun x=>x.1<=D.length∧x.2=acc++(D.take x.1).filter (outB p f)∧x.2.length<=acc.length+x.1) (fun x=>D.length-x.1) (0,acc) (Le.of_eq rfl) ⟨zero_le _,by simp,by simp⟩ ?_;rintro ⟨q,o⟩ ⟨h4,h5,h6⟩;simp only at h4 h5 h6 ⊢;rcases Nat.lt_or_ge q D.length with hq|hq
  ·have hn1:=take_succ_eq_append_getElem hq;have hCq:=hCo D[q];have hKq:=WJ f.params ⟨D[q],true⟩;have hob:outB p f D[q]=(comB p D[q]||decide ((⟨D[q],true⟩:Param)∈f.params)):=rfl;generalize hdc:decide ((⟨D[q],true⟩:Param)∈f.params)=dc at hKq hob;conv=>whnf
   repeat' (first|((first|(refine iM fun _=>?_)|refine dA ?_|refine And.intro rfl ?_|refine aD ?_|refine aR ?_|refine bP ?_|(refine iA fun _=>?_)|refine IdxK.xs (by omega) ?_|refine QX (by omega) ?_|(refine ByteK.at (by omega) ?_)|refine wI ?_|refine cP hCq ?_|(refine CallK.pure hKq (.cons (Sub.refl _) (.cons (Sub.agg (.cons (Sub.refl _) (.cons (Sub.tt rfl) .nil))) .nil)) ?_;rintro _ rfl)|refine QC (by simp) (by rw [length_map];omega) ?_);conv=>whnf)|(apply bD<;>intro _<;>first|omega|conv=>whnf)|(apply bE<;>intro _<;>first|omega|conv=>whnf)|(apply bN<;>intro _<;>conv=>whnf)|(apply bB<;>intro _<;>conv=>whnf))
   all_goals first
    | (have h9:outB p f D[q]=true:=by rw [hob,show comB p D[q]=true by assumption];rfl
       exact ⟨(q+1,o++[D[q]]),⟨hq,by simp only;rw [hn1,List.filter_append,filter_cons_of_pos h9,h5,List.append_assoc];rfl,by simp;omega⟩,by simp only;omega,Le.of_eq (by simp only [length_append,List.map_append];rfl)⟩)
    | (have h9:outB p f D[q]=true:=by rw [hob,show dc=true by assumption,Bool.or_true]
       exact ⟨(q+1,o++[D[q]]),⟨hq,by simp only;rw [hn1,List.filter_append,filter_cons_of_pos h9,h5,List.append_assoc];rfl,by simp;omega⟩,by simp only;omega,Le.of_eq (by simp only [length_append,List.map_append];rfl)⟩)
    | (have h9:outB p f D[q]=false:=by rw [hob,show comB p D[q]=false by assumption,show dc=false by assumption];rfl
       exact ⟨(q+1,o),⟨hq,by simp only;rw [hn1,List.filter_append,filter_cons_of_neg (by rw [h9];decide),h5];simp,by simp only;omega⟩,by simp only;omega,Le.of_eq rfl⟩)
    | trace_state
  ·rw [take_of_length_le hq,<- hst] at h5;subst h5;conv=>whnf
   repeat' (first|((first|(refine iM fun _=>?_)|refine dA ?_|refine And.intro rfl ?_|refine aD ?_|refine aR ?_|refine bP ?_|(refine iA fun _=>?_)|refine IdxK.xs (by omega) ?_|refine QX (by omega) ?_|(refine ByteK.at (by omega) ?_)|refine wI ?_);conv=>whnf)|(apply bD<;>intro _<;>first|omega|conv=>whnf)|(apply bE<;>intro _<;>first|omega|conv=>whnf)|(apply bN<;>intro _<;>conv=>whnf)|(apply bB<;>intro _<;>conv=>whnf))
   all_goals exact ⟨k+1,hk2,by omega,Le.of_eq rfl⟩
theorem x9a {L:List Str} {q n:Nat} {nil:Prop} (h:n=L.length):OneRow (x1z L) nil (.hd q 0 n) [(q,.own 9 1 (L.map .str))] :=
 .inr ⟨q,_,_,_,by rw [h,length_map],rfl,q4q L,rfl,rfl,rfl⟩
theorem z9j (x:X):SpecH Tryz.prog 242 ([AV.agg x.cells].map .p) [] (OneRow (x1z (XZ x)) (XZ x=[])):=by
 refine sH q2j Tryz.func242 rfl Tryz.call242 ?_;conv=>whnf
 repeat' (first|((first|(refine iM fun _=>?_)|refine cP (DX _) ?_|refine dA ?_|refine And.intro rfl ?_|refine aD ?_|refine aR ?_|refine bP ?_|(refine iA fun _=>?_)|refine IdxK.xs (by omega) ?_|refine QX (by omega) ?_|(refine ByteK.at (by omega) ?_)|refine wI ?_);conv=>whnf)|(apply bD<;>intro _<;>first|omega|conv=>whnf)|(apply bE<;>intro _<;>first|omega|conv=>whnf)|(apply bN<;>intro _<;>conv=>whnf)|(apply bB<;>intro _<;>conv=>whnf))
 ·refine CallK.nil 5 9 1 rfl (.cons rfl (.row .nil)) ?_;refine CallK.heap [(2000,5)] 0 (by repeat' (first|exact ArgsH.nil|refine ArgsH.cons ?_ ?_|exact LSub.refl _|exact LSub.p Sub.nils|exact LSub.p (Sub.tt rfl)|exact LSub.p (Sub.ff rfl)|exact LSub.p (Sub.int (by omega)))) (by refine BlksH.cons (j:=5) rfl rfl ?_ ?_;exact CSub.refl _;exact BlksH.nil) (q5k 20 (by omega) x (by assumption) [] (by simp)) rfl rfl ?_;rintro l' H' ⟨rfl,rfl⟩;conv=>whnf
  have e:XZ x=q8h x []:=by
   unfold XZ;rw [show z3w x=true by assumption];rfl
  rw [e];exact RetHK.mk _ (LSub.refl _) (x9a rfl)
 ·have e:XZ x=[]:=by
   unfold XZ;rw [show z3w x=false by assumption];rfl
  exact RetHK.mk _ (LSub.refl _) (.inl ⟨rfl,rfl,e⟩)
def usA (a:Arg):List Str:=(if a.ref=true then [a.name] else [])++XZ a.x
def inAt (b:Book) (t:S):List Str:=b.ins.getD (caI b.s.p t).toNat []
def z4m (t:S):List Str:=XZ t.x++(if t.kind=2 then [tapeS] else [])
def NM (b:Book) (t:S):List Str:=if t.kind=4 then z4m t++t.args.flatMap usA++inAt b t else z4m t
theorem z7c (a:Arg):(usA a).length<=1048577:=by
 have:=ZK a.x;unfold usA;rw [length_append];split<;>simp<;>omega
theorem z2q (t:S):(z4m t).length<=1048577:=by
 have:=ZK t.x;unfold z4m;rw [length_append];split<;>simp<;>omega
def z4l (t:S) (j:Nat):List Str:=z4m t++(t.args.take j).flatMap usA
theorem w1w (t:S) {j:Nat} (ha:t.args.length<=20000):(z4l t j).length<=21000000000:=by
 have h1:=z2q t;have h2:=YR z7c (t.args.take j);have h3:(t.args.take j).length*1048577<=20000*1048577:=Nat.mul_le_mul_right _ (by simp;omega);unfold z4l;simp only [length_append];omega
theorem z8u {t:S} {j:Nat} (hj:j<t.args.length):z4l t (j+1)=z4l t j++usA t.args[j]:=by
 unfold z4l;rw [take_succ_eq_append_getElem hj,List.flatMap_append,List.append_assoc];simp
theorem OneRow.es {L:List Str} {es:List AV} {n:Nat} {nil:Prop} (he:es=L.map .str) (h:n=L.length):OneRow (x1z L) nil (.hd 0 0 n) [(0,.own 9 1 es)]:=by
 subst he;exact VE h
structure UseOk (b:Book) (t:S):Prop where
 i0:0<=caI b.s.p t
 ii:(caI b.s.p t).toNat<b.ins.length
 al:t.args.length<=20000
 len:(inAt b t).length<=1000000
theorem q7t (b:Book) (t:S) (h4:t.kind=4->UseOk b t):SpecH Tryz.prog 153 [.p (.ip b.cells),.p (.agg t.cells)] [] (fun r H=>OneRow (x1z (NM b t)) (NM b t=[]) r H):=by
 refine sH q3g Tryz.func153 rfl Tryz.call153 ?_;conv=>whnf
 have hN:=z9j t.x;have hC:=HG b t;have hI:q0y (fun f=>f.name==t.proc) b.s.p.procs=caI b.s.p t:=rfl;rw [hI] at hC;have hnx:=ZK t.x;conv=>whnf
 refine DC 0 rfl hN (.cons (.p (Sub.refl _)) .nil) (fun hnil => ?_) (fun q e sz es hR => ?_);rotate_left;obtain ⟨rfl,rfl,rfl⟩:=hR
 rotate_right
 all_goals
  conv=>whnf
  repeat' (first|((first|(refine iM fun _=>?_)|refine dA ?_|refine And.intro rfl ?_|refine aD ?_|refine aR ?_|refine bP ?_|(refine iA fun _=>?_)|refine IdxK.xs (by omega) ?_|refine QX (by omega) ?_|(refine ByteK.at (by omega) ?_)|refine wI ?_|refine QC (es:=[]) rfl (by simp) ?_|refine QC (by simp) (by simp;omega) ?_);conv=>whnf)|(apply bD<;>intro _<;>first|omega|conv=>whnf)|(apply bE<;>intro _<;>first|omega|conv=>whnf)|(apply bN<;>intro _<;>conv=>whnf)|(apply bB<;>intro _<;>conv=>whnf))
 ·have e:NM b t=[tapeS]:=by unfold NM z4m;rw [if_neg (by assumption),if_pos (by assumption),hnil];rfl
  rw [e];exact RetHK.mk _ (LSub.refl _) (VE (L:=[tapeS]) rfl)
 rotate_left
 ·have e:NM b t=[]:=by unfold NM z4m;rw [if_neg (by assumption),if_neg (by assumption),hnil];rfl
  exact RetHK.mk _ (LSub.refl _) (.inl ⟨rfl,rfl,e⟩)
 ·have e:NM b t=XZ t.x++[tapeS]:=by unfold NM z4m;rw [if_neg (by assumption),if_pos (by assumption)]
  rw [e];exact RetHK.mk _ (LSub.refl _) (OneRow.es (by rw [List.map_append];rfl) (by simp))
 rotate_left
 ·have e:NM b t=XZ t.x:=by unfold NM z4m;rw [if_neg (by assumption),if_neg (by assumption),append_nil]
  rw [e];exact RetHK.mk _ (LSub.refl _) (OneRow.es rfl (by simp))
 all_goals
  have hk4:t.kind=4:=by assumption
  have hU:=h4 hk4;have e0:z4l t 0=XZ t.x:=by unfold z4l z4m;rw [if_neg (by omega),List.take_zero,List.flatMap_nil,append_nil,append_nil]
  have hl:(t.args.map fun a=>AV.agg a.cells).length=t.args.length:=length_map _;have hg:(b.ins.map eStrs)[(caI b.s.p t).toNat]? = some (eStrs (inAt b t)):=by
   unfold inAt;rw [List.getElem?_map,getD_eq_getElem?_getD,List.getElem?_eq_getElem hU.ii];rfl
  have hi0:=hU.i0;have hil:=hU.len;have hia:=hU.al;refine LoopK.inv QY (fun j:Nat=>⟨[(0,.p (.ip b.cells)),(3,.p (.ip t.cells)),(5,.hd 0 0 (z4l t j).length),(22,.p (.sl (t.args.map fun a => .agg a.cells))),(23,.p (.int .i64 (t.args.map fun a=>AV.agg a.cells).length)),(24,.p (.int .i64 j))],[(0,.own 9 1 ((z4l t j).map .str))]⟩) (fun j=>j<=t.args.length) (fun j=>t.args.length-j) 0 ?_ (zero_le _) ?_
  ·first
    | (rw [e0,hnil]
       exact Le.mk [(0,.own 9 1 [])] (by simp [Chunk.new0];rfl) (by simp) (by simp) (.cons (.refl _) (.cons (.refl _) (.cons (.nil mem_cons_self) (.cons (.refl _) (.cons (.refl _) (.cons (.refl _) .nil)))))) (.new mem_cons_self .nil))
    | (rw [e0]
       exact Le.of_eq (by rw [length_map];rfl))
  intro j hj;have hacc:=w1w t (j:=j) hia;have hfin:t.args.length<=j->NM b t=z4l t j++inAt b t:=fun h=>by
   unfold NM z4l;rw [if_pos hk4,take_of_length_le h]
  have hst:=fun h=>z8u (t:=t) (j:=j) h;generalize z4l t j=acc at *
  rcases Nat.lt_or_ge j t.args.length with hj2|hj2
  ·have hnl:=ZK t.args[j].x;conv=>whnf
   repeat' (first|((first|(refine iM fun _=>?_)|refine cP (q1i _) ?_|refine dA ?_|refine And.intro rfl ?_|refine aD ?_|refine aR ?_|refine bP ?_|(refine iA fun _=>?_)|refine IdxK.xs (by omega) ?_|refine QX (by omega) ?_|(refine ByteK.at (by omega) ?_)|refine wI ?_|refine VF _ (by simp) (by simp;omega) ?_|refine QC (by simp) (by simp;omega) ?_);conv=>whnf)|(apply bD<;>intro _<;>first|omega|conv=>whnf)|(apply bE<;>intro _<;>first|omega|conv=>whnf)|(apply bN<;>intro _<;>conv=>whnf)|(apply bB<;>intro _<;>conv=>whnf))
   all_goals
    refine ⟨j+1,hj2,by omega,Le.of_eq ?_⟩;first
     | (have hn:usA t.args[j]=[t.args[j].name]++XZ t.args[j].x:=by rw [usA,if_pos (by assumption)]
        rw [hst hj2,hn];simp only [length_append,List.map_append,length_map,<- List.append_assoc,<- Nat.add_assoc];rfl)
     | (have hn:usA t.args[j]=XZ t.args[j].x:=by rw [usA,if_neg (by rw [show t.args[j].ref=false by assumption];decide)];rfl
        rw [hst hj2,hn];simp only [length_append,List.map_append,length_map];rfl)
  ·rw [hfin hj2];conv=>whnf
   repeat' (first|((first|(refine iM fun _=>?_)|refine dA ?_|refine And.intro rfl ?_|refine aD ?_|refine aR ?_|refine bP ?_|(refine iA fun _=>?_)|refine IdxK.xs (by omega) ?_|refine QX (by omega) ?_|(refine ByteK.at (by omega) ?_)|refine wI ?_|refine cP hC ?_|(refine IdxK.at (k:=(caI b.s.p t).toNat) (by omega) hg rfl ?_)|refine VF _ (by simp) (by simp;omega) ?_);conv=>whnf)|(apply bD<;>intro _<;>first|omega|conv=>whnf)|(apply bE<;>intro _<;>first|omega|conv=>whnf)|(apply bN<;>intro _<;>conv=>whnf)|(apply bB<;>intro _<;>conv=>whnf)|(refine And.intro ?_ ?_<;>conv=>whnf))
   all_goals exact RetHK.mk _ (LSub.refl _) (OneRow.es (by rw [List.map_append]) (by simp))
end Go.Ab
