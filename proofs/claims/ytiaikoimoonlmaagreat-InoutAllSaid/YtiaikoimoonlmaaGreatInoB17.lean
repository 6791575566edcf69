/- slices.BinarySearch, slices.Equal, slices.Clone at strings; give.Has. -/
import Derived.Test.YtiaikoimoonlmaaGreatInoB10
import Derived.Test.YtiaikoimoonlmaaGreatInoB14
import Derived.Test.YtiaikoimoonlmaaGreatInoB15
import Derived.Test.YtiaikoimoonlmaaGreatInoB16
set_option linter.unusedSimpArgs false
set_option linter.unusedVariables false
set_option maxRecDepth 100000
set_option maxHeartbeats 16000000
namespace Go.Ab
open Go.Proofs.Tryz
open Go.Proofs
theorem VY (l m:List Str):SpecP prog 132 [eStrs l,eStrs m] (fun r=>r = .bool (decide (l=m))):=by
 refine sB JE func132 rfl call132 ?_;conv=>whnf
 have h1:(l.map AV.str).length=l.length:=u3k _;have h2:(m.map AV.str).length=m.length:=u3k _;repeat' (first|(refine iM fun _=>?_;conv=>whnf)|(apply bE<;>intro _<;>first|omega|conv=>whnf))
 all_goals first
  | exact RetK.ff (u5h fun h=>by subst h;omega)
  | skip
 have hlen:l.length=m.length:=by omega
 refine LoopK.inv QX (fun j:Nat=>⟨[(0,.p (eStrs l)),(1,.p (eStrs m)),(12,.p (.int .i64 (l.map AV.str).length)),(13,.p (.int .i64 j))],[]⟩) (fun j=>j<=l.length∧l.take j=m.take j) (fun j=>l.length-j) 0 (Le.of_eq rfl) ⟨u3l _,rfl⟩ ?_;rintro j ⟨h3,h4⟩;rcases u3r j l.length with hj|hj
 ·have hjm:j<m.length:=by omega
  have hst:l[j]=m[j]->l.take (j+1)=m.take (j+1):=fun he=>by rw [u3a hj,u3a hjm,h4,he]
  have hno:l[j]≠m[j] -> ¬l=m:=fun hne he=>hne (by subst he;rfl);conv=>whnf
  repeat' (first|((first|refine dA ?_|(refine iA fun _=>?_)|refine wI ?_);conv=>whnf)|(apply bD<;>intro _<;>first|omega|conv=>whnf)|(apply bN<;>intro _<;>conv=>whnf))
  all_goals first
   | (have h9:l[j]=m[j]:=eq_of_beq (by assumption)
      exact ⟨j+1,⟨hj,hst h9⟩,by omega,Le.of_eq rfl⟩)
   | (have h9 : ¬l[j]=m[j]:=by
       have h8:(l[j]==m[j])=false:=by assumption
       simpa using h8
      exact RetK.ff (u5h (hno h9)))
 ·rw [u3o hj,u3o (by omega)] at h4;conv=>whnf
  repeat' (apply bD<;>intro _<;>first|omega|conv=>whnf)
  all_goals exact RetK.tt (u5z h4)
theorem q6q (a:Str):SpecP prog 237 [.str a] (fun r=>r = .bool false):=by
 refine sB q0h func237 rfl call237 ?_;conv=>whnf
 skip
 all_goals exact RetK.bool (by simp)
theorem q0x (a:Str):SpecP prog 298 [.str a] (fun r=>r = .bool false):=by
 refine sB PV func298 rfl call298 ?_;conv=>whnf
 skip
 all_goals exact RetK.bool (by simp)
theorem q8o (a b:Str):SpecP prog 286 [.str a,.str b] (fun r=>r = .bool (Op.bytesLess a b)):=by
 refine sB q2d func286 rfl call286 ?_;conv=>whnf
 repeat' (first|(refine cP (q6q a) ?_;conv=>whnf)|(apply bB<;>intro _<;>conv=>whnf))
 all_goals first
  | contradiction
  | exact RetK.p rfl
theorem UO (l:List Str) (x:Str) (hs:l.Pairwise ltT) (hlen:l.length<=1000000000):SpecP prog 234 [eStrs l,.str x] (fun r => ∃ k:Int,r = .tup [.int .i64 k,.bool (inS l x)]):=by
 refine sB VE func234 rfl call234 ?_;conv=>whnf
 have hll:(l.map AV.str).length=l.length:=u3k _;repeat' (refine iM fun _=>?_;conv=>whnf)
 refine LoopK.inv QX (fun y:Nat×Nat=>⟨[(0,.p (eStrs l)),(1,.p (.str x)),(6,.p (.int .i64 (l.map AV.str).length)),(7,.p (.int .i64 y.1)),(8,.p (.int .i64 y.2))],[]⟩) (fun y=>y.1<=y.2∧y.2<=l.length∧(∀ (k:Nat) (h:k<l.length),k<y.1->ltT l[k] x) ∧ ∀ (k:Nat) (h:k<l.length),y.2<=k -> ¬ltT l[k] x) (fun y=>y.2-y.1) (0,l.length) (Le.of_eq (by rw [hll];rfl)) ⟨u3l _,u4j _,fun k h h1=>by simp only at h1;omega,fun k h h1=>by simp only at h1;omega⟩ ?_;rintro ⟨i,j⟩ ⟨h1,h2,h3,h4⟩;simp only at h1 h2 h3 h4 ⊢;have hlt : ∀ (a b:Nat) (ha:a<l.length) (hb:b<l.length),a<b->ltT l[a] l[b]:=fun a b ha hb hab=>List.pairwise_iff_getElem.1 hs a b ha hb hab;rcases u3r i j with hij|hij
 ·have hh:(i+j) / 2<l.length:=by omega
  have hL:=q8o l[(i+j) / 2] x;conv=>whnf
  repeat' (first|((first|(refine iA fun _=>?_)|refine wI ?_|refine Wr.u64 (by omega) (by omega) ?_|refine w2o rfl (by omega) rfl rfl (m:=(((i+j)/2:Nat):Int)) (by omega) ?_|refine cP hL ?_);conv=>whnf)|(apply bD<;>intro _<;>first|omega|conv=>whnf)|(apply bB<;>intro _<;>conv=>whnf))
  all_goals first
   | (have h9:Op.bytesLess l[(i+j) / 2] x=true:=by assumption
      refine ⟨((i+j) / 2+1,j),⟨by simp only;omega,h2,fun k hk hk2 => ?_,h4⟩,by simp only;omega,Le.of_eq rfl⟩;simp only at hk2;rcases u3r k ((i+j) / 2) with h10|h10
      ·exact ltT.trans _ _ _ (hlt _ _ hk hh h10) h9
      ·have:k=(i+j) / 2:=by omega
       subst this;exact h9)
   | (have h9:Op.bytesLess l[(i+j) / 2] x=false:=by assumption
      have h11 : ¬ltT l[(i+j) / 2] x:=fun h=>by unfold ltT at h;rw [h9] at h;cases h
      refine ⟨(i,(i+j) / 2),⟨by simp only;omega,by simp only;omega,h3,fun k hk hk2 h12 => ?_⟩,by simp only;omega,Le.of_eq rfl⟩;simp only at hk2;rcases u3r ((i+j) / 2) k with h10|h10
      ·exact h11 (ltT.trans _ _ _ (hlt _ _ hh hk h10) h12)
      ·have:k=(i+j) / 2:=by omega
       subst this;exact h11 h12)
 ·obtain rfl:i=j:=by omega
  rcases u3r i l.length with hi|hi
  ·have hin:inS l x=(l[i]==x):=by
    rw [u6a,ZU,u6m];constructor
    ·intro hx;obtain ⟨k,hk,rfl⟩:=u5w.1 hx;rcases Nat.lt_trichotomy k i with h5|h5|h5
     ·exact absurd (h3 k hk h5) (ltT.irr _)
     ·subst h5;rfl
     ·exact absurd (hlt i k hi hk h5) (h4 i hi (u4j _))
    ·intro h5;rw [<- h5];exact u3i hi
   have hN:=q0x l[i];conv=>whnf
   repeat' (first|((first|(refine iA fun _=>?_)|refine cP hN ?_);conv=>whnf)|(apply bD<;>intro _<;>first|omega|conv=>whnf)|(apply bB<;>intro _<;>conv=>whnf))
   all_goals first
    | (exfalso;omega)
    | (exfalso;simp_all;done)
    | (have h9:inS l x=true:=by rw [hin];assumption
       exact ⟨_,.p (Sub.tup (.cons (Sub.refl _) (.cons (Sub.tt h9) .nil))),_,rfl⟩)
    | (have h9:inS l x=false:=by rw [hin];assumption
       exact ⟨_,.p (Sub.tup (.cons (Sub.refl _) (.cons (Sub.ff h9) .nil))),_,rfl⟩)
  ·have hin:inS l x=false:=by
    cases h5:inS l x with
    | false=>rfl
    | true =>
      obtain ⟨k,hk,h6⟩:=u5w.1 (ZU.1 h5);exact absurd (h3 k hk (by omega)) (by rw [h6];exact ltT.irr _)
   conv=>whnf
   repeat' (apply bD<;>intro _<;>first|omega|conv=>whnf)
   all_goals first
    | (exfalso;omega)
    | exact ⟨_,.p (Sub.tup (.cons (Sub.refl _) (.cons (Sub.ff hin) .nil))),_,rfl⟩
    | exact ⟨_,.p (Sub.refl _),_,by rw [hin];rfl⟩
theorem q9r (l:List Str) (x:Str) (hs:l.Pairwise ltT) (hlen:l.length<=1000000000):SpecP prog 160 [eStrs l,.str x] (fun r=>r = .bool (inS l x)):=by
 refine sB w0x func160 rfl call160 ?_;conv=>whnf
 have hB:=UO l x hs hlen;repeat' (refine CallK.pure hB (.cons (Sub.refl _) (.cons (Sub.refl _) .nil)) ?_;rintro _ ⟨k,rfl⟩;conv=>whnf)
 all_goals first
  | exact RetK.p rfl
theorem z3u {σ:Mem} {a:Param} {v:Value} (h:Rep σ (.agg a.cells) v):v = .agg #[.string ⟨a.name.toArray⟩,.bool a.ref]:=by
 cases h with
 | agg cs vs u hn hc hr =>
   have hs:vs.size=2:=hn;have g0:vs[0]? = some (.string ⟨a.name.toArray⟩):=by
    have h1:=hc 0 (.str a.name) rfl;have h2:=hr 0 (.str a.name) rfl;generalize u 0=w at h1 h2;cases h2;exact h1
   have g1:vs[1]? = some (.bool a.ref):=by
    have h1:=hc 1 (.bool a.ref) rfl;have h2:=hr 1 (.bool a.ref) rfl;generalize u 1=w at h1 h2;cases h2;exact h1
   congr 1;apply Array.ext_getElem?;intro i
   match i with
   | 0=>exact g0
   | 1=>exact g1
   | i+2=>rw [u9y (by omega),u9y (by simp)]
instance:DecidableEq Param:=fun a b=>decidable_of_iff (a.name=b.name∧a.ref=b.ref) (by cases a;cases b;simp)
theorem ValO.params {hr:Bool} {s:St} {o:Oper} {K:LV->Prop} {x y:Operand} {u:TypeId} (hop:o.op = .binOp .eql 97 x y u) {a b:Param} (hx:XX s.sl x = .p (.agg a.cells)) (hy:XX s.sl y = .p (.agg b.cells))
  (hK:K (.p (.bool (decide (a=b))))):ValO prog hr s o K:=by
 refine ⟨fun σ β ac w hs _=>⟨_,.bool (decide (a=b)),hK,.p (.bool _),fun w' _ _ => ?_⟩⟩;have h1:ac.eval x = .agg #[.string ⟨a.name.toArray⟩,.bool a.ref]:=by
  have:=QY hs x;rw [hx] at this;cases this with
  | p h=>exact z3u h
 have h2:ac.eval y = .agg #[.string ⟨b.name.toArray⟩,.bool b.ref]:=by
  have:=QY hs y;rw [hy] at this;cases this with
  | p h=>exact z3u h
 have hu:prog.underlying 97=some (.struct (prog.fieldsOf 97)):=by kernel_rfl
 have hs':prog.underlying 9=some .string:=by kernel_rfl
 have hb':prog.underlying 4=some .bool:=by kernel_rfl
 have hf:(prog.fieldsOf 97).toList=(match ty97.desc with | .struct fs=>fs.toList|_=>[]):=by kernel_rfl
 have he:(Op.equalIn 10000 97 (.agg #[.string ⟨a.name.toArray⟩,.bool a.ref]) (.agg #[.string ⟨b.name.toArray⟩,.bool b.ref])).run prog w' = .ok (decide (a=b)) w':=by
  rw [run_equalIn_struct w' 9999 _ _ _ hu (by kernel_rfl),hf];simp only [ty97,Op.eqFields];have p0 : ∀ (x:ByteArray) (y:Bool),(part 9 #[.string x,.bool y] 0).run prog w' = .ok (.string x) w':=fun x y=>run_part_plain w' (by kernel_rfl) rfl;have p1 : ∀ (x:ByteArray) (y:Bool),(part 4 #[.string x,.bool y] 1).run prog w' = .ok (.bool y) w':=fun x y=>run_part_plain w' (by kernel_rfl) rfl;have es : ∀ x y:ByteArray,(Op.equalIn 9999 9 (.string x) (.string y)).run prog w' = .ok (x.toList==y.toList) w':=fun x y=>run_equalIn_string (P:=prog) w' 9998 9 x y hs';have eb : ∀ x y:Bool,(Op.equalIn 9999 4 (.bool x) (.bool y)).run prog w' = .ok (x==y) w':=fun x y=>run_equalIn_bool (P:=prog) w' 9998 4 x y hb';have e:decide (a=b)=(((⟨a.name.toArray⟩:ByteArray).toList==(⟨b.name.toArray⟩:ByteArray).toList)&&(a.ref==b.ref)):=by
   rw [ByteArray.toList_eq,ByteArray.toList_eq,u6a,decide_eq_true_iff,u4u,u6m,u6m];cases a;cases b;simp
  simp only [ne_eq,show ¬("Name" = "_") by decide,show ¬("Ref" = "_") by decide,not_false_eq_true,if_true,Sem.run_bind,p0,p1,Result.andThen_ok,es,eb,Sem.run_ite,Sem.run_pure,e];cases ((⟨a.name.toArray⟩:ByteArray).toList==(⟨b.name.toArray⟩:ByteArray).toList)<;>cases (a.ref==b.ref)<;>simp
 simp only [execOp,hop,h1,h2,Sem.run_bind,run_eqGuard_agg _ _ _ _ _ _ _ (show prog.eqGuardType prog.depth 97=false by kernel_rfl),Result.andThen_ok,run_eql_struct,he,Sem.run_pure]
theorem YF (l:List Param) (x:Param):SpecP prog 260 [.sl (l.map fun a => .agg a.cells),.agg x.cells] (fun r => ∃ k:Int,r = .int .i64 k∧(0<=k↔x∈l)):=by
 refine sB UG func260 rfl call260 ?_;conv=>whnf
 have hll:(l.map fun a=>AV.agg a.cells).length=l.length:=u3k _;repeat' (refine iM fun _=>?_;conv=>whnf)
 refine LoopK.inv QX (fun j:Nat=>⟨[(0,.p (.sl (l.map fun a => .agg a.cells))),(3,.p (.ip x.cells)),(7,.p (.int .i64 (l.map fun a=>AV.agg a.cells).length)),(8,.p (.int .i64 j))],[]⟩) (fun j=>j<=l.length∧x∉l.take j) (fun j=>l.length-j) 0 (Le.of_eq rfl) ⟨u3l _,by simp⟩ ?_;rintro j ⟨h2,h3⟩;rcases u3r j l.length with hj|hj
 ·have htk:x∈l.take (j+1)↔x∈l.take j∨x=l[j]:=QA hj;conv=>whnf
  repeat' (first|((first|refine dA ?_|(refine iA fun _=>?_)|refine wI ?_|refine ValO.params (a:=x) (b:=l[j]) rfl rfl rfl ?_);conv=>whnf)|(apply bD<;>intro _<;>first|omega|conv=>whnf))
  all_goals first
   | (have h9:x=l[j]:=by assumption
      exact ⟨_,.p (Sub.refl _),j,rfl,⟨fun _=>by rw [h9];exact u3i hj,fun _=>by omega⟩⟩)
   | (have h9 : ¬x=l[j]:=by assumption
      exact ⟨j+1,⟨hj,fun h8=>(htk.1 h8).elim h3 h9⟩,by omega,Le.of_eq rfl⟩)
 ·rw [u3o hj] at h3;conv=>whnf
  repeat' (apply bD<;>intro _<;>first|omega|conv=>whnf)
  all_goals exact ⟨_,.p (Sub.refl _),-1,rfl,by simp [h3]⟩
theorem UU (l:List Param) (x:Param):SpecP prog 210 [.sl (l.map fun a => .agg a.cells),.agg x.cells] (fun r=>r = .bool (decide (x∈l))):=by
 refine sB VG func210 rfl call210 ?_;conv=>whnf
 have hI:=YF l x;repeat' (refine CallK.pure hI (.cons (Sub.refl _) (.cons (Sub.refl _) .nil)) ?_;rintro _ ⟨k,rfl,hk⟩;conv=>whnf)
 all_goals first
  | exact RetK.bool (by rw [u6a,decide_eq_true_iff,decide_eq_true_iff];exact hk)
theorem v6w {p:Pg} (h:QM p=true) {j:Nat} {f:Pr} (hj:p.procs[j]? = some f) : ∀ s∈x4m (QQ p j f) f,okSt s:=fun s hs=>by
 unfold x4m at hs;rcases u3p.1 hs with hs|hs
 ·rcases u3p.1 hs with hs|hs
  ·exact x7r h hj s hs
  ·rw [u3b.1 hs];exact ⟨by decide,by decide⟩
 ·obtain ⟨it,hi,hs⟩:=u4o.1 hs;exact z8m h hj it hi s hs
def x8p (n:Nat):List Pr->List Pr
 | []=>[]
 | f::r=>⟨f.name,f.params,f.vars,nmL n f.body,f.fin⟩::x8p (n+cntL f.body) r
def v5s (p:Pg):Pg:=⟨p.globals,x8p 0 p.procs⟩
section
variable {p:Pg} {k:Nat} {f:Pr}
end
theorem x5a : ∀ (l:List Pr) {n:Nat} {m:Int},ZY n l=some m -> ∀ (j:Nat) (f:Pr),l[j]? = some f -> ∃ m',WV 1 ((n+QN l j:Nat):Int) f.body=some m'
 | [],_,_,_,j,f,hj=>by simp at hj
 | g::r,n,m,h,j,f,hj=>by
   rw [ZY] at h;cases hm:FX g<;>rw [hm] at h
   ·cases h
   simp only [u4y] at h;split at h
   ·rename_i m1 h1;cases j with
    | zero =>
      cases hj;exact ⟨m1,h1⟩
    | succ j =>
      have h2:=WG _ _ g.body h1;have h':ZY ((n+cntL g.body:Nat):Int) r=some m:=by rw [<- h,h2];rfl
      obtain ⟨m',h3⟩:=x5a r h' j f (by simpa using hj);exact ⟨m',by rw [<- h3,QN];congr 1;omega⟩
   ·cases h
theorem q1s {p:Pg} (h:UB p=true) {j:Nat} {f:Pr} (hj:p.procs[j]? = some f) : ∃ m,WV 1 ((QN p.procs j:Nat):Int) f.body=some m:=by
 unfold UB at h;simp only [u4u] at h;obtain ⟨m,hm⟩:=Option.isSome_iff_exists.1 h.2;obtain ⟨m',h'⟩:=x5a p.procs (n:=0) hm j f hj;exact ⟨m',by rw [<- h'];congr 1;omega⟩
theorem x6j : ∀ (l:List Int) (b:List Bool) (i:Nat),i<b.length->((PQ l b).getD i false=true↔b.getD i false=true ∨ ∃ a∈l,a.toNat=i)
 | [],b,i,hi=>by simp [PQ]
 | a::r,b,i,hi=>by
   have ih:=x6j r (b.set a.toNat true) i (by rw [u6i];exact hi);have e:PQ (a::r) b=PQ r (b.set a.toNat true):=rfl;rw [e,ih];simp only [u3c,exists_eq_or_imp];by_cases ha:a.toNat=i
   ·simp [ha,hi,u3m,u7c]
   ·simp [ha,u3m,u7c]
theorem x8g {p:Pg} (h:QM p=true) {j:Nat} {f:Pr} (hj:p.procs[j]? = some f) {y:Int} (hy:plP p j f y):(QQ p j f).live.getD (ixI p j f y).toNat false=true↔Rch (wR p j f) 0 y:=by
 have hrng:=JD hy;have hl:(QQ p j f).live=PQ (PF 0 (WD (XJ (cntL f.body+2) ((QQ p j f).real.map (ixP p j f (cntL f.body+2:Nat)))).1 [0])) (List.replicate (cntL f.body+2) false):=rfl;rw [hl,x6j _ _ _ (by rw [u5m];omega)];have h0:(List.replicate (cntL f.body+2) false).getD (ixI p j f y).toNat false=false:=by
  rw [u3m,u4r];split<;>rfl
 rw [h0];have hs:=w2h (F:=(QQ p j f).real) (UP h hj) hy;unfold wR;rw [<- hs];constructor
 ·rintro (h1|⟨a,h1,h2⟩)
  ·cases h1
  ·have ha:=x8h _ _ _ h1
   rwa [show ixI p j f y=a by omega]
 ·exact fun h1 => .inr ⟨_,h1,rfl⟩
section
variable {p:Pg} {k:Nat} {f:Pr}
end
theorem z1a : ∀ (l:List (Int×Int)) (rows:List (List Int)),(∀ t∈l,0<=t.1∧t.1<rows.length) -> ∀ (a:Nat) (x:Int),x∈(l.foldl nxE rows).getD a []↔x∈rows.getD a [] ∨ ∃ t∈l,t.1=a∧t.2=x
 | [],rows,_,a,x=>by simp
 | t::r,rows,h,a,x=>by
   obtain ⟨h1,h2⟩:=h t u3g;rw [u6e,z1a r (nxE rows t) (fun u hu=>by rw [w5l];exact h u (u3n _ hu))];have e:x∈(nxE rows t).getD a []↔x∈rows.getD a []∨(t.1=a∧t.2=x):=by
    unfold nxE;simp only [u3m,u7c];by_cases he:t.1.toNat=a
    ·subst he;have e0:t.1=(t.1.toNat:Int):=by omega
     rw [if_pos rfl,if_pos (by omega)];simp only [u6v,u3p,u3b];constructor
     ·rintro (h3|h3)
      ·exact .inl h3
      ·exact .inr ⟨e0,h3.symm⟩
     ·rintro (h3|⟨_,h3⟩)
      ·exact .inl h3
      ·exact .inr h3.symm
    ·rw [if_neg he];constructor
     ·exact .inl
     ·rintro (h3|⟨h3,_⟩)
      ·exact h3
      ·omega
   rw [e];simp only [u3c,exists_eq_or_imp,or_assoc]
theorem x2l {n:Nat} {l:List (Int×Int)} (h : ∀ t∈l,0<=t.1∧t.1<n) {a:Nat} {x:Int}:x∈(q4v n l).getD a [] ↔ ∃ t∈l,t.1=a∧t.2=x:=by
 unfold q4v;rw [z1a l _ (by simpa using h)];have:(List.replicate n ([]:List Int)).getD a []=[]:=by
  rw [u3m,u4r];split<;>rfl
 rw [this];simp
mutual
theorem v0s : ∀ (t:S) {nest seen m:Int},x0y nest seen t=some m -> ∀ u∈flS t,oneOk u=true
 | .mk id kind labels name pr x has args thn els,nest,seen,m,h,u,hu=>by
   obtain ⟨h1,_,m1,h3,h4⟩:=WU h;rw [flS] at hu;rcases u3c.1 hu with rfl|hu
   ·exact h1
   ·rcases u3p.1 hu with hu|hu
    ·exact x0u thn h3 u hu
    ·exact x0u els h4 u hu
theorem x0u : ∀ (l:List S) {nest seen m:Int},WV nest seen l=some m -> ∀ u∈flL l,oneOk u=true
 | [],_,_,_,_,u,hu=>by rw [flL] at hu;cases hu
 | t::r,nest,seen,m,h,u,hu=>by
   obtain ⟨_,m1,h1,h2⟩:=ZQ h;rw [flL] at hu;rcases u3p.1 hu with hu|hu
   ·exact v0s t h1 u hu
   ·exact x0u r h2 u hu
end
theorem w8p {p:Pg} {j:Nat} {f:Pr} (h:QM p=true) (hj:p.procs[j]? = some f) {t:S} (ht:t∈flL f.body):OneF t:=by
 obtain ⟨m,hr⟩:=q1s (QK h).1 hj;exact JN (x0u _ hr t ht)
section
variable {p:Pg} {j:Nat} {f:Pr}
def v8u (p:Pg) (j:Nat) (f:Pr):Int->Int->Prop:=stR (u2z (QQ p j f) f)
theorem z0a (h:QM p=true) (hj:p.procs[j]? = some f) {a b:Int}:v8u p j f a b↔wR p j f a b∨(a=0∧b = -1)∨(∃ l∈trapsW (QQ p j f) f,∃ t∈flL f.body,t.id∈l∧t.kind=10∧a=t.id∧b = -1) ∨ ∃ it∈itsOf p j f,7<=it.s.kind∧a=it.s.id∧b=it.next:=by
 have hA:=FO (v6w h hj);have hraw : ∀ s,s∈x4m (QQ p j f) f↔s∈UN (QQ p j f) f∨s∈(QQ p j f).real∨s=⟨0,-1,2⟩∨s∈(itsOf p j f).flatMap fOf:=fun s=>by
  have e:x4m (QQ p j f) f=UN (QQ p j f) f++(QQ p j f).real++[⟨0,-1,2⟩]++(itsOf p j f).flatMap fOf:=rfl;rw [e];simp only [u3p,u3b,or_assoc]
 have hof : ∀ s∈x4m (QQ p j f) f,v8u p j f s.src s.dst:=fun s hs=>by
  obtain ⟨s',h1,h2,h3,_⟩:=hA.2.2 s hs;exact ⟨s',h1,h2,h3⟩
 constructor
 ·rintro ⟨s,hs,rfl,rfl⟩;rcases (hraw s).1 (hA.2.1 s hs) with h1|h1|h1|h1
  ·obtain ⟨l,hl,t,ht,hid,hk,rfl⟩:=(q4e h hj).1 h1;exact .inr (.inr (.inl ⟨l,hl,t,ht,hid,hk,rfl,rfl⟩))
  ·exact .inl ⟨s,h1,rfl,rfl⟩
  ·rw [h1];exact .inr (.inl ⟨rfl,rfl⟩)
  ·obtain ⟨it,hi,hs⟩:=u4o.1 h1;unfold fOf at hs;split at hs
   ·rw [u3b.1 hs];exact .inr (.inr (.inr ⟨it,hi,by omega,rfl,rfl⟩))
   ·cases hs
 ·rintro (⟨s,hs,rfl,rfl⟩|⟨rfl,rfl⟩|⟨l,hl,t,ht,hid,hk,rfl,rfl⟩|⟨it,hi,hk,rfl,rfl⟩)
  ·exact hof s ((hraw s).2 (.inr (.inl hs)))
  ·exact hof ⟨0,-1,2⟩ ((hraw _).2 (.inr (.inr (.inl rfl))))
  ·exact hof ⟨t.id,-1,3⟩ ((hraw _).2 (.inl ((q4e h hj).2 ⟨l,hl,t,ht,hid,hk,rfl⟩)))
  ·refine hof ⟨it.s.id,it.next,2⟩ ((hraw _).2 (.inr (.inr (.inr (u4o.2 ⟨it,hi,?_⟩)))));have hF:=(w8p h hj (q1m hi)).hi;unfold fOf;rw [if_pos (by omega)];exact u3b.2 rfl
theorem w8y (h:QM p=true) (hj:p.procs[j]? = some f) {a b:Int} (hr:v8u p j f a b):plP p j f a∧plP p j f b∧a ≠ -1∧b≠0:=by
 have hst : ∀ t∈flL f.body,plP p j f t.id∧t.id ≠ -1:=fun t ht=>by
  have hb:=ZW (QK h).1 hj ht;exact ⟨.inr (.inr hb),by omega⟩
 rcases (z0a h hj).1 hr with h1|⟨rfl,rfl⟩|⟨l,hl,t,ht,hid,hk,rfl,rfl⟩|⟨it,hi,hk,rfl,rfl⟩
 ·obtain ⟨h2,h3⟩:=v5t h hj h1;refine ⟨h2,h3,?_,fun e=>v0u h hj (e▸h1)⟩;obtain ⟨s,hs,rfl,rfl⟩:=h1;rcases v0n h hj (((GH h hj).2 s).1 hs) with h4|h4
  ·rw [h4];show (0:Int) ≠ -1;decide
  ·omega
 ·exact ⟨.inl rfl,.inr (.inl rfl),by decide,by decide⟩
 ·exact ⟨(hst t ht).1,.inr (.inl rfl),(hst t ht).2,by decide⟩
 ·have h1:=(q6p hi).1;unfold okI at h1;refine ⟨(hst _ (q1m hi)).1,?_,(hst _ (q1m hi)).2,by omega⟩;rcases h1 with h1|h1
  ·exact .inr (.inl h1)
  ·exact .inr (.inr h1)
theorem ix_exit:ixI p j f (-1)=(cntL f.body+2:Nat)-1:=by
 unfold ixI VL;rw [if_neg (by decide),if_pos rfl]
end
def v9g (k:Int) (x:RI):Bool:=decide (k=0)||decide (x.s.kind=k)
def v8p (p:Pg) (k:Int):List Int:=((allR p).filter (v9g k)).map fun x=>x.s.id
theorem z8e : ∀ (l:List Pr) (k:Nat),k<cntP l -> ∃ j f,l[j]? = some f∧QN l j<=k∧k<QN l j+cntL f.body
 | [],k,h=>by rw [cntP] at h;omega
 | g::r,k,h=>by
   rw [cntP] at h;rcases u3r k (cntL g.body) with hk|hk
   ·exact ⟨0,g,rfl,by rw [QN];omega,by rw [QN];omega⟩
   ·obtain ⟨j,f,h1,h2,h3⟩:=z8e r (k-cntL g.body) (by omega);exact ⟨j+1,f,by simpa using h1,by rw [QN];omega,by rw [QN];omega⟩
namespace Own
end Own
open Go.Proofs
def rng (a b:Int) (v:Int):Prop:=a<=v∧v<=b
theorem w4s {proc up nx lp:Int} {n:Nat} {nest m:Int} {l:List S} (h:WV nest n l=some m) {it:Item} (hi:it∈itL proc up nx lp n l):(n:Int)+1<=it.s.id∧it.s.id<=(n:Int)+cntL l:=by
 have h1:it.s∈flL l:=by
  rw [<- LA proc up nx lp n l];exact u3s.2 ⟨it,hi,rfl⟩
 have h2:it.s.id∈KT n (cntL l):=by
  rw [<- KM nest l h];exact u3s.2 ⟨it.s,h1,rfl⟩
 have:=q9s h2;omega
def u1t (l:List Int) (i:Nat):Int:=l.getD i 0
def srt (K:Int->Int) (l:List Int) (a b:Nat):Prop := ∀ i k,a<=i->i<k->k<b->K (u1t l k)<=K (u1t l i)
def hi0 (a m b:Nat):Nat:=if (a+b) / 2<m then (a+b) / 2 else m
def blk (K:Int->Int) (l:List Int) (bs n:Nat):Prop := ∀ q,srt K l (q*bs) (min (q*bs+bs) n)
def v1v:List AV:=[.int .i64 (-1),.int .i64 0,.nils,.str [],.str [],.int .i64 0,.int .i64 0,.str [],.nils,.ff,.nils,.nils,.nils]
theorem q9f : ∀ (k:Nat) (l:List S) (_:cntL l<k) (_:cntL l<=1000000) (_ : ∀ t∈flL l,okC t∧t.id ≠ -1),SpecP prog 95 [eSs l,.agg v1v] (fun r=>r=eSs l):=by
 intro k;induction k with
 | zero=>intro l h;omega
 | succ k ih =>
   intro l hk hn hok;have hsl:(S.avs l).length=l.length:=by rw [S.avs_eq,u3k]
   have hcl:=x7n l;refine sB q3q func95 rfl call95 ?_;conv=>whnf
   repeat' (refine iM fun _=>?_;conv=>whnf)
   refine LoopK.inv QX (fun j:Nat=>⟨[(3,.p (.ip v1v)),(5,.hd 0 0 j),(9,.p (eSs l)),(10,.p (.int .i64 (S.avs l).length)),(11,.p (.int .i64 j))],[(0,.own 40 13 (S.avs (l.take j)))]⟩) (fun j=>j<=l.length) (fun j=>l.length-j) 0
    (Le.mk [(0,.own 40 13 [])] (by simp [Chunk.new0];rfl) (by simp) (by simp) (.cons (.refl _) (.cons (.nil u3g) (.cons (.refl _) (.cons (.refl _) (.cons (.refl _) .nil))))) (.new u3g .nil)) (u3l _) ?_
   intro j h2;rcases u3r j l.length with hj|hj
   ·have htm:=x7m (u3i hj);have hcs:=WK l[j];have hself:=hok _ (q3d l _ (u3i hj));have hsub : ∀ t,t∈flL l[j].thn∨t∈flL l[j].els->okC t∧t.id ≠ -1:=fun t ht=>hok t (by
     have:t∈flS l[j]:=by
      rw [z7n];exact u3n _ (u3p.2 ht)
     have key : ∀ (m:List S) (i:Nat) (h:i<m.length),t∈flS m[i]->t∈flL m:=fun m=>by
      induction m with
      | nil=>intro i h;simp at h
      | cons a r ih =>
        intro i h ht;rw [flL];cases i with
        | zero=>exact u3p.2 (.inl ht)
        | succ i=>exact u3p.2 (.inr (ih i (by simpa using h) ht))
     exact key l j hj this)
    have h5:=KH l[j] hself.1.1 hself.1.2.1 hself.1.2.2.1 hself.1.2.2.2;have hid:=hself.2;have h6:=ih l[j].thn (by omega) (by omega) fun t ht=>hsub t (.inl ht);have h7:=ih l[j].els (by omega) (by omega) fun t ht=>hsub t (.inr ht);have hacl:j=(S.avs (l.take j)).length:=by rw [S.avs_eq,u3k,u4k];omega
    have hav:S.avs (l.take (j+1))=S.avs (l.take j)++[.agg l[j].cells]:=by
     rw [S.avs_eq,S.avs_eq,u3a hj,u3t];rfl
    generalize S.avs (l.take j)=acc at hacl hav ⊢;have e:l[j] = .mk l[j].id l[j].kind l[j].labels l[j].name l[j].proc l[j].x l[j].has l[j].args l[j].thn l[j].els:=by cases l[j];rfl
    conv=>whnf
    repeat' (first|((first|refine dA ?_|refine u3d rfl ?_|refine aD ?_|refine bP ?_|refine GZ (by omega) ?_|refine wI ?_|refine cP h5 ?_|refine cP h6 ?_|refine cP h7 ?_|refine u6q hacl rfl (by show (j+1)*208<=140737488355328;omega) (by show j+1<=9223372036854775807;omega) (fun x hx=>by rcases u3b.1 hx with rfl;exact ⟨rfl,rfl⟩) ?_);conv=>whnf)|(apply bD<;>intro _<;>first|omega|conv=>whnf))
    all_goals first
     | exact ⟨j+1,hj,by omega,Le.of_eq (by rw [hav];rfl)⟩
     | contradiction
   ·have hall:l.take j=l:=u3o hj;have hjl:j=(S.avs l).length:=by rw [S.avs_eq,u3k];omega
    rw [hall];conv=>whnf
    repeat' (apply bD<;>intro _<;>first|omega|conv=>whnf)
    exact ⟨_,.hd rfl hjl,rfl⟩
theorem w5r : ∀ (l:List Pr) (j:Nat),QN l j<=cntP l
 | _,0=>by rw [QN];omega
 | [],j+1=>by rw [QN];omega
 | g::r,j+1=>by rw [QN,cntP];have:=w5r r j;omega
structure CopyF (p:Pg):Prop where
 procs:p.procs.length<=1000
 globals:p.globals.length<=1000000
 pr : ∀ f∈p.procs,f.vars.length<=1000000∧f.fin.length<=1000000∧f.params.length<=1000000∧cntL f.body<=100000 ∧ ∀ t∈flL f.body,okC t∧t.id ≠ -1
def u2k (p:Pg):Heap:=[(2,.obj 25 [.p (eStrs p.globals),.hd 1 0 p.procs.length]),(1,.own 90 5 (p.procs.map fun f => .agg f.cells))]
def v8a (p:Pg):Heap:=[(6,.own 90 5 (p.procs.map fun f => .agg f.cells)),(1,.obj 25 [.p (eStrs p.globals),.hd 6 0 p.procs.length])]
theorem q9g (p:Pg) (h:CopyF p):SpecH prog 41 [.p (.agg p.cells),.p (.agg v1v)] [] (fun r H=>r = .agg [.p (eStrs p.globals),.hd 1 0 p.procs.length]∧H=u2k p):=by
 refine sH q2a func41 rfl call41 ?_;conv=>whnf
 have hgt:=WI p.globals h.globals;have hpm:(p.procs.map fun f=>AV.agg f.cells).length=p.procs.length:=u3k _;have hpl:=h.procs;repeat' ((first|(refine iM fun _=>?_)|refine u3d rfl ?_|refine cP hgt ?_);conv=>whnf)
 refine LoopK.inv QX (fun j:Nat=>⟨[(3,.p (.ip v1v)),(4,.ptr 2 0),(5,.ptr 0 0),(14,.p (.sl (p.procs.map fun f=>AV.agg f.cells))),(15,.p (.int .i64 (p.procs.map fun f=>AV.agg f.cells).length)),(16,.p (.int .i64 j))],[(0,.obj 25 [.p (eStrs p.globals),.hd 1 0 j]),(2,.obj 25 [.p .nils,.p .nils]),(1,.own 90 5 ((p.procs.take j).map fun f => .agg f.cells))]⟩) (fun j=>j<=p.procs.length) (fun j=>p.procs.length-j) 0
  (Le.mk [(1,.own 90 5 [])] (by simp [Chunk.new0];rfl) (by simp) (by simp) (.cons (.refl _) (.cons (.refl _) (.cons (.refl _) (.cons (.refl _) (.cons (.refl _) (.cons (.refl _) .nil)))))) (.cons rfl (.obj (.cons (.refl _) (.cons (.nil u3g) .nil))) (.cons rfl (.refl _) (.new u3g .nil)))) (u3l _) ?_
 intro j h2;rcases u3r j p.procs.length with hj|hj
 ·obtain ⟨hv,hfin,hpm2,hcb,hok⟩:=h.pr _ (u3i hj);have h5:=WI p.procs[j].vars hv;have h6:=WI p.procs[j].fin hfin;have h7:=q9f (cntL p.procs[j].body+1) p.procs[j].body (by omega) (by omega) hok;have htl:((p.procs.take j).map fun f=>AV.agg f.cells).length=j:=by rw [u3k,u4k];omega
  have htk:((p.procs.take (j+1)).map fun f=>AV.agg f.cells)=((p.procs.take j).map fun f=>AV.agg f.cells)++[.agg p.procs[j].cells]:=by
   rw [u3a hj,u3t];rfl
  generalize ((p.procs.take j).map fun f=>AV.agg f.cells)=acc at htl htk ⊢;have hpa:(p.procs[j].params.map fun x=>AV.agg x.cells).length=p.procs[j].params.length:=u3k _;conv=>whnf
  repeat' (first|((first|refine dA ?_|refine u3d rfl ?_|refine aD ?_|(refine iA fun _=>?_)|refine cP h5 ?_|refine cP h6 ?_|refine cP h7 ?_|refine u6q rfl rfl (by rw [hpa];show (0+p.procs[j].params.length)*24<=140737488355328;omega) (by rw [hpa];show 0+p.procs[j].params.length<=9223372036854775807;omega) (fun x hx=>by obtain ⟨y,_,rfl⟩:=u3s.1 hx;exact ⟨rfl,rfl⟩) ?_);conv=>whnf)|(apply bD<;>intro _<;>first|omega|conv=>whnf)|(refine u3d ?_ ?_<;>conv=>whnf))
  all_goals
   refine w0j QX (k:=4) 41 p.procs[j].cells rfl rfl rfl (fun q u c h1 h2 => ?_) ?_
   ·match q,h1,h2 with
    | 0,h1,h2=>cases h1;cases h2;exact .inl ⟨_,rfl,Sub.refl _⟩
    | 1,h1,h2=>cases h1;cases h2;exact .inr ⟨_,rfl,by simp,rfl⟩
    | 2,h1,h2=>cases h1;cases h2;exact .inl ⟨_,rfl,Sub.refl _⟩
    | 3,h1,h2=>cases h1;cases h2;exact .inl ⟨_,rfl,Sub.refl _⟩
    | 4,h1,h2=>cases h1;cases h2;exact .inl ⟨_,rfl,Sub.refl _⟩
    | q+5,h1,h2=>simp at h1
   conv=>whnf
   repeat' ((first|refine u3d rfl ?_|refine aD ?_|refine bP ?_|refine wI ?_|refine u6q htl.symm rfl (by show (j+1)*112<=140737488355328;omega) (by show j+1<=9223372036854775807;omega) (fun x hx=>by rcases u3b.1 hx with rfl;exact ⟨rfl,rfl⟩) ?_);conv=>whnf)
   exact ⟨j+1,hj,by omega,Le.of_eq (by rw [htk];rfl)⟩
 ·have hA:((p.procs.take j).map fun f=>AV.agg f.cells)=p.procs.map fun f => .agg f.cells:=by
   rw [u3o hj]
  have hje:j=p.procs.length:=by omega
  subst hje;rw [hA];conv=>whnf
  repeat' (first|(refine u3d rfl ?_;conv=>whnf)|(apply bD<;>intro _<;>first|omega|conv=>whnf))
  exact ⟨_,u4v _,rfl,rfl⟩
theorem q7f (p:Pg) (h:CopyF p):SpecH prog 90 [.p (.agg p.cells)] [] (fun r H=>r = .agg [.p (eStrs p.globals),.hd 6 0 p.procs.length]∧H=v8a p):=by
 refine sH q0t func90 rfl call90 ?_;conv=>whnf
 repeat' ((first|refine u3d rfl ?_|(refine CallK.heap [] 5 (u4w (u4v _) (u4w (u4v _) u4s)) u4c (q9g p h) rfl rfl ?_;rintro l' H' ⟨rfl,rfl⟩));conv=>whnf)
 exact ⟨_,u4v _,rfl,rfl⟩
def q1c (p:Pg) (j:Nat):List Pr:=(x8p 0 p.procs).take j++p.procs.drop j
theorem z2i : ∀ (l:List Pr) (n j:Nat) (f:Pr),l[j]? = some f->(x8p n l)[j]? = some ⟨f.name,f.params,f.vars,nmL (n+QN l j) f.body,f.fin⟩
 | g::r,n,0,f,h=>by cases h;rw [x8p];rfl
 | g::r,n,j+1,f,h=>by
   rw [x8p,u9q,z2i r (n+cntL g.body) j f (by simpa using h),QN,u6g]
theorem FI : ∀ (l:List Pr) (n:Nat),(x8p n l).length=l.length
 | [],n=>rfl
 | g::r,n=>by rw [x8p,u4t,u4t,FI r]
theorem w5m (p:Pg) {j:Nat} (h:j<=p.procs.length):(q1c p j).length=p.procs.length:=by
 unfold q1c;rw [u3f,u4k,u6w,FI];omega
theorem w5n (p:Pg) {j:Nat} (hj:j<p.procs.length):(q1c p j)[j]? = some p.procs[j]:=by
 unfold q1c;rw [u5f (by rw [u4k,FI];omega),u4k,FI,u5o];rw [show j+(j-min j p.procs.length)=j by omega,u3h hj]
theorem w1r (p:Pg) {j:Nat} (hj:j<p.procs.length):q1c p (j+1)=(q1c p j).set j ⟨p.procs[j].name,p.procs[j].params,p.procs[j].vars,nmL (QN p.procs j) p.procs[j].body,p.procs[j].fin⟩:=by
 have h1:=z2i p.procs 0 j _ (u3h hj);rw [u5s] at h1;unfold q1c;have hl:((x8p 0 p.procs).take j).length=j:=by rw [u4k,FI];omega
 rw [List.set_append_right _ _ (by omega),hl,Nat.sub_self,u4n hj,List.set_cons_zero,List.take_add_one,h1];simp
theorem w5t {l:List Pr} {j:Nat} (hj:j<l.length):QN l (j+1)=QN l j+cntL l[j].body:=by
 induction l generalizing j with
 | nil=>simp at hj
 | cons g r ih =>
   cases j with
   | zero=>rw [QN,QN,QN];simp
   | succ j =>
     rw [QN,QN,ih (by simpa using hj)];simp only [List.getElem_cons_succ];omega
theorem q2w (p:Pg) (h:CopyF p) (hc:cntP p.procs<=100000):SpecP prog 92 [.agg p.cells] (fun r=>r = .agg (v5s p).cells):=by
 refine sB PC func92 rfl call92 ?_;conv=>whnf
 have hpm:(p.procs.map fun f=>AV.agg f.cells).length=p.procs.length:=u3k _;have hpl:=h.procs;repeat' ((first|(refine iM fun _=>?_)|refine u3d rfl ?_|(refine CallK.heap [] 20 (u4w (u4v _) u4s) u4c (q7f p h) rfl rfl ?_;rintro l' H' ⟨rfl,rfl⟩));conv=>whnf)
 refine LoopK.inv QX (fun j:Nat=>⟨[(1,.p (.ip p.cells)),(2,.ptr 1 0),(3,.ptr 0 0),(4,.p (.int .i64 (QN p.procs j))),(10,.p (.int .i64 p.procs.length)),(11,.p (.int .i64 j))],[(0,.obj 25 [.p (eStrs p.globals),.hd 26 0 p.procs.length]),(26,.own 90 5 ((q1c p j).map fun f => .agg f.cells)),(1,.obj 25 [.p .nils,.p .nils])]⟩) (fun j=>j<=p.procs.length) (fun j=>p.procs.length-j) 0
  (Le.of_eq (by rw [show q1c p 0=p.procs from rfl,show QN p.procs 0=0 by rw [QN]];rfl)) (u3l _) ?_
 intro j h2;have hrl:=w5m p h2;rcases u3r j p.procs.length with hj|hj
 ·obtain ⟨hv,hfin,hpm2,hcb,hok⟩:=h.pr _ (u3i hj);have hle:=w5r p.procs j;have h5:=MV (cntL p.procs[j].body+1) p.procs[j].body (by omega) (QN p.procs j) (by omega) fun t ht=>(hok t ht).1;have hget:((q1c p j).map fun f=>AV.agg f.cells)[j]? = some (.agg p.procs[j].cells):=by rw [u4q,w5n p hj];rfl
  have hset:((q1c p j).map fun f=>AV.agg f.cells).set j (.agg (Pr.mk p.procs[j].name p.procs[j].params p.procs[j].vars (nmL (QN p.procs j) p.procs[j].body) p.procs[j].fin).cells)=(q1c p (j+1)).map fun f=>AV.agg f.cells:=by
   rw [w1r p hj,<- u6k]
  have hst:=w5t hj;generalize ((q1c p j).map fun f=>AV.agg f.cells)=row at hget hset ⊢;conv=>whnf
  repeat' (first|((first|refine u3d rfl ?_|(refine iA fun _=>?_)|refine wI ?_|refine DrawK.of QX mixed (.cons 3 false (.cons 4 false (.cons 5 false (.cons 6 false (.cons 7 false (.cons 8 false (.cons 9 false (.cons 0 false (.cons 2 false (.fork 1 (.cons 10 true (.cons 11 false (.cons 12 false (.cons 14 true (.cons 15 true (.cons 13 false (.cons 16 true (.cons 17 true .nil)))))))) 10 (.cons 1 true (.cons 11 false (.cons 12 false (.cons 14 true (.cons 15 true (.cons 13 false (.cons 16 true (.cons 17 true .nil)))))))))))))))))) (by kernel_rfl) ?_|refine cP h5 ?_|refine u5q j rfl hj ?_|refine u6o j 3 (.agg p.procs[j].cells) (.agg (Pr.mk p.procs[j].name p.procs[j].params p.procs[j].vars (nmL (QN p.procs j) p.procs[j].body) p.procs[j].fin).cells) (by show (0+j)*5+3=j*5+3;omega) hget (u8l rfl) rfl ?_);conv=>whnf)|(apply bD<;>intro _<;>first|omega|conv=>whnf)|(refine u3d ?_ ?_<;>conv=>whnf))
  all_goals exact ⟨j+1,hj,by omega,Le.of_eq (by rw [<- hset,hst];rfl)⟩
 ·have hje:j=p.procs.length:=by omega
  subst hje;have hA:q1c p p.procs.length=(v5s p).procs:=by
   unfold q1c v5s;rw [u3o (by rw [FI];exact u4j _),u4z (u4j _),u4e]
  have hcl:p.procs.length=((v5s p).procs.map fun f=>AV.agg f.cells).length:=by rw [u3k,<- hA,hrl]
  rw [hA];conv=>whnf
  repeat' (first|(refine u3d rfl ?_;conv=>whnf)|(apply bD<;>intro _<;>first|omega|conv=>whnf))
  refine ⟨_,.agg (cs:=(v5s p).cells) rfl fun i l c h1 h3 => ?_,rfl⟩
  match i,h1,h3 with
  | 0,h1,h3=>cases h1;cases h3;exact .p (Sub.refl _)
  | 1,h1,h3 =>
    cases h1;cases h3;exact .hd rfl hcl
  | i+2,h1,h3=>simp at h1
section
variable {p:Pg} {j:Nat} {f:Pr}
end
section
variable {p:Pg} {j:Nat} {f:Pr}
end
structure Book where
 s:Sheet
 ways:List Way
 defs:List (List Str)
 uses:List (List Str)
 ins:List (List Str)
 outs:List (List Str)
def Book.cells (b:Book):List AV:=[.ip b.s.cells,.sl (b.ways.map fun w => .ip w.cells),.sl (b.defs.map eStrs),.sl (b.uses.map eStrs),.sl (b.ins.map eStrs),.sl (b.outs.map eStrs)]
def XE:Str:=[36,105,110]
def comB (p:Pg) (n:Str):Bool:=(n==XE)||p.globals.any fun s=>n==s
theorem BC (b:Book) (n:Str):SpecP prog 209 [.ip b.cells,.str n] (fun r=>r = .bool (comB b.s.p n)):=by
 refine sB q2m func209 rfl call209 ?_;conv=>whnf
 repeat' (first|(refine cP (QU _ _) ?_;conv=>whnf)|(apply bB<;>intro _<;>conv=>whnf))
 all_goals first
  | (have h9:(n==XE)=true:=by assumption
     exact RetK.tt (by unfold comB;rw [h9];rfl))
  | (have h9:(n==XE)=false:=by assumption
     exact RetK.bool (by unfold comB;rw [h9,Bool.false_or]))
theorem x9c (p:Pg) (j:Nat) (f:Pr) (h:QM p=true) (hj:p.procs[j]? = some f) (id:Int) (hid:plP p j f id):SpecP prog 208 [.ip (QQ p j f).cells,.int .i64 id] (fun r=>r = .bool ((QQ p j f).live.getD (ixI p j f id).toNat false)):=by
 refine sB x0m func208 rfl call208 ?_;conv=>whnf
 have hT:=v8t h hj;have hI:=q4i (QQ p j f) f hT.hj hT.hc (by have:=hT.hn2;have:=hT.hn;have:=hT.hw;omega) id;have he:VL (loI (QQ p j f).p (QQ p j f).j) (hiI (QQ p j f).p (QQ p j f).j f) (QQ p j f).n id=ixI p j f id:=rfl;rw [he] at hI;have hr:=JD hid;have hll:(QQ p j f).live.length=cntL f.body+2:=by show (PQ _ (List.replicate (cntL f.body+2) false)).length=_;rw [w2z];simp
 generalize ixI p j f id=ix at *
 have hg:((QQ p j f).live.map bv)[ix.toNat]? = some (bv ((QQ p j f).live.getD ix.toNat false)):=by
  rw [u4q,u3m,u3h (by omega)];rfl
 generalize (QQ p j f).live.getD ix.toNat false=v at *
 cases v;all_goals
  repeat' ((first|refine dA ?_|refine cP hI ?_|(refine IdxK.at (k:=ix.toNat) (by omega) hg rfl ?_));conv=>whnf)
 all_goals first
  | exact RetK.tt rfl
  | exact RetK.ff rfl
theorem z5h (l:List Str) (hlen:l.length<=1000000000):SpecH prog 129 [.hd 1000 0 l.length] [(1000,.own 9 1 (l.map .str))] (fun r H=>r = .hd 1000 0 (XZ l).length∧H=[(1000,.own 9 1 ((XZ l).map .str))]):=by
 refine sH x6i func129 rfl call129 ?_;conv=>whnf
 repeat' (first|(refine CallK.heap [(1000,1000)] 0 (by repeat' (first|exact u4s|refine u4w ?_ ?_|exact u4v _|exact u4p Sub.nils|exact u4p (Sub.tt rfl)|exact u4p (Sub.ff rfl)|exact u4p (Sub.int (by omega)))) (by refine u4x (j:=1000) rfl rfl ?_ ?_;exact CSub.refl _;exact u4c) (BG l hlen) rfl rfl ?_;rintro l' H' ⟨rfl,rfl⟩;conv=>whnf)|(refine CallK.heap [(1000,1000)] 0 (u4w (u8s (by rw [YD];rfl)) u4s) (by refine u4x (j:=1000) rfl rfl ?_ ?_;exact CSub.refl _;exact u4c) (FU (JL l) (by rw [YD];omega)) rfl rfl ?_;rintro l' H' ⟨rfl,rfl⟩;conv=>whnf))
 all_goals first
  | exact u6h _ (u4v _) ⟨rfl,rfl⟩
theorem BS (b:Book) (t:S):SpecP prog 212 [.ip b.cells,.agg t.cells] (fun r=>r = .int .i64 (q3l (fun f=>f.name==t.proc) b.s.p.procs)):=by
 refine sB q2n func212 rfl call212 ?_;conv=>whnf
 have hP:=VW b.s t.proc;repeat' ((first|refine dA ?_|refine cP hP ?_);conv=>whnf)
 all_goals exact RetK.p rfl
def v8l (O:List Str) (x:Arg×Param):Bool:=x.1.ref&&inS O x.2.name
def x3n (t:S) (f:Pr) (O:List Str) (j:Nat):List Str:=(((t.args.zip f.params).take j).filter (v8l O)).map fun x=>x.1.name
def z7j (p:Pg) (t:S) (f:Pr) (O:List Str):List Str:=(if t.name=[] then [] else [t.name])++x3n t f O t.args.length++O.filter (comB p)
theorem x8a (t:S) (f:Pr) (O:List Str) (j:Nat):(x3n t f O j).length<=j:=by
 unfold x3n;rw [u3k];exact u5r (u5c _ _) (by rw [u4k];omega)
theorem z3h {t:S} {f:Pr} {O:List Str} {j:Nat} (h1:j<t.args.length) (h2:j<f.params.length):x3n t f O (j+1)=x3n t f O j++(if t.args[j].ref=true∧inS O f.params[j].name=true then [t.args[j].name] else []):=by
 have hz:j<(t.args.zip f.params).length:=by rw [List.length_zip];omega
 unfold x3n;rw [u3a hz,u4a,u3t];congr 1;have e:(t.args.zip f.params)[j]=(t.args[j],f.params[j]):=List.getElem_zip;rw [e];by_cases h:t.args[j].ref=true∧inS O f.params[j].name=true
 ·rw [if_pos h,u5u (by unfold v8l;simp [h])];rfl
 ·rw [if_neg h,u5v (by unfold v8l;simpa using h)];rfl
theorem q9z (b:Book) (t:S) (i:Nat) (f:Pr) (O:List Str) (hi:q3l (fun f=>f.name==t.proc) b.s.p.procs=i) (hf:b.s.p.procs[i]? = some f) (hO:b.outs[i]? = some O) (hs:O.Pairwise ltT) (hl:O.length<=1000000) (ha:t.args.length<=f.params.length) (hal:t.args.length<=1000000):SpecH prog 207 [.p (.ip b.cells),.p (.agg t.cells)] [] (fun r H=>OneRow (x0k (z7j b.s.p t f O)) False r H):=by
 refine sH q2l func207 rfl call207 ?_;conv=>whnf
 have hC:=BS b t;rw [hi] at hC;have hH:=fun x=>q9r O x hs (by omega);have hCo:=fun x=>BC b x;have hg1:(b.outs.map eStrs)[i]? = some (eStrs O):=by rw [u4q,hO];rfl
 have hg2:(b.s.p.procs.map fun f=>AV.agg f.cells)[i]? = some (.agg f.cells):=by rw [u4q,hf];rfl
 have ham:(t.args.map fun a=>AV.agg a.cells).length=t.args.length:=u3k _;have hOm:(O.map AV.str).length=O.length:=u3k _;repeat' (first|((first|(refine iM fun _=>?_)|refine u3d rfl ?_|refine aD ?_|refine bP ?_|refine QH (es:=[]) rfl (by simp) ?_|refine cP hC ?_);conv=>whnf)|(apply bN<;>intro _<;>conv=>whnf))
 all_goals
  refine LoopK.inv QX (fun x:Nat×List Str=>⟨[(0,.p (.ip b.cells)),(5,.hd 0 0 x.2.length),(6,.p (.int .i64 i)),(23,.p (.sl (t.args.map fun a => .agg a.cells))),(24,.p (.int .i64 (t.args.map fun a=>AV.agg a.cells).length)),(25,.p (.int .i64 x.1))],[(0,.own 9 1 (x.2.map .str))]⟩) (fun x=>x.1<=t.args.length∧x.2=(if t.name=[] then [] else [t.name])++x3n t f O x.1) (fun x=>t.args.length-x.1) (0,if t.name=[] then [] else [t.name]) ?_ ⟨u3l _,by simp [x3n]⟩ ?_
  ·first
    | (have h9:(t.name==[])=true:=by assumption
       rw [if_pos (eq_of_beq h9)];exact Le.mk [(0,.own 9 1 [])] (by simp [Chunk.new0];rfl) (by simp) (by simp) (.cons (.refl _) (.cons (.nil u3g) (.cons (.refl _) (.cons (.refl _) (.cons (.refl _) (.cons (.refl _) .nil)))))) (.new u3g .nil))
    | (have h9:(t.name==[])=false:=by assumption
       rw [if_neg (by simpa using h9)];exact Le.of_eq rfl)
  rintro ⟨j,acc⟩ ⟨h2,h3⟩;simp only at h2 h3 ⊢;have hal2:acc.length<=j+1:=by
   rw [h3,u3f];have:=x8a t f O j;split<;>simp<;>omega
  rcases u3r j t.args.length with hj|hj
  ·have hjp:j<f.params.length:=by omega
   have hst:=z3h (O:=O) hj hjp;have hHj:=hH f.params[j].name;have hg3:(f.params.map fun a=>AV.agg a.cells)[j]? = some (.agg f.params[j].cells):=by rw [u4q,u3h hjp];rfl
   conv=>whnf
   repeat' (first|((first|refine dA ?_|refine u3d rfl ?_|refine aD ?_|refine bP ?_|(refine iA fun _=>?_)|refine wI ?_|(refine IdxK.at (k:=i) rfl hg1 rfl ?_)|(refine IdxK.at (k:=i) rfl hg2 rfl ?_)|(refine IdxK.at (k:=j) rfl hg3 rfl ?_)|refine cP hHj ?_|refine QH (by simp) (by rw [u3k];omega) ?_);conv=>whnf)|(apply bD<;>intro _<;>first|omega|conv=>whnf)|(apply bB<;>intro _<;>conv=>whnf))
   all_goals first
    | (have h9:t.args[j].ref=true:=by assumption
       have h10:inS O f.params[j].name=true:=by assumption
       exact ⟨(j+1,acc++[t.args[j].name]),⟨hj,by simp only;rw [hst,if_pos (show t.args[j].ref=true∧inS O f.params[j].name=true from ⟨h9,h10⟩),h3,u4f]⟩,by simp only;omega,Le.of_eq (by simp only [u3f,u3t];rfl)⟩)
    | (have h10:inS O f.params[j].name=false:=by assumption
       exact ⟨(j+1,acc),⟨hj,by simp only;rw [hst,if_neg (show ¬(t.args[j].ref=true∧inS O f.params[j].name=true) from fun hh=>by rw [h10] at hh;cases hh.2),u4e];exact h3⟩,by simp only;omega,Le.of_eq rfl⟩)
    | (have h9:t.args[j].ref=false:=by assumption
       exact ⟨(j+1,acc),⟨hj,by simp only;rw [hst,if_neg (show ¬(t.args[j].ref=true∧inS O f.params[j].name=true) from fun hh=>by rw [h9] at hh;cases hh.1),u4e];exact h3⟩,by simp only;omega,Le.of_eq rfl⟩)
  ·obtain rfl:j=t.args.length:=by omega
   conv=>whnf
   repeat' (first|((first|(refine iM fun _=>?_)|(refine IdxK.at (k:=i) rfl hg1 rfl ?_));conv=>whnf)|(apply bD<;>intro _<;>first|omega|conv=>whnf))
   refine LoopK.inv QX (fun x:Nat×List Str=>⟨[(0,.p (.ip b.cells)),(5,.hd 0 0 x.2.length),(70,.p (eStrs O)),(71,.p (.int .i64 (O.map AV.str).length)),(72,.p (.int .i64 x.1))],[(0,.own 9 1 (x.2.map .str))]⟩) (fun x=>x.1<=O.length∧x.2=acc++(O.take x.1).filter (comB b.s.p)∧x.2.length<=acc.length+x.1) (fun x=>O.length-x.1) (0,acc) (Le.of_eq rfl) ⟨u3l _,by simp,by simp⟩ ?_;rintro ⟨q,o⟩ ⟨h4,h5,h6⟩;simp only at h4 h5 h6 ⊢;rcases u3r q O.length with hq|hq
   ·have hn1:=u3a hq;have hCq:=hCo O[q];conv=>whnf
    repeat' (first|((first|refine u3d rfl ?_|refine aD ?_|refine bP ?_|(refine iA fun _=>?_)|refine wI ?_|refine cP hCq ?_|refine QH (by simp) (by rw [u3k];omega) ?_);conv=>whnf)|(apply bD<;>intro _<;>first|omega|conv=>whnf)|(apply bB<;>intro _<;>conv=>whnf))
    all_goals first
     | (have h9:comB b.s.p O[q]=true:=by assumption
        exact ⟨(q+1,o++[O[q]]),⟨hq,by simp only;rw [hn1,u4a,u5u h9,h5,u4f];rfl,by simp;omega⟩,by simp only;omega,Le.of_eq (by simp only [u3f,u3t];rfl)⟩)
     | (have h9:comB b.s.p O[q]=false:=by assumption
        exact ⟨(q+1,o),⟨hq,by simp only;rw [hn1,u4a,u5v (by rw [h9];decide),h5];simp,by simp only;omega⟩,by simp only;omega,Le.of_eq rfl⟩)
   ·rw [u3o hq] at h5;have hfin:o=z7j b.s.p t f O:=by rw [h5,h3];rfl
    subst hfin;conv=>whnf
    repeat' (apply bD<;>intro _<;>first|omega|conv=>whnf)
    all_goals exact u6h _ (u4v _) (OneRow.str rfl)
def v0l:Str:=[36,114,101,116]
def caI (p:Pg) (t:S):Int:=q3l (fun f=>f.name==t.proc) p.procs
def caP (p:Pg) (t:S):Pr:=p.procs.getD (caI p t).toNat Pr0
def caO (b:Book) (t:S):List Str:=b.outs.getD (caI b.s.p t).toNat []
def YI (b:Book) (t:S):List Str:=if t.kind=1 then [t.name] else if t.kind=2 then [t.name,XE] else if t.kind=9 then [v0l] else if t.kind=4 then z7j b.s.p t (caP b.s.p t) (caO b t) else []
structure CallOk (b:Book) (t:S):Prop where
 i0:0<=caI b.s.p t
 i1:(caI b.s.p t).toNat<b.s.p.procs.length
 io:b.s.p.procs.length<=b.outs.length
 rise:(caO b t).Pairwise ltT
 len:(caO b t).length<=1000000
 args:t.args.length<=(caP b.s.p t).params.length
 al:t.args.length<=1000000
theorem w3g {b:Book} {t:S} (h:CallOk b t):SpecH prog 207 ([AV.ip b.cells,.agg t.cells].map .p) [] (OneRow (x0k (z7j b.s.p t (caP b.s.p t) (caO b t))) False):=by
 have h1:=h.i1;have h2:=h.io;refine q9z b t (caI b.s.p t).toNat (caP b.s.p t) (caO b t) ?_ ?_ ?_ h.rise h.len h.args h.al
 ·rw [u8i h.i0];rfl
 ·unfold caP;rw [u3m,u3h h1];rfl
 ·unfold caO;rw [u3m,u3h (by omega)];rfl
theorem x3e (b:Book) (t:S) (h4:t.kind=4->CallOk b t):SpecH prog 130 [.p (.ip b.cells),.p (.agg t.cells)] [] (fun r H=>OneRow (x0k (YI b t)) (YI b t=[]) r H):=by
 refine sH q8c func130 rfl call130 ?_;conv=>whnf
 have hC:=fun h=>w3g (h4 h);repeat' (first|((first|refine u3d rfl ?_|refine aD ?_|refine u8x (fun x hx=>by rcases u3b.1 hx with rfl;rfl) rfl ?_|refine u8x (fun x hx=>by rcases u3c.1 hx with rfl|hx;rfl;rcases u3b.1 hx with rfl;rfl) rfl ?_|(refine WQ 0 rfl (hC (by assumption)) (.cons (.p (Sub.refl _)) (.cons (.p (Sub.refl _)) .nil)) (fun h=>h.elim) ?_;rintro _ _ _ _ ⟨rfl,rfl,rfl⟩));conv=>whnf)|(apply bD<;>intro _<;>first|omega|conv=>whnf))
 ·rw [show YI b t=[t.name] by unfold YI;rw [if_pos (by assumption)]];exact u6h _ (u4v _) (JX (L:=[t.name]) rfl)
 ·rw [show YI b t=[t.name,XE] by unfold YI;rw [if_neg (by assumption),if_pos (by assumption)]];exact u6h _ (u4v _) (JX (L:=[t.name,XE]) rfl)
 ·rw [show YI b t=[v0l] by unfold YI;rw [if_neg (by assumption),if_neg (by assumption),if_pos (by assumption)]];exact u6h _ (u4v _) (JX (L:=[v0l]) rfl)
 ·rw [show YI b t=z7j b.s.p t (caP b.s.p t) (caO b t) by unfold YI;rw [if_neg (by assumption),if_neg (by assumption),if_neg (by assumption),if_pos (by assumption)]];exact u6h _ (u4v _) (JX (by rw [u3k]))
 ·exact u6h _ (u4v _) (.inl ⟨rfl,rfl,by unfold YI;rw [if_neg (by assumption),if_neg (by assumption),if_neg (by assumption),if_neg (by assumption)]⟩)
def outB (p:Pg) (f:Pr) (n:Str):Bool:=comB p n||decide ((⟨n,true⟩:Param)∈f.params)
def DE (D:List (List Str)) (id:Int):List Str:=D.getD (id-1).toNat []
def v7l (p:Pg) (i:Nat) (f:Pr) (D:List (List Str)) (it:Item):List Str:=bif (QQ p i f).live.getD (ixI p i f it.s.id).toNat false then (DE D it.s.id).filter (outB p f) else []
def z4y (p:Pg) (i:Nat) (f:Pr) (D:List (List Str)) (its:List Item):List Str:=its.flatMap (v7l p i f D)
theorem w5i {p:Pg} {i:Nat} {f:Pr} {D:List (List Str)} {its:List Item} {k:Nat} (hk:k<its.length):z4y p i f D (its.take (k+1))=z4y p i f D (its.take k)++v7l p i f D its[k]:=by
 unfold z4y;rw [u3a hk,u7v];simp
theorem z8l {p:Pg} {i:Nat} {f:Pr} {D:List (List Str)} (hD : ∀ d∈D,d.length<=1000) (its:List Item):(z4y p i f D its).length<=its.length*1000:=by
 refine WF its fun it _ => ?_;unfold v7l;cases (QQ p i f).live.getD (ixI p i f it.s.id).toNat false with
 | false=>exact u3l _
 | true =>
   refine u5r (u5c _ _) ?_;unfold DE;rcases u3r (it.s.id-1).toNat D.length with h|h
   ·rw [u3m,u3h h];exact hD _ (u3i h)
   ·rw [u3m,u5d h];exact u3l _
theorem x3i (b:Book) (p:Pg) (hp:b.s=sheetOf p) (h:QM p=true) (i:Nat) (f:Pr) (hj:p.procs[i]? = some f) (hW:b.ways[i]? = some (QQ p i f)) (hD:b.defs.length=(sheetOf p).l.length) (hd : ∀ d∈b.defs,d.length<=1000):SpecH prog 131 [.p (.ip b.cells),.p (.int .i64 i)] [] (fun r H=>OneRow (x0k (z4y p i f b.defs (itsOf p i f))) False r H):=by
 refine sH q8a func131 rfl call131 ?_;conv=>whnf
 obtain ⟨hsp,_,_,hlen,hs⟩:=QJ p;obtain ⟨s1,s2,s3,s4⟩:=hs i f hj;have hcn:=(ZV h).2.2;have hO:=q3p (sheetOf p) i (QN p.procs i) (QN p.procs i+cntL f.body) s1 s2 (by omega) (by omega) (by omega);rw [s4] at hO;have e1:itL (i:Nat) 0 (-1) 0 (QN p.procs i) f.body=itsOf p i f:=rfl;rw [e1,<- hp] at hO;have hbp:b.s.p=p:=by rw [hp,hsp]
 have hCo:=fun x=>BC b x;rw [hbp] at hCo;have hg1:(b.s.p.procs.map fun f=>AV.agg f.cells)[i]? = some (.agg f.cells):=by rw [hbp,u4q,hj];rfl
 have hg2:(b.ways.map fun w=>AV.ip w.cells)[i]? = some (.ip (QQ p i f).cells):=by rw [u4q,hW];rfl
 have hIl:((itsOf p i f).map fun i=>AV.agg i.cells).length=(itsOf p i f).length:=u3k _;have hil:(itsOf p i f).length<=200:=by
  have h1:=u5j List.length s4;rw [e1,u6w,u4k] at h1;omega
 have hall : ∀ k,(z4y p i f b.defs ((itsOf p i f).take k)).length<=200*1000:=fun k=>by
  have h1:=z8l (p:=p) (i:=i) (f:=f) hd ((itsOf p i f).take k);have h2:((itsOf p i f).take k).length*1000<=200*1000:=u5k _ (by rw [u4k];omega);omega
 repeat' ((first|(refine iM fun _=>?_)|refine u3d rfl ?_|(refine IdxK.at (k:=i) rfl hg1 rfl ?_)|refine cP hO ?_);conv=>whnf)
 refine LoopK.inv QX (fun k:Nat=>⟨[(0,.p (.ip b.cells)),(1,.p (.int .i64 i)),(5,.hd 0 0 (z4y p i f b.defs ((itsOf p i f).take k)).length),(6,.p (.ip f.cells)),(27,.p (YW (itsOf p i f))),(28,.p (.int .i64 ((itsOf p i f).map fun i=>AV.agg i.cells).length)),(29,.p (.int .i64 k))],[(0,.own 9 1 ((z4y p i f b.defs ((itsOf p i f).take k)).map .str))]⟩) (fun k=>k<=(itsOf p i f).length) (fun k=>(itsOf p i f).length-k) 0
  (Le.mk [(0,.own 9 1 [])] (by simp [Chunk.new0];rfl) (by simp) (by simp) (.cons (.refl _) (.cons (.refl _) (.cons (.nil u3g) (.cons (.refl _) (.cons (.refl _) (.cons (.refl _) (.cons (.refl _) .nil))))))) (.new u3g .nil)) (u3l _) ?_
 intro k hk;have hak:=hall k;rcases u3r k (itsOf p i f).length with hk2|hk2;rotate_left 1
 ·rw [u3o hk2];conv=>whnf
  repeat' (apply bD<;>intro _<;>first|omega|conv=>whnf)
  all_goals exact u6h _ (u4v _) (OneRow.str rfl)
 have hst:=w5i (p:=p) (i:=i) (f:=f) (D:=b.defs) hk2;have hb:=ZW (QK h).1 hj (q1m (u3i hk2));have hLv:=x9c p i f h hj (itsOf p i f)[k].s.id (.inr (.inr hb));have hoi:v7l p i f b.defs (itsOf p i f)[k]=bif (QQ p i f).live.getD (ixI p i f (itsOf p i f)[k].s.id).toNat false then (DE b.defs (itsOf p i f)[k].s.id).filter (outB p f) else []:=rfl;have hdl:((itsOf p i f)[k].s.id-1).toNat<b.defs.length:=by omega
 have hg3:(b.defs.map eStrs)[((itsOf p i f)[k].s.id-1).toNat]? = some (eStrs (DE b.defs (itsOf p i f)[k].s.id)):=by
  unfold DE;rw [u4q,u3m,u3h hdl];rfl
 have hDl:(DE b.defs (itsOf p i f)[k].s.id).length<=1000:=by
  unfold DE;rw [u3m,u3h hdl];exact hd _ (u3i hdl)
 generalize (QQ p i f).live.getD (ixI p i f (itsOf p i f)[k].s.id).toNat false=lv at *
 rw [hoi] at hst;generalize DE b.defs (itsOf p i f)[k].s.id=D at *
 generalize z4y p i f b.defs ((itsOf p i f).take k)=acc at *
 have hDm:(D.map AV.str).length=D.length:=u3k _;cases lv;all_goals
  conv=>whnf
  repeat' (first|((first|(refine iM fun _=>?_)|refine dA ?_|refine u3d rfl ?_|(refine iA fun _=>?_)|refine wI ?_|(refine IdxK.at (k:=i) rfl hg2 rfl ?_)|refine cP hLv ?_|(refine IdxK.at (k:=((itsOf p i f)[k].s.id-1).toNat) (by omega) hg3 rfl ?_));conv=>whnf)|(apply bD<;>intro _<;>first|omega|conv=>whnf)|(apply bN<;>intro _<;>conv=>whnf))
 all_goals first
  | contradiction
  | exact ⟨k+1,hk2,by omega,Le.of_eq (by rw [hst,u4h,u4e];rfl)⟩
  | skip
 all_goals
  rw [u4y] at hst;refine LoopK.inv QX (fun x:Nat×List Str=>⟨[(0,.p (.ip b.cells)),(1,.p (.int .i64 i)),(5,.hd 0 0 x.2.length),(6,.p (.ip f.cells)),(27,.p (YW (itsOf p i f))),(28,.p (.int .i64 ((itsOf p i f).map fun i=>AV.agg i.cells).length)),(29,.p (.int .i64 k)),(54,.p (eStrs D)),(55,.p (.int .i64 (D.map AV.str).length)),(56,.p (.int .i64 x.1))],[(0,.own 9 1 (x.2.map .str))]⟩) (fun x=>x.1<=D.length∧x.2=acc++(D.take x.1).filter (outB p f)∧x.2.length<=acc.length+x.1) (fun x=>D.length-x.1) (0,acc) (Le.of_eq rfl) ⟨u3l _,by simp,by simp⟩ ?_;rintro ⟨q,o⟩ ⟨h4,h5,h6⟩;simp only at h4 h5 h6 ⊢;rcases u3r q D.length with hq|hq
  ·have hn1:=u3a hq;have hCq:=hCo D[q];have hKq:=UU f.params ⟨D[q],true⟩;have hob:outB p f D[q]=(comB p D[q]||decide ((⟨D[q],true⟩:Param)∈f.params)):=rfl;generalize hdc:decide ((⟨D[q],true⟩:Param)∈f.params)=dc at hKq hob;conv=>whnf
   repeat' (first|((first|refine u3d rfl ?_|refine aD ?_|refine bP ?_|(refine iA fun _=>?_)|refine wI ?_|refine cP hCq ?_|(refine CallK.pure hKq (.cons (Sub.refl _) (.cons (Sub.agg (.cons (Sub.refl _) (.cons (Sub.tt rfl) .nil))) .nil)) ?_;rintro _ rfl)|refine QH (by simp) (by rw [u3k];omega) ?_);conv=>whnf)|(apply bD<;>intro _<;>first|omega|conv=>whnf)|(apply bB<;>intro _<;>conv=>whnf))
   all_goals first
    | (have h9:outB p f D[q]=true:=by rw [hob,show comB p D[q]=true by assumption];rfl
       exact ⟨(q+1,o++[D[q]]),⟨hq,by simp only;rw [hn1,u4a,u5u h9,h5,u4f];rfl,by simp;omega⟩,by simp only;omega,Le.of_eq (by simp only [u3f,u3t];rfl)⟩)
    | (have h9:outB p f D[q]=true:=by rw [hob,show dc=true by assumption,Bool.or_true]
       exact ⟨(q+1,o++[D[q]]),⟨hq,by simp only;rw [hn1,u4a,u5u h9,h5,u4f];rfl,by simp;omega⟩,by simp only;omega,Le.of_eq (by simp only [u3f,u3t];rfl)⟩)
    | (have h9:outB p f D[q]=false:=by rw [hob,show comB p D[q]=false by assumption,show dc=false by assumption];rfl
       exact ⟨(q+1,o),⟨hq,by simp only;rw [hn1,u4a,u5v (by rw [h9];decide),h5];simp,by simp only;omega⟩,by simp only;omega,Le.of_eq rfl⟩)
  ·rw [u3o hq,<- hst] at h5;subst h5;conv=>whnf
   repeat' (first|(refine wI ?_;conv=>whnf)|(apply bD<;>intro _<;>first|omega|conv=>whnf))
   all_goals exact ⟨k+1,hk2,by omega,Le.of_eq rfl⟩
theorem w5d (x:X):SpecH prog 211 ([AV.agg x.cells].map .p) [] (OneRow (x0k (QS x)) (QS x=[])):=by
 refine sH q7t func211 rfl call211 ?_;conv=>whnf
 repeat' (first|(refine cP (MZ _) ?_;conv=>whnf)|(apply bN<;>intro _<;>conv=>whnf))
 ·refine CallK.nil 5 9 1 rfl (.cons rfl (.row .nil)) ?_;refine CallK.heap [(2000,5)] 0 (by repeat' (first|exact u4s|refine u4w ?_ ?_|exact u4v _|exact u4p Sub.nils|exact u4p (Sub.tt rfl)|exact u4p (Sub.ff rfl)|exact u4p (Sub.int (by omega)))) (by refine u4x (j:=5) rfl rfl ?_ ?_;exact CSub.refl _;exact u4c) (x3k 20 (by omega) x (by assumption) [] (by simp)) rfl rfl ?_;rintro l' H' ⟨rfl,rfl⟩;conv=>whnf
  have e:QS x=x3b x []:=by
   unfold QS;rw [show w1f x=true by assumption];rfl
  rw [e];exact u6h _ (u4v _) (UH rfl)
 ·have e:QS x=[]:=by
   unfold QS;rw [show w1f x=false by assumption];rfl
  exact u6h _ (u4v _) (.inl ⟨rfl,rfl,e⟩)
def usA (a:Arg):List Str:=(if a.ref=true then [a.name] else [])++QS a.x
def inAt (b:Book) (t:S):List Str:=b.ins.getD (caI b.s.p t).toNat []
def z4k (t:S):List Str:=QS t.x++(if t.kind=2 then [XE] else [])
def KI (b:Book) (t:S):List Str:=if t.kind=4 then z4k t++t.args.flatMap usA++inAt b t else z4k t
theorem z6t (a:Arg):(usA a).length<=1048577:=by
 have:=ZP a.x;unfold usA;rw [u3f];split<;>simp<;>omega
theorem x9n (t:S):(z4k t).length<=1048577:=by
 have:=ZP t.x;unfold z4k;rw [u3f];split<;>simp<;>omega
def x0s (t:S) (j:Nat):List Str:=z4k t++(t.args.take j).flatMap usA
theorem w8j (t:S) {j:Nat} (ha:t.args.length<=20000):(x0s t j).length<=21000000000:=by
 have h1:=x9n t;have h2:=GY z6t (t.args.take j);have h3:(t.args.take j).length*1048577<=20000*1048577:=u5k _ (by simp;omega);unfold x0s;simp only [u3f];omega
theorem z0i {t:S} {j:Nat} (hj:j<t.args.length):x0s t (j+1)=x0s t j++usA t.args[j]:=by
 unfold x0s;rw [u3a hj,u7v,u4f];simp
theorem OneRow.es {L:List Str} {es:List AV} {n:Nat} {nil:Prop} (he:es=L.map .str) (h:n=L.length):OneRow (x0k L) nil (.hd 0 0 n) [(0,.own 9 1 es)]:=by
 subst he;exact JX h
structure UseOk (b:Book) (t:S):Prop where
 i0:0<=caI b.s.p t
 ii:(caI b.s.p t).toNat<b.ins.length
 al:t.args.length<=20000
 len:(inAt b t).length<=1000000
theorem x3o (b:Book) (t:S) (h4:t.kind=4->UseOk b t):SpecH prog 133 [.p (.ip b.cells),.p (.agg t.cells)] [] (fun r H=>OneRow (x0k (KI b t)) (KI b t=[]) r H):=by
 refine sH q8e func133 rfl call133 ?_;conv=>whnf
 have hN:=w5d t.x;have hC:=BS b t;have hI:q3l (fun f=>f.name==t.proc) b.s.p.procs=caI b.s.p t:=rfl;rw [hI] at hC;have hnx:=ZP t.x;conv=>whnf
 refine WQ 0 rfl hN (.cons (.p (Sub.refl _)) .nil) (fun hnil => ?_) (fun q e sz es hR => ?_);rotate_left;obtain ⟨rfl,rfl,rfl⟩:=hR
 rotate_right
 all_goals
  conv=>whnf
  repeat' (first|((first|(refine iM fun _=>?_)|refine u3d rfl ?_|refine aD ?_|refine bP ?_|refine QH (es:=[]) rfl (by simp) ?_|refine QH (by simp) (by simp;omega) ?_);conv=>whnf)|(apply bD<;>intro _<;>first|omega|conv=>whnf)|(apply bE<;>intro _<;>first|omega|conv=>whnf))
 ·have e:KI b t=[XE]:=by unfold KI z4k;rw [if_neg (by assumption),if_pos (by assumption),hnil];rfl
  rw [e];exact u6h _ (u4v _) (JX (L:=[XE]) rfl)
 rotate_left
 ·have e:KI b t=[]:=by unfold KI z4k;rw [if_neg (by assumption),if_neg (by assumption),hnil];rfl
  exact u6h _ (u4v _) (.inl ⟨rfl,rfl,e⟩)
 ·have e:KI b t=QS t.x++[XE]:=by unfold KI z4k;rw [if_neg (by assumption),if_pos (by assumption)]
  rw [e];exact u6h _ (u4v _) (OneRow.es (by rw [u3t];rfl) (by simp))
 rotate_left
 ·have e:KI b t=QS t.x:=by unfold KI z4k;rw [if_neg (by assumption),if_neg (by assumption),u4e]
  rw [e];exact u6h _ (u4v _) (OneRow.es rfl (by simp))
 all_goals
  have hk4:t.kind=4:=by assumption
  have hU:=h4 hk4;have e0:x0s t 0=QS t.x:=by unfold x0s z4k;rw [if_neg (by omega),u7b,List.flatMap_nil,u4e,u4e]
  have hl:(t.args.map fun a=>AV.agg a.cells).length=t.args.length:=u3k _;have hg:(b.ins.map eStrs)[(caI b.s.p t).toNat]? = some (eStrs (inAt b t)):=by
   unfold inAt;rw [u4q,u3m,u3h hU.ii];rfl
  have hi0:=hU.i0;have hil:=hU.len;have hia:=hU.al;refine LoopK.inv QX (fun j:Nat=>⟨[(0,.p (.ip b.cells)),(3,.p (.ip t.cells)),(5,.hd 0 0 (x0s t j).length),(22,.p (.sl (t.args.map fun a => .agg a.cells))),(23,.p (.int .i64 (t.args.map fun a=>AV.agg a.cells).length)),(24,.p (.int .i64 j))],[(0,.own 9 1 ((x0s t j).map .str))]⟩) (fun j=>j<=t.args.length) (fun j=>t.args.length-j) 0 ?_ (u3l _) ?_
  ·first
    | (rw [e0,hnil]
       exact Le.mk [(0,.own 9 1 [])] (by simp [Chunk.new0];rfl) (by simp) (by simp) (.cons (.refl _) (.cons (.refl _) (.cons (.nil u3g) (.cons (.refl _) (.cons (.refl _) (.cons (.refl _) .nil)))))) (.new u3g .nil))
    | (rw [e0]
       exact Le.of_eq (by rw [u3k];rfl))
  intro j hj;have hacc:=w8j t (j:=j) hia;have hfin:t.args.length<=j->KI b t=x0s t j++inAt b t:=fun h=>by
   unfold KI x0s;rw [if_pos hk4,u3o h]
  have hst:=fun h=>z0i (t:=t) (j:=j) h;generalize x0s t j=acc at *
  rcases u3r j t.args.length with hj2|hj2
  ·have hnl:=ZP t.args[j].x;conv=>whnf
   repeat' (first|((first|refine cP (q7y _) ?_|refine u3d rfl ?_|refine aD ?_|refine bP ?_|(refine iA fun _=>?_)|refine wI ?_|refine XR _ (by simp) (by simp;omega) ?_|refine QH (by simp) (by simp;omega) ?_);conv=>whnf)|(apply bD<;>intro _<;>first|omega|conv=>whnf)|(apply bB<;>intro _<;>conv=>whnf))
   all_goals
    refine ⟨j+1,hj2,by omega,Le.of_eq ?_⟩;first
     | (have hn:usA t.args[j]=[t.args[j].name]++QS t.args[j].x:=by rw [usA,if_pos (by assumption)]
        rw [hst hj2,hn];simp only [u3f,u3t,u3k,<- u4f,<- u6g];rfl)
     | (have hn:usA t.args[j]=QS t.args[j].x:=by rw [usA,if_neg (by rw [show t.args[j].ref=false by assumption];decide)];rfl
        rw [hst hj2,hn];simp only [u3f,u3t,u3k];rfl)
  ·rw [hfin hj2];conv=>whnf
   repeat' (first|((first|refine dA ?_|refine aD ?_|refine cP hC ?_|(refine IdxK.at (k:=(caI b.s.p t).toNat) (by omega) hg rfl ?_)|refine XR _ (by simp) (by simp;omega) ?_);conv=>whnf)|(apply bD<;>intro _<;>first|omega|conv=>whnf))
   all_goals exact u6h _ (u4v _) (OneRow.es (by rw [u3t]) (by simp))
def FV (w:Way) (f:Pr):List (Int×Int):=(GU w f).map (ixP w.p w.j f w.n)
theorem z6a (w:Way) (f:Pr) (n:Nat) (h:WayT w f n) (hp : ∀ t∈FV w f,(0<=t.1∧t.1<n)∧0<=t.2∧t.2<n) (hlen:(GU w f).length<=1000000):SpecP prog 213 [.ip w.cells] (fun r=>r=q8z (q4v n (FV w f))):=by
 refine sB x7j func213 rfl call213 ?_;conv=>whnf
 have hwn:=h.hw;have hn5:=h.hn;have hn2:=h.hn2;have hA:=z4z w f n h;have hP:=BP w f h.hj h.hc (by omega) (GU w f) hlen;have hpl:(avP (FV w f)).length=(FV w f).length:=by unfold avP;rw [u3k]
 have hpl2:(FV w f).length<=1000000:=by unfold FV;rw [u3k];exact hlen
 have hPe:(GU w f).map (ixP w.p w.j f w.n)=FV w f:=rfl;rw [hPe] at hP;repeat' ((first|(refine iM fun _=>?_)|refine aR ?_|refine MkK.mk n (by omega) (by show 24*_<=140737488355328;omega) (by unfold maxLen;omega) ?_|refine cP hA ?_|refine cP hP ?_);conv=>whnf)
 refine LoopK.inv QX (fun j:Nat=>⟨[(3,.hd 0 0 n),(14,.p (.sl (avP (FV w f)))),(15,.p (.int .i64 (avP (FV w f)).length)),(16,.p (.int .i64 j))],[(0,.ext (.mat 70 3 1 (avI (q4v n ((FV w f).take j))) []))]⟩) (fun j=>j<=(FV w f).length) (fun j=>(FV w f).length-j) 0
  (by
    refine Le.trans (w5g n rfl) ?_;exact Le.mk [] (by simp) (by simp) (by simp) (.cons (.refl _) (.cons (.refl _) (.cons (.refl _) (.cons (.refl _) .nil)))) (.cons rfl (.of_eq (by simp [avI,q4v])) .nil)) (u3l _) ?_
 intro j h2;rcases u3r j (FV w f).length with hj|hj
 ·have hme:(avP (FV w f))[j]? = some (.agg [.int .i64 (FV w f)[j].1,.int .i64 (FV w f)[j].2]):=by simp [avP,hj]
  obtain ⟨⟨q1,q2⟩,q3,q4⟩:=hp _ (u3i hj);have hst:q4v n ((FV w f).take (j+1))=nxE (q4v n ((FV w f).take j)) (FV w f)[j]:=by
   unfold q4v;rw [u3a hj,List.foldl_append];rfl
  have hrl:=x2m n ((FV w f).take j);have hcnt:=z2e n ((FV w f).take j) (FV w f)[j].1.toNat;generalize (FV w f)[j]=t at hme q1 q2 q3 q4 hst hcnt;generalize q4v n ((FV w f).take j)=rows at hst hrl hcnt ⊢;obtain ⟨a,ha⟩ : ∃ a:Nat,t.1=a:=⟨t.1.toNat,by omega⟩;have hal:a<rows.length:=by omega
  have hrow:(avI rows)[a]? = some (rows[a].map (.int .i64)):=by unfold avI;rw [u4q,u3h hal];rfl
  have hput:(avI rows).set a (rows[a].map (.int .i64)++[.int .i64 t.2])=avI (nxE rows t):=by
   unfold nxE avI;rw [ha,Int.toNat_natCast,u3m,u3h hal,u6v,u6k,u3t];rfl
  have hcl:rows[a].length<=1000000:=by
   rw [ha,Int.toNat_natCast,u3m,u3h hal,u6v,u4k] at hcnt;omega
  rw [ha] at hme;conv=>whnf
  repeat' (first|((first|refine u3d rfl ?_|refine aD ?_|refine wI ?_|refine DrawK.of QX mixed (.cons 0 false (.cons 1 false (.cons 2 false (.cons 3 false (.cons 4 false (.cons 5 false (.cons 6 false (.cons 8 false (.cons 9 false (.alo 7 (.cons 10 true (.cons 11 true (.cons 12 true (.cons 13 true .nil)))))))))))))) (by kernel_rfl) ?_|(refine IdxK.at (k:=j) rfl hme rfl ?_)|refine u5q 0 rfl (by decide) ?_|refine u5q 1 rfl (by decide) ?_|refine u5q a rfl (by omega) ?_|refine RowK.mk a _ (by omega) hrow (by simp) ?_|refine u8x (fun x hx=>by rcases u3b.1 hx with rfl;rfl) rfl ?_|refine OpK.focus QX 27 0 a 2 rfl rfl hrow (by simp) rfl rfl ?_|refine ZZ rfl (by rw [u3k];omega) ?_|(refine x0t QX rfl rfl rfl rfl rfl rfl rfl rfl rfl (by decide) a [] (by omega) (by unfold avI;rw [u3k];omega) (by simp) ⟨by simp,by simp,by simp⟩ ?_));conv=>whnf)|(apply bD<;>intro _<;>first|omega|conv=>whnf))
  all_goals exact ⟨j+1,hj,by omega,Le.of_eq (by rw [hst,<- hput];rfl)⟩
 ·have hje:(FV w f).take j=FV w f:=u3o hj;rw [hje];have hNl:=x2m n (FV w f);conv=>whnf
  repeat' (apply bD<;>intro _<;>first|omega|conv=>whnf)
  exact ⟨_,.mat rfl (by unfold avI;rw [u3k,hNl]),rfl⟩
section
variable {p:Pg} {j:Nat} {f:Pr}
def dR (p:Pg) (j:Nat) (f:Pr):Int->Int->Prop:=stR (GU (QQ p j f) f)
theorem w3d (h:QM p=true) (hj:p.procs[j]? = some f) {a b:Int}:dR p j f a b↔wR p j f a b ∨ ∃ l∈trapsW (QQ p j f) f,∃ t∈flL f.body,t.id∈l∧t.kind=10∧a=t.id∧b = -1:=by
 constructor
 ·rintro ⟨s,hs,rfl,rfl⟩;rcases u3p.1 ((FO (x7r h hj)).2.1 s hs) with h1|h1
  ·obtain ⟨l,hl,t,ht,hid,hk,rfl⟩:=(q4e h hj).1 h1;exact .inr ⟨l,hl,t,ht,hid,hk,rfl,rfl⟩
  ·exact .inl ⟨s,h1,rfl,rfl⟩
 ·rintro (⟨s,hs,rfl,rfl⟩|⟨l,hl,t,ht,hid,hk,rfl,rfl⟩)
  ·exact w3n h hj (u3p.2 (.inr hs))
  ·exact w3n h hj (s:=⟨t.id,-1,3⟩) (u3p.2 (.inl ((q4e h hj).2 ⟨l,hl,t,ht,hid,hk,rfl⟩)))
theorem w3b (h:QM p=true) (hj:p.procs[j]? = some f) {a b:Int} (hd:dR p j f a b):plP p j f a∧plP p j f b:=by
 have hA:v8u p j f a b:=by
  rcases (w3d h hj).1 hd with h1|h1
  ·exact (z0a h hj).2 (.inl h1)
  ·exact (z0a h hj).2 (.inr (.inr (.inl h1)))
 exact ⟨(w8y h hj hA).1,(w8y h hj hA).2.1⟩
theorem NS (h:QM p=true) (hj:p.procs[j]? = some f) : ∀ t∈FV (QQ p j f) f,(0<=t.1∧t.1<(cntL f.body+2:Nat))∧0<=t.2∧t.2<(cntL f.body+2:Nat):=fun t ht=>by
 obtain ⟨s,hs,rfl⟩:=u3s.1 ht;obtain ⟨h1,h2⟩:=w3b h hj ⟨s,hs,rfl,rfl⟩;exact ⟨JD h1,JD h2⟩
theorem v0p (h:QM p=true) (hj:p.procs[j]? = some f) {a b:Int} (ha:plP p j f a) (hb:plP p j f b):(ixI p j f a,ixI p j f b)∈FV (QQ p j f) f↔dR p j f a b:=by
 constructor
 ·intro h1;obtain ⟨s,hs,he⟩:=u3s.1 h1;obtain ⟨h2,h3⟩:=w3b h hj ⟨s,hs,rfl,rfl⟩;have e1:ixI p j f s.src=ixI p j f a:=u5j Prod.fst he;have e2:ixI p j f s.dst=ixI p j f b:=u5j Prod.snd he;exact ⟨s,hs,KZ h2 ha e1,KZ h3 hb e2⟩
 ·rintro ⟨s,hs,rfl,rfl⟩;exact u3s.2 ⟨s,hs,rfl⟩
end
end Go.Ab
