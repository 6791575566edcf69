/- The reference's bodies: where a statement goes on, a procedure's steps. -/
import Derived.Test.YtlhblcpmfnkjpaaGreatDomA16
import Derived.Test.YtlhblcpmfnkjpaaGreatDomA17
import Derived.Test.YtlhblcpmfnkjpaaGreatDomA19
set_option linter.unusedSimpArgs false
set_option linter.unusedVariables false
set_option maxRecDepth 100000
set_option maxHeartbeats 16000000
open List (getD_eq_getElem?_getD getElem?_drop length_append length_drop length_map length_take take_append_drop take_take)
open Nat (succ_mul zero_le)
namespace Go.Ab
open Go.Proofs
theorem w0t (f:Pr) (n:Str):MR (flatU f) f.fin n=atB f n:=by
 unfold MR atB;rw [<- show (flatU f).map RI.s=flL f.body from NA 1 0 false f.body,List.find?_map];have hq:(fun t:S=>t.labels.any fun s=>n==s)∘RI.s=fun x:RI=>inS x.s.labels n:=by
  funext x;exact (q5k _ _).symm
 rw [hq];cases (flatU f).find? fun x=>inS x.s.labels n with
 | some x=>rfl
 | none =>
   simp only [Option.map_none];rw [q5k];cases f.fin.any fun s=>n==s<;>rfl
theorem UW {p:Pg} (hm:VB p=true) {j:Nat} {f:Pr} (hj:p.procs[j]? = some f):(flatU f).length<=200:=by
 rw [show flatU f=fuL 1 0 false f.body from rfl,ZR];have:=FO _ _ (List.mem_of_getElem? hj);have:=ZG hm;omega
def z0m (f:Pr):AV := .agg [KW (flatU f),QM f.fin]
theorem DU (p:Pg) (j:Nat) (f:Pr) (h:XG p=true) (hj:p.procs[j]? = some f) (it:Item) (hi:it∈itsOf p j f):SpecP Tryz.prog 283 [z0m f,.agg it.s.cells] (fun r=>r=QD (goesI (sheetOf p) f it)):=by
 refine sB GU Tryz.func283 rfl Tryz.call283 ?_;conv=>whnf
 have hm:=(QF h).1;have hlU:=UW hm hj;have hLl:=WK (flatU f);have hB:=PZ (by omega) (x5h hm hj hi);have hI1:=ZN (flatU f) it.s.id false it.next;rw [q4g hm hj (LO hi),cond_false] at hI1;have hI2:=ZN (flatU f) it.s.id true it.next;rw [q4g hm hj (LO hi),cond_true] at hI2;have hI3:=ZN (flatU f) it.s.id false it.s.id;rw [q4g hm hj (LO hi),cond_false] at hI3;have hA:=KZ (flatU f) it.s.id;rw [x0h hm hj hi] at hA;have hBe:=q2p (flatU f) f.fin it.s.name;rw [w0t] at hBe;have hx:it.s.kind=7 -> ∃ u,(sheetOf p).l[(it.loop-1).toNat]? = some u∧SpecP Tryz.prog 186 [KW (flatU f),.int .i64 it.loop] (fun r=>r = .int .i64 u.next):=fun hk=>by
  have h1:=(PT h hj).1 it hi hk;have h2:=(BH hi).2;obtain ⟨u,hu,hui⟩:=q0a hj (k:=(it.loop-1).toNat) (by omega) (by omega);have h3:=z5c h hj (by omega) (by omega) hu;have h4:=PZ (l:=flatU f) (by omega) (x5h hm hj hui);rw [show u.s.id=it.loop by omega] at h4;exact ⟨u,hu,h4⟩
 generalize flatU f=L at *
 repeat' (first|((first|refine dA ?_|refine And.intro rfl ?_|refine aD ?_|refine bP ?_|refine cP hB ?_|(refine CallK.pure hI1 (.cons (Sub.refl _) (.cons (Sub.refl _) (.cons (Sub.ff rfl) (.cons (Sub.refl _) .nil)))) ?_;rintro _ rfl)|(refine CallK.pure hI2 (.cons (Sub.refl _) (.cons (Sub.refl _) (.cons (Sub.tt rfl) (.cons (Sub.refl _) .nil)))) ?_;rintro _ rfl)|(refine CallK.pure hI3 (.cons (Sub.refl _) (.cons (Sub.refl _) (.cons (Sub.ff rfl) (.cons (Sub.refl _) .nil)))) ?_;rintro _ rfl)|refine cP hA ?_|refine cP hBe ?_|refine BsK.pureL rfl rfl ?_|(obtain ⟨u,hu1,hu2⟩:=hx (by assumption);refine cP hu2 ?_));conv=>whnf)|(apply bD<;>intro _<;>first|omega|conv=>whnf))
 all_goals first
  | (exfalso;omega)
  | exact RetK.p (by unfold goesI;rw [if_neg (by omega),if_neg (by omega),if_pos (by omega),hu1];rfl)
  | exact RetK.p (by unfold goesI;rw [if_pos (by omega)];rfl)
  | exact RetK.p (by unfold goesI;rw [if_neg (by omega),if_pos (by omega)];rfl)
  | exact RetK.p (by unfold goesI;rw [if_neg (by omega),if_neg (by omega),if_neg (by omega),if_pos (by omega)];rfl)
  | exact RetK.p (by unfold goesI;rw [if_neg (by omega),if_neg (by omega),if_neg (by omega),if_neg (by omega),if_pos (by omega)];rfl)
  | exact RetK.p (by unfold goesI;rw [if_neg (by omega),if_neg (by omega),if_neg (by omega),if_neg (by omega),if_neg (by omega),if_pos (by omega)];rfl)
  | exact RetK.p (by unfold goesI;rw [if_neg (by omega),if_neg (by omega),if_neg (by omega),if_neg (by omega),if_neg (by omega),if_neg (by omega)];rfl)
  | trace_state
theorem w7y {p:Pg} (h:VB p=true) {j:Nat} {f:Pr} (hj:p.procs[j]? = some f):(itsOf p j f).length=(flatU f).length ∧ ∀ (k:Nat) (hk:k<(flatU f).length) (hk':k<(itsOf p j f).length),(itsOf p j f)[k].s=(flatU f)[k].s:=by
 obtain ⟨m,hr⟩:=MO h hj;have hpar:=v1o (j:Nat) 1 0 false f.body (-1) 0 (QR p.procs j) hr;have hlen:(itsOf p j f).length=(flatU f).length:=by simpa [itsOf,flatU] using congrArg List.length hpar
 refine ⟨hlen,fun k hk hk' => ?_⟩;have h1:=congrArg (fun l=>l[k]?) hpar;have e1:itL (j:Nat) 0 (-1) 0 (QR p.procs j) f.body=itsOf p j f:=rfl;have e2:fuL 1 0 false f.body=flatU f:=rfl;rw [e1,e2] at h1;simp only [List.getElem?_map,List.getElem?_eq_getElem hk,List.getElem?_eq_getElem hk',Option.map_some] at h1;exact congrArg Prod.fst (Option.some.inj h1)
theorem w7o {p:Pg} (h:XG p=true) {j:Nat} {f:Pr} (hj:p.procs[j]? = some f) : ∀ s∈QK p j f,leSt s:=fun s hs=>by
 obtain ⟨h1,h2⟩:=(PT h hj).2.1 s hs;obtain ⟨_,_,hcn⟩:=KU h;obtain ⟨_,_,_,hlen,hsp⟩:=QJ p;obtain ⟨_,_,hle,_⟩:=hsp j f hj;unfold okI at h2;unfold leSt;omega
def w2s (p:Pg) (j:Nat) (f:Pr) (k:Nat):List Step:=⟨0,w8m p j f,1⟩::((itsOf p j f).take k).flatMap fun it=>(goesI (sheetOf p) f it).map (Step.mk it.s.id · 1)
theorem x8m {p:Pg} {j:Nat} {f:Pr} {k:Nat} (hk:k<(itsOf p j f).length):w2s p j f (k+1)=w2s p j f k++(goesI (sheetOf p) f (itsOf p j f)[k]).map (Step.mk (itsOf p j f)[k].s.id · 1):=by
 unfold w2s;rw [List.take_succ_eq_append_getElem hk,List.flatMap_append,List.cons_append];simp
theorem q6e {p:Pg} {j:Nat} {f:Pr} {k:Nat} (hk:(itsOf p j f).length<=k):w2s p j f k=QK p j f:=by
 unfold w2s;rw [List.take_of_length_le hk];rfl
theorem q7q (p:Pg) (j:Nat) (f:Pr) : ∀ k,(w2s p j f k).length<=1+2*k
 | 0=>by unfold w2s;simp
 | k+1=>by
   rcases Nat.lt_or_ge k (itsOf p j f).length with hk|hk
   ·have:=q7q p j f k;have h2:=(x8r (sheetOf p) f (itsOf p j f)[k]).2.1;rw [x8m hk,length_append,length_map];omega
   ·have:=q7q p j f k;rw [q6e (by omega)];rw [q6e hk] at this;omega
theorem FA (p:Pg) (j:Nat) (f:Pr) (h:XG p=true) (hj:p.procs[j]? = some f):SpecP Tryz.prog 185 [z0m f] (fun r=>r=QO (QQ p j f).real):=by
 refine sB GS Tryz.func185 rfl Tryz.call185 ?_;conv=>whnf
 have hm:=(QF h).1;have hlU:=UW hm hj;have hLl:=WK (flatU f);obtain ⟨hil,hat⟩:=w7y hm hj;have hI:=ZN (flatU f) 0 false (-1);rw [z1d hm hj,<- w5v h hj] at hI;have hG:=fun it hi=>DU p j f h hj it hi;have hreal:(QQ p j f).real=ZL (QK p j f):=rfl;have hle:=w7o h hj;have hrl:(QK p j f).length<=1000:=by
  rw [<- q6e (Nat.le_refl _)];have:=q7q p j f (itsOf p j f).length;omega
 have hS:=KG (QK p j f) (by omega) hle;rw [hreal];repeat' ((first|(refine iM fun _=>?_)|refine And.intro rfl ?_|refine aD ?_|(refine CallK.pure hI (.cons (Sub.refl _) (.cons (Sub.refl _) (.cons (Sub.ff rfl) (.cons (Sub.refl _) .nil)))) ?_;rintro _ rfl)|refine BsK.own (fun x hx=>by rcases List.mem_singleton.1 hx with rfl;rfl) rfl ?_);conv=>whnf)
 refine LoopK.inv QX (fun x:Nat=>⟨[(1,.p (.ip [KW (flatU f),QM f.fin])),(3,.hd 0 0 (w2s p j f x).length),(14,.p (KW (flatU f))),(15,.p (.int .i64 ((flatU f).map fun i=>AV.agg i.cells).length)),(16,.p (.int .i64 x))],[(0,.own 156 3 ((w2s p j f x).map fun s => .agg s.cells))]⟩) (fun x=>x<=(flatU f).length) (fun x=>(flatU f).length-x) 0 (Le.of_eq rfl) (zero_le _) ?_;intro k hk;have htl:=q7q p j f k;rcases Nat.lt_or_ge k (flatU f).length with hk2|hk2
 ·have hki:k<(itsOf p j f).length:=by omega
  have hst:=x8m hki;have hGk:=hG _ (List.getElem_mem hki);have hsk:=hat k hk2 hki;have hgc:=(x8r (sheetOf p) f (itsOf p j f)[k]).2.1;have hid:(itsOf p j f)[k].s.id=(flatU f)[k].s.id:=by rw [hsk]
  rw [hsk] at hGk;rw [hid] at hst;generalize goesI (sheetOf p) f (itsOf p j f)[k]=gs at *
  have hgl:(gs.map (AV.int .i64)).length=gs.length:=length_map _;generalize w2s p j f k=acc at *
  have hst2:(w2s p j f (k+1)).length=acc.length+gs.length:=by rw [hst,length_append,length_map]
  conv=>whnf
  repeat' (first|((first|(refine iM fun _=>?_)|refine And.intro rfl ?_|(refine iA fun _=>?_)|refine cP hGk ?_);conv=>whnf)|(apply bD<;>intro _<;>first|omega|conv=>whnf))
  refine LoopK.inv QX (fun q:Nat=>⟨[(1,.p (.ip [KW (flatU f),QM f.fin])),(3,.hd 0 0 (acc.length+q)),(5,.p (.ip (flatU f)[k].cells)),(14,.p (KW (flatU f))),(15,.p (.int .i64 ((flatU f).map fun i=>AV.agg i.cells).length)),(16,.p (.int .i64 k)),(23,.p (QD gs)),(24,.p (.int .i64 (gs.map (AV.int .i64)).length)),(25,.p (.int .i64 q))],[(0,.own 156 3 ((acc++(gs.take q).map (Step.mk (flatU f)[k].s.id · 1)).map fun s => .agg s.cells))]⟩) (fun q=>q<=gs.length) (fun q=>gs.length-q) 0 (Le.of_eq (by rw [List.take_zero,List.map_nil,List.append_nil];rfl)) (zero_le _) ?_;intro q hq;rcases Nat.lt_or_ge q gs.length with hq2|hq2
  ·have e1:acc++(gs.take (q+1)).map (Step.mk (flatU f)[k].s.id · 1)=(acc++(gs.take q).map (Step.mk (flatU f)[k].s.id · 1))++[⟨(flatU f)[k].s.id,gs[q],1⟩]:=by rw [List.take_succ_eq_append_getElem hq2,List.map_append,<- List.append_assoc];rfl
   have e2:(acc++(gs.take q).map (Step.mk (flatU f)[k].s.id · 1)).length=acc.length+q:=by rw [length_append,length_map,length_take];omega
   generalize acc++(gs.take q).map (Step.mk (flatU f)[k].s.id · 1)=row at *
   have hrw:=DY row;conv=>whnf
   repeat' (first|((first|refine And.intro rfl ?_|refine aD ?_|refine bP ?_|(refine iA fun _=>?_)|refine wI ?_|refine AppK.mk (by omega) rfl (by show (acc.length+q+1)*24<=140737488355328;omega) (by show acc.length+q+1<=9223372036854775807;omega) (fun x hx=>by rcases List.mem_singleton.1 hx with rfl;exact ⟨rfl,rfl⟩) ?_);conv=>whnf)|(apply bD<;>intro _<;>first|omega|conv=>whnf))
   all_goals exact ⟨q+1,by omega,by omega,Le.of_eq (by rw [e1,List.map_append];rfl)⟩
  ·obtain rfl:q=gs.length:=by omega
   rw [List.take_length];conv=>whnf
   repeat' (first|(refine wI ?_;conv=>whnf)|(apply bD<;>intro _<;>first|omega|conv=>whnf))
   all_goals exact ⟨k+1,by omega,by omega,Le.of_eq (by rw [hst2,hst];rfl)⟩
 ·rw [q6e (by omega)];conv=>whnf
  repeat' (first|(refine FW hS (.cons (.hd rfl (by simp)) .nil) ?_;rintro _ rfl;conv=>whnf)|(apply bD<;>intro _<;>first|omega|conv=>whnf))
  all_goals exact RetK.p rfl
theorem Wr.u64 {n:Int} {K:Int->Prop} (h1:0<=n) (h2:n<=18446744073709551615) (hk:K n):Wr .u64 n K :=
 .fit ⟨by simp [IntKind.min,IntKind.signed];omega,by simp [IntKind.max,IntKind.signed,IntKind.bits];omega⟩ hk
theorem q3k {P:Program} {hr:Bool} {s:St} {o:Oper} {K:LV->Prop} {t u:TypeId} {x y:Operand} (hop:o.op = .binOp .shr t x y u) {a:Int} (ha:0<=a) (hx:QI s.sl x = .p (.int .u64 a)) (hy:QI s.sl y = .p (.int .u64 1)) {m:Int} (hm:m=a / 2) (hK:K (.p (.int .u64 m))):ValO P hr s o K:=by
 subst hm;refine ⟨fun σ β ac w hs _=>⟨_,.int .u64 (a / 2),hK,.p (.int _ _),fun w' _ _ => ?_⟩⟩;have h1:=QU hs x;have h2:=QU hs y;rw [hx] at h1;rw [hy] at h2;cases h1 with
 | p h1 =>
   cases h2 with
   | p h2 =>
     have key : ∀ (n:Int) (v:Value),Rep σ (.int .u64 n) v->v = .int .u64 n:=fun n v hv=>by
      cases hv;rfl
     have e1:=key _ _ h1;have e2:=key _ _ h2;have e3:a.fdiv (2 ^ 1)=a / 2:=Int.fdiv_eq_ediv_of_nonneg _ (by decide);have hg:(eqGuard .shr t x y (.int .u64 a) (.int .u64 1)).run P w' = .ok () w':=by unfold eqGuard;rfl
     simp only [execOp,hop,e1,e2,Sem.run_bind,hg,Result.andThen_ok,binOp,Op.shift];rw [if_neg (by decide)];simp only [show min (1:Int).toNat IntKind.u64.bits=1 by decide,e3];rfl
def GE (l:List Int):Heap:=[(1000,.own 3 1 (l.map (.int .i64)))]
theorem x3o {l:List Int} {k:Nat} {x:Int} (h:l[k]? = some x):(l.map (AV.int .i64))[k]? = some (.int .i64 x):=by rw [List.getElem?_map,h];rfl
def PH (P X Q Y S:List Int) (i:Nat):List Int:=P++(Y.take i++X.drop i)++Q++(X.take i++Y.drop i)++S
theorem w0u {P X Q Y S:List Int} (h:X.length=Y.length) (i:Nat) (hi:i<=X.length):(PH P X Q Y S i).length=P.length+X.length+Q.length+X.length+S.length:=by
 unfold PH;simp only [length_append,length_take,length_drop];omega
theorem w8f {P X Q Y S:List Int} (h:X.length=Y.length) {i:Nat} (hi:i<X.length):(PH P X Q Y S i)[P.length+i]? = some X[i]:=by
 unfold PH;have e1:(Y.take i).length=i:=by rw [length_take];omega
 rw [List.append_assoc,List.append_assoc,List.append_assoc,List.getElem?_append_right (by omega),show P.length+i-P.length=i by omega,List.append_assoc,List.getElem?_append_right (by omega),e1,Nat.sub_self,List.getElem?_append_left (by rw [length_drop];omega),getElem?_drop,Nat.add_zero,List.getElem?_eq_getElem hi]
theorem w8b {P X Q Y S:List Int} (h:X.length=Y.length) {i:Nat} (hi:i<X.length):(PH P X Q Y S i)[P.length+X.length+Q.length+i]? = some (Y[i]'(by omega)):=by
 unfold PH;have e1:(Y.take i).length=i:=by rw [length_take];omega
 have e2:(X.take i).length=i:=by rw [length_take];omega
 have e3:(P++(Y.take i++X.drop i)++Q).length=P.length+X.length+Q.length:=by
  simp only [length_append,length_drop,e1];omega
 rw [List.append_assoc,List.getElem?_append_right (by omega),e3,show P.length+X.length+Q.length+i-(P.length+X.length+Q.length)=i by omega,List.append_assoc,List.getElem?_append_right (by omega),e2,Nat.sub_self,List.getElem?_append_left (by rw [length_drop];omega),getElem?_drop,Nat.add_zero,List.getElem?_eq_getElem (by omega)]
theorem q7t (A B:List Int) (x y:Int) {k:Nat} (hk:k=A.length):(A++x::B).set k y=A++y::B:=by
 subst hk;rw [List.set_append_right _ _ (Nat.le_refl _),Nat.sub_self,List.set_cons_zero]
theorem z9n {P X Q Y S:List Int} (h:X.length=Y.length) {i:Nat} (hi:i<X.length):((PH P X Q Y S i).set (P.length+i) (Y[i]'(by omega))).set (P.length+X.length+Q.length+i) X[i]=PH P X Q Y S (i+1):=by
 have e1:(Y.take i).length=i:=by rw [length_take];omega
 have e2:(X.take i).length=i:=by rw [length_take];omega
 have d1:X.drop i=X[i]::X.drop (i+1):=List.drop_eq_getElem_cons hi;have d2:Y.drop i=(Y[i]'(by omega))::Y.drop (i+1):=List.drop_eq_getElem_cons (by omega);have t1:X.take (i+1)=X.take i++[X[i]]:=List.take_succ_eq_append_getElem hi;have t2:Y.take (i+1)=Y.take i++[Y[i]'(by omega)]:=List.take_succ_eq_append_getElem (by omega);have dl:(X.drop (i+1)).length=X.length-(i+1):=length_drop;unfold PH;rw [d1,d2,t1,t2];clear d1 d2 t1 t2;generalize X[i]=x;generalize Y[i]'(by omega)=y;generalize Y.take i=a at e1;generalize X.take i=b at e2;generalize X.drop (i+1)=c at dl;generalize Y.drop (i+1)=d;have s1:P++(a++x::c)++Q++(b++y::d)++S=(P++a)++x::(c++Q++(b++y::d)++S):=by simp
 rw [s1,q7t _ _ _ _ (by rw [length_append];omega)];have s2:(P++a)++y::(c++Q++(b++y::d)++S)=(P++a++y::c++Q++b)++y::(d++S):=by simp
 rw [s2,q7t _ _ _ _ (by simp only [length_append,List.length_cons];omega)];simp
theorem JX (P X Q Y S:List Int) (h:X.length=Y.length) (c:AV) (hl:P.length+X.length+Q.length+Y.length+S.length<=1000000):SpecH Tryz.prog 385 [.hd 1000 0 (P.length+X.length+Q.length+X.length+S.length),.p (.int .i64 P.length),.p (.int .i64 (P.length+X.length+Q.length:Nat)),.p (.int .i64 X.length),.p c] (GE (PH P X Q Y S 0)) (fun r H=>r = .p (.tup [])∧H=GE (PH P X Q Y S X.length)):=by
 refine sH YJ Tryz.func385 rfl Tryz.call385 ?_;conv=>whnf
 skip
 refine LoopK.inv QX (fun i:Nat=>⟨[(0,.hd 1000 0 (P.length+X.length+Q.length+X.length+S.length)),(1,.p (.int .i64 P.length)),(2,.p (.int .i64 (P.length+X.length+Q.length:Nat))),(3,.p (.int .i64 X.length)),(10,.p (.int .i64 i))],GE (PH P X Q Y S i)⟩) (fun i=>i<=X.length) (fun i=>X.length-i) 0 (Le.of_eq rfl) (zero_le _) ?_;intro i h2;rcases Nat.lt_or_ge i X.length with hi|hi
 ·have hlen:=w0u (P:=P) (Q:=Q) (S:=S) h i h2;have g1:=x3o (w8f (P:=P) (Q:=Q) (S:=S) h hi);have g2:=x3o (w8b (P:=P) (Q:=Q) (S:=S) h hi);have hst:=z9n (P:=P) (Q:=Q) (S:=S) h hi;generalize PH P X Q Y S i=row at hlen g1 g2 hst ⊢;generalize X[i]=x at g1 hst;generalize Y[i]'(by omega)=y at g2 hst;have g3:((row.map (AV.int .i64)).set (P.length+i) (.int .i64 y))[P.length+X.length+Q.length+i]? = some (.int .i64 y):=by rw [List.getElem?_set_ne (by omega)];exact g2
  unfold GE;conv=>whnf
  repeat' (first|((first|refine dA ?_|refine And.intro rfl ?_|refine wI ?_|refine IdxL.mk (P.length+i) (by omega) (by omega) ?_|refine IdxL.mk (P.length+X.length+Q.length+i) (by omega) (by omega) ?_|refine LdOwn.mk (P.length+X.length+Q.length+i) 0 _ (by omega) g2 ?_|refine LdOwn.mk (P.length+i) 0 _ (by omega) g1 ?_|refine StOwn.mk (P.length+i) 0 _ (.int .i64 y) (by omega) g1 (Nat.le_refl _) rfl ?_|refine StOwn.mk (P.length+X.length+Q.length+i) 0 _ (.int .i64 x) (by omega) g3 (Nat.le_refl _) rfl ?_);conv=>whnf)|(apply bD<;>intro _<;>first|omega|conv=>whnf))
  exact ⟨i+1,by omega,by omega,Le.of_eq (by rw [<- hst,List.map_set,List.map_set];rfl)⟩
 ·have he:i=X.length:=by omega
  subst he;unfold GE;conv=>whnf
  repeat' (apply bD<;>intro _<;>first|omega|conv=>whnf)
  exact ⟨_,LSub.refl _,rfl,rfl⟩
def Swapd (row row':List Int) (a b n:Nat):Prop := ∃ P X Q Y S,X.length=Y.length∧X.length=n∧a=P.length∧b=P.length+X.length+Q.length∧row=P++X++Q++Y++S∧row'=P++Y++Q++X++S
theorem Swapd.len {row row':List Int} {a b n:Nat} (h:Swapd row row' a b n):row'.length=row.length:=by
 obtain ⟨P,X,Q,Y,S,h1,h2,h3,h4,rfl,rfl⟩:=h;simp only [length_append];omega
theorem GZ (row row':List Int) (a b n N:Nat) (h:Swapd row row' a b n) (hN:N=row.length) (c:AV) (hl:row.length<=1000000) :
  SpecH Tryz.prog 385 [.hd 1000 0 N,.p (.int .i64 a),.p (.int .i64 b),.p (.int .i64 n),.p c] (GE row) (fun r H=>r = .p (.tup [])∧H=GE row'):=by
 obtain ⟨P,X,Q,Y,S,h1,h2,h3,h4,h5,h6⟩:=h;subst h2;have hr:row=PH P X Q Y S 0:=by rw [h5];unfold PH;simp
 have hr':row'=PH P X Q Y S X.length:=by
  rw [h6];unfold PH;rw [List.take_of_length_le (by omega:Y.length<=X.length),List.drop_of_length_le (Nat.le_refl _),List.take_of_length_le (Nat.le_refl _),List.drop_of_length_le (by omega:Y.length<=X.length)];simp
 have hlen:N=P.length+X.length+Q.length+X.length+S.length:=by rw [hN,h5];simp only [length_append];omega
 have hll:P.length+X.length+Q.length+Y.length+S.length<=1000000:=by rw [h5] at hl;simp only [length_append] at hl;omega
 have:=JX P X Q Y S h1 c hll;rw [hr,hr',hlen,h3,h4];exact this
structure RotI (W row:List Int) (m i j:Nat):Prop where
 i0:0<i
 j0:0<j
 ex : ∃ P X Y S,X.length=i∧Y.length=j∧P.length+i=m∧row=P++X++Y++S∧W=P++Y++X++S
theorem RotI.len {W row:List Int} {m i j:Nat} (h:RotI W row m i j):i<=m∧m+j<=row.length∧row.length=W.length:=by
 obtain ⟨P,X,Y,S,h1,h2,h3,rfl,rfl⟩:=h.ex;simp only [length_append];omega
theorem RotI.gt {W row:List Int} {m i j:Nat} (h:RotI W row m i j) (hg:j<i) : ∃ row',Swapd row row' (m-i) m j∧RotI W row' m (i-j) j:=by
 obtain ⟨P,X,Y,S,h1,h2,h3,h4,h5⟩:=h.ex;have e:X=X.take j++X.drop j:=(take_append_drop j X).symm;have l1:(X.take j).length=j:=by rw [length_take];omega
 have l2:(X.drop j).length=i-j:=by rw [length_drop];omega
 refine ⟨P++Y++X.drop j++X.take j++S,⟨P,X.take j,X.drop j,Y,S,by omega,l1,by omega,by omega,?_,rfl⟩,⟨by omega,h.j0,P++Y,X.drop j,X.take j,S,l2,l1,by rw [length_append];omega,rfl,?_⟩⟩
 ·rw [h4];conv=>lhs;rw [e]
  simp
 ·rw [h5];conv=>lhs;rw [e]
  simp
theorem RotI.lt {W row:List Int} {m i j:Nat} (h:RotI W row m i j) (hg:i<j) : ∃ row',Swapd row row' (m-i) (m+j-i) i∧RotI W row' m i (j-i):=by
 obtain ⟨P,X,Y,S,h1,h2,h3,h4,h5⟩:=h.ex;have e:Y=Y.take (j-i)++Y.drop (j-i):=(take_append_drop (j-i) Y).symm;have l1:(Y.take (j-i)).length=j-i:=by rw [length_take];omega
 have l2:(Y.drop (j-i)).length=i:=by rw [length_drop];omega
 refine ⟨P++Y.drop (j-i)++Y.take (j-i)++X++S,⟨P,X,Y.take (j-i),Y.drop (j-i),S,by omega,h1,by omega,by omega,?_,rfl⟩,⟨h.i0,by omega,P,Y.drop (j-i),Y.take (j-i),X++S,l2,l1,by omega,by simp,?_⟩⟩
 ·rw [h4];conv=>lhs;rw [e]
  simp
 ·rw [h5];conv=>lhs;rw [e]
  simp
theorem RotI.eq {W row:List Int} {m i:Nat} (h:RotI W row m i i):Swapd row W (m-i) m i:=by
 obtain ⟨P,X,Y,S,h1,h2,h3,h4,h5⟩:=h.ex;exact ⟨P,X,[],Y,S,by omega,h1,by omega,by simp;omega,by rw [h4];simp,by rw [h5];simp⟩
theorem GN (W row:List Int) (a m b N:Nat) (h:RotI W row m (m-a) (b-m)) (ha:a<=m) (hb:m<=b) (hN:N=row.length) (c:AV) (hl:row.length<=1000000):SpecH Tryz.prog 359 [.hd 1000 0 N,.p (.int .i64 a),.p (.int .i64 m),.p (.int .i64 b),.p c] (GE row) (fun r H=>r = .p (.tup [])∧H=GE W):=by
 refine sH JA Tryz.func359 rfl Tryz.call359 ?_;conv=>whnf
 have hl0:=h.len;repeat' (refine wI ?_;conv=>whnf)
 refine LoopK.inv QX (fun x:List Int×Nat×Nat=>⟨[(0,.hd 1000 0 N),(2,.p (.int .i64 m)),(4,.p c),(10,.p (.int .i64 x.2.1)),(11,.p (.int .i64 x.2.2))],GE x.1⟩) (fun x=>RotI W x.1 m x.2.1 x.2.2∧x.1.length=N) (fun x=>x.2.1+x.2.2) (row,m-a,b-m)
  (Le.of_eq (by simp only;rw [show ((m-a:Nat):Int)=(m:Int)-a by omega,show ((b-m:Nat):Int)=(b:Int)-m by omega];rfl)) ⟨h,hN.symm⟩ ?_
 rintro ⟨rw',i,j⟩ ⟨h1,h2⟩;simp only at h1 h2 ⊢;have hln:=h1.len;rcases Nat.lt_trichotomy i j with hij|hij|hij
 ·obtain ⟨rw2,h3,h4⟩:=h1.lt hij;have hS:=GZ rw' rw2 _ _ _ N h3 h2.symm c (by omega);have hl3:=h3.len;conv=>whnf
  repeat' (first|((first|refine wI ?_|(refine CallK.heap [(1000,1000)] 5 (ArgsH.cons (LSub.refl _) (ArgsH.cons (LSub.p (Sub.int (by omega))) (ArgsH.cons (LSub.p (Sub.int (by omega))) (ArgsH.cons (LSub.p (Sub.int (by omega))) (ArgsH.cons (LSub.refl _) ArgsH.nil))))) (by refine BlksH.cons (j:=1000) rfl rfl ?_ ?_;exact CSub.refl _;exact BlksH.nil) hS rfl rfl ?_;rintro l' H' ⟨rfl,rfl⟩));conv=>whnf)|(apply bD<;>intro _<;>first|omega|conv=>whnf)|(apply bE<;>intro _<;>first|omega|conv=>whnf))
  all_goals first
   | (exfalso;omega)
   | exact ⟨(rw2,i,j-i),⟨h4,by simp only;omega⟩,by simp only;have:=h1.i0;omega,Le.of_eq (by simp only;rw [show ((j-i:Nat):Int)=(j:Int)-i by omega];rfl)⟩
   | skip
 ·subst hij;have h3:=h1.eq;have hS:=GZ rw' W _ _ _ N h3 h2.symm c (by omega);conv=>whnf
  repeat' (first|((first|refine wI ?_|(refine CallK.heap [(1000,1000)] 5 (ArgsH.cons (LSub.refl _) (ArgsH.cons (LSub.p (Sub.int (by omega))) (ArgsH.cons (LSub.p (Sub.int (by omega))) (ArgsH.cons (LSub.p (Sub.int (by omega))) (ArgsH.cons (LSub.refl _) ArgsH.nil))))) (by refine BlksH.cons (j:=1000) rfl rfl ?_ ?_;exact CSub.refl _;exact BlksH.nil) hS rfl rfl ?_;rintro l' H' ⟨rfl,rfl⟩));conv=>whnf)|(apply bE<;>intro _<;>first|omega|conv=>whnf))
  all_goals first
   | (exfalso;omega)
   | exact ⟨_,LSub.refl _,rfl,rfl⟩
   | skip
 ·obtain ⟨rw2,h3,h4⟩:=h1.gt hij;have hS:=GZ rw' rw2 _ _ _ N h3 h2.symm c (by omega);have hl3:=h3.len;conv=>whnf
  repeat' (first|((first|refine wI ?_|(refine CallK.heap [(1000,1000)] 5 (ArgsH.cons (LSub.refl _) (ArgsH.cons (LSub.p (Sub.int (by omega))) (ArgsH.cons (LSub.p (Sub.int (by omega))) (ArgsH.cons (LSub.p (Sub.int (by omega))) (ArgsH.cons (LSub.refl _) ArgsH.nil))))) (by refine BlksH.cons (j:=1000) rfl rfl ?_ ?_;exact CSub.refl _;exact BlksH.nil) hS rfl rfl ?_;rintro l' H' ⟨rfl,rfl⟩));conv=>whnf)|(apply bD<;>intro _<;>first|omega|conv=>whnf)|(apply bE<;>intro _<;>first|omega|conv=>whnf))
  all_goals first
   | (exfalso;omega)
   | exact ⟨(rw2,i-j,j),⟨h4,by simp only;omega⟩,by simp only;have:=h1.j0;omega,Le.of_eq (by simp only;rw [show ((i-j:Nat):Int)=(i:Int)-j by omega];rfl)⟩
   | skip
def getz (l:List Int) (i:Nat):Int:=l.getD i 0
theorem PV {l:List Int} {i:Nat} (h:i<l.length):l[i]? = some (getz l i):=by
 unfold getz;rw [getD_eq_getElem?_getD,List.getElem?_eq_getElem h];rfl
theorem q1o {l m:List Int} (hl:l.length=m.length) (h : ∀ i,i<l.length->getz l i=getz m i):l=m:=by
 refine List.ext_getElem? fun i => ?_;rcases Nat.lt_or_ge i l.length with hi|hi
 ·rw [PV hi,PV (by omega),h i hi]
 ·rw [List.getElem?_eq_none hi,List.getElem?_eq_none (by omega)]
theorem q7g {l:List Int} {k i:Nat} {x:Int} (hk:k<l.length):getz (l.set k x) i=if i=k then x else getz l i:=by
 unfold getz;rw [getD_eq_getElem?_getD,List.getElem?_set];by_cases h:k=i
 ·subst h;simp [hk]
 ·rw [if_neg h,if_neg (Ne.symm h),getD_eq_getElem?_getD]
theorem ZS {A B:List Int} {i:Nat}:getz (A++B) i=if i<A.length then getz A i else getz B (i-A.length):=by
 unfold getz;rw [getD_eq_getElem?_getD];split
 ·rename_i h;rw [List.getElem?_append_left h,getD_eq_getElem?_getD]
 ·rename_i h;rw [List.getElem?_append_right (by omega),getD_eq_getElem?_getD]
theorem VF {l:List Int} {i:Nat} (h:i<l.length):getz l i∈l:=by
 have:=PV h;exact List.mem_of_getElem? this
def PermIn (row row':List Int) (a b:Nat):Prop := ∃ P C D S,P.length=a∧P.length+C.length=b∧row=P++C++S∧row'=P++D++S∧D.Perm C
theorem PermIn.len {row row':List Int} {a b:Nat} (h:PermIn row row' a b):row'.length=row.length∧a<=b∧b<=row.length:=by
 obtain ⟨P,C,D,S,h1,h2,rfl,rfl,h3⟩:=h;have:=h3.length_eq;simp only [length_append];omega
theorem PermIn.perm {row row':List Int} {a b:Nat} (h:PermIn row row' a b):row'.Perm row:=by
 obtain ⟨P,C,D,S,h1,h2,rfl,rfl,h3⟩:=h;exact ((List.perm_append_left_iff P).2 h3).append_right S
theorem PermIn.out {row row':List Int} {a b:Nat} (h:PermIn row row' a b) {i:Nat} (hi:i<a∨b<=i):getz row' i=getz row i:=by
 obtain ⟨P,C,D,S,h1,h2,rfl,rfl,h3⟩:=h;have hl:=h3.length_eq;rw [ZS,ZS,ZS,ZS];simp only [length_append];rcases hi with hi|hi
 ·rw [if_pos (by omega),if_pos (by omega),if_pos (by omega),if_pos (by omega)]
 ·rw [if_neg (by omega),if_neg (by omega)];congr 1;omega
theorem PermIn.inn {row row':List Int} {a b:Nat} (h:PermIn row row' a b) {i:Nat} (h1:a<=i) (h2:i<b) : ∃ k,a<=k∧k<b∧getz row' i=getz row k:=by
 obtain ⟨P,C,D,S,h3,h4,rfl,rfl,h5⟩:=h;have hl:=h5.length_eq;have hd:i-P.length<D.length:=by omega
 have hm:getz D (i-P.length)∈C:=h5.mem_iff.1 (VF hd);obtain ⟨k,hk,he⟩:=List.mem_iff_getElem.1 hm;refine ⟨P.length+k,by omega,by omega,?_⟩;have e1:getz (P++D++S) i=getz D (i-P.length):=by
  rw [ZS,ZS,length_append,if_pos (by omega),if_neg (by omega)]
 have e2:getz (P++C++S) (P.length+k)=getz C k:=by
  rw [ZS,ZS,length_append,if_pos (by omega),if_neg (by omega)];congr 1;omega
 rw [e1,e2,<- he];have:=PV hk;rw [List.getElem?_eq_getElem hk] at this;exact Option.some.inj this
theorem w7j {row:List Int} {a b:Nat} (h1:a<=b) (h2:b<=row.length) : ∃ P C S,P.length=a∧P.length+C.length=b∧row=P++C++S:=by
 refine ⟨row.take a,(row.take b).drop a,row.drop b,by rw [length_take];omega,by rw [length_take,length_drop,length_take];omega,?_⟩;have e1:row.take b=(row.take b).take a++(row.take b).drop a:=(take_append_drop a _).symm;rw [take_take,show min a b=a by omega] at e1;rw [<- e1,take_append_drop]
theorem PermIn.refl {row:List Int} {a b:Nat} (h1:a<=b) (h2:b<=row.length):PermIn row row a b:=by
 obtain ⟨P,C,S,h3,h4,h5⟩:=w7j h1 h2;exact ⟨P,C,C,S,h3,h4,h5,h5,.refl _⟩
theorem PermIn.trans {r1 r2 r3:List Int} {a b:Nat} (h:PermIn r1 r2 a b) (h':PermIn r2 r3 a b):PermIn r1 r3 a b:=by
 obtain ⟨P,C,D,S,h1,h2,rfl,rfl,h3⟩:=h;obtain ⟨P',C',D',S',h1',h2',h4,rfl,h3'⟩:=h';have hl:=h3.length_eq;rw [List.append_assoc,List.append_assoc] at h4;obtain ⟨rfl,h5⟩:=List.append_inj h4 (by omega);obtain ⟨rfl,rfl⟩:=List.append_inj h5 (by omega);exact ⟨P,C,D',S,h1,h2,rfl,rfl,h3'.trans h3⟩
theorem PermIn.wide {row row':List Int} {a b a' b':Nat} (h:PermIn row row' a b) (h1:a'<=a) (h2:b<=b') (h3:b'<=row.length):PermIn row row' a' b':=by
 obtain ⟨P,C,D,S,h4,h5,rfl,rfl,h6⟩:=h;simp only [length_append] at h3;refine ⟨P.take a',P.drop a'++C++S.take (b'-b),P.drop a'++D++S.take (b'-b),S.drop (b'-b),by rw [length_take];omega,?_,?_,?_,?_⟩
 ·simp only [length_append,length_take,length_drop];omega
 ·rw [show P.take a'++(P.drop a'++C++S.take (b'-b))++S.drop (b'-b)=(P.take a'++P.drop a')++C++(S.take (b'-b)++S.drop (b'-b)) by simp only [List.append_assoc],take_append_drop,take_append_drop]
 ·rw [show P.take a'++(P.drop a'++D++S.take (b'-b))++S.drop (b'-b)=(P.take a'++P.drop a')++D++(S.take (b'-b)++S.drop (b'-b)) by simp only [List.append_assoc],take_append_drop,take_append_drop]
 ·exact ((List.perm_append_left_iff _).2 h6).append_right _
theorem x3k {row:List Int} {k:Nat} (h:k+1<row.length):PermIn row ((row.set k (getz row (k+1))).set (k+1) (getz row k)) k (k+2):=by
 obtain ⟨P,C,S,h1,h2,h3⟩:=w7j (row:=row) (a:=k) (b:=k+2) (by omega) (by omega)
 match C,h2 with
 | [x,y],h2 =>
   refine ⟨P,[x,y],[y,x],S,h1,h2,h3,?_,.swap x y []⟩;have ex:getz row k=x:=by rw [h3,ZS,ZS,length_append,if_pos (by simp;omega),if_neg (by omega),show k-P.length=0 by omega];rfl
   have ey:getz row (k+1)=y:=by rw [h3,ZS,ZS,length_append,if_pos (by simp;omega),if_neg (by omega),show k+1-P.length=1 by omega];rfl
   rw [ex,ey,h3];have s1:P++[x,y]++S=P++x::(y::S):=by simp
   rw [s1,q7t _ _ _ _ h1.symm];have s2:P++y::(y::S)=(P++[y])++y::S:=by simp
   rw [s2,q7t _ _ _ _ (by simp;omega)];simp
 | [],h2=>simp at h2;omega
 | [x],h2=>simp at h2;omega
 | _::_::_::_,h2=>simp at h2;omega
def srt (K:Int->Int) (l:List Int) (a b:Nat):Prop := ∀ i k,a<=i->i<k->k<b->K (getz l k)<=K (getz l i)
theorem srt.le {K:Int->Int} {l:List Int} {a b i k:Nat} (h:srt K l a b) (h1:a<=i) (h2:i<=k) (h3:k<b):K (getz l k)<=K (getz l i):=by
 rcases Nat.lt_or_eq_of_le h2 with h4|rfl
 ·exact h i k h1 h4 h3
 ·exact Int.le_refl _
def mvR (l:List Int) (a k:Nat):List Int:=(List.range l.length).map fun i=>if i<a then getz l i else if i<k then getz l (i+1) else if i=k then getz l a else getz l i
theorem DG (l:List Int) (a k:Nat):(mvR l a k).length=l.length:=by unfold mvR;simp
theorem MA {l:List Int} {a k i:Nat} (hi:i<l.length):getz (mvR l a k) i=if i<a then getz l i else if i<k then getz l (i+1) else if i=k then getz l a else getz l i:=by
 show (mvR l a k).getD i 0=_;unfold mvR;rw [getD_eq_getElem?_getD,List.getElem?_map,List.getElem?_range hi];rfl
theorem x6z (l:List Int) (a:Nat):mvR l a a=l:=q1o (DG _ _ _) fun i hi=>by
 rw [DG] at hi;rw [MA hi];by_cases c:i<a
 ·rw [if_pos c]
 ·rw [if_neg c,if_neg c];split
  ·rename_i h;rw [h]
  ·rfl
theorem z4x {l:List Int} {a k:Nat} (h1:a<=k) (h2:k+1<l.length):((mvR l a k).set k (getz (mvR l a k) (k+1))).set (k+1) (getz (mvR l a k) k)=mvR l a (k+1):=q1o (by simp [DG]) fun i hi=>by
 simp only [List.length_set,DG] at hi;rw [q7g (by simp [DG];omega),q7g (by rw [DG];omega),MA hi,MA (by omega),MA (by omega),MA hi];by_cases e1:i=k+1
 ·subst e1;rw [if_pos rfl,if_neg (by omega),if_neg (by omega),if_pos rfl,if_neg (by omega),if_neg (by omega),if_pos rfl]
 ·rw [if_neg e1];by_cases e2:i=k
  ·subst e2;rw [if_pos rfl,if_neg (by omega),if_neg (by omega),if_neg (by omega),if_neg (by omega),if_pos (by omega)]
  ·rw [if_neg e2];by_cases e3:i<a
   ·rw [if_pos e3,if_pos e3]
   ·rw [if_neg e3,if_neg e3];by_cases e4:i<k
    ·rw [if_pos e4,if_pos (by omega)]
    ·rw [if_neg e4,if_neg e2,if_neg (by omega),if_neg e1]
def mvL (l:List Int) (m k:Nat):List Int:=(List.range l.length).map fun i=>if i<k then getz l i else if i=k then getz l m else if i<=m then getz l (i-1) else getz l i
theorem GC (l:List Int) (a k:Nat):(mvL l a k).length=l.length:=by unfold mvL;simp
theorem DQ {l:List Int} {m k i:Nat} (hi:i<l.length):getz (mvL l m k) i=if i<k then getz l i else if i=k then getz l m else if i<=m then getz l (i-1) else getz l i:=by
 show (mvL l m k).getD i 0=_;unfold mvL;rw [getD_eq_getElem?_getD,List.getElem?_map,List.getElem?_range hi];rfl
theorem x3a (l:List Int) (a:Nat):mvL l a a=l:=q1o (GC _ _ _) fun i hi=>by
 rw [GC] at hi;rw [DQ hi];split
 ·rfl
 ·split
  ·rename_i h;rw [h]
  ·rw [if_neg (by omega)]
theorem x4d {l:List Int} {m k:Nat} (h1:k+1<=m) (h2:m<l.length):((mvL l m (k+1)).set k (getz (mvL l m (k+1)) (k+1))).set (k+1) (getz (mvL l m (k+1)) k)=mvL l m k:=q1o (by simp [GC]) fun i hi=>by
 simp only [List.length_set,GC] at hi;rw [q7g (by simp [GC];omega),q7g (by rw [GC];omega),DQ hi,DQ (by omega),DQ (by omega),DQ hi];by_cases e1:i=k+1
 ·subst e1;rw [if_pos rfl,if_pos (by omega),if_neg (by omega),if_neg (by omega),if_pos (by omega)];rfl
 ·rw [if_neg e1];by_cases e2:i=k
  ·subst e2;rw [if_pos rfl,if_neg (by omega),if_pos rfl,if_neg (by omega),if_pos rfl]
  ·rw [if_neg e2];by_cases e3:i<k
   ·rw [if_pos e3,if_pos (by omega)]
   ·rw [if_neg e3,if_neg e2,if_neg (by omega),if_neg e1]
theorem z4t {l:List Int} {a:Nat} : ∀ {k:Nat},a<=k->k<l.length->PermIn l (mvR l a k) a (k+1)
 | 0,h1,h2=>by
   obtain rfl:a=0:=by omega
   rw [x6z];exact .refl (by omega) (by omega)
 | k+1,h1,h2=>by
   by_cases he:a=k+1
   ·subst he;rw [x6z];exact .refl (by omega) (by omega)
   ·have ih:=z4t (l:=l) (a:=a) (k:=k) (by omega) (by omega);rw [<- z4x (by omega) h2];exact (ih.wide (Nat.le_refl _) (by omega) (by omega)).trans ((x3k (by rw [DG];exact h2)).wide (by omega) (by omega) (by rw [DG];omega))
theorem x4b {l:List Int} {m:Nat} (hm:m<l.length) : ∀ {d:Nat},d<=m->PermIn l (mvL l m (m-d)) (m-d) (m+1)
 | 0,_=>by
   rw [Nat.sub_zero,x3a];exact .refl (by omega) (by omega)
 | d+1,h=>by
   have ih:=x4b hm (d:=d) (by omega);have:=x4d (l:=l) (m:=m) (k:=m-(d+1)) (by omega) hm;rw [show m-(d+1)+1=m-d by omega] at this;rw [<- this];have h1:=x3k (row:=mvL l m (m-d)) (k:=m-(d+1)) (by rw [GC];omega);rw [show m-(d+1)+1=m-d by omega] at h1;exact (ih.wide (by omega) (Nat.le_refl _) (by omega)).trans (h1.wide (Nat.le_refl _) (by omega) (by rw [GC];omega))
theorem v2u {K:Int->Int} {l:List Int} {a b i:Nat} (h1:a+1<=i) (h2:i<=b) (h3:b<=l.length) (hs:srt K l (a+1) b) (hlo : ∀ k,a+1<=k->k<i->K (getz l a)<K (getz l k)) (hhi : ∀ k,i<=k->k<b->K (getz l k)<=K (getz l a)):srt K (mvR l a (i-1)) a b:=fun u v hu huv hv=>by
 rw [MA (by omega),MA (by omega),if_neg (by omega : ¬v<a),if_neg (by omega : ¬u<a)];by_cases c1:v<i-1
 ·rw [if_pos c1,if_pos (by omega)];exact hs _ _ (by omega) (by omega) (by omega)
 ·rw [if_neg c1];by_cases c2:v=i-1
  ·rw [if_pos c2,if_pos (by omega)];exact Int.le_of_lt (hlo _ (by omega) (by omega))
  ·rw [if_neg c2];by_cases c3:u<i-1
   ·rw [if_pos c3];exact hs.le (by omega) (by omega) hv
   ·rw [if_neg c3];by_cases c4:u=i-1
    ·rw [if_pos c4];exact hhi _ (by omega) hv
    ·rw [if_neg c4];exact hs _ _ (by omega) huv hv
theorem z4h {K:Int->Int} {l:List Int} {a m i:Nat} (h1:a<=i) (h2:i<=m) (h3:m<l.length) (hs:srt K l a m) (hlo : ∀ k,a<=k->k<i->K (getz l m)<=K (getz l k)) (hhi : ∀ k,i<=k->k<m->K (getz l k)<K (getz l m)):srt K (mvL l m i) a (m+1):=fun u v hu huv hv=>by
 rw [DQ (by omega),DQ (by omega)];by_cases c1:v<i
 ·rw [if_pos c1,if_pos (by omega)];exact hs _ _ hu huv (by omega)
 ·rw [if_neg c1];by_cases c2:v=i
  ·rw [if_pos c2,if_pos (by omega)];exact hlo _ hu (by omega)
  ·rw [if_neg c2,if_pos (by omega)];by_cases c3:u<i
   ·rw [if_pos c3];exact hs.le hu (by omega) (by omega)
   ·rw [if_neg c3];by_cases c4:u=i
    ·rw [if_pos c4];exact Int.le_of_lt (hhi _ (by omega) (by omega))
    ·rw [if_neg c4,if_pos (by omega)];exact hs _ _ (by omega) (by omega) (by omega)
def rotR (l:List Int) (s m e:Nat):List Int:=l.take s++(l.take e).drop m++(l.take m).drop s++l.drop e
theorem w4m {l:List Int} {s m e:Nat} (h1:s<=m) (h2:m<=e) (h3:e<=l.length):(rotR l s m e).length=l.length:=by
 unfold rotR;simp only [length_append,length_take,length_drop];omega
theorem q7o {l:List Int} {e i:Nat} (h:i<e):getz (l.take e) i=getz l i:=by
 unfold getz;rw [getD_eq_getElem?_getD,List.getElem?_take_of_lt h,getD_eq_getElem?_getD]
theorem x0g {l:List Int} {e i:Nat}:getz (l.drop e) i=getz l (e+i):=by
 unfold getz;rw [getD_eq_getElem?_getD,getElem?_drop,getD_eq_getElem?_getD]
theorem z4g {l:List Int} {s m e i:Nat} (h1:s<=m) (h2:m<=e) (h3:e<=l.length):getz (rotR l s m e) i=if i<s then getz l i else if i<s+(e-m) then getz l (i-s+m) else if i<e then getz l (i-(e-m)) else getz l i:=by
 have e1:(l.take s).length=s:=by rw [length_take];omega
 have e2:((l.take e).drop m).length=e-m:=by rw [length_drop,length_take];omega
 have e3:((l.take m).drop s).length=m-s:=by rw [length_drop,length_take];omega
 unfold rotR;rw [ZS,ZS,ZS];simp only [length_append,e1,e2,e3];by_cases c1:i<s
 ·rw [if_pos (by omega),if_pos (by omega),if_pos c1,if_pos c1,q7o c1]
 ·rw [if_neg c1,if_neg c1];by_cases c2:i<s+(e-m)
  ·rw [if_pos (by omega),if_pos c2,if_pos c2,x0g,q7o (by omega)];congr 1;omega
  ·rw [if_neg c2,if_neg c2];by_cases c3:i<e
   ·rw [if_pos (by omega),if_pos c3,x0g,q7o (by omega)];congr 1;omega
   ·rw [if_neg (by omega),if_neg c3,x0g];congr 1;omega
theorem z6j {l:List Int} {s m e:Nat} (h1:s<=m) (h2:m<=e) (h3:e<=l.length):l=l.take s++(l.take m).drop s++(l.take e).drop m++l.drop e:=by
 have e1:l.take m=l.take s++(l.take m).drop s:=by
  have:=(take_append_drop s (l.take m)).symm
  rwa [take_take,show min s m=s by omega] at this
 have e2:l.take e=l.take m++(l.take e).drop m:=by
  have:=(take_append_drop m (l.take e)).symm
  rwa [take_take,show min m e=m by omega] at this
 rw [<- e1,<- e2,take_append_drop]
theorem w2a {l:List Int} {s m e:Nat} (h1:s<=m) (h2:m<=e) (h3:e<=l.length):PermIn l (rotR l s m e) s e:=by
 refine ⟨l.take s,(l.take m).drop s++(l.take e).drop m,(l.take e).drop m++(l.take m).drop s,l.drop e,by rw [length_take];omega,?_,?_,?_,List.perm_append_comm⟩
 ·simp only [length_append,length_take,length_drop];omega
 ·rw [<- List.append_assoc];exact z6j h1 h2 h3
 ·unfold rotR;simp
theorem w4t {l:List Int} {s m e:Nat} (h1:s<m) (h2:m<e) (h3:e<=l.length):RotI (rotR l s m e) l m (m-s) (e-m) :=
 ⟨by omega,by omega,l.take s,(l.take m).drop s,(l.take e).drop m,l.drop e,by rw [length_drop,length_take];omega,by rw [length_drop,length_take];omega,by rw [length_take];omega,z6j (by omega) (by omega) h3,rfl⟩
theorem w1f {l:List Int} {s m e:Nat} (h1:s<=m) (h2:m<=e) (h3:e<=l.length) (h:s=m∨m=e):rotR l s m e=l:=q1o (w4m h1 h2 h3) fun i hi=>by
 rw [z4g h1 h2 h3];by_cases c1:i<s
 ·rw [if_pos c1]
 ·rw [if_neg c1];by_cases c2:i<s+(e-m)
  ·rw [if_pos c2];congr 1;omega
  ·rw [if_neg c2];split
   ·congr 1;omega
   ·rfl
structure CutF (K:Int->Int) (l:List Int) (a m b s:Nat):Prop where
 s1:a<=s∧s<=m∧s<=(a+b) / 2
 s2:(a+b) / 2+m-s<=b
 cross : ∀ i k,a<=i->i<(a+b) / 2->(a+b) / 2<=k->k<b->K (getz (rotR l s m ((a+b) / 2+m-s)) k)<=K (getz (rotR l s m ((a+b) / 2+m-s)) i)
 l1:srt K (rotR l s m ((a+b) / 2+m-s)) a s
 l2:srt K (rotR l s m ((a+b) / 2+m-s)) s ((a+b) / 2)
 r1:srt K (rotR l s m ((a+b) / 2+m-s)) ((a+b) / 2) ((a+b) / 2+m-s)
 r2:srt K (rotR l s m ((a+b) / 2+m-s)) ((a+b) / 2+m-s) b
def lo0 (a m b:Nat):Nat:=if (a+b) / 2<m then (a+b) / 2+m-b else a
def hi0 (a m b:Nat):Nat:=if (a+b) / 2<m then (a+b) / 2 else m
theorem v1e {K:Int->Int} {l:List Int} {a m b s mid e lo hi:Nat} (h1:a<m) (h2:m<b) (h3:b<=l.length) (hmid:(a+b) / 2=mid) (he:e+s=mid+m) (hcase:(mid<m∧lo+b=mid+m∧hi=mid)∨(m<=mid∧lo=a∧hi=m)) (hA:srt K l a m) (hB:srt K l m b) (hs1:lo<=s) (hs2:s<=hi)
  (H1 : ∀ c,lo<=c->c<s->K (getz l (mid+m-1-c))<=K (getz l c)) (H2 : ∀ c,s<=c->c<hi->K (getz l c)<K (getz l (mid+m-1-c))) :
  (∀ i k,a<=i->i<mid->mid<=k->k<b->K (getz (rotR l s m e) k)<=K (getz (rotR l s m e) i))∧srt K (rotR l s m e) a s∧srt K (rotR l s m e) s mid∧srt K (rotR l s m e) mid e∧srt K (rotR l s m e) e b:=by
 have hm1:a<mid:=by omega
 have hm2:mid<b:=by omega
 have hq:a<=s∧s<=m∧s<=mid∧e<=b∧m<=e∧mid<=e:=by omega
 obtain ⟨q1,q2,q3,q4,q5,q6⟩:=hq;have get:=fun i=>z4g (l:=l) (s:=s) (m:=m) (e:=e) (i:=i) q2 q5 (by omega);have e0:s+(e-m)=mid:=by omega
 rw [e0] at get;refine ⟨?_,?_,?_,?_,?_⟩
 ·intro i k g1 g2 g3 g4;rw [get,get,if_neg (by omega : ¬k<s),if_neg (by omega : ¬k<mid)];by_cases ci:i<s
  ·rw [if_pos ci];by_cases ck:k<e
   ·rw [if_pos ck];exact hA _ _ g1 (by omega) (by omega)
   ·rw [if_neg ck];have:=H1 (s-1) (by omega) (by omega);rw [show mid+m-1-(s-1)=e by omega] at this;have t1:=hB.le (i:=e) (k:=k) (by omega) (by omega) g4;have t2:=hA.le (i:=i) (k:=s-1) g1 (by omega) (by omega);omega
  ·rw [if_neg ci,if_pos g2];by_cases ck:k<e
   ·rw [if_pos ck];have:=H2 s (Nat.le_refl _) (by omega);have t1:=hA.le (i:=s) (k:=k-(e-m)) q1 (by omega) (by omega);have t2:=hB.le (i:=i-s+m) (k:=mid+m-1-s) (by omega) (by omega) (by omega);omega
   ·rw [if_neg ck];exact hB _ _ (by omega) (by omega) g4
 ·intro i k g1 g2 g3;rw [get,get,if_pos (by omega:k<s),if_pos (by omega:i<s)];exact hA _ _ g1 g2 (by omega)
 ·intro i k g1 g2 g3;rw [get,get,if_neg (by omega : ¬k<s),if_neg (by omega : ¬i<s),if_pos g3,if_pos (by omega:i<mid)];exact hB _ _ (by omega) (by omega) (by omega)
 ·intro i k g1 g2 g3;rw [get,get,if_neg (by omega : ¬k<s),if_neg (by omega : ¬i<s),if_neg (by omega : ¬k<mid),if_neg (by omega : ¬i<mid),if_pos g3,if_pos (by omega:i<e)];exact hA _ _ (by omega) (by omega) (by omega)
 ·intro i k g1 g2 g3;rw [get,get,if_neg (by omega : ¬k<s),if_neg (by omega : ¬i<s),if_neg (by omega : ¬k<mid),if_neg (by omega : ¬i<mid),if_neg (by omega : ¬k<e),if_neg (by omega : ¬i<e)];exact hB _ _ (by omega) (by omega) g3
theorem v1w {K:Int->Int} {l:List Int} {a m b s:Nat} (h1:a<m) (h2:m<b) (h3:b<=l.length) (hA:srt K l a m) (hB:srt K l m b) (hs1:lo0 a m b<=s) (hs2:s<=hi0 a m b)
  (H1 : ∀ c,lo0 a m b<=c->c<s->K (getz l ((a+b) / 2+m-1-c))<=K (getz l c)) (H2 : ∀ c,s<=c->c<hi0 a m b->K (getz l c)<K (getz l ((a+b) / 2+m-1-c))):CutF K l a m b s:=by
 have hcase:((a+b) / 2<m∧lo0 a m b+b=(a+b) / 2+m∧hi0 a m b=(a+b) / 2)∨(m<=(a+b) / 2∧lo0 a m b=a∧hi0 a m b=m):=by
  unfold lo0 hi0;split<;>omega
 obtain ⟨r1,r2,r3,r4,r5⟩:=v1e (e:=(a+b) / 2+m-s) h1 h2 h3 rfl (by omega) hcase hA hB hs1 hs2 H1 H2;exact ⟨by omega,by omega,r1,r2,r3,r4,r5⟩
theorem x1g {K:Int->Int} {r2 r3 r4:List Int} {a mid b:Nat} (h1:a<=mid) (h2:mid<=b) (hc : ∀ i k,a<=i->i<mid->mid<=k->k<b->K (getz r2 k)<=K (getz r2 i)) (p3:PermIn r2 r3 a mid) (s3:srt K r3 a mid) (p4:PermIn r3 r4 mid b) (s4:srt K r4 mid b):srt K r4 a b:=fun i k g1 g2 g3=>by
 by_cases c1:k<mid
 ·rw [p4.out (.inl c1),p4.out (.inl (by omega))];exact s3 i k g1 g2 c1
 ·by_cases c2:i<mid
  ·rw [p4.out (i:=i) (.inl c2)];obtain ⟨k',q1,q2,q3⟩:=p4.inn (i:=k) (by omega) g3;obtain ⟨i',q4,q5,q6⟩:=p3.inn (i:=i) g1 c2;rw [q3,q6,p3.out (i:=k') (.inr q1)];exact hc i' k' q4 q5 q1 q2
  ·exact s4 i k (by omega) g2 g3
structure CmpF (g:Nat) (c:AV) (K:Int->Int) (L:Int->Prop):Prop where
 cmp : ∀ x y,L x->L y->SpecP Tryz.prog g [.int .i64 x,.int .i64 y,c] (fun r=>r = .int .i64 (K y-K x))
 bnd : ∀ x,0<=K x∧K x<=1000000
theorem UM {l:List Int} {i:Nat} (h:i<l.length):(l.map (AV.int .i64))[i]? = some (.int .i64 (getz l i)):=x3o (PV h)
theorem q1b {g:Nat} {c:AV} {K:Int->Int} {L:Int->Prop} (hC:CmpF g c K L) : ∀ (fuel:Nat) (row:List Int) (a m b N:Nat),b-a<=fuel->a<m->m<b->b<=row.length->N=row.length->row.length<=1000000->(∀ x∈row,L x)->srt K row a m->srt K row m b ->
  SpecH Tryz.prog 335 [.hd 1000 0 N,.p (.int .i64 a),.p (.int .i64 m),.p (.int .i64 b),.p (.fn g [c])] (GE row) (fun r H=>r = .p (.tup []) ∧ ∃ row',H=GE row'∧PermIn row row' a b∧srt K row' a b):=by
 intro fuel;induction fuel with
 | zero=>intro row a m b N h1 h2 h3;omega
 | succ fuel ih =>
   intro row a m b N hfu hab hmb hbl hN hl hL hA hB;refine sH YM Tryz.func335 rfl Tryz.call335 ?_;by_cases hm1:m=a+1
   ·conv=>whnf
    repeat' (first|(refine wI ?_;conv=>whnf)|(apply bD<;>intro _<;>first|omega|conv=>whnf))
    all_goals first
     | (exfalso;omega)
     | skip
    refine LoopK.inv QX (fun x:Nat×Nat=>⟨[(0,.hd 1000 0 N),(1,.p (.int .i64 a)),(4,.p (.fn g [c])),(10,.p (.int .i64 x.1)),(11,.p (.int .i64 x.2))],GE row⟩)
     (fun x=>(m<=x.1∧x.1<=x.2∧x.2<=b)∧(∀ k,m<=k->k<x.1->K (getz row a)<K (getz row k)) ∧ ∀ k,x.2<=k->k<b->K (getz row k)<=K (getz row a)) (fun x=>x.2-x.1) (m,b) (Le.of_eq rfl)
     ⟨⟨Nat.le_refl _,by simp only;omega,Nat.le_refl _⟩,fun k h1 h2=>by simp only at h2;omega,fun k h1 h2=>by simp only at h1;omega⟩ ?_
    rintro ⟨i,j⟩ ⟨⟨h1,h2,h3⟩,h4,h5⟩;simp only at h1 h2 h3 h4 h5 ⊢;rcases Nat.lt_or_ge i j with hij|hij
    ·have g1:=UM (l:=row) (i:=(i+j) / 2) (by omega);have g2:=UM (l:=row) (i:=a) (by omega);have hcm:=hC.cmp (getz row ((i+j) / 2)) (getz row a) (hL _ (VF (by omega))) (hL _ (VF (by omega)));have hb1:=hC.bnd (getz row ((i+j) / 2));have hb2:=hC.bnd (getz row a);have hst:=fun k (hk1:m<=k) (hk2:k<=(i+j) / 2)=>hB.le (k:=(i+j) / 2) hk1 hk2 (by omega);have hst2:=fun k (hk1:(i+j) / 2<=k) (hk2:k<b)=>hB.le (i:=(i+j) / 2) (by omega) hk1 hk2;generalize hh:(i+j) / 2=h at g1 hcm hb1 hst hst2;have hhe:(h:Int)=((i:Int)+j) / 2:=by omega
     unfold GE;conv=>whnf
     repeat' (first|((first|refine dA ?_|refine And.intro rfl ?_|refine wI ?_|refine Wr.u64 (by omega) (by omega) ?_|refine q3k (m:=(h:Int)) rfl (by omega) rfl rfl hhe ?_|refine IdxL.mk h (by omega) (by omega) ?_|refine IdxL.mk a (by omega) (by omega) ?_|refine LdOwn.mk h 0 _ (by omega) g1 ?_|refine LdOwn.mk a 0 _ (by omega) g2 ?_|refine cP hcm ?_);conv=>whnf)|(apply bD<;>intro _<;>first|omega|conv=>whnf))
     all_goals first
      | exact ⟨(h+1,j),⟨⟨by simp only;omega,by simp only;omega,h3⟩,fun k k1 k2=>by simp only at k2;(rcases Nat.lt_or_ge h k with hk|hk;· omega);have:=hst k k1 hk;omega,h5⟩,by simp only;omega,Le.of_eq rfl⟩
      | exact ⟨(i,h),⟨⟨h1,by simp only;omega,by simp only;omega⟩,h4,fun k k1 k2=>by simp only at k1;have:=hst2 k k1 k2;omega⟩,by simp only;omega,Le.of_eq rfl⟩
      | skip
    ·have hje:j=i:=by omega
     subst hje;conv=>whnf
     repeat' (apply bD<;>intro _<;>first|omega|conv=>whnf)
     all_goals first
      | (exfalso;omega)
      | skip
     refine LoopK.inv QX (fun k:Nat=>⟨[(0,.hd 1000 0 N),(10,.p (.int .i64 j)),(13,.p (.int .i64 k))],GE (mvR row a k)⟩) (fun k=>a<=k∧k<=j-1) (fun k=>j-k) a (Le.of_eq (by rw [x6z];rfl)) ⟨Nat.le_refl _,by omega⟩ ?_;rintro k ⟨k1,k2⟩;simp only at k1 k2 ⊢;have hml:=DG row a k;rcases Nat.lt_or_ge k (j-1) with hk|hk
     ·have hst:=z4x (l:=row) k1 (by omega);have g1:=UM (l:=mvR row a k) (i:=k) (by omega);have g2:=UM (l:=mvR row a k) (i:=k+1) (by omega);generalize mvR row a k=rw' at hml hst g1 g2;generalize getz rw' k=x at hst g1;generalize getz rw' (k+1)=y at hst g2;have g3:((rw'.map (AV.int .i64)).set k (.int .i64 y))[k+1]? = some (.int .i64 y):=by rw [List.getElem?_set_ne (by omega)];exact g2
      unfold GE;conv=>whnf
      repeat' (first|((first|refine dA ?_|refine And.intro rfl ?_|refine wI ?_|refine IdxL.mk (k+1) (by omega) (by omega) ?_|refine IdxL.mk k (by omega) (by omega) ?_|refine LdOwn.mk (k+1) 0 _ (by omega) g2 ?_|refine LdOwn.mk k 0 _ (by omega) g1 ?_|refine StOwn.mk k 0 _ (.int .i64 y) (by omega) g1 (Nat.le_refl _) rfl ?_|refine StOwn.mk (k+1) 0 _ (.int .i64 x) (by omega) g3 (Nat.le_refl _) rfl ?_);conv=>whnf)|(apply bD<;>intro _<;>first|omega|conv=>whnf))
      all_goals first
       | (exfalso;omega)
       | exact ⟨k+1,by omega,by omega,Le.of_eq (by rw [<- hst,List.map_set,List.map_set];rfl)⟩
       | skip
     ·have hke:k=j-1:=by omega
      subst hke;unfold GE;conv=>whnf
      repeat' (first|(refine wI ?_;conv=>whnf)|(apply bD<;>intro _<;>first|omega|conv=>whnf))
      all_goals first
       | (exfalso;omega)
       | exact ⟨_,LSub.refl _,rfl,mvR row a (j-1),rfl,(z4t (by omega) (by omega)).wide (Nat.le_refl _) (by omega) hbl,v2u (by omega) (by omega) hbl (by rw [<- hm1];exact hB) (fun k k1 k2=>h4 k (by omega) k2) h5⟩
       | skip
   by_cases hm2:b=m+1
   ·conv=>whnf
    repeat' (first|(refine wI ?_;conv=>whnf)|(apply bD<;>intro _<;>first|omega|conv=>whnf))
    all_goals first
     | (exfalso;omega)
     | skip
    refine LoopK.inv QX (fun x:Nat×Nat=>⟨[(0,.hd 1000 0 N),(2,.p (.int .i64 m)),(4,.p (.fn g [c])),(14,.p (.int .i64 x.1)),(15,.p (.int .i64 x.2))],GE row⟩)
     (fun x=>(a<=x.1∧x.1<=x.2∧x.2<=m)∧(∀ k,a<=k->k<x.1->K (getz row m)<=K (getz row k)) ∧ ∀ k,x.2<=k->k<m->K (getz row k)<K (getz row m)) (fun x=>x.2-x.1) (a,m) (Le.of_eq rfl)
     ⟨⟨Nat.le_refl _,by simp only;omega,Nat.le_refl _⟩,fun k h1 h2=>by simp only at h2;omega,fun k h1 h2=>by simp only at h1;omega⟩ ?_
    rintro ⟨i,j⟩ ⟨⟨h1,h2,h3⟩,h4,h5⟩;simp only at h1 h2 h3 h4 h5 ⊢;rcases Nat.lt_or_ge i j with hij|hij
    ·have g1:=UM (l:=row) (i:=(i+j) / 2) (by omega);have g2:=UM (l:=row) (i:=m) (by omega);have hcm:=hC.cmp (getz row m) (getz row ((i+j) / 2)) (hL _ (VF (by omega))) (hL _ (VF (by omega)));have hb1:=hC.bnd (getz row ((i+j) / 2));have hb2:=hC.bnd (getz row m);have hst:=fun k (hk1:a<=k) (hk2:k<=(i+j) / 2)=>hA.le (k:=(i+j) / 2) hk1 hk2 (by omega);have hst2:=fun k (hk1:(i+j) / 2<=k) (hk2:k<m)=>hA.le (i:=(i+j) / 2) (by omega) hk1 hk2;generalize hh:(i+j) / 2=h at g1 hcm hb1 hst hst2;have hhe:(h:Int)=((i:Int)+j) / 2:=by omega
     unfold GE;conv=>whnf
     repeat' (first|((first|refine dA ?_|refine And.intro rfl ?_|refine wI ?_|refine Wr.u64 (by omega) (by omega) ?_|refine q3k (m:=(h:Int)) rfl (by omega) rfl rfl hhe ?_|refine IdxL.mk h (by omega) (by omega) ?_|refine IdxL.mk m (by omega) (by omega) ?_|refine LdOwn.mk h 0 _ (by omega) g1 ?_|refine LdOwn.mk m 0 _ (by omega) g2 ?_|refine cP hcm ?_);conv=>whnf)|(apply bD<;>intro _<;>first|omega|conv=>whnf)|(apply bE<;>intro _<;>first|omega|conv=>whnf))
     all_goals first
      | exact ⟨(h+1,j),⟨⟨by simp only;omega,by simp only;omega,h3⟩,fun k k1 k2=>by simp only at k2;(rcases Nat.lt_or_ge h k with hk|hk;· omega);have:=hst k k1 hk;omega,h5⟩,by simp only;omega,Le.of_eq rfl⟩
      | exact ⟨(i,h),⟨⟨h1,by simp only;omega,by simp only;omega⟩,h4,fun k k1 k2=>by simp only at k1;have:=hst2 k k1 k2;omega⟩,by simp only;omega,Le.of_eq rfl⟩
      | skip
    ·have hje:j=i:=by omega
     subst hje;conv=>whnf
     repeat' (apply bD<;>intro _<;>first|omega|conv=>whnf)
     all_goals first
      | (exfalso;omega)
      | skip
     refine LoopK.inv QX (fun k:Nat=>⟨[(0,.hd 1000 0 N),(14,.p (.int .i64 j)),(17,.p (.int .i64 k))],GE (mvL row m k)⟩) (fun k=>j<=k∧k<=m) (fun k=>k-j) m (Le.of_eq (by rw [x3a];rfl)) ⟨by omega,Nat.le_refl _⟩ ?_;rintro k ⟨k1,k2⟩;simp only at k1 k2 ⊢;have hml:=GC row m k;rcases Nat.lt_or_ge j k with hk|hk
     ·obtain ⟨q,rfl⟩ : ∃ q,k=q+1:=⟨k-1,by omega⟩;have hst:=x4d (l:=row) (k:=q) k2 (by omega);have g1:=UM (l:=mvL row m (q+1)) (i:=q) (by omega);have g2:=UM (l:=mvL row m (q+1)) (i:=q+1) (by omega);generalize mvL row m (q+1)=rw' at hml hst g1 g2;generalize getz rw' q=x at hst g1;generalize getz rw' (q+1)=y at hst g2;have hst':(rw'.set (q+1) x).set q y=mvL row m q:=by rw [<- hst];exact List.set_comm _ _ (by omega)
      have hq1:((q+1:Nat):Int)-1=(q:Int):=by omega
      have g3:((rw'.map (AV.int .i64)).set (q+1) (.int .i64 x))[q]? = some (.int .i64 x):=by rw [List.getElem?_set_ne (by omega)];exact g1
      unfold GE;conv=>whnf
      repeat' (first|((first|refine dA ?_|refine And.intro rfl ?_|refine wI ?_|refine IdxL.mk (q+1) (by omega) (by omega) ?_|refine IdxL.mk q (by omega) (by omega) ?_|refine LdOwn.mk (q+1) 0 _ (by omega) g2 ?_|refine LdOwn.mk q 0 _ (by omega) g1 ?_|refine StOwn.mk (q+1) 0 _ (.int .i64 x) (by omega) g2 (Nat.le_refl _) rfl ?_|refine StOwn.mk q 0 _ (.int .i64 y) (by omega) g3 (Nat.le_refl _) rfl ?_);conv=>whnf)|(apply bD<;>intro _<;>first|omega|conv=>whnf))
      all_goals first
       | (exfalso;omega)
       | exact ⟨q,by omega,by omega,Le.of_eq (by rw [<- hst',List.map_set,List.map_set,hq1])⟩
       | skip
     ·have hke:k=j:=by omega
      subst hke;have hp:=x4b (l:=row) (m:=m) (by omega) (d:=m-k) (by omega);rw [show m-(m-k)=k by omega] at hp;unfold GE;conv=>whnf
      repeat' (apply bD<;>intro _<;>first|omega|conv=>whnf)
      all_goals first
       | (exfalso;omega)
       | exact ⟨_,LSub.refl _,rfl,mvL row m k,rfl,hp.wide (by omega) (by omega) hbl,by rw [hm2];exact z4h (by omega) (by omega) (by omega) hA h4 h5⟩
       | skip
   have hmid0:((a+b) / 2:Nat)=((a:Int)+b) / 2:=by omega
   have hlo1:(a+b) / 2<m->((lo0 a m b:Nat):Int)=((a+b) / 2:Nat)+(m:Int)-b:=fun h=>by unfold lo0;rw [if_pos h];omega
   have hhi1:(a+b) / 2<m->hi0 a m b=(a+b) / 2:=fun h=>by unfold hi0;rw [if_pos h]
   have hlo2 : ¬(a+b) / 2<m->lo0 a m b=a:=fun h=>by unfold lo0;rw [if_neg h]
   have hhi2 : ¬(a+b) / 2<m->hi0 a m b=m:=fun h=>by unfold hi0;rw [if_neg h]
   have hlh:a<=lo0 a m b∧lo0 a m b<=hi0 a m b∧hi0 a m b<=m∧hi0 a m b<=(a+b) / 2∧(a+b) / 2+m<=b+lo0 a m b:=by unfold lo0 hi0;split<;>omega
   have hcut:=fun s h1 h2 h3 h4=>v1w (s:=s) hab hmb hbl hA hB h1 h2 h3 h4;have hma:a<(a+b) / 2:=by omega
   have hmb2:(a+b) / 2<b:=by omega
   generalize hme:(a+b) / 2=mid at *
   generalize lo0 a m b=lo at *
   generalize hi0 a m b=hi at *
   conv=>whnf
   repeat' (first|((first|refine wI ?_|refine Wr.u64 (by omega) (by omega) ?_|refine q3k (m:=(mid:Int)) rfl (by omega) rfl rfl (by omega) ?_);conv=>whnf)|(apply bD<;>intro _<;>first|omega|conv=>whnf))
   all_goals first
    | (exfalso;omega)
    | skip
   all_goals
    refine LoopK.inv QX (fun x:Nat×Nat=>⟨[(0,.hd 1000 0 N),(1,.p (.int .i64 a)),(2,.p (.int .i64 m)),(3,.p (.int .i64 b)),(4,.p (.fn g [c])),(18,.p (.int .i64 mid)),(19,.p (.int .i64 ((mid:Int)+m))),(20,.p (.int .i64 x.1)),(21,.p (.int .i64 x.2)),(22,.p (.int .i64 ((mid:Int)+m-1)))],GE row⟩)
     (fun x=>(lo<=x.1∧x.1<=x.2∧x.2<=hi)∧(∀ k,lo<=k->k<x.1->K (getz row (mid+m-1-k))<=K (getz row k)) ∧ ∀ k,x.2<=k->k<hi->K (getz row k)<K (getz row (mid+m-1-k))) (fun x=>x.2-x.1) (lo,hi)
     (Le.of_eq (by first|(rw [hlo1 (by omega),hhi1 (by omega)];rfl)|(rw [hlo2 (by omega),hhi2 (by omega)];rfl)))
     ⟨⟨Nat.le_refl _,by simp only;omega,Nat.le_refl _⟩,fun k h1 h2=>by simp only at h2;omega,fun k h1 h2=>by simp only at h1;omega⟩ ?_
    rintro ⟨s,r⟩ ⟨⟨h1,h2,h3⟩,h4,h5⟩;simp only at h1 h2 h3 h4 h5 ⊢;rcases Nat.lt_or_ge s r with hsr|hsr
    ·have g1:=UM (l:=row) (i:=(s+r) / 2) (by omega);have g2:=UM (l:=row) (i:=mid+m-1-(s+r) / 2) (by omega);have hcm:=hC.cmp (getz row (mid+m-1-(s+r) / 2)) (getz row ((s+r) / 2)) (hL _ (VF (by omega))) (hL _ (VF (by omega)));have hb1:=hC.bnd (getz row ((s+r) / 2));have hb2:=hC.bnd (getz row (mid+m-1-(s+r) / 2));have hst:=fun k (hk1:lo<=k) (hk2:k<=(s+r) / 2)=>And.intro (hA.le (i:=k) (k:=(s+r) / 2) (by omega) hk2 (by omega)) (hB.le (i:=mid+m-1-(s+r) / 2) (k:=mid+m-1-k) (by omega) (by omega) (by omega));have hst2:=fun k (hk1:(s+r) / 2<=k) (hk2:k<hi)=>And.intro (hA.le (i:=(s+r) / 2) (k:=k) (by omega) hk1 (by omega)) (hB.le (i:=mid+m-1-k) (k:=mid+m-1-(s+r) / 2) (by omega) (by omega) (by omega));generalize hh:(s+r) / 2=h at g1 g2 hcm hb1 hb2 hst hst2;have hhe:(h:Int)=((s:Int)+r) / 2:=by omega
     generalize hpe:mid+m-1-h=pc at g2 hcm hb2 hst hst2;unfold GE;conv=>whnf
     repeat' (first|((first|refine dA ?_|refine And.intro rfl ?_|refine wI ?_|refine Wr.u64 (by omega) (by omega) ?_|refine q3k (m:=(h:Int)) rfl (by omega) rfl rfl hhe ?_|refine IdxL.mk h rfl (by omega) ?_|refine IdxL.mk pc (by omega) (by omega) ?_|refine LdOwn.mk h 0 _ (by omega) g1 ?_|refine LdOwn.mk pc 0 _ (by omega) g2 ?_|refine cP hcm ?_);conv=>whnf)|(apply bD<;>intro _<;>first|omega|conv=>whnf)|(apply bE<;>intro _<;>first|omega|conv=>whnf))
     all_goals first
      | exact ⟨(h+1,r),⟨⟨by simp only;omega,by simp only;omega,h3⟩,fun k k1 k2=>by simp only at k2;(rcases Nat.lt_or_ge h k with hk|hk;· omega);have:=hst k k1 hk;omega,h5⟩,by simp only;omega,Le.of_eq rfl⟩
      | exact ⟨(s,h),⟨⟨h1,by simp only;omega,by simp only;omega⟩,h4,fun k k1 k2=>by simp only at k1;have:=hst2 k k1 k2;omega⟩,by simp only;omega,Le.of_eq rfl⟩
      | skip
    ·have hre:r=s:=by omega
     subst hre;have cf:=hcut r h1 h3 h4 h5;obtain ⟨⟨c1,c2,c3⟩,c4,cross,l1,l2,r1,r2⟩:=cf;rw [hme] at c3 c4 cross l1 l2 r1 r2;obtain ⟨e,hee⟩ : ∃ e,mid+m-r=e:=⟨_,rfl⟩;rw [hee] at c4 cross l1 l2 r1 r2;have hme2:m<=e:=by omega
     have hp2:PermIn row (rotR row r m e) a b:=(w2a c2 hme2 (by omega)).wide c1 c4 hbl;by_cases hrot:r<m∧m<e
     ·have hRot:=GN (rotR row r m e) row r m e N (w4t hrot.1 hrot.2 (by omega)) (by omega) (by omega) hN (.fn g [c]) hl;generalize rotR row r m e=row2 at *
      have hln2:row2.length=row.length:=hp2.len.1;have hL2 : ∀ x∈row2,L x:=fun x hx=>hL x (hp2.perm.mem_iff.1 hx);have p0:PermIn row2 row2 a mid := .refl (by omega) (by omega);have hLe:=fun (q1:a<r) (q2:r<mid)=>ih row2 a r mid N (by omega) q1 q2 (by omega) (by omega) (by omega) hL2 l1 l2;have hRi:=fun row3 (p3:PermIn row2 row3 a mid) (q1:mid<e) (q2:e<b)=>ih row3 mid e b N (by omega) q1 q2 (by have:=p3.len;omega) (by have:=p3.len;omega) (by have:=p3.len;omega) (fun x hx=>hL2 x (p3.perm.mem_iff.1 hx))
       (fun u v u1 u2 u3=>by rw [p3.out (.inr (by omega)),p3.out (.inr (by omega))];exact r1 u v u1 u2 u3) (fun u v u1 u2 u3=>by rw [p3.out (.inr (by omega)),p3.out (.inr (by omega))];exact r2 u v u1 u2 u3)
      have sl:(r=a∨mid<=r)->srt K row2 a mid:=fun h=>by
       rcases h with h|h
       ·rw [h] at l2;exact l2
       ·rw [show r=mid by omega] at l1;exact l1
      have pr : ∀ row3,PermIn row2 row3 a mid->PermIn row3 row3 mid b:=fun row3 p3 => .refl (by omega) (by have:=p3.len;omega);have sr:(e<=mid∨e=b) -> ∀ row3,PermIn row2 row3 a mid->srt K row3 mid b:=fun h row3 p3 u v u1 u2 u3=>by
       rw [p3.out (.inr (by omega)),p3.out (.inr (by omega))];rcases h with h|h
       ·exact r2 u v (by omega) u2 u3
       ·exact r1 u v u1 u2 (by omega)
      have fin : ∀ row3 row4,PermIn row2 row3 a mid->srt K row3 a mid->PermIn row3 row4 mid b->srt K row4 mid b->PermIn row row4 a b∧srt K row4 a b:=fun row3 row4 p3 s3 p4 s4 =>
       ⟨hp2.trans ((p3.wide (Nat.le_refl _) (by omega) (by omega)).trans (p4.wide (by omega) (Nat.le_refl _) (by have:=p3.len;omega))),x1g (by omega) (by omega) cross p3 s3 p4 s4⟩
      conv=>whnf
      repeat' (first|((first|refine wI ?_|(refine CallK.heap [(1000,1000)] 5 (ArgsH.cons (LSub.refl _) (ArgsH.cons (LSub.p (Sub.int (by omega))) (ArgsH.cons (LSub.p (Sub.int (by omega))) (ArgsH.cons (LSub.p (Sub.int (by omega))) (ArgsH.cons (LSub.refl _) ArgsH.nil))))) (by refine BlksH.cons (j:=1000) rfl rfl ?_ ?_;exact CSub.refl _;exact BlksH.nil) hRot rfl rfl ?_;rintro l' H' ⟨rfl,rfl⟩)|(refine CallK.heap [(1000,1000)] 5 (ArgsH.cons (LSub.refl _) (ArgsH.cons (LSub.p (Sub.int (by omega))) (ArgsH.cons (LSub.p (Sub.int (by omega))) (ArgsH.cons (LSub.p (Sub.int (by omega))) (ArgsH.cons (LSub.refl _) ArgsH.nil))))) (by refine BlksH.cons (j:=1000) rfl rfl ?_ ?_;exact CSub.refl _;exact BlksH.nil) (hLe (by omega) (by omega)) rfl rfl ?_;rintro l' H' ⟨rfl,row3,rfl,p3,s3⟩)|(refine CallK.heap [(1000,1000)] 5 (ArgsH.cons (LSub.refl _) (ArgsH.cons (LSub.p (Sub.int (by omega))) (ArgsH.cons (LSub.p (Sub.int (by omega))) (ArgsH.cons (LSub.p (Sub.int (by omega))) (ArgsH.cons (LSub.refl _) ArgsH.nil))))) (by refine BlksH.cons (j:=1000) rfl rfl ?_ ?_;exact CSub.refl _;exact BlksH.nil) (hRi _ p3 (by omega) (by omega)) rfl rfl ?_;rintro l' H' ⟨rfl,row4,rfl,p4,s4⟩)|(refine CallK.heap [(1000,1000)] 5 (ArgsH.cons (LSub.refl _) (ArgsH.cons (LSub.p (Sub.int (by omega))) (ArgsH.cons (LSub.p (Sub.int (by omega))) (ArgsH.cons (LSub.p (Sub.int (by omega))) (ArgsH.cons (LSub.refl _) ArgsH.nil))))) (by refine BlksH.cons (j:=1000) rfl rfl ?_ ?_;exact CSub.refl _;exact BlksH.nil) (hRi _ p0 (by omega) (by omega)) rfl rfl ?_;rintro l' H' ⟨rfl,row4,rfl,p4,s4⟩));conv=>whnf)|(apply bD<;>intro _<;>first|omega|conv=>whnf))
      all_goals first
       | (exfalso;omega)
       | exact ⟨_,LSub.refl _,rfl,_,rfl,fin _ _ p3 s3 p4 s4⟩
       | exact ⟨_,LSub.refl _,rfl,_,rfl,fin _ _ p3 s3 (pr _ p3) (sr (by omega) _ p3)⟩
       | exact ⟨_,LSub.refl _,rfl,_,rfl,fin _ _ p0 (sl (by omega)) p4 s4⟩
       | exact ⟨_,LSub.refl _,rfl,_,rfl,fin _ _ p0 (sl (by omega)) (pr _ p0) (sr (by omega) _ p0)⟩
       | skip
     ·have hno:=w1f c2 hme2 (by omega) (l:=row) (by omega);rw [hno] at hp2 cross l1 l2 r1 r2;obtain ⟨row2,hrow2⟩ : ∃ row2,row=row2:=⟨_,rfl⟩;have hrow3:GE row=GE row2:=by rw [hrow2]
      rw [hrow3];rw [hrow2] at cross l1 l2 r1 r2;have hp2:PermIn row row2 a b:=by rw [<- hrow2];exact hp2
      have hln2:row2.length=row.length:=hp2.len.1;have hL2 : ∀ x∈row2,L x:=fun x hx=>hL x (hp2.perm.mem_iff.1 hx);have p0:PermIn row2 row2 a mid := .refl (by omega) (by omega);have hLe:=fun (q1:a<r) (q2:r<mid)=>ih row2 a r mid N (by omega) q1 q2 (by omega) (by omega) (by omega) hL2 l1 l2;have hRi:=fun row3 (p3:PermIn row2 row3 a mid) (q1:mid<e) (q2:e<b)=>ih row3 mid e b N (by omega) q1 q2 (by have:=p3.len;omega) (by have:=p3.len;omega) (by have:=p3.len;omega) (fun x hx=>hL2 x (p3.perm.mem_iff.1 hx))
       (fun u v u1 u2 u3=>by rw [p3.out (.inr (by omega)),p3.out (.inr (by omega))];exact r1 u v u1 u2 u3) (fun u v u1 u2 u3=>by rw [p3.out (.inr (by omega)),p3.out (.inr (by omega))];exact r2 u v u1 u2 u3)
      have sl:(r=a∨mid<=r)->srt K row2 a mid:=fun h=>by
       rcases h with h|h
       ·rw [h] at l2;exact l2
       ·rw [show r=mid by omega] at l1;exact l1
      have pr : ∀ row3,PermIn row2 row3 a mid->PermIn row3 row3 mid b:=fun row3 p3 => .refl (by omega) (by have:=p3.len;omega);have sr:(e<=mid∨e=b) -> ∀ row3,PermIn row2 row3 a mid->srt K row3 mid b:=fun h row3 p3 u v u1 u2 u3=>by
       rw [p3.out (.inr (by omega)),p3.out (.inr (by omega))];rcases h with h|h
       ·exact r2 u v (by omega) u2 u3
       ·exact r1 u v u1 u2 (by omega)
      have fin : ∀ row3 row4,PermIn row2 row3 a mid->srt K row3 a mid->PermIn row3 row4 mid b->srt K row4 mid b->PermIn row row4 a b∧srt K row4 a b:=fun row3 row4 p3 s3 p4 s4 =>
       ⟨hp2.trans ((p3.wide (Nat.le_refl _) (by omega) (by omega)).trans (p4.wide (by omega) (Nat.le_refl _) (by have:=p3.len;omega))),x1g (by omega) (by omega) cross p3 s3 p4 s4⟩
      conv=>whnf
      repeat' (first|((first|refine wI ?_|(refine CallK.heap [(1000,1000)] 5 (ArgsH.cons (LSub.refl _) (ArgsH.cons (LSub.p (Sub.int (by omega))) (ArgsH.cons (LSub.p (Sub.int (by omega))) (ArgsH.cons (LSub.p (Sub.int (by omega))) (ArgsH.cons (LSub.refl _) ArgsH.nil))))) (by refine BlksH.cons (j:=1000) rfl rfl ?_ ?_;exact CSub.refl _;exact BlksH.nil) (hLe (by omega) (by omega)) rfl rfl ?_;rintro l' H' ⟨rfl,row3,rfl,p3,s3⟩)|(refine CallK.heap [(1000,1000)] 5 (ArgsH.cons (LSub.refl _) (ArgsH.cons (LSub.p (Sub.int (by omega))) (ArgsH.cons (LSub.p (Sub.int (by omega))) (ArgsH.cons (LSub.p (Sub.int (by omega))) (ArgsH.cons (LSub.refl _) ArgsH.nil))))) (by refine BlksH.cons (j:=1000) rfl rfl ?_ ?_;exact CSub.refl _;exact BlksH.nil) (hRi _ p0 (by omega) (by omega)) rfl rfl ?_;rintro l' H' ⟨rfl,row4,rfl,p4,s4⟩));conv=>whnf)|(apply bD<;>intro _<;>first|omega|conv=>whnf))
      all_goals first
       | (exfalso;omega)
       | exact ⟨_,LSub.refl _,rfl,_,rfl,fin _ _ p3 s3 p4 s4⟩
       | exact ⟨_,LSub.refl _,rfl,_,rfl,fin _ _ p3 s3 (pr _ p3) (sr (by omega) _ p3)⟩
       | exact ⟨_,LSub.refl _,rfl,_,rfl,fin _ _ p0 (sl (by omega)) p4 s4⟩
       | exact ⟨_,LSub.refl _,rfl,_,rfl,fin _ _ p0 (sl (by omega)) (pr _ p0) (sr (by omega) _ p0)⟩
       | skip
theorem z2c {K:Int->Int} {l:List Int} {a b:Nat} (h:b<=a+1):srt K l a b:=fun i k h1 h2 h3=>by omega
theorem q5j {g:Nat} {c:AV} {K:Int->Int} {L:Int->Prop} (hC:CmpF g c K L) (row:List Int) (a b N:Nat) (hab:a<=b) (hbl:b<=row.length) (hN:N=row.length) (hl:row.length<=1000000) (hL : ∀ x∈row,L x) :
  SpecH Tryz.prog 334 [.hd 1000 0 N,.p (.int .i64 a),.p (.int .i64 b),.p (.fn g [c])] (GE row) (fun r H=>r = .p (.tup []) ∧ ∃ row',H=GE row'∧PermIn row row' a b∧srt K row' a b):=by
 refine sH VC Tryz.func334 rfl Tryz.call334 ?_;conv=>whnf
 repeat' (refine wI ?_;conv=>whnf)
 refine LoopK.inv QX (fun x:List Int×Nat=>⟨[(0,.hd 1000 0 N),(1,.p (.int .i64 a)),(2,.p (.int .i64 b)),(3,.p (.fn g [c])),(8,.p (.int .i64 x.2))],GE x.1⟩)
  (fun x=>a+1<=x.2∧(x.2<=b∨x.2=a+1)∧PermIn row x.1 a b∧srt K x.1 a x.2) (fun x=>b-x.2) (row,a+1) (Le.of_eq (by simp only;rw [show ((a+1:Nat):Int)=(a:Int)+1 by omega];rfl)) ⟨Nat.le_refl _,.inr rfl,.refl hab hbl,z2c (Nat.le_refl _)⟩ ?_
 rintro ⟨r0,i⟩ ⟨h1,h2,hp,hs⟩;simp only at h1 h2 hp hs ⊢;have hlen:=hp.len.1;rcases Nat.lt_or_ge i b with hib|hib;rotate_left 1
 ·unfold GE;conv=>whnf
  repeat' (apply bD<;>intro _<;>first|omega|conv=>whnf)
  all_goals first
   | (exfalso;omega)
   | exact ⟨_,LSub.refl _,rfl,r0,rfl,hp,fun u v u1 u2 u3=>hs u v u1 u2 (by omega)⟩
   | skip
 conv=>whnf
 repeat' (apply bD<;>intro _<;>first|omega|conv=>whnf)
 all_goals first
  | (exfalso;omega)
  | skip
 refine LoopK.inv QX (fun j:Nat=>⟨[(0,.hd 1000 0 N),(1,.p (.int .i64 a)),(2,.p (.int .i64 b)),(3,.p (.fn g [c])),(8,.p (.int .i64 i)),(9,.p (.int .i64 j))],GE (mvL r0 i j)⟩)
  (fun j=>(a<=j∧j<=i) ∧ ∀ k,j<=k->k<i->K (getz r0 k)<K (getz r0 i)) (fun j=>j) i (Le.of_eq (by rw [x3a];rfl)) ⟨⟨by omega,Nat.le_refl _⟩,fun k k1 k2=>by omega⟩ ?_
 rintro j ⟨⟨k1,k2⟩,k3⟩;simp only at k1 k2 k3 ⊢;have hml:=GC r0 i j;have hfin:(j=a∨K (getz r0 i)<=K (getz r0 (j-1)))->PermIn row (mvL r0 i j) a b∧srt K (mvL r0 i j) a (i+1):=fun h=>by
  have hp2:=x4b (l:=r0) (m:=i) (by omega) (d:=i-j) (by omega);rw [show i-(i-j)=j by omega] at hp2;refine ⟨hp.trans (hp2.wide k1 (by omega) (by omega)),z4h k1 k2 (by omega) hs (fun k q1 q2 => ?_) k3⟩;rcases h with h|h
  ·omega
  ·have:=hs.le (i:=k) (k:=j-1) q1 (by omega) (by omega);omega
 by_cases hja:j=a
 ·have hf:=hfin (.inl hja);unfold GE;conv=>whnf
  repeat' (first|((first|refine dA ?_|refine wI ?_);conv=>whnf)|(apply bD<;>intro _<;>first|omega|conv=>whnf))
  all_goals first
   | (exfalso;omega)
   | exact ⟨(mvL r0 i j,i+1),⟨by simp only;omega,.inl (by simp only;omega),hf.1,hf.2⟩,by simp only;omega,Le.of_eq rfl⟩
   | skip
 obtain ⟨q,rfl⟩ : ∃ q,j=q+1:=⟨j-1,by omega⟩;have e1:getz (mvL r0 i (q+1)) (q+1)=getz r0 i:=by rw [DQ (by omega),if_neg (by omega),if_pos rfl]
 have e2:getz (mvL r0 i (q+1)) q=getz r0 q:=by rw [DQ (by omega),if_pos (by omega)]
 have hst:=x4d (l:=r0) (m:=i) (k:=q) k2 (by omega);have g1:=UM (l:=mvL r0 i (q+1)) (i:=q) (by omega);have g2:=UM (l:=mvL r0 i (q+1)) (i:=q+1) (by omega);rw [e1] at g2 hst;rw [e2] at g1 hst;have hcm:=hC.cmp (getz r0 i) (getz r0 q) (hL _ (hp.perm.mem_iff.1 (VF (by omega)))) (hL _ (hp.perm.mem_iff.1 (VF (by omega))));have hb1:=hC.bnd (getz r0 i);have hb2:=hC.bnd (getz r0 q);rw [show q+1-1=q by omega] at hfin;have hst':((mvL r0 i (q+1)).set (q+1) (getz r0 q)).set q (getz r0 i)=mvL r0 i q:=by rw [<- hst];exact List.set_comm _ _ (by omega)
 have hq1:((q+1:Nat):Int)-1=(q:Int):=by omega
 have hnext:K (getz r0 q)<K (getz r0 i) -> ∀ k,q<=k->k<i->K (getz r0 k)<K (getz r0 i):=fun h k q1 q2=>by
  by_cases he:k=q
  ·rw [he];exact h
  ·exact k3 k (by omega) q2
 generalize mvL r0 i (q+1)=rw' at hml hst' g1 g2 hfin ⊢;generalize getz r0 i=x at *
 generalize getz r0 q=y at *
 have g3:((rw'.map (AV.int .i64)).set (q+1) (.int .i64 y))[q]? = some (.int .i64 y):=by rw [List.getElem?_set_ne (by omega)];exact g1
 unfold GE;conv=>whnf
 repeat' (first|((first|refine dA ?_|refine And.intro rfl ?_|refine wI ?_|refine IdxL.mk (q+1) (by omega) (by omega) ?_|refine IdxL.mk q (by omega) (by omega) ?_|refine LdOwn.mk (q+1) 0 _ (by omega) g2 ?_|refine LdOwn.mk q 0 _ (by omega) g1 ?_|refine cP hcm ?_|refine StOwn.mk (q+1) 0 _ (.int .i64 y) (by omega) g2 (Nat.le_refl _) rfl ?_|refine StOwn.mk q 0 _ (.int .i64 x) (by omega) g3 (Nat.le_refl _) rfl ?_);conv=>whnf)|(apply bD<;>intro _<;>first|omega|conv=>whnf))
 all_goals first
  | (exfalso;omega)
  | exact ⟨q,⟨⟨by omega,by omega⟩,hnext (by omega)⟩,by omega,Le.of_eq (by rw [<- hst',List.map_set,List.map_set,hq1])⟩
  | (have hf:=hfin (.inr (by omega));exact ⟨(rw',i+1),⟨by simp only;omega,.inl (by simp only;omega),hf.1,hf.2⟩,by simp only;omega,Le.of_eq rfl⟩)
  | skip
theorem srt.keep {K:Int->Int} {l l':List Int} {a b u v:Nat} (h:srt K l u v) (hp:PermIn l l' a b) (ho:v<=a∨b<=u):srt K l' u v:=fun i k h1 h2 h3=>by
 rw [hp.out (by omega),hp.out (by omega)];exact h i k h1 h2 h3
theorem srt.sub {K:Int->Int} {l:List Int} {a b u v:Nat} (h:srt K l a b) (h1:a<=u) (h2:v<=b):srt K l u v:=fun i k q1 q2 q3=>h i k (by omega) q2 (by omega)
theorem x3w {q q0 B:Nat} (h:q<q0):q*B+B<=q0*B:=by
 have:=Nat.mul_le_mul_right B (show q+1<=q0 from h)
 rwa [succ_mul] at this
def blk (K:Int->Int) (l:List Int) (bs n:Nat):Prop := ∀ q,srt K l (q*bs) (min (q*bs+bs) n)
theorem z2b {g:Nat} {c:AV} {K:Int->Int} {L:Int->Prop} (hC:CmpF g c K L) (row:List Int) (n:Nat) (hN:n=row.length) (hl:row.length<=1000000) (hL : ∀ x∈row,L x) :
  SpecH Tryz.prog 289 [.hd 1000 0 n,.p (.int .i64 n),.p (.fn g [c])] (GE row) (fun r H=>r = .p (.tup []) ∧ ∃ row',H=GE row'∧PermIn row row' 0 n∧srt K row' 0 n):=by
 refine sH JO Tryz.func289 rfl Tryz.call289 ?_;conv=>whnf
 skip
 refine LoopK.inv QX (fun x:List Int×Nat=>⟨[(0,.hd 1000 0 n),(1,.p (.int .i64 n)),(2,.p (.fn g [c])),(6,.p (.int .i64 20)),(7,.p (.int .i64 (x.2*20:Nat))),(8,.p (.int .i64 (x.2*20+20:Nat)))],GE x.1⟩)
  (fun x=>x.2*20<=n∧PermIn row x.1 0 n ∧ ∀ q,q<x.2->srt K x.1 (q*20) (q*20+20)) (fun x=>n-x.2*20) (row,0) (Le.of_eq rfl) ⟨by simp,.refl (zero_le _) (by omega),fun q hq=>by simp only at hq;omega⟩ ?_
 rintro ⟨r1,q0⟩ ⟨h1,hp,hs⟩;simp only at h1 hp hs ⊢;have hlen:=hp.len.1;have hL1 : ∀ x∈r1,L x:=fun x hx=>hL x (hp.perm.mem_iff.1 hx);rcases Nat.lt_or_ge n (q0*20+20) with hb|hb;rotate_left 1
 ·have hI:=q5j hC r1 (q0*20) (q0*20+20) n (by omega) (by omega) (by omega) (by omega) hL1;conv=>whnf
  repeat' (first|((first|refine Wr.eq (m:=((q0+1)*20+20:Nat)) (by omega) (by omega) (by omega) ?_|(refine CallK.heap [(1000,1000)] 5 (ArgsH.cons (LSub.refl _) (ArgsH.cons (LSub.p (Sub.int (by omega))) (ArgsH.cons (LSub.p (Sub.int (by omega))) (ArgsH.cons (LSub.refl _) ArgsH.nil)))) (by refine BlksH.cons (j:=1000) rfl rfl ?_ ?_;exact CSub.refl _;exact BlksH.nil) hI rfl rfl ?_;rintro l' H' ⟨rfl,r2,rfl,p2,s2⟩));conv=>whnf)|(apply bD<;>intro _<;>first|omega|conv=>whnf))
  all_goals first
   | (exfalso;omega)
   | exact ⟨(r2,q0+1),⟨by simp only;omega,hp.trans (p2.wide (by omega) (by omega) (by omega)),fun q hq=>by
      simp only at hq ⊢;by_cases he:q=q0
      ·rw [he];exact s2
      ·exact (hs q (by omega)).keep p2 (.inl (by omega))⟩,by simp only;omega,Le.of_eq (by simp only;rw [show (q0+1)*20=q0*20+20 by omega];rfl)⟩
   | skip
 have hI:=q5j hC r1 (q0*20) n n (by omega) (by omega) (by omega) (by omega) hL1;conv=>whnf
 repeat' (first|(refine CallK.heap [(1000,1000)] 5 (ArgsH.cons (LSub.refl _) (ArgsH.cons (LSub.p (Sub.int (by omega))) (ArgsH.cons (LSub.p (Sub.int (by omega))) (ArgsH.cons (LSub.refl _) ArgsH.nil)))) (by refine BlksH.cons (j:=1000) rfl rfl ?_ ?_;exact CSub.refl _;exact BlksH.nil) hI rfl rfl ?_;rintro l' H' ⟨rfl,r2,rfl,p2,s2⟩;conv=>whnf)|(apply bD<;>intro _<;>first|omega|conv=>whnf))
 all_goals first
  | (exfalso;omega)
  | skip
 have hp2:PermIn row r2 0 n:=hp.trans (p2.wide (by omega) (Nat.le_refl _) (by omega));have hblk:blk K r2 20 n:=fun q=>by
  rcases Nat.lt_trichotomy q q0 with hq|hq|hq
  ·exact ((hs q hq).keep p2 (.inl (by omega))).sub (Nat.le_refl _) (by omega)
  ·subst hq;exact s2.sub (Nat.le_refl _) (by omega)
  ·exact z2c (by omega)
 clear hI hs hL1 hlen hp p2 s2 hb h1;refine LoopK.inv QX (fun x:List Int×Nat=>⟨[(0,.hd 1000 0 n),(1,.p (.int .i64 n)),(2,.p (.fn g [c])),(6,.p (.int .i64 x.2))],GE x.1⟩)
  (fun x=>(20<=x.2∧x.2<=2000000)∧PermIn row x.1 0 n∧blk K x.1 x.2 n) (fun x=>n-x.2) (r2,20) (Le.of_eq rfl) ⟨⟨Nat.le_refl _,by simp only;omega⟩,hp2,hblk⟩ ?_
 clear hp2 hblk r2;rintro ⟨r1,bs⟩ ⟨⟨h1,h2⟩,hp,hs⟩;simp only at h1 h2 hp hs ⊢;have hlen:=hp.len.1;rcases Nat.lt_or_ge bs n with hb|hb;rotate_left 1
 ·have h0:=hs 0;rw [Nat.zero_mul] at h0;unfold GE;conv=>whnf
  repeat' (apply bD<;>intro _<;>first|omega|conv=>whnf)
  all_goals first
   | (exfalso;omega)
   | exact ⟨_,LSub.refl _,rfl,r1,rfl,hp,h0.sub (Nat.le_refl _) (by omega)⟩
   | skip
 conv=>whnf
 repeat' (first|(refine wI ?_;conv=>whnf)|(apply bD<;>intro _<;>first|omega|conv=>whnf))
 all_goals first
  | (exfalso;omega)
  | skip
 refine LoopK.inv QX (fun x:List Int×Nat=>⟨[(0,.hd 1000 0 n),(1,.p (.int .i64 n)),(2,.p (.fn g [c])),(6,.p (.int .i64 bs)),(7,.p (.int .i64 (x.2*(2*bs):Nat))),(8,.p (.int .i64 (x.2*(2*bs)+2*bs:Nat)))],GE x.1⟩)
  (fun x=>x.2*(2*bs)<=n∧PermIn row x.1 0 n∧(∀ q,q<x.2->srt K x.1 (q*(2*bs)) (q*(2*bs)+2*bs)) ∧ ∀ q,2*x.2<=q->srt K x.1 (q*bs) (min (q*bs+bs) n)) (fun x=>n-x.2*(2*bs)) (r1,0) (Le.of_eq (by simp only [Nat.zero_mul,Nat.zero_add];rw [show ((2*bs:Nat):Int)=2*(bs:Int) by omega];rfl)) ⟨by simp,hp,fun q hq=>by simp only at hq;omega,fun q _=>hs q⟩ ?_
 clear hp hs hlen r1;rintro ⟨r1,q0⟩ ⟨h3,hp,hs1,hs2⟩;simp only at h3 hp hs1 hs2 ⊢;have hlen:=hp.len.1;have hL1 : ∀ x∈r1,L x:=fun x hx=>hL x (hp.perm.mem_iff.1 hx);have e1:2*q0*bs=q0*(2*bs):=by rw [Nat.mul_comm 2 q0,Nat.mul_assoc]
 have e2:(2*q0+1)*bs=q0*(2*bs)+bs:=by rw [Nat.add_mul,e1,Nat.one_mul]
 have e3:(q0+1)*(2*bs)=q0*(2*bs)+2*bs:=succ_mul _ _;have b1:=hs2 (2*q0) (Nat.le_refl _);have b2:=hs2 (2*q0+1) (by omega);rw [e1] at b1;rw [e2] at b2;have far : ∀ q,2*q0+2<=q->q0*(2*bs)+2*bs<=q*bs:=fun q hq=>by
  have:=Nat.mul_le_mul_right bs hq;rw [show 2*q0+2=(2*q0+1)+1 from rfl,succ_mul,e2] at this;omega
 have near : ∀ q,q<q0->q*(2*bs)+2*bs<=q0*(2*bs):=fun q hq=>x3w hq;generalize hA:q0*(2*bs)=A at *
 rcases Nat.lt_or_ge n (A+2*bs) with hb2|hb2;rotate_left 1
 ·have hM:=q1b hC (A+2*bs-A) r1 A (A+bs) (A+2*bs) n (Nat.le_refl _) (by omega) (by omega) (by omega) (by omega) (by omega) hL1 (b1.sub (Nat.le_refl _) (by omega)) (b2.sub (Nat.le_refl _) (by omega));conv=>whnf
  repeat' (first|((first|refine wI ?_|(refine CallK.heap [(1000,1000)] 5 (ArgsH.cons (LSub.refl _) (ArgsH.cons (LSub.p (Sub.int (by omega))) (ArgsH.cons (LSub.p (Sub.int (by omega))) (ArgsH.cons (LSub.p (Sub.int (by omega))) (ArgsH.cons (LSub.refl _) ArgsH.nil))))) (by refine BlksH.cons (j:=1000) rfl rfl ?_ ?_;exact CSub.refl _;exact BlksH.nil) hM rfl rfl ?_;rintro l' H' ⟨rfl,r2,rfl,p2,s2⟩));conv=>whnf)|(apply bD<;>intro _<;>first|omega|conv=>whnf))
  all_goals first
   | (exfalso;omega)
   | exact ⟨(r2,q0+1),⟨by simp only;omega,hp.trans (p2.wide (by omega) (by omega) (by omega)),fun q hq=>by
      simp only at hq;by_cases he:q=q0
      ·rw [he,hA];exact s2
      ·have:=near q (by omega);exact (hs1 q (by omega)).keep p2 (.inl (by omega)),fun q hq=>by
      simp only at hq;have:=far q (by omega);exact (hs2 q (by omega)).keep p2 (.inr (by omega))⟩,by simp only;omega,Le.of_eq (by simp only;rw [e3,show ((A+2*bs+2*bs:Nat):Int)=((A+2*bs:Nat):Int)+2*(bs:Int) by omega];rfl)⟩
   | skip
 ·have hend : ∀ r2,PermIn r1 r2 A n->srt K r2 A n->PermIn row r2 0 n∧blk K r2 (2*bs) n:=fun r2 p2 s2=>by
   refine ⟨hp.trans (p2.wide (by omega) (Nat.le_refl _) (by omega)),fun q => ?_⟩;rcases Nat.lt_trichotomy q q0 with hq|hq|hq
   ·have:=near q hq;exact ((hs1 q hq).keep p2 (.inl (by omega))).sub (Nat.le_refl _) (by omega)
   ·subst hq;rw [hA];exact s2.sub (Nat.le_refl _) (by omega)
   ·have:=x3w (B:=2*bs) hq;rw [hA] at this;exact z2c (by omega)
  by_cases hm:A+bs<n
  ·have hM:=q1b hC (n-A) r1 A (A+bs) n n (Nat.le_refl _) (by omega) (by omega) (by omega) (by omega) (by omega) hL1 (b1.sub (Nat.le_refl _) (by omega)) (b2.sub (Nat.le_refl _) (by omega));conv=>whnf
   repeat' (first|((first|refine wI ?_|(refine CallK.heap [(1000,1000)] 5 (ArgsH.cons (LSub.refl _) (ArgsH.cons (LSub.p (Sub.int (by omega))) (ArgsH.cons (LSub.p (Sub.int (by omega))) (ArgsH.cons (LSub.p (Sub.int (by omega))) (ArgsH.cons (LSub.refl _) ArgsH.nil))))) (by refine BlksH.cons (j:=1000) rfl rfl ?_ ?_;exact CSub.refl _;exact BlksH.nil) hM rfl rfl ?_;rintro l' H' ⟨rfl,r2,rfl,p2,s2⟩));conv=>whnf)|(apply bD<;>intro _<;>first|omega|conv=>whnf))
   all_goals first
    | (exfalso;omega)
    | (have hf:=hend r2 p2 s2;exact ⟨(r2,2*bs),⟨⟨by simp only;omega,by simp only;omega⟩,hf.1,hf.2⟩,by simp only;omega,Le.of_eq (by simp only;rw [show ((2*bs:Nat):Int)=(bs:Int)*2 by omega];rfl)⟩)
    | skip
  ·have hf:=hend r1 (.refl (by omega) (by omega)) (b1.sub (Nat.le_refl _) (by omega));unfold GE;conv=>whnf
   repeat' (first|(refine wI ?_;conv=>whnf)|(apply bD<;>intro _<;>first|omega|conv=>whnf))
   all_goals first
    | (exfalso;omega)
    | exact ⟨(r1,2*bs),⟨⟨by simp only;omega,by simp only;omega⟩,hf.1,hf.2⟩,by simp only;omega,Le.of_eq (by simp only;rw [show ((2*bs:Nat):Int)=(bs:Int)*2 by omega])⟩
    | skip
theorem q8i {g:Nat} {c:AV} {K:Int->Int} {L:Int->Prop} (hC:CmpF g c K L) (row:List Int) (n:Nat) (hN:n=row.length) (hl:row.length<=1000000) (hL : ∀ x∈row,L x) :
  SpecH Tryz.prog 190 [.hd 1000 0 n,.p (.fn g [c])] (GE row) (fun r H=>r = .p (.tup []) ∧ ∃ row',H=GE row'∧PermIn row row' 0 n∧srt K row' 0 n):=by
 refine sH UF Tryz.func190 rfl Tryz.call190 ?_;have hS:=z2b hC row n hN hl hL;conv=>whnf
 repeat' ((first|(refine iM fun _=>?_)|(refine CallK.heap [(1000,1000)] 5 (ArgsH.cons (LSub.refl _) (ArgsH.cons (LSub.refl _) (ArgsH.cons (LSub.refl _) ArgsH.nil))) (by refine BlksH.cons (j:=1000) rfl rfl ?_ ?_;exact CSub.refl _;exact BlksH.nil) hS rfl rfl ?_;rintro l' H' ⟨rfl,r2,rfl,p2,s2⟩));conv=>whnf)
 exact ⟨_,LSub.refl _,rfl,r2,rfl,p2,s2⟩
end Go.Ab
