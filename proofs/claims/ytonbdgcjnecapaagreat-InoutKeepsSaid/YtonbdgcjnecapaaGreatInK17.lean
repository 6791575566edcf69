/- slices.BinarySearch, slices.Equal, slices.Clone at strings; give.Has. -/
import Derived.Test.YtonbdgcjnecapaaGreatInK10
import Derived.Test.YtonbdgcjnecapaaGreatInK14
import Derived.Test.YtonbdgcjnecapaaGreatInK16
set_option linter.all false
set_option maxRecDepth 100000
set_option maxHeartbeats 16000000
open List (length)
namespace Go.Ab
open Go.Proofs.Tryz
open Go.Proofs
variable {a:Int}{j:Nat}
def WT(l m:List Str):SpecP prog 97 [eStrs l,eStrs m] (fun r=>r=.bool (decide (l=m))):=by
 refine sB JV func97 rfl call97 ?_;conv=>whnf
 have x:(l.map AV.str).length=l.length:=x6j _;have y:(m.map AV.str).length=m.length:=x6j _;repeat' (first|(refine iM fun _=>?_;conv=>whnf)|(apply bE<;>intro _<;>first|omega|conv=>whnf))
 all_goals first
  |exact RetK.ff (x8c fun h=>by subst h;omega)
  |skip
 have v:l.length=m.length:=by omega
 refine LoopK.inv QW (fun j:Nat=>⟨[(0,.p (eStrs l)),(1,.p (eStrs m)),(12,.p (.int .i64 (l.map AV.str).length)),(13,.p (.int .i64 j))],[]⟩) (fun j=>j<=l.length/\l.take j=m.take j) (fun j=>l.length-j) 0 (Le.of_eq rfl) ⟨x6t _,rfl⟩ ?_;rintro j ⟨z,k⟩;rcases x6c j l.length with i|i
 .have q:j<m.length:=by omega
  have u:l[j]=m[j]->l.take (j+1)=m.take (j+1):=fun o=>by rw[x7x i,x7x q,k,o]
  have t:l[j]≠m[j]->¬l=m:=fun s o=>s (by subst o;rfl);conv=>whnf
  repeat' (first|((first|refine dA ?_|(refine iA fun _=>?_)|refine wI ?_);conv=>whnf)|(apply bD<;>intro _<;>first|omega|conv=>whnf)|(apply bN<;>intro _<;>conv=>whnf))
  all_goals first
   | (have n:l[j]=m[j]:=eq_of_beq (by assumption)
      exact⟨j+1,⟨i,u n⟩,by omega,Le.of_eq rfl⟩)
   | (have n:¬l[j]=m[j]:=by
       have w:(l[j]==m[j])=false:=by assumption
       simpa using w
      exact RetK.ff (x8c (t n)))
 .rw [x7w i,x7w (by omega)]at k;conv=>whnf
  repeat' (apply bD<;>intro _<;>first|omega|conv=>whnf)
  all_goals exact RetK.tt (x8r k)
def Wy(a:Str):SpecP prog 189 [.str a] (fun r=>r=.bool false):=by
 refine sB MI func189 rfl call189 ?_;conv=>whnf
 skip
 all_goals exact RetK.bool (by simp)
def MB(a:Str):SpecP prog 236 [.str a] (fun r=>r=.bool false):=by
 refine sB BX func236 rfl call236 ?_;conv=>whnf
 skip
 all_goals exact RetK.bool (by simp)
def Ud(a b:Str):SpecP prog 235 [.str a,.str b] (fun r=>r=.bool (Op.bytesLess a b)):=by
 refine sB Qc func235 rfl call235 ?_;conv=>whnf
 repeat' (first|(refine cP (Wy a) ?_;conv=>whnf)|(apply bB<;>intro _<;>conv=>whnf))
 all_goals first
  |contradiction
  |exact RetK.p rfl
def UY(l:List Str)(x:Str)(L:l.Pairwise ltT)(H:l.length<=1000000000):SpecP prog 185 [eStrs l,.str x] (fun r=>∃k:Int,r=.tup [.int .i64 k,.bool (inS l x)]):=by
 refine sB VG func185 rfl call185 ?_;conv=>whnf
 have C:(l.map AV.str).length=l.length:=x6j _;repeat' (refine iM fun _=>?_;conv=>whnf)
 refine LoopK.inv QW (fun y:Nat×Nat=>⟨[(0,.p (eStrs l)),(1,.p (.str x)),(6,.p (.int .i64 (l.map AV.str).length)),(7,.p (.int .i64 y.1)),(8,.p (.int .i64 y.2))],[]⟩) (fun y=>y.1<=y.2/\y.2<=l.length/\(∀(k:Nat)(h:k<l.length),k<y.1->ltT l[k] x)/\∀(k:Nat)(h:k<l.length),y.2<=k->¬ltT l[k] x) (fun y=>y.2-y.1) (0,l.length) (Le.of_eq (by rw[C];rfl)) ⟨x6t _,x7u _,fun k h w=>by simp only at w;omega,fun k h w=>by simp only at w;omega⟩ ?_;rintro⟨i,j⟩ ⟨w,D,d,g⟩;simp only at w D d g⊢;have v:∀(a b:Nat)(E:a<l.length)(F:b<l.length),a<b->ltT l[a] l[b]:=fun a b E F A=>List.pairwise_iff_getElem.1 L a b E F A;rcases x6c i j with B|B
 .have G:(i+j)/2<l.length:=by omega
  have J:=Ud l[(i+j)/2] x;conv=>whnf
  repeat' (first|((first|(refine iA fun _=>?_)|refine wI ?_|refine Wr.u64 (by omega) (by omega) ?_|refine Ah rfl (by omega) rfl rfl (m:=(((i+j)/2:Nat):Int)) (by omega) ?_|refine cP J ?_);conv=>whnf)|(apply bD<;>intro _<;>first|omega|conv=>whnf)|(apply bB<;>intro _<;>conv=>whnf))
  all_goals first
   | (have s:Op.bytesLess l[(i+j)/2] x=true:=by assumption
      refine⟨((i+j)/2+1,j),⟨by simp only;omega,D,fun k t u=>?_,g⟩,by simp only;omega,Le.of_eq rfl⟩;simp only at u;rcases x6c k ((i+j)/2)with n|n
      .exact ltT.trans _ _ _ (v _ _ t G n) s
      .have:k=(i+j)/2:=by omega
       subst this;exact s)
   | (have s:Op.bytesLess l[(i+j)/2] x=false:=by assumption
      have z:¬ltT l[(i+j)/2] x:=fun h=>by unfold ltT at h;rw[s]at h;cases h
      refine⟨(i,(i+j)/2),⟨by simp only;omega,by simp only;omega,d,fun k t u c=>?_⟩,by simp only;omega,Le.of_eq rfl⟩;simp only at u;rcases x6c ((i+j)/2) k with n|n
      .exact z (ltT.trans _ _ _ (v _ _ G t n) c)
      .have:k=(i+j)/2:=by omega
       subst this;exact z c)
 .obtain rfl:i=j:=by omega
  rcases x6c i l.length with e|e
  .have o:inS l x=(l[i]==x):=by
    rw[z0p,JG,z0x];constructor
    .intro M;obtain⟨k,t,rfl⟩:=x8v.1 M;rcases Nat.lt_trichotomy k i with q|q|q
     .exact absurd (d k t q) (Qq _)
     .subst q;rfl
     .exact absurd (v i k e t q) (g i e (x7u _))
    .intro q;rw[<-q];exact x6o e
   have K:=MB l[i];conv=>whnf
   repeat' (first|((first|(refine iA fun _=>?_)|refine cP K ?_);conv=>whnf)|(apply bD<;>intro _<;>first|omega|conv=>whnf)|(apply bB<;>intro _<;>conv=>whnf))
   all_goals first
    |(exfalso;omega)
    |(exfalso;simp_all;done)
    | (have s:inS l x=true:=by rw[o];assumption
       exact⟨_,.p (Sub.tup (.cons (Sub.refl _) (.cons (Sub.tt s) .nil))),_,rfl⟩)
    | (have s:inS l x=false:=by rw[o];assumption
       exact⟨_,.p (Sub.tup (.cons (Sub.refl _) (.cons (Sub.ff s) .nil))),_,rfl⟩)
  .have o:inS l x=false:=by
    cases q:inS l x with
    |false=>rfl
    | true=>
      obtain⟨k,t,I⟩:=x8v.1 (JG.1 q);exact absurd (d k t (by omega)) (by rw[I];exact Qq _)
   conv=>whnf
   repeat' (apply bD<;>intro _<;>first|omega|conv=>whnf)
   all_goals first
    |(exfalso;omega)
    |exact⟨_,.p (Sub.tup (.cons (Sub.refl _) (.cons (Sub.ff o) .nil))),_,rfl⟩
    |exact⟨_,.p (Sub.refl _),_,by rw[o];rfl⟩
def Y7(l:List Str)(x:Str)(m:l.Pairwise ltT)(h:l.length<=1000000000):SpecP prog 114 [eStrs l,.str x] (fun r=>r=.bool (inS l x)):=by
 refine sB SN func114 rfl call114 ?_;conv=>whnf
 have i:=UY l x m h;repeat' (refine CallK.pure i (.cons (Sub.refl _) (.cons (Sub.refl _) .nil)) ?_;rintro _ ⟨k,rfl⟩;conv=>whnf)
 all_goals first
  |exact RetK.p rfl
def L7{σ:Mem}{a:Param}{v:Value}(h:Rep σ (.agg a.cells) v):v=.agg #[.string ⟨a.name.toArray⟩,.bool a.ref]:=by
 cases h with
 | agg cs vs u o m n=>
   have q:vs.size=2:=o;have g0:vs[0]?=some (.string ⟨a.name.toArray⟩):=by
    have k:=m 0 (.str a.name) rfl;have l:=n 0 (.str a.name) rfl;generalize u 0=w at k l;cases l;exact k
   have g1:vs[1]?=some (.bool a.ref):=by
    have k:=m 1 (.bool a.ref) rfl;have l:=n 1 (.bool a.ref) rfl;generalize u 1=w at k l;cases l;exact k
   congr 1;apply Array.ext_getElem?;intro i
   match i with
   |0=>exact g0
   |1=>exact g1
   |i+2=>rw[z2x (by omega),z2x (by simp)]
instance:DecidableEq Param:=fun a b=>decidable_of_iff (a.name=b.name/\a.ref=b.ref) (by cases a;cases b;simp)
theorem ValO.C{B:Bool}{s:St}{o:Oper}{K:LV->Prop}{x y:Operand}{u:TypeId}(l:o.op=.binOp .eql 48 x y u){a b:Param}(E:QR s.sl x=.p (.agg a.cells))(F:QR s.sl y=.p (.agg b.cells))(c:K (.p (.bool (decide (a=b))))):ValO prog B s o K:=by
 refine⟨fun σ β q w r _=>⟨_,.bool (decide (a=b)),c,.p (.bool _),fun w' _ _=>?_⟩⟩;have v:q.eval x=.agg #[.string ⟨a.name.toArray⟩,.bool a.ref]:=by
  have:=QV r x;rw[E]at this;cases this with
  |p h=>exact L7 h
 have z:q.eval y=.agg #[.string ⟨b.name.toArray⟩,.bool b.ref]:=by
  have:=QV r y;rw[F]at this;cases this with
  |p h=>exact L7 h
 have D:prog.underlying 48=some (.struct (prog.fieldsOf 48)):=by kernel_rfl
 have m:prog.underlying 9=some .string:=by kernel_rfl
 have i:prog.underlying 4=some .bool:=by kernel_rfl
 have A:(prog.fieldsOf 48).toList=(match ty48.desc with |.struct fs=>fs.toList|_=>[]):=by kernel_rfl
 have g:(Op.equalIn 10000 48 (.agg #[.string ⟨a.name.toArray⟩,.bool a.ref]) (.agg #[.string ⟨b.name.toArray⟩,.bool b.ref])).run prog w'=.ok (decide (a=b)) w':=by
  rw[run_equalIn_struct w' 9999 _ _ _ D (by kernel_rfl),A];simp only[ty48,Op.eqFields];have G:∀(x:ByteArray)(y:Bool),(part 9 #[.string x,.bool y] 0).run prog w'=.ok (.string x) w':=fun x y=>run_part_plain w' (by kernel_rfl) rfl;have H:∀(x:ByteArray)(y:Bool),(part 4 #[.string x,.bool y] 1).run prog w'=.ok (.bool y) w':=fun x y=>run_part_plain w' (by kernel_rfl) rfl;have es:∀x y:ByteArray,(Op.equalIn 9999 9 (.string x) (.string y)).run prog w'=.ok (x.toList==y.toList) w':=fun x y=>run_equalIn_string (P:=prog) w' 9998 9 x y m;have t:∀x y:Bool,(Op.equalIn 9999 4 (.bool x) (.bool y)).run prog w'=.ok (x==y) w':=fun x y=>run_equalIn_bool (P:=prog) w' 9998 4 x y i;have e:decide (a=b)=(((⟨a.name.toArray⟩:ByteArray).toList==(⟨b.name.toArray⟩:ByteArray).toList)&&(a.ref==b.ref)):=by
   rw[ByteArray.toList_eq,ByteArray.toList_eq,z0p,z2q,x7y,z0x,z0x];cases a;cases b;simp
  simp only[ne_eq,show ¬("Name" = "_") by decide,show ¬("Ref" = "_") by decide,not_false_eq_true,if_true,Sem.run_bind,G,H,Result.andThen_ok,es,t,Sem.run_ite,Sem.run_pure,e];cases((⟨a.name.toArray⟩:ByteArray).toList==(⟨b.name.toArray⟩:ByteArray).toList)<;>cases(a.ref==b.ref)<;>simp
 simp only[execOp,l,v,z,Sem.run_bind,run_eqGuard_agg _ _ _ _ _ _ _ (show prog.eqGuardType prog.depth 48=false by kernel_rfl),Result.andThen_ok,run_eql_struct,g,Sem.run_pure]
def UN(l:List Param)(x:Param):SpecP prog 221 [.sl (l.map fun a=>.agg a.cells),.agg x.cells] (fun r=>∃k:Int,r=.int .i64 k/\(0<=k↔x∈l)):=by
 refine sB VT func221 rfl call221 ?_;conv=>whnf
 have q:(l.map fun a=>AV.agg a.cells).length=l.length:=x6j _;repeat' (refine iM fun _=>?_;conv=>whnf)
 refine LoopK.inv QW (fun j:Nat=>⟨[(0,.p (.sl (l.map fun a=>.agg a.cells))),(3,.p (.ip x.cells)),(7,.p (.int .i64 (l.map fun a=>AV.agg a.cells).length)),(8,.p (.int .i64 j))],[]⟩) (fun j=>j<=l.length/\x∉l.take j) (fun j=>l.length-j) 0 (Le.of_eq rfl) ⟨x6t _,by simp⟩ ?_;rintro j ⟨s,i⟩;rcases x6c j l.length with h|h
 .have n:x∈l.take (j+1)↔x∈l.take j\/x=l[j]:=QC h;conv=>whnf
  repeat' (first|((first|refine dA ?_|(refine iA fun _=>?_)|refine wI ?_|refine ValO.C (a:=x) (b:=l[j]) rfl rfl rfl ?_);conv=>whnf)|(apply bD<;>intro _<;>first|omega|conv=>whnf))
  all_goals first
   | (have m:x=l[j]:=by assumption
      exact⟨_,.p (Sub.refl _),j,rfl,⟨fun _=>by rw[m];exact x6o h,fun _=>by omega⟩⟩)
   | (have m:¬x=l[j]:=by assumption
      exact⟨j+1,⟨h,fun o=>(n.1 o).elim i m⟩,by omega,Le.of_eq rfl⟩)
 .rw [x7w h]at i;conv=>whnf
  repeat' (apply bD<;>intro _<;>first|omega|conv=>whnf)
  all_goals exact⟨_,.p (Sub.refl _),-1,rfl,by simp[i]⟩
def VN(l:List Param)(x:Param):SpecP prog 166 [.sl (l.map fun a=>.agg a.cells),.agg x.cells] (fun r=>r=.bool (decide (x∈l))):=by
 refine sB WS func166 rfl call166 ?_;conv=>whnf
 have h:=UN l x;repeat' (refine CallK.pure h (.cons (Sub.refl _) (.cons (Sub.refl _) .nil)) ?_;rintro _ ⟨k,rfl,i⟩;conv=>whnf)
 all_goals first
  |exact RetK.bool (by rw[z0p,z2q,z2q];exact i)
theorem M8:∀(l:List (Int×Int))(rows:List (List Int)),(∀t∈l,0<=t.1/\t.1<rows.length)->∀(a:Nat)(x:Int),x∈(l.foldl nxE rows).getD a []↔x∈rows.getD a []\/∃t∈l,t.1=a/\t.2=x
 |[],rows,_,a,x=>by simp
 | t::r,rows,h,a,x=>by
   obtain⟨o,q⟩:=h t x6g;rw[x9p,M8 r (nxE rows t) (fun u n=>by rw[EP];exact h u (x6b _ n))];have e:x∈(nxE rows t).getD a []↔x∈rows.getD a []\/(t.1=a/\t.2=x):=by
    unfold nxE;simp only[x6h,x9r];by_cases k:t.1.toNat=a
    .subst k;have m:t.1=(t.1.toNat:Int):=by omega
     rw[if_pos rfl,if_pos (by omega)];simp only[x9h,x6s,x6p];constructor
     .rintro (i|i)
      .exact .inl i
      .exact .inr ⟨m,i.symm⟩
     .rintro (i|⟨_,i⟩)
      .exact .inl i
      .exact .inr i.symm
    .rw [if_neg k];constructor
     .exact .inl
     .rintro (i|⟨i,_⟩)
      .exact i
      .omega
   rw[e];simp only[x6m,exists_eq_or_imp,or_assoc]
def Kz{n:Nat}{l:List (Int×Int)}(h:∀t∈l,0<=t.1/\t.1<n){a:Nat}{x:Int}:x∈(Z5 n l).getD a [] ↔ ∃t∈l,t.1=a/\t.2=x:=by
 unfold Z5;rw[M8 l _ (by simpa using h)];have:(List.replicate n ([]:List Int)).getD a []=[]:=by
  rw[x6h,x7c];split<;>rfl
 rw[this];simp
mutual
theorem q0c:∀(t:S){nest seen m:Int},Ge nest seen t=some m->∀u∈flS t,oneOk u=true
 | .mk id kind F name pr x has args I L,nest,seen,m,h,u,hu=>by
   obtain⟨h1,_,m1,h3,h4⟩:=HA h;rw[flS]at hu;rcases x6m.1 hu with rfl|hu
   ·exact h1
   ·rcases x6s.1 hu with hu|hu
    ·exact Yy I h3 u hu
    ·exact Yy L h4 u hu
theorem Yy:∀(l:List S){nest seen m:Int},UT nest seen l=some m->∀u∈flL l,oneOk u=true
 |[],_,_,_,_,u,hu=>by rw[flL]at hu;cases hu
 | t::r,nest,seen,m,h,u,hu=>by
   obtain⟨_,m1,h1,h2⟩:=KQ h;rw[flL]at hu;rcases x6s.1 hu with hu|hu
   ·exact q0c t h1 u hu
   ·exact Yy r h2 u hu
end
def Dr{p:Pg}{f:Pr}(h:QS p=true)(i:p.A[j]?=some f){t:S}(l:t∈flL f.body):OneF t:=by
 obtain⟨m,k⟩:=RC (QJ h).1 i;exact YE (Yy _ k t l)
section
variable {p:Pg}{j:Nat}{f:Pr}
def x0y(p:Pg)(j:Nat)(f:Pr):Int->Int->Prop:=stR (x4i (QQ p j f) f)
def Af(h:QS p=true)(r:p.A[j]?=some f){b:Int}:x0y p j f a b↔wR p j f a b\/(a=0/\b = -1)\/(∃l∈trapsW (QQ p j f) f,∃t∈flL f.body,t.id∈l/\t.kind=10/\a=t.id/\b = -1)\/∃it∈itsOf p j f,7<=it.s.kind/\a=it.s.id/\b=it.next:=by
 have x:=PD (q7h h r);have i:∀s,s∈Hz (QQ p j f) f↔s∈UI (QQ p j f) f\/s∈(QQ p j f).real\/s=⟨0,-1,2⟩\/s∈(itsOf p j f).flatMap fOf:=fun s=>by
  have e:Hz (QQ p j f) f=UI (QQ p j f) f++(QQ p j f).real++[⟨0,-1,2⟩]++(itsOf p j f).flatMap fOf:=rfl;rw[e];simp only[x6s,x6p,or_assoc]
 have n:∀s∈Hz (QQ p j f) f,x0y p j f s.src s.dst:=fun s k=>by
  obtain⟨s',m,y,z,_⟩:=x.2.2 s k;exact⟨s',m,y,z⟩
 constructor
 .rintro ⟨s,k,rfl,rfl⟩;rcases(i s).1 (x.2.1 s k)with m|m|m|m
  .obtain ⟨l,v,t,w,o,u,rfl⟩:=(Zd h r).1 m;exact .inr (.inr (.inl ⟨l,v,t,w,o,u,rfl,rfl⟩))
  .exact .inl ⟨s,m,rfl,rfl⟩
  .rw [m];exact .inr (.inl ⟨rfl,rfl⟩)
  .obtain ⟨it,q,k⟩:=x8w.1 m;unfold fOf at k;split at k
   .rw [x6p.1 k];exact .inr (.inr (.inr ⟨it,q,by omega,rfl,rfl⟩))
   .cases k
 .rintro (⟨s,k,rfl,rfl⟩|⟨rfl,rfl⟩|⟨l,v,t,w,o,u,rfl,rfl⟩|⟨it,q,u,rfl,rfl⟩)
  .exact n s ((i s).2 (.inr (.inl k)))
  .exact n ⟨0,-1,2⟩ ((i _).2 (.inr (.inr (.inl rfl))))
  .exact n ⟨t.id,-1,3⟩ ((i _).2 (.inl ((Zd h r).2 ⟨l,v,t,w,o,u,rfl⟩)))
  .refine n ⟨it.s.id,it.next,2⟩ ((i _).2 (.inr (.inr (.inr (x8w.2 ⟨it,q,?_⟩)))));have c:=(Dr h r (JC q)).hi;unfold fOf;rw[if_pos (by omega)];exact x6p.2 rfl
def q7j(h:QS p=true)(m:p.A[j]?=some f){b:Int}(y:x0y p j f a b):plP p j f a/\plP p j f b/\a ≠ -1/\b≠0:=by
 have k:∀t∈flL f.body,plP p j f t.id/\t.id ≠ -1:=fun t n=>by
  have v:=WD (QJ h).1 m n;exact⟨.inr (.inr v),by omega⟩
 rcases(Af h m).1 y with i|⟨rfl,rfl⟩|⟨l,c,t,n,w,x,rfl,rfl⟩|⟨it,o,x,rfl,rfl⟩
 .obtain ⟨r,u⟩:=x0v h m i;refine⟨r,u,?_,fun e=>q0z h m (e▸i)⟩;obtain⟨s,z,rfl,rfl⟩:=i;rcases q0p h m (((KF h m).2 s).1 z)with q|q
  .rw [q];show(0:Int) ≠ -1;decide
  .omega
 .exact ⟨.inl rfl,.inr (.inl rfl),by decide,by decide⟩
 .exact ⟨(k t n).1,.inr (.inl rfl),(k t n).2,by decide⟩
 .have i:=(Q6 o).1;unfold okI at i;refine⟨(k _ (JC o)).1,?_,(k _ (JC o)).2,by omega⟩;rcases i with i|i
  .exact .inr (.inl i)
  .exact .inr (.inr i)
end
namespace Own
end Own
open Go.Proofs
def rng(a b:Int)(v:Int):Prop:=a<=v/\v<=b
def Ep{D o k i:Int}{n:Nat}{nest m:Int}{l:List S}(h:UT nest n l=some m){it:Item}(t:it∈itL D o k i n l):(n:Int)+1<=it.s.id/\it.s.id<=(n:Int)+cntL l:=by
 have q:it.s∈flL l:=by
  rw[<-BU D o k i n l];exact x6r.2 ⟨it,t,rfl⟩
 have r:it.s.id∈JK n (cntL l):=by
  rw[<-DY nest l h];exact x6r.2 ⟨it.s,q,rfl⟩
 have:=TR r;omega
def x4h(l:List Int)(i:Nat):Int:=l.getD i 0
def srt(K:Int->Int)(l:List Int)(a b:Nat):Prop:=∀i k,a<=i->i<k->k<b->K (x4h l k)<=K (x4h l i)
def hi0(a m b:Nat):Nat:=if(a+b)/2<m then(a+b)/2 else m
def blk(K:Int->Int)(l:List Int)(bs n:Nat):Prop:=∀q,srt K l (q*bs) (min (q*bs+bs) n)
def q1y:List AV:=[.int .i64 (-1),.int .i64 0,.nils,.str [],.str [],.int .i64 0,.int .i64 0,.str [],.nils,.ff,.nils,.nils,.nils]
def Uo:∀(k:Nat)(l:List S)(_:cntL l<k)(_:cntL l<=1000000)(_:∀t∈flL l,okC t/\t.id ≠ -1),SpecP prog 201 [eSs l,.agg q1y] (fun r=>r=eSs l):=by
 intro k;induction k with
 |zero=>intro l h;omega
 | succ k z=>
   intro l K M y;have E:(S.avs l).length=l.length:=by rw[S.avs_eq,x6j]
   have A:=Xk l;refine sB Xx func201 rfl call201 ?_;conv=>whnf
   repeat' (refine iM fun _=>?_;conv=>whnf)
   refine LoopK.inv QW (fun j:Nat=>⟨[(3,.p (.ip q1y)),(5,.hd 0 0 j),(9,.p (eSs l)),(10,.p (.int .i64 (S.avs l).length)),(11,.p (.int .i64 j))],[(0,.own 117 13 (S.avs (l.take j)))]⟩) (fun j=>j<=l.length) (fun j=>l.length-j) 0
    (Le.mk [(0,.own 117 13 [])] (by simp[Chunk.new0];rfl) (by simp) (by simp) (.r (.cons (.nil x6g) (.r (.r (.r .nil))))) (.new x6g .nil)) (x6t _) ?_
   intro j J;rcases x6c j l.length with u|u
   .have G:=Dc (x6o u);have B:=WB l[j];have n:=y _ (Xl l _ (x6o u));have q:∀t,t∈flL l[j].I\/t∈flL l[j].L->okC t/\t.id ≠ -1:=fun t s=>y t (by
     have:t∈flS l[j]:=by
      rw[TK];exact x6b _ (x6s.2 s)
     have key:∀(m:List S)(i:Nat)(h:i<m.length),t∈flS m[i]->t∈flL m:=fun m=>by
      induction m with
      |nil=>intro i h;simp at h
      | cons a r z=>
        intro i h s;rw[flL];cases i with
        |zero=>exact x6s.2 (.inl s)
        |succ i=>exact x6s.2 (.inr (z i (by simpa using h) s))
     exact key l j u this)
    have c:=JR l[j] n.1.1 n.1.2.1 n.1.2.2.1 n.1.2.2.2;have C:=n.2;have d:=z l[j].I (by omega) (by omega) fun t s=>q t (.inl s);have g:=z l[j].L (by omega) (by omega) fun t s=>q t (.inr s);have o:j=(S.avs (l.take j)).length:=by rw[S.avs_eq,x6j,x7m];omega
    have w:S.avs (l.take (j+1))=S.avs (l.take j)++[.agg l[j].cells]:=by
     rw[S.avs_eq,S.avs_eq,x7x u,x6l];rfl
    generalize S.avs (l.take j)=acc at o w⊢;have e:l[j]=.mk l[j].id l[j].kind l[j].F l[j].name l[j].D l[j].x l[j].has l[j].args l[j].I l[j].L:=by cases l[j];rfl
    conv=>whnf
    repeat' (first|((first|refine dA ?_|refine x6d rfl ?_|refine aD ?_|refine bP ?_|refine QI (by omega) ?_|refine wI ?_|refine cP c ?_|refine cP d ?_|refine cP g ?_|refine x8e o rfl (by show(j+1)*208<=140737488355328;omega) (by show j+1<=9223372036854775807;omega) (fun x H=>by rcases x6p.1 H with rfl;exact⟨rfl,rfl⟩) ?_);conv=>whnf)|(apply bD<;>intro _<;>first|omega|conv=>whnf))
    all_goals first
     |exact⟨j+1,u,by omega,Le.of_eq (by rw[w];rfl)⟩
     |contradiction
   .have v:l.take j=l:=x7w u;have b:j=(S.avs l).length:=by rw[S.avs_eq,x6j];omega
    rw[v];conv=>whnf
    repeat' (apply bD<;>intro _<;>first|omega|conv=>whnf)
    exact⟨_,.hd rfl b,rfl⟩
theorem EN:∀(l:List Pr)(j:Nat),QH l j<=cntP l
 |_,0=>by rw[QH];omega
 |[],j+1=>by rw[QH];omega
 |g::r,j+1=>by rw[QH,cntP];have:=EN r j;omega
structure CopyF(p:Pg):Prop where
 A:p.A.length<=1000
 B:p.B.length<=1000000
 pr:∀f∈p.A,f.E.length<=1000000/\f.fin.length<=1000000/\f.C.length<=1000000/\cntL f.body<=100000/\∀t∈flL f.body,okC t/\t.id ≠ -1
def x5x(p:Pg):Heap:=[(2,.obj 25 [.p (eStrs p.B),.hd 1 0 p.A.length]),(1,.own 44 5 (p.A.map fun f=>.agg f.cells))]
def x0o(p:Pg):Heap:=[(6,.own 44 5 (p.A.map fun f=>.agg f.cells)),(1,.obj 25 [.p (eStrs p.B),.hd 6 0 p.A.length])]
def Ue(p:Pg)(h:CopyF p):SpecH prog 131 [.p (.agg p.cells),.p (.agg q1y)] [] (fun r H=>r=.agg [.p (eStrs p.B),.hd 1 0 p.A.length]/\H=x5x p):=by
 refine sH X7 func131 rfl call131 ?_;conv=>whnf
 have v:=WK p.B h.B;have J:(p.A.map fun f=>AV.agg f.cells).length=p.A.length:=x6j _;have I:=h.A;repeat' ((first|(refine iM fun _=>?_)|refine x6d rfl ?_|refine cP v ?_);conv=>whnf)
 refine LoopK.inv QW (fun j:Nat=>⟨[(3,.p (.ip q1y)),(4,.ptr 2 0),(5,.ptr 0 0),(14,.p (.sl (p.A.map fun f=>AV.agg f.cells))),(15,.p (.int .i64 (p.A.map fun f=>AV.agg f.cells).length)),(16,.p (.int .i64 j))],[(0,.obj 25 [.p (eStrs p.B),.hd 1 0 j]),(2,.obj 25 [.p .nils,.p .nils]),(1,.own 44 5 ((p.A.take j).map fun f=>.agg f.cells))]⟩) (fun j=>j<=p.A.length) (fun j=>p.A.length-j) 0
  (Le.mk [(1,.own 44 5 [])] (by simp[Chunk.new0];rfl) (by simp) (by simp) (.r (.r (.r (.r (.r (.r .nil)))))) (.cons rfl (.obj (.r (.cons (.nil x6g) .nil))) (.cons rfl (.refl _) (.new x6g .nil)))) (x6t _) ?_
 intro j l;rcases x6c j p.A.length with n|n
 .obtain ⟨K,m,d,G,z⟩:=h.pr _ (x6o n);have e:=WK p.A[j].E K;have g:=WK p.A[j].fin m;have D:=Uo (cntL p.A[j].body+1) p.A[j].body (by omega) (by omega) z;have t:((p.A.take j).map fun f=>AV.agg f.cells).length=j:=by rw[x6j,x7m];omega
  have s:((p.A.take (j+1)).map fun f=>AV.agg f.cells)=((p.A.take j).map fun f=>AV.agg f.cells)++[.agg p.A[j].cells]:=by
   rw[x7x n,x6l];rfl
  generalize((p.A.take j).map fun f=>AV.agg f.cells)=acc at t s⊢;have o:(p.A[j].C.map fun x=>AV.agg x.cells).length=p.A[j].C.length:=x6j _;conv=>whnf
  repeat' (first|((first|refine dA ?_|refine x6d rfl ?_|refine aD ?_|(refine iA fun _=>?_)|refine cP e ?_|refine cP g ?_|refine cP D ?_|refine x8e rfl rfl (by rw[o];show(0+p.A[j].C.length)*24<=140737488355328;omega) (by rw[o];show 0+p.A[j].C.length<=9223372036854775807;omega) (fun x b=>by obtain⟨y,_,rfl⟩:=x6r.1 b;exact⟨rfl,rfl⟩) ?_);conv=>whnf)|(apply bD<;>intro _<;>first|omega|conv=>whnf)|(refine x6d ?_ ?_<;>conv=>whnf))
  all_goals
   refine SI QW (k:=4) 41 p.A[j].cells rfl rfl rfl (fun q u c i l=>?_) ?_
   .match q,i,l with
    |0,i,l=>cases i;cases l;exact .inl ⟨_,rfl,Sub.refl _⟩
    |1,i,l=>cases i;cases l;exact .inr ⟨_,rfl,by simp,rfl⟩
    |2,i,l=>cases i;cases l;exact .inl ⟨_,rfl,Sub.refl _⟩
    |3,i,l=>cases i;cases l;exact .inl ⟨_,rfl,Sub.refl _⟩
    |4,i,l=>cases i;cases l;exact .inl ⟨_,rfl,Sub.refl _⟩
    |q+5,i,l=>simp at i
   conv=>whnf
   repeat' ((first|refine x6d rfl ?_|refine aD ?_|refine bP ?_|refine wI ?_|refine x8e t.symm rfl (by show(j+1)*112<=140737488355328;omega) (by show j+1<=9223372036854775807;omega) (fun x b=>by rcases x6p.1 b with rfl;exact⟨rfl,rfl⟩) ?_);conv=>whnf)
   exact⟨j+1,n,by omega,Le.of_eq (by rw[s];rfl)⟩
 .have F:((p.A.take j).map fun f=>AV.agg f.cells)=p.A.map fun f=>.agg f.cells:=by
   rw[x7w n]
  have w:j=p.A.length:=by omega
  subst w;rw[F];conv=>whnf
  repeat' (first|(refine x6d rfl ?_;conv=>whnf)|(apply bD<;>intro _<;>first|omega|conv=>whnf))
  exact⟨_,x6e _,rfl,rfl⟩
def FX(p:Pg)(h:CopyF p):SpecH prog 72 [.p (.agg p.cells)] [] (fun r H=>r=.agg [.p (eStrs p.B),.hd 6 0 p.A.length]/\H=x0o p):=by
 refine sH LF func72 rfl call72 ?_;conv=>whnf
 repeat' ((first|refine x6d rfl ?_|(refine CallK.heap [] 5 (x6i (x6e _) (x6i (x6e _) x7h)) x7f (Ue p h) rfl rfl ?_;rintro l' H' ⟨rfl,rfl⟩));conv=>whnf)
 exact⟨_,x6e _,rfl,rfl⟩
def Qx(p:Pg)(j:Nat):List Pr:=(V3 0 p.A).take j++p.A.drop j
theorem Kw:∀(l:List Pr)(n j:Nat)(f:Pr),l[j]?=some f->(V3 n l)[j]?=some ⟨f.name,f.C,f.E,nmL (n+QH l j) f.body,f.fin⟩
 |g::r,n,0,f,h=>by cases h;rw[V3];rfl
 | g::r,n,j+1,f,h=>by
   rw[V3,z0w,Kw r (n+cntL g.body) j f (by simpa using h),QH,x9k]
theorem KG:∀(l:List Pr)(n:Nat),(V3 n l).length=l.length
 |[],n=>rfl
 |g::r,n=>by rw[V3,x7g,x7g,KG r]
def EB(p:Pg)(h:j<=p.A.length):(Qx p j).length=p.A.length:=by
 unfold Qx;rw[x6f,x7m,x9x,KG];omega
def ED(p:Pg)(h:j<p.A.length):(Qx p j)[j]?=some p.A[j]:=by
 unfold Qx;rw[x7d (by rw[x7m,KG];omega),x7m,KG,x8t];rw[show j+(j-min j p.A.length)=j by omega,x6k h]
def CW(p:Pg)(i:j<p.A.length):Qx p (j+1)=(Qx p j).set j ⟨p.A[j].name,p.A[j].C,p.A[j].E,nmL (QH p.A j) p.A[j].body,p.A[j].fin⟩:=by
 have h:=Kw p.A 0 j _ (x6k i);rw[x8d]at h;unfold Qx;have k:((V3 0 p.A).take j).length=j:=by rw[x7m,KG];omega
 rw[List.set_append_right _ _ (by omega),k,z1d,x7t i,List.set_cons_zero,List.take_add_one,h];simp
def EM{l:List Pr}(h:j<l.length):QH l (j+1)=QH l j+cntL l[j].body:=by
 induction l generalizing j with
 |nil=>simp at h
 | cons g r i=>
   cases j with
   |zero=>rw[QH,QH,QH];simp
   | succ j=>
     rw[QH,QH,i (by simpa using h)];simp only[List.getElem_cons_succ];omega
def KL(p:Pg)(h:CopyF p)(I:cntP p.A<=100000):SpecP prog 73 [.agg p.cells] (fun r=>r=.agg (q5h p).cells):=by
 refine sB BF func73 rfl call73 ?_;conv=>whnf
 have G:(p.A.map fun f=>AV.agg f.cells).length=p.A.length:=x6j _;have F:=h.A;repeat' ((first|(refine iM fun _=>?_)|refine x6d rfl ?_|(refine CallK.heap [] 20 (x6i (x6e _) x7h) x7f (FX p h) rfl rfl ?_;rintro l' H' ⟨rfl,rfl⟩));conv=>whnf)
 refine LoopK.inv QW (fun j:Nat=>⟨[(1,.p (.ip p.cells)),(2,.ptr 1 0),(3,.ptr 0 0),(4,.p (.int .i64 (QH p.A j))),(10,.p (.int .i64 p.A.length)),(11,.p (.int .i64 j))],[(0,.obj 25 [.p (eStrs p.B),.hd 26 0 p.A.length]),(26,.own 44 5 ((Qx p j).map fun f=>.agg f.cells)),(1,.obj 25 [.p .nils,.p .nils])]⟩) (fun j=>j<=p.A.length) (fun j=>p.A.length-j) 0
  (Le.of_eq (by rw[show Qx p 0=p.A from rfl,show QH p.A 0=0 by rw[QH]];rfl)) (x6t _) ?_
 intro j d;have w:=EB p d;rcases x6c j p.A.length with o|o
 .obtain ⟨J,z,b,g,v⟩:=h.pr _ (x6o o);have D:=EN p.A j;have e:=NQ (cntL p.A[j].body+1) p.A[j].body (by omega) (QH p.A j) (by omega) fun t H=>(v t H).1;have k:((Qx p j).map fun f=>AV.agg f.cells)[j]?=some (.agg p.A[j].cells):=by rw[x6a,ED p o];rfl
  have m:((Qx p j).map fun f=>AV.agg f.cells).set j (.agg (Pr.mk p.A[j].name p.A[j].C p.A[j].E (nmL (QH p.A j) p.A[j].body) p.A[j].fin).cells)=(Qx p (j+1)).map fun f=>AV.agg f.cells:=by
   rw[CW p o,<-x9w]
  have x:=EM o;generalize((Qx p j).map fun f=>AV.agg f.cells)=row at k m⊢;conv=>whnf
  repeat' (first|((first|refine x6d rfl ?_|(refine iA fun _=>?_)|refine wI ?_|refine DrawK.of QW mixed (.cons 3 false (.cons 4 false (.cons 5 false (.cons 6 false (.cons 7 false (.cons 8 false (.cons 9 false (.cons 0 false (.cons 2 false (.fork 1 (.cons 10 true (.cons 11 false (.cons 12 false (.cons 14 true (.cons 15 true (.cons 13 false (.cons 16 true (.cons 17 true .nil)))))))) 10 (.cons 1 true (.cons 11 false (.cons 12 false (.cons 14 true (.cons 15 true (.cons 13 false (.cons 16 true (.cons 17 true .nil)))))))))))))))))) (by kernel_rfl) ?_|refine cP e ?_|refine x8q j rfl o ?_|refine z0j j 3 (.agg p.A[j].cells) (.agg (Pr.mk p.A[j].name p.A[j].C p.A[j].E (nmL (QH p.A j) p.A[j].body) p.A[j].fin).cells) (by show(0+j)*5+3=j*5+3;omega) k (z0c rfl) rfl ?_);conv=>whnf)|(apply bD<;>intro _<;>first|omega|conv=>whnf)|(refine x6d ?_ ?_<;>conv=>whnf))
  all_goals exact⟨j+1,o,by omega,Le.of_eq (by rw[<-m,x];rfl)⟩
 .have u:j=p.A.length:=by omega
  subst u;have y:Qx p p.A.length=(q5h p).A:=by
   unfold Qx q5h;rw[x7w (by rw[KG];exact x7u _),x7v (x7u _),x8x]
  have s:p.A.length=((q5h p).A.map fun f=>AV.agg f.cells).length:=by rw[x6j,<-y,w]
  rw[y];conv=>whnf
  repeat' (first|(refine x6d rfl ?_;conv=>whnf)|(apply bD<;>intro _<;>first|omega|conv=>whnf))
  refine⟨_,.agg (cs:=(q5h p).cells) rfl fun i l c n q=>?_,rfl⟩
  match i,n,q with
  |0,n,q=>cases n;cases q;exact .p (Sub.refl _)
  | 1,n,q=>
    cases n;cases q;exact .hd rfl s
  |i+2,n,q=>simp at n
section
variable {p:Pg}{j:Nat}{f:Pr}
end
section
variable {p:Pg}{j:Nat}{f:Pr}
end
structure Book where
 s:Sheet
 ways:List Way
 M:List (List Str)
 P:List (List Str)
 ins:List (List Str)
 N:List (List Str)
def Book.cells(b:Book):List AV:=[.ip b.s.cells,.sl (b.ways.map fun w=>.ip w.cells),.sl (b.M.map eStrs),.sl (b.P.map eStrs),.sl (b.ins.map eStrs),.sl (b.N.map eStrs)]
def WO:Str:=[36,105,110]
def comB(p:Pg)(n:Str):Bool:=(n==WO)||p.B.any fun s=>n==s
def DR(b:Book)(n:Str):SpecP prog 165 [.ip b.cells,.str n] (fun r=>r=.bool (comB b.s.p n)):=by
 refine sB Qo func165 rfl call165 ?_;conv=>whnf
 repeat' (first|(refine cP (QU _ _) ?_;conv=>whnf)|(apply bB<;>intro _<;>conv=>whnf))
 all_goals first
  | (have h:(n==WO)=true:=by assumption
     exact RetK.tt (by unfold comB;rw[h];rfl))
  | (have h:(n==WO)=false:=by assumption
     exact RetK.bool (by unfold comB;rw[h,Bool.false_or]))
def Pj(p:Pg)(j:Nat)(f:Pr)(h:QS p=true)(q:p.A[j]?=some f)(id:Int)(i:plP p j f id):SpecP prog 164 [.ip (QQ p j f).cells,.int .i64 id] (fun r=>r=.bool ((QQ p j f).live.getD (ixI p j f id).toNat false)):=by
 refine sB Ys func164 rfl call164 ?_;conv=>whnf
 have hT:=x0r h q;have l:=Zn (QQ p j f) f hT.hj hT.hc (by have:=hT.hn2;have:=hT.hn;have:=hT.hw;omega) id;have m:KJ (loI (QQ p j f).p (QQ p j f).j) (hiI (QQ p j f).p (QQ p j f).j f) (QQ p j f).n id=ixI p j f id:=rfl;rw[m]at l;have t:=HN i;have s:(QQ p j f).live.length=cntL f.body+2:=by show(DE _ (List.replicate (cntL f.body+2) false)).length=_;rw[CP];simp
 generalize ixI p j f id=ix at*
 have o:((QQ p j f).live.map bv)[ix.toNat]?=some (bv ((QQ p j f).live.getD ix.toNat false)):=by
  rw[x6a,x6h,x6k (by omega)];rfl
 generalize(QQ p j f).live.getD ix.toNat false=v at*
 cases v;all_goals
  repeat' ((first|refine dA ?_|refine cP l ?_|(refine IdxK.at (k:=ix.toNat) (by omega) o rfl ?_));conv=>whnf)
 all_goals first
  |exact RetK.tt rfl
  |exact RetK.ff rfl
def RF(l:List Str)(h:l.length<=1000000000):SpecH prog 94 [.hd 1000 0 l.length] [(1000,.own 9 1 (l.map .str))] (fun r H=>r=.hd 1000 0 (WN l).length/\H=[(1000,.own 9 1 ((WN l).map .str))]):=by
 refine sH D8 func94 rfl call94 ?_;conv=>whnf
 repeat' (first|(refine CallK.heap [(1000,1000)] 0 (by repeat' (first|exact x7h|refine x6i ?_ ?_|exact x6e _|exact x7q Sub.nils|exact x7q (Sub.tt rfl)|exact x7q (Sub.ff rfl)|exact x7q (Sub.int (by omega)))) (by refine x6y (j:=1000) rfl rfl ?_ ?_;exact CSub.refl _;exact x7f) (DG l h) rfl rfl ?_;rintro l' H' ⟨rfl,rfl⟩;conv=>whnf)|(refine CallK.heap [(1000,1000)] 0 (x6i (z1m (by rw[UM];rfl)) x7h) (by refine x6y (j:=1000) rfl rfl ?_ ?_;exact CSub.refl _;exact x7f) (GT (YB l) (by rw[UM];omega)) rfl rfl ?_;rintro l' H' ⟨rfl,rfl⟩;conv=>whnf))
 all_goals first
  |exact x8y _ (x6e _) ⟨rfl,rfl⟩
def DL(b:Book)(t:S):SpecP prog 168 [.ip b.cells,.agg t.cells] (fun r=>r=.int .i64 (idxF (fun f=>f.name==t.D) b.s.p.A)):=by
 refine sB Qi func168 rfl call168 ?_;conv=>whnf
 have h:=ZQ b.s t.D;repeat' ((first|refine dA ?_|refine cP h ?_);conv=>whnf)
 all_goals exact RetK.p rfl
def x0m(O:List Str)(x:Arg×Param):Bool:=x.1.ref&&inS O x.2.name
def CF(t:S)(f:Pr)(O:List Str)(j:Nat):List Str:=(((t.args.zip f.C).take j).filter (x0m O)).map fun x=>x.1.name
def Rs(p:Pg)(t:S)(f:Pr)(O:List Str):List Str:=(if t.name=[]then []else [t.name])++CF t f O t.args.length++O.filter (comB p)
def Sc(t:S)(f:Pr)(O:List Str)(j:Nat):(CF t f O j).length<=j:=by
 unfold CF;rw[x6j];exact x8s (z0z _ _) (by rw[x7m];omega)
def I5{t:S}{f:Pr}{O:List Str}(k:j<t.args.length)(l:j<f.C.length):CF t f O (j+1)=CF t f O j++(if t.args[j].ref=true/\inS O f.C[j].name=true then [t.args[j].name]else []):=by
 have i:j<(t.args.zip f.C).length:=by rw[List.length_zip];omega
 unfold CF;rw[x7x i,x9t,x6l];congr 1;have e:(t.args.zip f.C)[j]=(t.args[j],f.C[j]):=List.getElem_zip;rw[e];by_cases h:t.args[j].ref=true/\inS O f.C[j].name=true
 .rw [if_pos h,x9j (by unfold x0m;simp[h])];rfl
 .rw [if_neg h,x9f (by unfold x0m;simpa using h)];rfl
def Ul(b:Book)(t:S)(i:Nat)(f:Pr)(O:List Str)(Z:idxF (fun f=>f.name==t.D) b.s.p.A=i)(Y:b.s.p.A[i]?=some f)(R:b.N[i]?=some O)(hs:O.Pairwise ltT)(hl:O.length<=1000000)(ha:t.args.length<=f.C.length)(U:t.args.length<=1000000):SpecH prog 163 [.p (.ip b.cells),.p (.agg t.cells)] [] (fun r H=>OneRow (Gy (Rs b.s.p t f O)) False r H):=by
 refine sH X1 func163 rfl call163 ?_;conv=>whnf
 have J:=DL b t;rw[Z]at J;have Q:=fun x=>Y7 O x hs (by omega);have B:=fun x=>DR b x;have y:(b.N.map eStrs)[i]?=some (eStrs O):=by rw[x6a,R];rfl
 have G:(b.s.p.A.map fun f=>AV.agg f.cells)[i]?=some (.agg f.cells):=by rw[x6a,Y];rfl
 have V:(t.args.map fun a=>AV.agg a.cells).length=t.args.length:=x6j _;have T:(O.map AV.str).length=O.length:=x6j _;repeat' (first|((first|(refine iM fun _=>?_)|refine x6d rfl ?_|refine aD ?_|refine bP ?_|refine QP (es:=[]) rfl (by simp) ?_|refine cP J ?_);conv=>whnf)|(apply bN<;>intro _<;>conv=>whnf))
 all_goals
  refine LoopK.inv QW (fun x:Nat×List Str=>⟨[(0,.p (.ip b.cells)),(5,.hd 0 0 x.2.length),(6,.p (.int .i64 i)),(23,.p (.sl (t.args.map fun a=>.agg a.cells))),(24,.p (.int .i64 (t.args.map fun a=>AV.agg a.cells).length)),(25,.p (.int .i64 x.1))],[(0,.own 9 1 (x.2.map .str))]⟩) (fun x=>x.1<=t.args.length/\x.2=(if t.name=[]then []else [t.name])++CF t f O x.1) (fun x=>t.args.length-x.1) (0,if t.name=[]then []else [t.name]) ?_ ⟨x6t _,by simp[CF]⟩ ?_
  .first
    | (have l:(t.name==[])=true:=by assumption
       rw[if_pos (eq_of_beq l)];exact Le.mk [(0,.own 9 1 [])] (by simp[Chunk.new0];rfl) (by simp) (by simp) (.r (.cons (.nil x6g) (.r (.r (.r (.r .nil)))))) (.new x6g .nil))
    | (have l:(t.name==[])=false:=by assumption
       rw[if_neg (by simpa using l)];exact Le.of_eq rfl)
  rintro⟨j,h⟩ ⟨L,u⟩;simp only at L u⊢;have K:h.length<=j+1:=by
   rw[u,x6f];have:=Sc t f O j;split<;>simp<;>omega
  rcases x6c j t.args.length with c|c
  .have d:j<f.C.length:=by omega
   have n:=I5 (O:=O) c d;have F:=Q f.C[j].name;have I:(f.C.map fun a=>AV.agg a.cells)[j]?=some (.agg f.C[j].cells):=by rw[x6a,x6k d];rfl
   conv=>whnf
   repeat' (first|((first|refine dA ?_|refine x6d rfl ?_|refine aD ?_|refine bP ?_|(refine iA fun _=>?_)|refine wI ?_|(refine IdxK.at (k:=i) rfl y rfl ?_)|(refine IdxK.at (k:=i) rfl G rfl ?_)|(refine IdxK.at (k:=j) rfl I rfl ?_)|refine cP F ?_|refine QP (by simp) (by rw[x6j];omega) ?_);conv=>whnf)|(apply bD<;>intro _<;>first|omega|conv=>whnf)|(apply bB<;>intro _<;>conv=>whnf))
   all_goals first
    | (have l:t.args[j].ref=true:=by assumption
       have m:inS O f.C[j].name=true:=by assumption
       exact⟨(j+1,h++[t.args[j].name]),⟨c,by simp only;rw[n,if_pos (show t.args[j].ref=true/\inS O f.C[j].name=true from⟨l,m⟩),u,x7n]⟩,by simp only;omega,Le.of_eq (by simp only[x6f,x6l];rfl)⟩)
    | (have m:inS O f.C[j].name=false:=by assumption
       exact⟨(j+1,h),⟨c,by simp only;rw[n,if_neg (show ¬(t.args[j].ref=true/\inS O f.C[j].name=true)from fun z=>by rw[m]at z;cases z.2),x8x];exact u⟩,by simp only;omega,Le.of_eq rfl⟩)
    | (have l:t.args[j].ref=false:=by assumption
       exact⟨(j+1,h),⟨c,by simp only;rw[n,if_neg (show ¬(t.args[j].ref=true/\inS O f.C[j].name=true)from fun z=>by rw[l]at z;cases z.1),x8x];exact u⟩,by simp only;omega,Le.of_eq rfl⟩)
  .obtain rfl:j=t.args.length:=by omega
   conv=>whnf
   repeat' (first|((first|(refine iM fun _=>?_)|(refine IdxK.at (k:=i) rfl y rfl ?_));conv=>whnf)|(apply bD<;>intro _<;>first|omega|conv=>whnf))
   refine LoopK.inv QW (fun x:Nat×List Str=>⟨[(0,.p (.ip b.cells)),(5,.hd 0 0 x.2.length),(70,.p (eStrs O)),(71,.p (.int .i64 (O.map AV.str).length)),(72,.p (.int .i64 x.1))],[(0,.own 9 1 (x.2.map .str))]⟩) (fun x=>x.1<=O.length/\x.2=h++(O.take x.1).filter (comB b.s.p)/\x.2.length<=h.length+x.1) (fun x=>O.length-x.1) (0,h) (Le.of_eq rfl) ⟨x6t _,by simp,by simp⟩ ?_;rintro⟨q,o⟩ ⟨M,v,P⟩;simp only at M v P⊢;rcases x6c q O.length with g|g
   .have e:=x7x g;have E:=B O[q];conv=>whnf
    repeat' (first|((first|refine x6d rfl ?_|refine aD ?_|refine bP ?_|(refine iA fun _=>?_)|refine wI ?_|refine cP E ?_|refine QP (by simp) (by rw[x6j];omega) ?_);conv=>whnf)|(apply bD<;>intro _<;>first|omega|conv=>whnf)|(apply bB<;>intro _<;>conv=>whnf))
    all_goals first
     | (have l:comB b.s.p O[q]=true:=by assumption
        exact⟨(q+1,o++[O[q]]),⟨g,by simp only;rw[e,x9t,x9j l,v,x7n];rfl,by simp;omega⟩,by simp only;omega,Le.of_eq (by simp only[x6f,x6l];rfl)⟩)
     | (have l:comB b.s.p O[q]=false:=by assumption
        exact⟨(q+1,o),⟨g,by simp only;rw[e,x9t,x9f (by rw[l];decide),v];simp,by simp only;omega⟩,by simp only;omega,Le.of_eq rfl⟩)
   .rw [x7w g]at v;have w:o=Rs b.s.p t f O:=by rw[v,u];rfl
    subst w;conv=>whnf
    repeat' (apply bD<;>intro _<;>first|omega|conv=>whnf)
    all_goals exact x8y _ (x6e _) (OneRow.str rfl)
def q5i:Str:=[36,114,101,116]
def caI(p:Pg)(t:S):Int:=idxF (fun f=>f.name==t.D) p.A
def caP(p:Pg)(t:S):Pr:=p.A.getD (caI p t).toNat Pr0
def caO(b:Book)(t:S):List Str:=b.N.getD (caI b.s.p t).toNat []
def PQ(b:Book)(t:S):List Str:=if t.kind=1 then [t.name]else if t.kind=2 then [t.name,WO]else if t.kind=9 then [q5i]else if t.kind=4 then Rs b.s.p t (caP b.s.p t) (caO b t)else []
structure CallOk(b:Book)(t:S):Prop where
 i0:0<=caI b.s.p t
 i1:(caI b.s.p t).toNat<b.s.p.A.length
 io:b.s.p.A.length<=b.N.length
 rise:(caO b t).Pairwise ltT
 len:(caO b t).length<=1000000
 args:t.args.length<=(caP b.s.p t).C.length
 al:t.args.length<=1000000
def AZ{b:Book}{t:S}(h:CallOk b t):SpecH prog 163 ([AV.ip b.cells,.agg t.cells].map .p) [] (OneRow (Gy (Rs b.s.p t (caP b.s.p t) (caO b t))) False):=by
 have i:=h.i1;have k:=h.io;refine Ul b t (caI b.s.p t).toNat (caP b.s.p t) (caO b t) ?_ ?_ ?_ h.rise h.len h.args h.al
 .rw [z0g h.i0];rfl
 .unfold caP;rw[x6h,x6k i];rfl
 .unfold caO;rw[x6h,x6k (by omega)];rfl
def Gn(b:Book)(t:S)(k:t.kind=4->CallOk b t):SpecH prog 95 [.p (.ip b.cells),.p (.agg t.cells)] [] (fun r H=>OneRow (Gy (PQ b t)) (PQ b t=[]) r H):=by
 refine sH Uj func95 rfl call95 ?_;conv=>whnf
 have l:=fun h=>AZ (k h);repeat' (first|((first|refine x6d rfl ?_|refine aD ?_|refine z1c (fun x i=>by rcases x6p.1 i with rfl;rfl) rfl ?_|refine z1c (fun x i=>by rcases x6m.1 i with rfl|i;rfl;rcases x6p.1 i with rfl;rfl) rfl ?_|(refine JA 0 rfl (l (by assumption)) (.cons (.p (Sub.refl _)) (.cons (.p (Sub.refl _)) .nil)) (fun h=>h.elim) ?_;rintro _ _ _ _ ⟨rfl,rfl,rfl⟩));conv=>whnf)|(apply bD<;>intro _<;>first|omega|conv=>whnf))
 .rw [show PQ b t=[t.name] by unfold PQ;rw[if_pos (by assumption)]];exact x8y _ (x6e _) (YW (L:=[t.name]) rfl)
 .rw [show PQ b t=[t.name,WO] by unfold PQ;rw[if_neg (by assumption),if_pos (by assumption)]];exact x8y _ (x6e _) (YW (L:=[t.name,WO]) rfl)
 .rw [show PQ b t=[q5i] by unfold PQ;rw[if_neg (by assumption),if_neg (by assumption),if_pos (by assumption)]];exact x8y _ (x6e _) (YW (L:=[q5i]) rfl)
 .rw [show PQ b t=Rs b.s.p t (caP b.s.p t) (caO b t) by unfold PQ;rw[if_neg (by assumption),if_neg (by assumption),if_neg (by assumption),if_pos (by assumption)]];exact x8y _ (x6e _) (YW (by rw[x6j]))
 .exact x8y _ (x6e _) (.inl ⟨rfl,rfl,by unfold PQ;rw[if_neg (by assumption),if_neg (by assumption),if_neg (by assumption),if_neg (by assumption)]⟩)
def outB(p:Pg)(f:Pr)(n:Str):Bool:=comB p n||decide ((⟨n,true⟩:Param)∈f.C)
def Xd(D:List (List Str))(id:Int):List Str:=D.getD (id-1).toNat []
def q9g(p:Pg)(i:Nat)(f:Pr)(D:List (List Str))(it:Item):List Str:=bif (QQ p i f).live.getD (ixI p i f it.s.id).toNat false then(Xd D it.s.id).filter (outB p f)else []
def R6(p:Pg)(i:Nat)(f:Pr)(D:List (List Str))(h:List Item):List Str:=h.flatMap (q9g p i f D)
def EE{p:Pg}{i:Nat}{f:Pr}{D:List (List Str)}{h:List Item}{k:Nat}(l:k<h.length):R6 p i f D (h.take (k+1))=R6 p i f D (h.take k)++q9g p i f D h[k]:=by
 unfold R6;rw[x7x l,z1g];simp
def Sg{p:Pg}{i:Nat}{f:Pr}{D:List (List Str)}(l:∀d∈D,d.length<=1000)(k:List Item):(R6 p i f D k).length<=k.length*1000:=by
 refine VM k fun it _=>?_;unfold q9g;cases(QQ p i f).live.getD (ixI p i f it.s.id).toNat false with
 |false=>exact x6t _
 | true=>
   refine x8s (z0z _ _) ?_;unfold Xd;rcases x6c (it.s.id-1).toNat D.length with h|h
   .rw [x6h,x6k h];exact l _ (x6o h)
   .rw [x6h,x7a h];exact x6t _
def Gm(b:Book)(p:Pg)(V:b.s=sheetOf p)(h:QS p=true)(i:Nat)(f:Pr)(F:p.A[i]?=some f)(hW:b.ways[i]?=some (QQ p i f))(hD:b.M.length=(sheetOf p).l.length)(T:∀d∈b.M,d.length<=1000):SpecH prog 96 [.p (.ip b.cells),.p (.int .i64 i)] [] (fun r H=>OneRow (Gy (R6 p i f b.M (itsOf p i f))) False r H):=by
 refine sH Uk func96 rfl call96 ?_;conv=>whnf
 obtain⟨P,_,_,U,hs⟩:=QY p;obtain⟨s1,s2,s3,Y⟩:=hs i f F;have hcn:=(XZ h).2.2;have J:=Xr (sheetOf p) i (QH p.A i) (QH p.A i+cntL f.body) s1 s2 (by omega) (by omega) (by omega);rw[Y]at J;have Q:itL (i:Nat) 0 (-1) 0 (QH p.A i) f.body=itsOf p i f:=rfl;rw[Q,<-V]at J;have E:b.s.p=p:=by rw[V,P]
 have e:=fun x=>DR b x;rw[E]at e;have K:(b.s.p.A.map fun f=>AV.agg f.cells)[i]?=some (.agg f.cells):=by rw[E,x6a,F];rfl
 have L:(b.ways.map fun w=>AV.ip w.cells)[i]?=some (.ip (QQ p i f).cells):=by rw[x6a,hW];rfl
 have hIl:((itsOf p i f).map fun i=>AV.agg i.cells).length=(itsOf p i f).length:=x6j _;have hil:(itsOf p i f).length<=200:=by
  have R:=x8m length Y;rw[Q,x9x,x7m]at R;omega
 have B:∀k,(R6 p i f b.M ((itsOf p i f).take k)).length<=200*1000:=fun k=>by
  have R:=Sg (p:=p) (i:=i) (f:=f) T ((itsOf p i f).take k);have h2:((itsOf p i f).take k).length*1000<=200*1000:=x8g _ (by rw[x7m];omega);omega
 repeat' ((first|(refine iM fun _=>?_)|refine x6d rfl ?_|(refine IdxK.at (k:=i) rfl K rfl ?_)|refine cP J ?_);conv=>whnf)
 refine LoopK.inv QW (fun k:Nat=>⟨[(0,.p (.ip b.cells)),(1,.p (.int .i64 i)),(5,.hd 0 0 (R6 p i f b.M ((itsOf p i f).take k)).length),(6,.p (.ip f.cells)),(27,.p (UH (itsOf p i f))),(28,.p (.int .i64 ((itsOf p i f).map fun i=>AV.agg i.cells).length)),(29,.p (.int .i64 k))],[(0,.own 9 1 ((R6 p i f b.M ((itsOf p i f).take k)).map .str))]⟩) (fun k=>k<=(itsOf p i f).length) (fun k=>(itsOf p i f).length-k) 0
  (Le.mk [(0,.own 9 1 [])] (by simp[Chunk.new0];rfl) (by simp) (by simp) (.r (.r (.cons (.nil x6g) (.r (.r (.r (.r .nil))))))) (.new x6g .nil)) (x6t _) ?_
 intro k hk;have hak:=B k;rcases x6c k (itsOf p i f).length with m|m;rotate_left 1
 .rw [x7w m];conv=>whnf
  repeat' (apply bD<;>intro _<;>first|omega|conv=>whnf)
  all_goals exact x8y _ (x6e _) (OneRow.str rfl)
 have t:=EE (p:=p) (i:=i) (f:=f) (D:=b.M) m;have hb:=WD (QJ h).1 F (JC (x6o m));have I:=Pj p i f h F (itsOf p i f)[k].s.id (.inr (.inr hb));have O:q9g p i f b.M (itsOf p i f)[k]=bif (QQ p i f).live.getD (ixI p i f (itsOf p i f)[k].s.id).toNat false then(Xd b.M (itsOf p i f)[k].s.id).filter (outB p f)else []:=rfl;have u:((itsOf p i f)[k].s.id-1).toNat<b.M.length:=by omega
 have N:(b.M.map eStrs)[((itsOf p i f)[k].s.id-1).toNat]?=some (eStrs (Xd b.M (itsOf p i f)[k].s.id)):=by
  unfold Xd;rw[x6a,x6h,x6k u];rfl
 have hDl:(Xd b.M (itsOf p i f)[k].s.id).length<=1000:=by
  unfold Xd;rw[x6h,x6k u];exact T _ (x6o u)
 generalize(QQ p i f).live.getD (ixI p i f (itsOf p i f)[k].s.id).toNat false=lv at*
 rw[O]at t;generalize Xd b.M (itsOf p i f)[k].s.id=D at*
 generalize R6 p i f b.M ((itsOf p i f).take k)=acc at*
 have hDm:(D.map AV.str).length=D.length:=x6j _;cases lv;all_goals
  conv=>whnf
  repeat' (first|((first|(refine iM fun _=>?_)|refine dA ?_|refine x6d rfl ?_|(refine iA fun _=>?_)|refine wI ?_|(refine IdxK.at (k:=i) rfl L rfl ?_)|refine cP I ?_|(refine IdxK.at (k:=((itsOf p i f)[k].s.id-1).toNat) (by omega) N rfl ?_));conv=>whnf)|(apply bD<;>intro _<;>first|omega|conv=>whnf)|(apply bN<;>intro _<;>conv=>whnf))
 all_goals first
  |contradiction
  |exact⟨k+1,m,by omega,Le.of_eq (by rw[t,x7k,x8x];rfl)⟩
  |skip
 all_goals
  rw[x7z]at t;refine LoopK.inv QW (fun x:Nat×List Str=>⟨[(0,.p (.ip b.cells)),(1,.p (.int .i64 i)),(5,.hd 0 0 x.2.length),(6,.p (.ip f.cells)),(27,.p (UH (itsOf p i f))),(28,.p (.int .i64 ((itsOf p i f).map fun i=>AV.agg i.cells).length)),(29,.p (.int .i64 k)),(54,.p (eStrs D)),(55,.p (.int .i64 (D.map AV.str).length)),(56,.p (.int .i64 x.1))],[(0,.own 9 1 (x.2.map .str))]⟩) (fun x=>x.1<=D.length/\x.2=acc++(D.take x.1).filter (outB p f)/\x.2.length<=acc.length+x.1) (fun x=>D.length-x.1) (0,acc) (Le.of_eq rfl) ⟨x6t _,by simp,by simp⟩ ?_;rintro⟨q,o⟩ ⟨Z,y,h6⟩;simp only at Z y h6⊢;rcases x6c q D.length with z|z
  .have v:=x7x z;have G:=e D[q];have g:=VN f.C ⟨D[q],true⟩;have n:outB p f D[q]=(comB p D[q]||decide ((⟨D[q],true⟩:Param)∈f.C)):=rfl;generalize hdc:decide ((⟨D[q],true⟩:Param)∈f.C)=dc at g n;conv=>whnf
   repeat' (first|((first|refine x6d rfl ?_|refine aD ?_|refine bP ?_|(refine iA fun _=>?_)|refine wI ?_|refine cP G ?_|(refine CallK.pure g (.cons (Sub.refl _) (.cons (Sub.agg (.cons (Sub.refl _) (.cons (Sub.tt rfl) .nil))) .nil)) ?_;rintro _ rfl)|refine QP (by simp) (by rw[x6j];omega) ?_);conv=>whnf)|(apply bD<;>intro _<;>first|omega|conv=>whnf)|(apply bB<;>intro _<;>conv=>whnf))
   all_goals first
    | (have c:outB p f D[q]=true:=by rw[n,show comB p D[q]=true by assumption];rfl
       exact⟨(q+1,o++[D[q]]),⟨z,by simp only;rw[v,x9t,x9j c,y,x7n];rfl,by simp;omega⟩,by simp only;omega,Le.of_eq (by simp only[x6f,x6l];rfl)⟩)
    | (have c:outB p f D[q]=true:=by rw[n,show dc=true by assumption,Bool.or_true]
       exact⟨(q+1,o++[D[q]]),⟨z,by simp only;rw[v,x9t,x9j c,y,x7n];rfl,by simp;omega⟩,by simp only;omega,Le.of_eq (by simp only[x6f,x6l];rfl)⟩)
    | (have c:outB p f D[q]=false:=by rw[n,show comB p D[q]=false by assumption,show dc=false by assumption];rfl
       exact⟨(q+1,o),⟨z,by simp only;rw[v,x9t,x9f (by rw[c];decide),y];simp,by simp only;omega⟩,by simp only;omega,Le.of_eq rfl⟩)
  .rw [x7w z,<-t]at y;subst y;conv=>whnf
   repeat' (first|(refine wI ?_;conv=>whnf)|(apply bD<;>intro _<;>first|omega|conv=>whnf))
   all_goals exact⟨k+1,m,by omega,Le.of_eq rfl⟩
def EH(x:X):SpecH prog 167 ([AV.agg x.cells].map .p) [] (OneRow (Gy (XW x)) (XW x=[])):=by
 refine sH Vt func167 rfl call167 ?_;conv=>whnf
 repeat' (first|(refine cP (GY _) ?_;conv=>whnf)|(apply bN<;>intro _<;>conv=>whnf))
 .refine CallK.nil 5 9 1 rfl (.cons rfl (.row .nil)) ?_;refine CallK.heap [(2000,5)] 0 (by repeat' (first|exact x7h|refine x6i ?_ ?_|exact x6e _|exact x7q Sub.nils|exact x7q (Sub.tt rfl)|exact x7q (Sub.ff rfl)|exact x7q (Sub.int (by omega)))) (by refine x6y (j:=5) rfl rfl ?_ ?_;exact CSub.refl _;exact x7f) (G0 20 (by omega) x (by assumption) [] (by simp)) rfl rfl ?_;rintro l' H' ⟨rfl,rfl⟩;conv=>whnf
  have e:XW x=Gv x []:=by
   unfold XW;rw[show R5 x=true by assumption];rfl
  rw[e];exact x8y _ (x6e _) (FP rfl)
 .have e:XW x=[]:=by
   unfold XW;rw[show R5 x=false by assumption];rfl
  exact x8y _ (x6e _) (.inl ⟨rfl,rfl,e⟩)
def usA(a:Arg):List Str:=(if a.ref=true then [a.name]else [])++XW a.x
def inAt(b:Book)(t:S):List Str:=b.ins.getD (caI b.s.p t).toNat []
def O2(t:S):List Str:=XW t.x++(if t.kind=2 then [WO]else [])
def Vh(b:Book)(t:S):List Str:=if t.kind=4 then O2 t++t.args.flatMap usA++inAt b t else O2 t
def IH(a:Arg):(usA a).length<=1048577:=by
 have:=WU a.x;unfold usA;rw[x6f];split<;>simp<;>omega
def SG(t:S):(O2 t).length<=1048577:=by
 have:=WU t.x;unfold O2;rw[x6f];split<;>simp<;>omega
def A7(t:S)(j:Nat):List Str:=O2 t++(t.args.take j).flatMap usA
def O6(t:S)(l:t.args.length<=21000):(A7 t j).length<=23000000000:=by
 have h:=SG t;have i:=FC IH (t.args.take j);have k:(t.args.take j).length*1048577<=21000*1048577:=x8g _ (by simp;omega);unfold A7;simp only[x6f];omega
def Ap{t:S}(h:j<t.args.length):A7 t (j+1)=A7 t j++usA t.args[j]:=by
 unfold A7;rw[x7x h,z1g,x7n];simp
theorem OneRow.es{L:List Str}{es:List AV}{n:Nat}{nil:Prop}(i:es=L.map .str)(h:n=L.length):OneRow (Gy L) nil (.hd 0 0 n) [(0,.own 9 1 es)]:=by
 subst i;exact YW h
structure UseOk(b:Book)(t:S):Prop where
 i0:0<=caI b.s.p t
 ii:(caI b.s.p t).toNat<b.ins.length
 al:t.args.length<=21000
 len:(inAt b t).length<=1000000
def Gl(b:Book)(t:S)(d:t.kind=4->UseOk b t):SpecH prog 98 [.p (.ip b.cells),.p (.agg t.cells)] [] (fun r H=>OneRow (Gy (Vh b t)) (Vh b t=[]) r H):=by
 refine sH Ug func98 rfl call98 ?_;conv=>whnf
 have B:=EH t.x;have z:=DL b t;have g:idxF (fun f=>f.name==t.D) b.s.p.A=caI b.s.p t:=rfl;rw[g]at z;have I:=WU t.x;conv=>whnf
 refine JA 0 rfl B (.cons (.p (Sub.refl _)) .nil) (fun l=>?_) (fun q e sz es C=>?_);rotate_left;obtain⟨rfl,rfl,rfl⟩:=C
 rotate_right
 all_goals
  conv=>whnf
  repeat' (first|((first|(refine iM fun _=>?_)|refine x6d rfl ?_|refine aD ?_|refine bP ?_|refine QP (es:=[]) rfl (by simp) ?_|refine QP (by simp) (by simp;omega) ?_);conv=>whnf)|(apply bD<;>intro _<;>first|omega|conv=>whnf)|(apply bE<;>intro _<;>first|omega|conv=>whnf))
 .have e:Vh b t=[WO]:=by unfold Vh O2;rw[if_neg (by assumption),if_pos (by assumption),l];rfl
  rw[e];exact x8y _ (x6e _) (YW (L:=[WO]) rfl)
 rotate_left
 .have e:Vh b t=[]:=by unfold Vh O2;rw[if_neg (by assumption),if_neg (by assumption),l];rfl
  exact x8y _ (x6e _) (.inl ⟨rfl,rfl,e⟩)
 .have e:Vh b t=XW t.x++[WO]:=by unfold Vh O2;rw[if_neg (by assumption),if_pos (by assumption)]
  rw[e];exact x8y _ (x6e _) (OneRow.es (by rw[x6l];rfl) (by simp))
 rotate_left
 .have e:Vh b t=XW t.x:=by unfold Vh O2;rw[if_neg (by assumption),if_neg (by assumption),x8x]
  rw[e];exact x8y _ (x6e _) (OneRow.es rfl (by simp))
 all_goals
  have n:t.kind=4:=by assumption
  have u:=d n;have y:A7 t 0=XW t.x:=by unfold A7 O2;rw[if_neg (by omega),z0t,List.flatMap_nil,x8x,x8x]
  have K:(t.args.map fun a=>AV.agg a.cells).length=t.args.length:=x6j _;have E:(b.ins.map eStrs)[(caI b.s.p t).toNat]?=some (eStrs (inAt b t)):=by
   unfold inAt;rw[x6a,x6h,x6k u.ii];rfl
  have hi0:=u.i0;have F:=u.len;have v:=u.al;refine LoopK.inv QW (fun j:Nat=>⟨[(0,.p (.ip b.cells)),(3,.p (.ip t.cells)),(5,.hd 0 0 (A7 t j).length),(22,.p (.sl (t.args.map fun a=>.agg a.cells))),(23,.p (.int .i64 (t.args.map fun a=>AV.agg a.cells).length)),(24,.p (.int .i64 j))],[(0,.own 9 1 ((A7 t j).map .str))]⟩) (fun j=>j<=t.args.length) (fun j=>t.args.length-j) 0 ?_ (x6t _) ?_
  .first
    | (rw[y,l]
       exact Le.mk [(0,.own 9 1 [])] (by simp[Chunk.new0];rfl) (by simp) (by simp) (.r (.r (.cons (.nil x6g) (.r (.r (.r .nil)))))) (.new x6g .nil))
    | (rw[y]
       exact Le.of_eq (by rw[x6j];rfl))
  intro j J;have c:=O6 t (j:=j) v;have m:t.args.length<=j->Vh b t=A7 t j++inAt b t:=fun h=>by
   unfold Vh A7;rw[if_pos n,x7w h]
  have o:=fun h=>Ap (t:=t) (j:=j) h;generalize A7 t j=acc at*
  rcases x6c j t.args.length with i|i
  .have G:=WU t.args[j].x;conv=>whnf
   repeat' (first|((first|refine cP (Vk _) ?_|refine x6d rfl ?_|refine aD ?_|refine bP ?_|(refine iA fun _=>?_)|refine wI ?_|refine ZS _ (by simp) (by simp;omega) ?_|refine QP (by simp) (by simp;omega) ?_);conv=>whnf)|(apply bD<;>intro _<;>first|omega|conv=>whnf)|(apply bB<;>intro _<;>conv=>whnf))
   all_goals
    refine⟨j+1,i,by omega,Le.of_eq ?_⟩;first
     | (have w:usA t.args[j]=[t.args[j].name]++XW t.args[j].x:=by rw[usA,if_pos (by assumption)]
        rw[o i,w];simp only[x6f,x6l,x6j,<-x7n,<-x9k];rfl)
     | (have w:usA t.args[j]=XW t.args[j].x:=by rw[usA,if_neg (by rw[show t.args[j].ref=false by assumption];decide)];rfl
        rw[o i,w];simp only[x6f,x6l,x6j];rfl)
  .rw [m i];conv=>whnf
   repeat' (first|((first|refine dA ?_|refine aD ?_|refine cP z ?_|(refine IdxK.at (k:=(caI b.s.p t).toNat) (by omega) E rfl ?_)|refine ZS _ (by simp) (by simp;omega) ?_);conv=>whnf)|(apply bD<;>intro _<;>first|omega|conv=>whnf))
   all_goals exact x8y _ (x6e _) (OneRow.es (by rw[x6l]) (by simp))
def GC(w:Way)(f:Pr):List (Int×Int):=(BO w f).map (ixP w.p w.j f w.n)
def Td(w:Way)(f:Pr)(n:Nat)(h:WayT w f n)(E:∀t∈GC w f,(0<=t.1/\t.1<n)/\0<=t.2/\t.2<n)(l:(BO w f).length<=1000000):SpecP prog 169 [.ip w.cells] (fun r=>r=Gz (Z5 n (GC w f))):=by
 refine sB Dj func169 rfl call169 ?_;conv=>whnf
 have G:=h.hw;have D:=h.hn;have C:=h.hn2;have A:=Li w f n h;have e:=DD w f h.hj h.hc (by omega) (BO w f) l;have F:(avP (GC w f)).length=(GC w f).length:=by unfold avP;rw[x6j]
 have g:(GC w f).length<=1000000:=by unfold GC;rw[x6j];exact l
 have z:(BO w f).map (ixP w.p w.j f w.n)=GC w f:=rfl;rw[z]at e;repeat' ((first|(refine iM fun _=>?_)|refine aR ?_|refine MkK.mk n (by omega) (by show 24*_<=140737488355328;omega) (by unfold maxLen;omega) ?_|refine cP A ?_|refine cP e ?_);conv=>whnf)
 refine LoopK.inv QW (fun j:Nat=>⟨[(3,.hd 0 0 n),(14,.p (.sl (avP (GC w f)))),(15,.p (.int .i64 (avP (GC w f)).length)),(16,.p (.int .i64 j))],[(0,.ext (.mat 54 3 1 (avI (Z5 n ((GC w f).take j))) []))]⟩) (fun j=>j<=(GC w f).length) (fun j=>(GC w f).length-j) 0
  (by
    refine Le.trans (EY n rfl) ?_;exact Le.mk [] (by simp) (by simp) (by simp) (.r (.r (.r (.r .nil)))) (.cons rfl (.of_eq (by simp[avI,Z5])) .nil)) (x6t _) ?_
 intro j M;rcases x6c j (GC w f).length with u|u
 .have q:(avP (GC w f))[j]?=some (.agg [.int .i64 (GC w f)[j].1,.int .i64 (GC w f)[j].2]):=by simp[avP,u]
  obtain⟨⟨I,J⟩,K,L⟩:=E _ (x6o u);have s:Z5 n ((GC w f).take (j+1))=nxE (Z5 n ((GC w f).take j)) (GC w f)[j]:=by
   unfold Z5;rw[x7x u,List.foldl_append];rfl
  have d:=Kx n ((GC w f).take j);have i:=L1 n ((GC w f).take j) (GC w f)[j].1.toNat;generalize(GC w f)[j]=t at q I J K L s i;generalize Z5 n ((GC w f).take j)=rows at s d i⊢;obtain⟨a,b⟩ : ∃a:Nat,t.1=a:=⟨t.1.toNat,by omega⟩;have o:a<rows.length:=by omega
  have m:(avI rows)[a]?=some (rows[a].map (.int .i64)):=by unfold avI;rw[x6a,x6k o];rfl
  have v:(avI rows).set a (rows[a].map (.int .i64)++[.int .i64 t.2])=avI (nxE rows t):=by
   unfold nxE avI;rw[b,z0d,x6h,x6k o,x9h,x9w,x6l];rfl
  have B:rows[a].length<=1000000:=by
   rw[b,z0d,x6h,x6k o,x9h,x7m]at i;omega
  rw[b]at q;conv=>whnf
  repeat' (first|((first|refine x6d rfl ?_|refine aD ?_|refine wI ?_|refine DrawK.of QW mixed (.cons 0 false (.cons 1 false (.cons 2 false (.cons 3 false (.cons 4 false (.cons 5 false (.cons 6 false (.cons 8 false (.cons 9 false (.alo 7 (.cons 10 true (.cons 11 true (.cons 12 true (.cons 13 true .nil)))))))))))))) (by kernel_rfl) ?_|(refine IdxK.at (k:=j) rfl q rfl ?_)|refine x8q 0 rfl (by decide) ?_|refine x8q 1 rfl (by decide) ?_|refine x8q a rfl (by omega) ?_|refine RowK.mk a _ (by omega) m (by simp) ?_|refine z1c (fun x H=>by rcases x6p.1 H with rfl;rfl) rfl ?_|refine OpK.focus QW 27 0 a 2 rfl rfl m (by simp) rfl rfl ?_|refine WZ rfl (by rw[x6j];omega) ?_|(refine Yi QW rfl rfl rfl rfl rfl rfl rfl rfl rfl (by decide) a [] (by omega) (by unfold avI;rw[x6j];omega) (by simp) ⟨by simp,by simp,by simp⟩ ?_));conv=>whnf)|(apply bD<;>intro _<;>first|omega|conv=>whnf))
  all_goals exact⟨j+1,u,by omega,Le.of_eq (by rw[s,<-v];rfl)⟩
 .have c:(GC w f).take j=GC w f:=x7w u;rw[c];have y:=Kx n (GC w f);conv=>whnf
  repeat' (apply bD<;>intro _<;>first|omega|conv=>whnf)
  exact⟨_,.mat rfl (by unfold avI;rw[x6j,y]),rfl⟩
section
variable {p:Pg}{j:Nat}{f:Pr}
def dR(p:Pg)(j:Nat)(f:Pr):Int->Int->Prop:=stR (BO (QQ p j f) f)
def q7l(h:QS p=true)(k:p.A[j]?=some f){b:Int}:dR p j f a b↔wR p j f a b\/∃l∈trapsW (QQ p j f) f,∃t∈flL f.body,t.id∈l/\t.kind=10/\a=t.id/\b = -1:=by
 constructor
 .rintro ⟨s,q,rfl,rfl⟩;rcases x6s.1 ((PD (De h k)).2.1 s q)with m|m
  .obtain ⟨l,o,t,r,i,n,rfl⟩:=(Zd h k).1 m;exact .inr ⟨l,o,t,r,i,n,rfl,rfl⟩
  .exact .inl ⟨s,m,rfl,rfl⟩
 .rintro (⟨s,q,rfl,rfl⟩|⟨l,o,t,r,i,n,rfl,rfl⟩)
  .exact AD h k (x6s.2 (.inr q))
  .exact AD h k (s:=⟨t.id,-1,3⟩) (x6s.2 (.inl ((Zd h k).2 ⟨l,o,t,r,i,n,rfl⟩)))
def x1q(h:QS p=true)(i:p.A[j]?=some f){b:Int}(m:dR p j f a b):plP p j f a/\plP p j f b:=by
 have l:x0y p j f a b:=by
  rcases(q7l h i).1 m with k|k
  .exact (Af h i).2 (.inl k)
  .exact (Af h i).2 (.inr (.inr (.inl k)))
 exact⟨(q7j h i l).1,(q7j h i l).2.1⟩
def PM(h:QS p=true)(l:p.A[j]?=some f):∀t∈GC (QQ p j f) f,(0<=t.1/\t.1<(cntL f.body+2:Nat))/\0<=t.2/\t.2<(cntL f.body+2:Nat):=fun t n=>by
 obtain⟨s,m,rfl⟩:=x6r.1 n;obtain⟨i,k⟩:=x1q h l ⟨s,m,rfl,rfl⟩;exact⟨HN i,HN k⟩
end

def GN:List RI->Int->Int×Bool
 |[],_=>(0,false)
 |x::r,i=>if i=0 then(0,false)else if x.s.id=i then(if x.s.kind=6 then(i,true)else GN r x.inn)else GN r i
def R4:List RI->Int->Int×Bool
 |[],_=>(0,false)
 |x::r,id=>if x.s.id=id then(if(GN r x.inn).2 then GN r x.inn else R4 r id)else R4 r id
def C9{l:List RI}{n:Nat}(h:n<l.length)(i:Int):GN (l.take (n+1)).reverse i=if i=0 then(0,false)else if l[n].s.id=i then(if l[n].s.kind=6 then(i,true)else GN (l.take n).reverse l[n].inn)else GN (l.take n).reverse i:=by
 rw[x7x h,List.reverse_append];show GN (l[n]::(l.take n).reverse) i=_;rw[GN]
def Ng{l:List RI}{n:Nat}(h:n<l.length)(i:Int):R4 (l.take (n+1)).reverse i=if l[n].s.id=i then(if(GN (l.take n).reverse l[n].inn).2 then GN (l.take n).reverse l[n].inn else R4 (l.take n).reverse i)else R4 (l.take n).reverse i:=by
 rw[x7x h,List.reverse_append];show R4 (l[n]::(l.take n).reverse) i=_;rw[R4]
def Cq:∀(l:List RI),GN l 0=(0,false)
 |[]=>rfl
 |x::r=>by rw[GN,if_pos rfl]
theorem Hx:∀(l r:List RI){i:Int},i≠0->(∀x∈l,x.s.id≠i)->GN (l++r) i=GN r i
 |[],_,_,_,_=>rfl
 |x::l,r,i,h0,h=>by rw[z0a,GN,if_neg h0,if_neg (h x x6g),Hx l r h0 fun y k=>h y (x6b _ k)]
mutual
theorem x5q(D d i:Int)(e:Bool):∀(t:S){nest m:Int}(nx lp:Int)(n:Nat),Ge nest n t=some m->(itS D i nx lp n t).map (fun it=>(it.s,it.up))=(fuS d i e t).map fun x=>(x.s,x.inn)
 | .mk id kind F name pr x has args I L,nest,m,nx,lp,n,h=>by
   obtain⟨_,hid,m1,h3,h4⟩:=HA h;have hid:id=(n:Int)+1:=hid;have hm1:=YM _ _ I h3;have h3':UT (nest+1) ((n+1:Nat):Int) I=some m1:=by rw[<-h3];rfl
   have h4':UT (nest+1) ((n+1+cntL I:Nat):Int) L=some m:=by
    rw[<-h4,hm1];congr 1
   rw[itS,fuS,x7l,x7l,x6l,x6l,<-hid,x0b D (d+1) id false I _ _ _ h3',x0b D (d+1) id true L _ _ _ h4']
theorem x0b(D d i:Int)(e:Bool):∀(l:List S){nest m:Int}(nx lp:Int)(n:Nat),UT nest n l=some m->(itL D i nx lp n l).map (fun it=>(it.s,it.up))=(fuL d i e l).map fun x=>(x.s,x.inn)
 |[],_,_,_,_,_,_=>by rw[itL,fuL];rfl
 | t::r,nest,m,nx,lp,n,h=>by
   obtain⟨_,m1,h1,h2⟩:=KQ h;have hm1:=Yj _ _ t h1;have h2':UT nest ((n+XT t:Nat):Int) r=some m:=by rw[<-h2,hm1];rfl
   rw[itL,fuL,x6l,x6l,x5q D d i e t _ _ _ h1,x0b D d i e r _ _ _ h2']
end

mutual
theorem lpS(D:Int):∀(t:S){nest m:Int}(up nx lp:Int)(n:Nat),Ge nest n t=some m->∀it∈itS D up nx lp n t,(it.up=up/\it.loop=lp)\/∃iu∈itS D up nx lp n t,iu.s.id=it.up/\iu.s.id<it.s.id/\it.loop=if iu.s.kind=6 then iu.s.id else iu.loop
 | .mk id kind F name pr x has args I L,nest,m,up,nx,lp,n,h,it,hi=>by
   obtain⟨_,hid,m1,h3,h4⟩:=HA h;have hid:id=(n:Int)+1:=hid;have hm1:=YM _ _ I h3;have h3':UT (nest+1) ((n+1:Nat):Int) I=some m1:=by rw[<-h3];rfl
   have h4':UT (nest+1) ((n+1+cntL I:Nat):Int) L=some m:=by
    rw[<-h4,hm1];congr 1
   rw[itS]at hi⊢;rcases x6m.1 hi with rfl|hi
   ·exact .inl ⟨rfl,rfl⟩
   rcases x6s.1 hi with hi|hi
   ·have hr:=Ep h3' hi;rcases lpL D I _ _ _ (n+1) h3' it hi with⟨h5,h6⟩|⟨iu,h5,h6⟩
    ·refine .inr ⟨_,x6g,?_,?_,?_⟩
     ·rw[h5];exact hid
     ·show id<_;omega
     ·rw[h6];show(if kind=6 then(n:Int)+1 else lp)=if kind=6 then id else lp;rw[hid]
    ·exact .inr ⟨iu,x6b _ (x6s.2 (.inl h5)),h6⟩
   ·have hr:=Ep h4' hi;rcases lpL D L _ _ _ (n+1+cntL I) h4' it hi with⟨h5,h6⟩|⟨iu,h5,h6⟩
    ·refine .inr ⟨_,x6g,?_,?_,?_⟩
     ·rw[h5];exact hid
     ·show id<_;omega
     ·rw[h6];show(if kind=6 then(n:Int)+1 else lp)=if kind=6 then id else lp;rw[hid]
    ·exact .inr ⟨iu,x6b _ (x6s.2 (.inr h5)),h6⟩
theorem lpL(D:Int):∀(l:List S){nest m:Int}(up nx lp:Int)(n:Nat),UT nest n l=some m->∀it∈itL D up nx lp n l,(it.up=up/\it.loop=lp)\/∃iu∈itL D up nx lp n l,iu.s.id=it.up/\iu.s.id<it.s.id/\it.loop=if iu.s.kind=6 then iu.s.id else iu.loop
 |[],nest,m,up,nx,lp,n,h,it,hi=>by rw[itL]at hi;cases hi
 | t::r,nest,m,up,nx,lp,n,h,it,hi=>by
   obtain⟨_,m1,h1,h2⟩:=KQ h;have hm1:=Yj _ _ t h1;have h2':UT nest ((n+XT t:Nat):Int) r=some m:=by rw[<-h2,hm1];rfl
   rw[itL]at hi⊢;rcases x6s.1 hi with hi|hi
   ·rcases lpS D t up _ lp n h1 it hi with h5|⟨iu,h5,h6⟩
    ·exact .inl h5
    ·exact .inr ⟨iu,x6s.2 (.inl h5),h6⟩
   ·rcases lpL D r up nx lp (n+XT t) h2' it hi with h5|⟨iu,h5,h6⟩
    ·exact .inl h5
    ·exact .inr ⟨iu,x6s.2 (.inr h5),h6⟩
end
section
variable {p:Pg}{j:Nat}{f:Pr}
def Oc(h:YH p=true)(i:p.A[j]?=some f):(flatU f).map (fun x=>x.s.id)=JK (QH p.A j) (cntL f.body):=by
 obtain⟨m,k⟩:=RC h i;rw[<-DY 1 f.body k];have:=Wb 1 0 false f.body;rw[<-this,z1s];rfl
def Oa{t:S}(h:t∈flL f.body):∃x∈flatU f,x.s=t:=by
 rw[<-show(flatU f).map RI.s=flL f.body from Wb 1 0 false f.body]at h;exact x6r.1 h
def RJ(h:YH p=true)(E:p.A[j]?=some f){it:Item}(c:it∈itsOf p j f):R4 (flatU f).reverse it.s.id=(it.loop,decide (it.loop≠0)):=by
 obtain⟨m,V⟩:=RC h E;have i:=x0b (j:Nat) 1 0 false f.body (-1) 0 (QH p.A j) V;have d:=Oc h E;have e:=fun it c=>lpL (j:Nat) f.body 0 (-1) 0 (QH p.A j) V it c;have hib:=fun it (c:it∈itsOf p j f)=>WD h E (JC c);have T:=fun a (ha:a∈itsOf p j f) b (hb:b∈itsOf p j f) H=>Em h E ha hb H;have Y:itL (j:Nat) 0 (-1) 0 (QH p.A j) f.body=itsOf p j f:=rfl;have N:fuL 1 0 false f.body=flatU f:=rfl;rw[Y]at i e;rw[N]at i;have U:(itsOf p j f).length=(flatU f).length:=by simpa using x8m length i
 have u:∀(k:Nat)(r:k<(flatU f).length),((itsOf p j f)[k]'(by omega)).s=(flatU f)[k].s/\((itsOf p j f)[k]'(by omega)).up=(flatU f)[k].inn:=fun k r=>by
  have y:=x8m (fun l=>l[k]?) i;simp only[x6a,x6k r,x6k (show k<(itsOf p j f).length by omega),x9m]at y;have P:=x8l y;exact⟨x8m Prod.fst P,x8m Prod.snd P⟩
 have o:∀(k:Nat)(r:k<(flatU f).length),(flatU f)[k].s.id=(QH p.A j:Int)+1+k:=fun k r=>by
  have y:=x8m (fun l=>l[k]?) d;have I:k<cntL f.body:=by have:=DX 1 0 false f.body;rw[N]at this;omega
  unfold JK at y;simp only[x6a,x6k r,x9m,z0m I]at y;have:=x8l y;omega
 have key:∀(k:Nat)(r:k<(flatU f).length),GN ((flatU f).take k).reverse (flatU f)[k].inn=(((itsOf p j f)[k]'(by omega)).loop,decide (((itsOf p j f)[k]'(by omega)).loop≠0)):=fun k=>by
  induction k using Nat.strongRecOn with
  | _ k L=>
    intro r;obtain⟨F,w⟩:=u k r;have J:=o k r;rcases e _ (x6o (show k<(itsOf p j f).length by omega))with⟨G,v⟩|⟨iu,G,v,Q,Z⟩
    .rw [<-w,G,v,Cq];rfl
    .obtain ⟨q,hq,rfl⟩:=x8v.1 G;obtain⟨M,b2⟩:=u q (by omega);have hqi:=o q (by omega);rw[F]at Q;rw[M]at v Q;have K:q<k:=by omega
     have C:(flatU f).take k=(flatU f).take q++(flatU f)[q]::((flatU f).take k).drop (q+1):=by
      have R:((flatU f).take k).take q++((flatU f).take k).drop q=(flatU f).take k:=z1b q _;rw[List.take_take,Nat.min_eq_left (by omega),x7t (by rw[x7m];omega),List.getElem_take]at R;exact R.symm
     have hi0:(flatU f)[k].inn≠0:=by rw[<-w,<-v];omega
     have B:((flatU f).take k).reverse=(((flatU f).take k).drop (q+1)).reverse++(flatU f)[q]::((flatU f).take q).reverse:=by
      rw[C];have:((flatU f).take q++(flatU f)[q]::((flatU f).take k).drop (q+1)).drop (q+1)=((flatU f).take k).drop (q+1):=by rw[<-C]
      rw[this,List.reverse_append,List.reverse_cons,x7n];rfl
     rw[B,Hx _ _ hi0 (fun x hx=>by
      obtain⟨z,hz,rfl⟩:=x8v.1 (List.mem_reverse.1 hx);rw[x9x,x7m]at hz;rw[List.getElem_drop,List.getElem_take,o _ (by omega),<-w,<-v];omega)]
     rw[GN,if_neg hi0,if_pos (by rw[<-w,<-v])];rw[Z,M];split
     .rename_i hk6;rw[<-w,<-v,x8r (by omega)]
     .exact L q K (by omega)
 obtain⟨k,r,rfl⟩:=x8v.1 c;have t:k<(flatU f).length:=by omega
 obtain⟨F,w⟩:=u k t;have D:∀(n:Nat),n<=(flatU f).length->R4 ((flatU f).take n).reverse (flatU f)[k].s.id=if k<n then(((itsOf p j f)[k]'(by omega)).loop,decide (((itsOf p j f)[k]'(by omega)).loop≠0))else(0,false):=fun n=>by
  induction n with
  |zero=>intro _;rfl
  | succ n L=>
    intro hn;rw[Ng (show n<(flatU f).length by omega),L (by omega)];have J:=o k t;have hni:=o n (by omega);by_cases H:n=k
    .subst H;rw[if_pos rfl,key n t,if_neg (Nat.lt_irrefl n),if_pos (Nat.lt_succ_self n)];by_cases O:((itsOf p j f)[n]'(by omega)).loop=0
     .rw [O];rfl
     .rw [x8r O,if_pos rfl]
    .rw [if_neg (show ¬(flatU f)[n].s.id=(flatU f)[k].s.id by omega)];by_cases g:k<n
     .rw [if_pos g,if_pos (show k<n+1 by omega)]
     .rw [if_neg g,if_neg (show ¬k<n+1 by omega)]
 have:=D (flatU f).length (x7u _);rw[z1z,if_pos t]at this;rw[F];exact this
end
end Go.Ab
