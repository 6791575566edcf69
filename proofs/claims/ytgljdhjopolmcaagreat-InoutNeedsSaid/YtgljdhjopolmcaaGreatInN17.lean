/- slices.BinarySearch, slices.Equal, slices.Clone at strings; give.Has. -/
import Derived.Test.YtgljdhjopolmcaaGreatInN16
set_option linter.all false
set_option maxRecDepth 100000
set_option maxHeartbeats 16000000
open List (length)
namespace Go.Ab
open Go.Proofs.Tryz
open Go.Proofs
variable {a:Int}{j:Nat}
def WR(l m:List Str):aP 72 [eStrs l,eStrs m] (.bool (decide (l=m))):=by
 refine sC JG func72 ?_;conv=>whnf
 have w:(l.map AV.str).length=l.length:=x8b _;have x:(m.map AV.str).length=m.length:=x8b _;repeat' ((first|(refine iM fun _=>?_)|(apply bE<;>intro _<;>try omega))<;>conv=>whnf)
 all_goals first
  |exact RetK.ff (z0s fun h=>by subst h;omega)
  |skip
 have u:l.length=m.length:=by omega
 refine lI (fun j:Nat=>⟨[(0,.p (eStrs l)),(1,.p (eStrs m)),(12,.p (.int .i64 (l.map AV.str).length)),(13,.j j)],[]⟩) (fun j=>j<=l.length/\l.take j=m.take j) (fun j=>l.length-j) 0 ⟨x8i _,rfl⟩ ?_;rintro j ⟨y,k⟩;rcases x8o j l.length with i|i
 .have q:j<m.length:=by omega
  have t:l[j]=m[j]->l.take (j+1)=m.take (j+1):=fun o=>by rw[x9v i,x9v q,k,o]
  have s:l[j]≠m[j]->¬l=m:=fun r o=>r (by subst o;rfl);conv=>whnf
  repeat' ((first|refine dA ?_|(refine gX ?_;intros)|((first|apply bD|apply bN)<;>intro _<;>try omega))<;>conv=>whnf)
  all_goals first
   | (have n:l[j]=m[j]:=eq_of_beq (by assumption)
      exact nX (j+1) ⟨i,t n⟩)
   | (have n:¬l[j]=m[j]:=by
       have v:(l[j]==m[j])=false:=by assumption
       simpa using v
      exact RetK.ff (z0s (s n)))
 .rw [x9u i,x9u (by omega)]at k;conv=>whnf
  repeat' (apply bD<;>intro _<;>first|omega|conv=>whnf)
  all_goals exact RetK.tt (z0r k)
def V7(a:Str):aP 164 [.str a] (.bool false):=by
 refine sC LS func164 ?_;conv=>whnf
 skip
 all_goals exact RetK.bool (by simp)
def LJ(a:Str):aP 212 [.str a] (.bool false):=by
 refine sC BD func212 ?_;conv=>whnf
 skip
 all_goals exact RetK.bool (by simp)
def Yu(a b:Str):aP 211 [.str a,.str b] (.bool (Op.bytesLess a b)):=by
 refine sC Xd func211 ?_;conv=>whnf
 repeat' ((first|refine cP (V7 a) ?_|(apply bB<;>intro _))<;>conv=>whnf)
 all_goals first
  |contradiction
  |exact RetK.p rfl
def UJ(l:List Str)(x:Str)(K:l.Pairwise ltT)(G:l.length<=1000000000):SpecP prog 160 [eStrs l,.str x] (fun r=>∃k:Int,r=.tup [.int .i64 k,.bool (inS l x)]):=by
 refine sC VJ func160 ?_;conv=>whnf
 have C:(l.map AV.str).length=l.length:=x8b _;repeat' ((refine iM fun _=>?_)<;>conv=>whnf)
 refine lJ (fun y:Nat×Nat=>⟨[(0,.p (eStrs l)),(1,.p (.str x)),(6,.p (.int .i64 (l.map AV.str).length)),(7,.j y.1),(8,.j y.2)],[]⟩) (fun y=>y.1<=y.2/\y.2<=l.length/\(∀(k:Nat)(h:k<l.length),k<y.1->ltT l[k] x)/\∀(k:Nat)(h:k<l.length),y.2<=k->¬ltT l[k] x) (fun y=>y.2-y.1) (0,l.length) (Le.of_eq (by rw[C];rfl)) ⟨x8i _,x9h _,fun k h w=>by simp only at w;omega,fun k h w=>by simp only at w;omega⟩ ?_;rintro⟨i,j⟩ ⟨w,D,d,g⟩;simp only at w D d g⊢;have v:∀(a b:Nat)(ha:a<l.length)(E:b<l.length),a<b->ltT l[a] l[b]:=fun a b ha E A=>List.pairwise_iff_getElem.1 K a b ha E A;rcases x8o i j with B|B
 .have F:(i+j)/2<l.length:=by omega
  have I:=Yu l[(i+j)/2] x;conv=>whnf
  repeat' ((first|(refine gX ?_;intros)|refine Wr.u64 (by omega) (by omega) ?_|refine E5 rfl (by omega) rfl rfl (m:=(((i+j)/2:Nat):Int)) (by omega) ?_|refine cP I ?_|((first|apply bD|apply bB)<;>intro _<;>try omega))<;>conv=>whnf)
  all_goals first
   | (have s:Op.bytesLess l[(i+j)/2] x=true:=by assumption
      refine nX ((i+j)/2+1,j) ⟨by simp only;omega,D,fun k t u=>?_,g⟩;simp only at u;rcases x8o k ((i+j)/2)with n|n
      .exact ltT.trans _ _ _ (v _ _ t F n) s
      .have:k=(i+j)/2:=by omega
       subst this;exact s)
   | (have s:Op.bytesLess l[(i+j)/2] x=false:=by assumption
      have z:¬ltT l[(i+j)/2] x:=fun h=>by unfold ltT at h;rw[s]at h;cases h
      refine nX (i,(i+j)/2) ⟨by simp only;omega,by simp only;omega,d,fun k t u c=>?_⟩;simp only at u;rcases x8o ((i+j)/2) k with n|n
      .exact z (ltT.trans _ _ _ (v _ _ F t n) c)
      .have:k=(i+j)/2:=by omega
       subst this;exact z c)
 .obtain rfl:i=j:=by omega
  rcases x8o i l.length with e|e
  .have o:inS l x=(l[i]==x):=by
    rw[z2c,VV,z2d];constructor
    .intro L;obtain⟨k,t,rfl⟩:=z0v.1 L;rcases Nat.lt_trichotomy k i with q|q|q
     .exact absurd (d k t q) (Qa _)
     .subst q;rfl
     .exact absurd (v i k e t q) (g i e (x9h _))
    .intro q;rw[<-q];exact x9w e
   have J:=LJ l[i];conv=>whnf
   repeat' ((first|(refine iA fun _=>?_)|refine cP J ?_|((first|apply bD|apply bB)<;>intro _<;>try omega))<;>conv=>whnf)
   all_goals first
    |(exfalso;omega)
    |(exfalso;simp_all;done)
    | (have s:inS l x=true:=by rw[o];assumption
       exact⟨_,.p (Sub.tup (.cons (Sub.refl _) (.cons (Sub.tt s) .nil))),_,rfl⟩)
    | (have s:inS l x=false:=by rw[o];assumption
       exact⟨_,.p (Sub.tup (.cons (Sub.refl _) (.cons (Sub.ff s) .nil))),_,rfl⟩)
  .have o:inS l x=false:=by
    cases q:inS l x with
    |false=>rfl
    | true=>
      obtain⟨k,t,H⟩:=z0v.1 (VV.1 q);exact absurd (d k t (by omega)) (by rw[H];exact Qa _)
   conv=>whnf
   repeat' (apply bD<;>intro _<;>first|omega|conv=>whnf)
   all_goals first
    |(exfalso;omega)
    |exact⟨_,.p (Sub.tup (.cons (Sub.refl _) (.cons (Sub.ff o) .nil))),_,rfl⟩
    |exact⟨_,.p (Sub.refl _),_,by rw[o];rfl⟩
def Ys(l:List Str)(x:Str)(m:l.Pairwise ltT)(h:l.length<=1000000000):aP 90 [eStrs l,.str x] (.bool (inS l x)):=by
 refine sC Co func90 ?_;conv=>whnf
 have i:=UJ l x m h;repeat' ((refine CallK.pure i (.cons (Sub.refl _) (.cons (Sub.refl _) .nil)) ?_;rintro _ ⟨k,rfl⟩)<;>conv=>whnf)
 all_goals first
  |exact RetK.p rfl
def R2{σ:Mem}{a:Param}{v:Value}(h:Rep σ (.agg a.cells) v):v=.agg #[.string ⟨a.name.toArray⟩,.bool a.ref]:=by
 cases h with
 | agg cs vs u o m n=>
   have q:vs.size=2:=o;have g0:vs[0]?=some (.string ⟨a.name.toArray⟩):=by
    have k:=m 0 (.str a.name) rfl;have l:=n 0 (.str a.name) rfl;generalize u 0=w at k l;cases l;exact k
   have g1:vs[1]?=some (.bool a.ref):=by
    have k:=m 1 (.bool a.ref) rfl;have l:=n 1 (.bool a.ref) rfl;generalize u 1=w at k l;cases l;exact k
   congr 1;apply Array.ext_getElem?;intro i
   match i with
   |0=>exact g0
   |1=>exact g1
   |i+2=>rw[z4d (by omega),z4d (by simp)]
instance:DecidableEq Param:=fun a b=>decidable_of_iff (a.name=b.name/\a.ref=b.ref) (by cases a;cases b;simp)
theorem ValO.C{B:Bool}{s:St}{o:Oper}{K:LV->Prop}{x y:Operand}{u:TypeId}(l:o.op=.binOp .eql 65 x y u){a b:Param}(E:QR s.sl x=.p (.agg a.cells))(F:QR s.sl y=.p (.agg b.cells))(c:K (.p (.bool (decide (a=b))))):ValO prog B s o K:=by
 refine⟨fun σ β q w r _=>⟨_,.bool (decide (a=b)),c,.p (.bool _),fun w' _ _=>?_⟩⟩;have v:q.eval x=.agg #[.string ⟨a.name.toArray⟩,.bool a.ref]:=by
  have:=QW r x;rw[E]at this;cases this with
  |p h=>exact R2 h
 have z:q.eval y=.agg #[.string ⟨b.name.toArray⟩,.bool b.ref]:=by
  have:=QW r y;rw[F]at this;cases this with
  |p h=>exact R2 h
 have D:prog.underlying 65=some (.struct (prog.fieldsOf 65)):=by kernel_rfl
 have m:prog.underlying 9=some .string:=by kernel_rfl
 have i:prog.underlying 4=some .bool:=by kernel_rfl
 have A:(prog.fieldsOf 65).toList=(match ty65.desc with |.struct fs=>fs.toList|_=>[]):=by kernel_rfl
 have g:(Op.equalIn 10000 65 (.agg #[.string ⟨a.name.toArray⟩,.bool a.ref]) (.agg #[.string ⟨b.name.toArray⟩,.bool b.ref])).run prog w'=.ok (decide (a=b)) w':=by
  rw[run_equalIn_struct w' 9999 _ _ _ D (by kernel_rfl),A];simp only[ty65,Op.eqFields];have G:∀(x:ByteArray)(y:Bool),(part 9 #[.string x,.bool y] 0).run prog w'=.ok (.string x) w':=fun x y=>run_part_plain w' (by kernel_rfl) rfl;have H:∀(x:ByteArray)(y:Bool),(part 4 #[.string x,.bool y] 1).run prog w'=.ok (.bool y) w':=fun x y=>run_part_plain w' (by kernel_rfl) rfl;have es:∀x y:ByteArray,(Op.equalIn 9999 9 (.string x) (.string y)).run prog w'=.ok (x.toList==y.toList) w':=fun x y=>run_equalIn_string (P:=prog) w' 9998 9 x y m;have t:∀x y:Bool,(Op.equalIn 9999 4 (.bool x) (.bool y)).run prog w'=.ok (x==y) w':=fun x y=>run_equalIn_bool (P:=prog) w' 9998 4 x y i;have e:decide (a=b)=(((⟨a.name.toArray⟩:ByteArray).toList==(⟨b.name.toArray⟩:ByteArray).toList)&&(a.ref==b.ref)):=by
   rw[ByteArray.toList_eq,ByteArray.toList_eq,z2c,z3a,x9g,z2d,z2d];cases a;cases b;simp
  simp only[ne_eq,show ¬("Name" = "_") by decide,show ¬("Ref" = "_") by decide,not_false_eq_true,if_true,Sem.run_bind,G,H,Result.andThen_ok,es,t,Sem.run_ite,Sem.run_pure,e];cases((⟨a.name.toArray⟩:ByteArray).toList==(⟨b.name.toArray⟩:ByteArray).toList)<;>cases(a.ref==b.ref)<;>simp
 simp only[execOp,l,v,z,Sem.run_bind,run_eqGuard_agg _ _ _ _ _ _ _ (show prog.eqGuardType prog.depth 65=false by kernel_rfl),Result.andThen_ok,run_eql_struct,g,Sem.run_pure]
def UR(l:List Param)(x:Param):SpecP prog 196 [.sl (l.map fun a=>.agg a.cells),.agg x.cells] (fun r=>∃k:Int,r=.int .i64 k/\(0<=k↔x∈l)):=by
 refine sC VS func196 ?_;conv=>whnf
 have q:(l.map fun a=>AV.agg a.cells).length=l.length:=x8b _;repeat' ((refine iM fun _=>?_)<;>conv=>whnf)
 refine lI (fun j:Nat=>⟨[(0,.p (.sl (l.map fun a=>.agg a.cells))),(3,.p (.ip x.cells)),(7,.p (.int .i64 (l.map fun a=>AV.agg a.cells).length)),(8,.j j)],[]⟩) (fun j=>j<=l.length/\x∉l.take j) (fun j=>l.length-j) 0 ⟨x8i _,by simp⟩ ?_;rintro j ⟨s,i⟩;rcases x8o j l.length with h|h
 .have n:x∈l.take (j+1)↔x∈l.take j\/x=l[j]:=QS h;conv=>whnf
  repeat' ((first|refine dA ?_|(refine gX ?_;intros)|refine ValO.C (a:=x) (b:=l[j]) rfl rfl rfl ?_|(apply bD<;>intro _<;>try omega))<;>conv=>whnf)
  all_goals first
   | (have m:x=l[j]:=by assumption
      exact⟨_,.p (Sub.refl _),j,rfl,⟨fun _=>by rw[m];exact x9w h,fun _=>by omega⟩⟩)
   | (have m:¬x=l[j]:=by assumption
      exact nX (j+1) ⟨h,fun o=>(n.1 o).elim i m⟩)
 .rw [x9u h]at i;conv=>whnf
  repeat' (apply bD<;>intro _<;>first|omega|conv=>whnf)
  all_goals exact⟨_,.p (Sub.refl _),-1,rfl,by simp[i]⟩
def VM(l:List Param)(x:Param):aP 140 [.sl (l.map fun a=>.agg a.cells),.agg x.cells] (.bool (decide (x∈l))):=by
 refine sC WT func140 ?_;conv=>whnf
 have h:=UR l x;repeat' ((refine CallK.pure h (.cons (Sub.refl _) (.cons (Sub.refl _) .nil)) ?_;rintro _ ⟨k,rfl,i⟩)<;>conv=>whnf)
 all_goals first
  |exact RetK.bool (by rw[z2c,z3a,z3a];exact i)
theorem L3:∀(l:List (Int×Int))(rows:List (List Int)),(∀t∈l,0<=t.1/\t.1<rows.length)->∀(a:Nat)(x:Int),x∈(l.foldl nxE rows).getD a []↔x∈rows.getD a []\/∃t∈l,t.1=a/\t.2=x
 |[],rows,_,a,x=>by simp
 | t::r,rows,h,a,x=>by
   obtain⟨o,q⟩:=h t x8l;rw[z1c,L3 r (nxE rows t) (fun u n=>by rw[IU];exact h u (x8r _ n))];have e:x∈(nxE rows t).getD a []↔x∈rows.getD a []\/(t.1=a/\t.2=x):=by
    unfold nxE;simp only[x8n,z1o];by_cases k:t.1.toNat=a
    .subst k;have m:t.1=(t.1.toNat:Int):=by omega
     rw[if_pos rfl,if_pos (by omega)];simp only[z1k,x8e,x9q];constructor
     .rintro (i|i)
      .exact .inl i
      .exact .inr ⟨m,i.symm⟩
     .rintro (i|⟨_,i⟩)
      .exact .inl i
      .exact .inr i.symm
    .rw [if_neg k];constructor
     .exact .inl
     .rintro (i|⟨i,_⟩)
      .exact i
      .omega
   rw[e];simp only[x8s,exists_eq_or_imp,or_assoc]
def G9{n:Nat}{l:List (Int×Int)}(h:∀t∈l,0<=t.1/\t.1<n){a:Nat}{x:Int}:x∈(Zs n l).getD a [] ↔ ∃t∈l,t.1=a/\t.2=x:=by
 unfold Zs;rw[L3 l _ (by simpa using h)];have:(List.replicate n ([]:List Int)).getD a []=[]:=by
  rw[x8n,z0q];split<;>rfl
 rw[this];simp
mutual
theorem q3x:∀(t:S){nest seen m:Int},Hm nest seen t=some m->∀u∈flS t,oneOk u=true
 | .mk id kind F name pr x has args I L,nest,seen,m,h,u,hu=>by
   obtain⟨h1,_,m1,h3,h4⟩:=FW h;rw[flS]at hu;rcases x8s.1 hu with rfl|hu
   ·exact h1
   ·rcases x8e.1 hu with hu|hu
    ·exact J6 I h3 u hu
    ·exact J6 L h4 u hu
theorem J6:∀(l:List S){nest seen m:Int},UA nest seen l=some m->∀u∈flL l,oneOk u=true
 |[],_,_,_,_,u,hu=>by rw[flL]at hu;cases hu
 | t::r,nest,seen,m,h,u,hu=>by
   obtain⟨_,m1,h1,h2⟩:=KH h;rw[flL]at hu;rcases x8e.1 hu with hu|hu
   ·exact q3x t h1 u hu
   ·exact J6 r h2 u hu
end
def Bu{p:Pg}{f:Pr}(h:QP p=true)(i:p.A[j]?=some f){t:S}(l:t∈flL f.body):OneF t:=by
 obtain⟨m,k⟩:=Ts (QU h).1 i;exact JZ (J6 _ k t l)
section
variable {p:Pg}{j:Nat}{f:Pr}
def x2p(p:Pg)(j:Nat)(f:Pr):Int->Int->Prop:=stR (x7h (QQ p j f) f)
def E6(h:QP p=true)(r:p.A[j]?=some f){b:Int}:x2p p j f a b↔wR p j f a b\/(a=0/\b = -1)\/(∃l∈trapsW (QQ p j f) f,∃t∈flL f.body,t.id∈l/\t.kind=10/\a=t.id/\b = -1)\/∃it∈itsOf p j f,7<=it.s.kind/\a=it.s.id/\b=it.next:=by
 have x:=NZ (q9h h r);have i:∀s,s∈F8 (QQ p j f) f↔s∈UO (QQ p j f) f\/s∈(QQ p j f).real\/s=⟨0,-1,2⟩\/s∈(itsOf p j f).flatMap fOf:=fun s=>by
  have e:F8 (QQ p j f) f=UO (QQ p j f) f++(QQ p j f).real++[⟨0,-1,2⟩]++(itsOf p j f).flatMap fOf:=rfl;rw[e];simp only[x8e,x9q,or_assoc]
 have n:∀s∈F8 (QQ p j f) f,x2p p j f s.src s.dst:=fun s k=>by
  obtain⟨s',m,y,z,_⟩:=x.2.2 s k;exact⟨s',m,y,z⟩
 constructor
 .rintro ⟨s,k,rfl,rfl⟩;rcases(i s).1 (x.2.1 s k)with m|m|m|m
  .obtain ⟨l,v,t,w,o,u,rfl⟩:=(W9 h r).1 m;exact .inr (.inr (.inl ⟨l,v,t,w,o,u,rfl,rfl⟩))
  .exact .inl ⟨s,m,rfl,rfl⟩
  .rw [m];exact .inr (.inl ⟨rfl,rfl⟩)
  .obtain ⟨it,q,k⟩:=z0j.1 m;unfold fOf at k;split at k
   .rw [x9q.1 k];exact .inr (.inr (.inr ⟨it,q,by omega,rfl,rfl⟩))
   .cases k
 .rintro (⟨s,k,rfl,rfl⟩|⟨rfl,rfl⟩|⟨l,v,t,w,o,u,rfl,rfl⟩|⟨it,q,u,rfl,rfl⟩)
  .exact n s ((i s).2 (.inr (.inl k)))
  .exact n ⟨0,-1,2⟩ ((i _).2 (.inr (.inr (.inl rfl))))
  .exact n ⟨t.id,-1,3⟩ ((i _).2 (.inl ((W9 h r).2 ⟨l,v,t,w,o,u,rfl⟩)))
  .refine n ⟨it.s.id,it.next,2⟩ ((i _).2 (.inr (.inr (.inr (z0j.2 ⟨it,q,?_⟩)))));have c:=(Bu h r (YP q)).hi;unfold fOf;rw[if_pos (by omega)];exact x9q.2 rfl
def q9y(h:QP p=true)(m:p.A[j]?=some f){b:Int}(y:x2p p j f a b):plP p j f a/\plP p j f b/\a ≠ -1/\b≠0:=by
 have k:∀t∈flL f.body,plP p j f t.id/\t.id ≠ -1:=fun t n=>by
  have v:=ZS (QU h).1 m n;exact⟨.inr (.inr v),by omega⟩
 rcases(E6 h m).1 y with i|⟨rfl,rfl⟩|⟨l,c,t,n,w,x,rfl,rfl⟩|⟨it,o,x,rfl,rfl⟩
 .obtain ⟨r,u⟩:=x2d h m i;refine⟨r,u,?_,fun e=>q2k h m (e▸i)⟩;obtain⟨s,z,rfl,rfl⟩:=i;rcases q2s h m (((VN h m).2 s).1 z)with q|q
  .rw [q];show(0:Int) ≠ -1;decide
  .omega
 .exact ⟨.inl rfl,.inr (.inl rfl),by decide,by decide⟩
 .exact ⟨(k t n).1,.inr (.inl rfl),(k t n).2,by decide⟩
 .have i:=(Qr o).1;unfold okI at i;refine⟨(k _ (YP o)).1,?_,(k _ (YP o)).2,by omega⟩;rcases i with i|i
  .exact .inr (.inl i)
  .exact .inr (.inr i)
def ix_exit:ixI p j f (-1)=(cntL f.body+2:Nat)-1:=by
 unfold ixI YW;rw[if_neg (by decide),if_pos rfl]
end
namespace Own
end Own
open Go.Proofs
def rng(a b:Int)(v:Int):Prop:=a<=v/\v<=b
def I8{D up k i:Int}{n:Nat}{nest m:Int}{l:List S}(h:UA nest n l=some m){it:Item}(r:it∈itL D up k i n l):(n:Int)+1<=it.s.id/\it.s.id<=(n:Int)+cntL l:=by
 have o:it.s∈flL l:=by
  rw[<-BL D up k i n l];exact x8c.2 ⟨it,r,rfl⟩
 have q:it.s.id∈JB n (cntL l):=by
  rw[<-DM nest l h];exact x8c.2 ⟨it.s,o,rfl⟩
 have:=Sr q;omega
def x6c(l:List Int)(i:Nat):Int:=l.getD i 0
def srt(K:Int->Int)(l:List Int)(a b:Nat):Prop:=∀i k,a<=i->i<k->k<b->K (x6c l k)<=K (x6c l i)
def hi0(a m b:Nat):Nat:=if(a+b)/2<m then(a+b)/2 else m
def blk(K:Int->Int)(l:List Int)(bs n:Nat):Prop:=∀q,srt K l (q*bs) (min (q*bs+bs) n)
def q3d:List AV:=[.int .i64 (-1),.int .i64 0,.nils,.str [],.str [],.int .i64 0,.int .i64 0,.str [],.nils,.ff,.nils,.nils,.nils]
def Yp:∀(k:Nat)(l:List S)(_:cntL l<k)(_:cntL l<=1000000)(_:∀t∈flL l,okC t/\t.id ≠ -1),aP 171 [eSs l,.agg q3d] (eSs l):=by
 intro k;induction k with
 |zero=>intro l h;omega
 | succ k z=>
   intro l H J y;have hsl:(S.avs l).length=l.length:=by rw[S.avs_eq,x8b]
   have A:=Z9 l;refine sC Z1 func171 ?_;conv=>whnf
   repeat' ((refine iM fun _=>?_)<;>conv=>whnf)
   refine lJ (fun j:Nat=>⟨[(3,.p (.ip q3d)),(5,.hd 0 0 j),(9,.p (eSs l)),(10,.p (.int .i64 (S.avs l).length)),(11,.j j)],[(0,.own 103 13 (S.avs (l.take j)))]⟩) (fun j=>j<=l.length) (fun j=>l.length-j) 0 (lM [(0,.own 103 13 [])]) (x8i _) ?_;intro j G;rcases x8o j l.length with u|u
   .have E:=Bk (x9w u);have B:=WN l[j];have n:=y _ (Zk l _ (x9w u));have q:∀t,t∈flL l[j].I\/t∈flL l[j].L->okC t/\t.id ≠ -1:=fun t s=>y t (by
     have:t∈flS l[j]:=by
      rw[Sk];exact x8r _ (x8e.2 s)
     have key:∀(m:List S)(i:Nat)(h:i<m.length),t∈flS m[i]->t∈flL m:=fun m=>by
      induction m with
      |nil=>intro i h;simp at h
      | cons a r z=>
        intro i h s;rw[flL];cases i with
        |zero=>exact x8e.2 (.inl s)
        |succ i=>exact x8e.2 (.inr (z i (by simpa using h) s))
     exact key l j u this)
    have c:=JI l[j] n.1.1 n.1.2.1 n.1.2.2.1 n.1.2.2.2;have C:=n.2;have d:=z l[j].I (by omega) (by omega) fun t s=>q t (.inl s);have g:=z l[j].L (by omega) (by omega) fun t s=>q t (.inr s);have o:j=(S.avs (l.take j)).length:=by rw[S.avs_eq,x8b,x9s];omega
    have w:S.avs (l.take (j+1))=S.avs (l.take j)++[.agg l[j].cells]:=by
     rw[S.avs_eq,S.avs_eq,x9v u,x8a];rfl
    generalize S.avs (l.take j)=acc at o w⊢;have e:l[j]=.mk l[j].id l[j].kind l[j].F l[j].name l[j].D l[j].x l[j].has l[j].args l[j].I l[j].L:=by cases l[j];rfl
    conv=>whnf
    repeat' ((first|refine dA ?_|(refine gX ?_;intros)|refine cP c ?_|refine cP d ?_|refine cP g ?_|refine pA 1 208 o ?_|(apply bD<;>intro _<;>try omega))<;>conv=>whnf)
    all_goals first
     |exact⟨j+1,u,by omega,Le.of_eq (by rw[w];rfl)⟩
     |contradiction
   .have v:l.take j=l:=x9u u;have b:j=(S.avs l).length:=by rw[S.avs_eq,x8b];omega
    rw[v];conv=>whnf
    repeat' (apply bD<;>intro _<;>first|omega|conv=>whnf)
    exact⟨_,.hd rfl b,rfl⟩
theorem IY:∀(l:List Pr)(j:Nat),offN l j<=cntP l
 |_,0=>by rw[offN];omega
 |[],j+1=>by rw[offN];omega
 |g::r,j+1=>by rw[offN,cntP];have:=IY r j;omega
structure CopyF(p:Pg):Prop where
 A:p.A.length<=1000
 B:p.B.length<=1000000
 pr:∀f∈p.A,f.E.length<=1000000/\f.fin.length<=1000000/\f.C.length<=1000000/\cntL f.body<=100000/\∀t∈flL f.body,okC t/\t.id ≠ -1
def x7b(p:Pg):Heap:=[(2,.obj 25 [.p (eStrs p.B),.hd 1 0 p.A.length]),(1,.own 62 5 (p.A.map fun f=>.agg f.cells))]
def x3j(p:Pg):Heap:=[(6,.own 62 5 (p.A.map fun f=>.agg f.cells)),(1,.obj 25 [.p (eStrs p.B),.hd 6 0 p.A.length])]
def Yd(p:Pg)(h:CopyF p):aH 102 [.p (.agg p.cells),.p (.agg q3d)] [] (.agg [.p (eStrs p.B),.hd 1 0 p.A.length]) (x7b p):=by
 refine sK Xe func102 ?_;conv=>whnf
 have v:=WH p.B h.B;have H:(p.A.map fun f=>AV.agg f.cells).length=p.A.length:=x8b _;have G:=h.A;repeat' ((first|(refine gX ?_;intros)|refine cP v ?_)<;>conv=>whnf)
 refine lJ (fun j:Nat=>⟨[(3,.p (.ip q3d)),(4,.ptr 2 0),(5,.ptr 0 0),(14,.p (.sl (p.A.map fun f=>AV.agg f.cells))),(15,.p (.int .i64 (p.A.map fun f=>AV.agg f.cells).length)),(16,.j j)],[(0,.obj 25 [.p (eStrs p.B),.hd 1 0 j]),(2,.obj 25 [.p .nils,.p .nils]),(1,.own 62 5 ((p.A.take j).map fun f=>.agg f.cells))]⟩) (fun j=>j<=p.A.length) (fun j=>p.A.length-j) 0 (lM [(1,.own 62 5 [])] (hH:=.cons rfl (.obj (.r (.cons (.nil x8l) .nil))) (.cons rfl (.refl _) (.new x8l .nil)))) (x8i _) ?_;intro j l;rcases x8o j p.A.length with n|n
 .obtain ⟨I,m,b,F,z⟩:=h.pr _ (x9w n);have d:=WH p.A[j].E I;have e:=WH p.A[j].fin m;have g:=Yp (cntL p.A[j].body+1) p.A[j].body (by omega) (by omega) z;have t:((p.A.take j).map fun f=>AV.agg f.cells).length=j:=by rw[x8b,x9s];omega
  have s:((p.A.take (j+1)).map fun f=>AV.agg f.cells)=((p.A.take j).map fun f=>AV.agg f.cells)++[.agg p.A[j].cells]:=by
   rw[x9v n,x8a];rfl
  generalize((p.A.take j).map fun f=>AV.agg f.cells)=acc at t s⊢;have o:(p.A[j].C.map fun x=>AV.agg x.cells).length=p.A[j].C.length:=x8b _;conv=>whnf
  repeat' ((first|refine dA ?_|(refine gX ?_;intros)|refine cP d ?_|refine cP e ?_|refine cP g ?_|refine z5w rfl rfl (by rw[o];show(0+p.A[j].C.length)*24<=140737488355328;omega) (by rw[o];show 0+p.A[j].C.length<=9223372036854775807;omega) (fun x J=>by obtain⟨y,_,rfl⟩:=x8c.1 J;exact⟨rfl,rfl⟩) ?_|(apply bD<;>intro _<;>try omega)|refine x9p ?_ ?_)<;>conv=>whnf)
  all_goals
   refine CK ZP (k:=4) 41 p.A[j].cells rfl rfl rfl (fun q u c i l=>?_) ?_
   .match q,i,l with
    |0,i,l=>cases i;cases l;exact .inl ⟨_,rfl,Sub.refl _⟩
    |1,i,l=>cases i;cases l;exact .inr ⟨_,rfl,by simp,rfl⟩
    |2,i,l=>cases i;cases l;exact .inl ⟨_,rfl,Sub.refl _⟩
    |3,i,l=>cases i;cases l;exact .inl ⟨_,rfl,Sub.refl _⟩
    |4,i,l=>cases i;cases l;exact .inl ⟨_,rfl,Sub.refl _⟩
    |q+5,i,l=>simp at i
   conv=>whnf
   repeat' ((first|refine gX ?_|refine pA 1 112 t.symm ?_)<;>conv=>whnf)
   exact⟨j+1,n,by omega,Le.of_eq (by rw[s];rfl)⟩
 .have D:((p.A.take j).map fun f=>AV.agg f.cells)=p.A.map fun f=>.agg f.cells:=by
   rw[x9u n]
  have w:j=p.A.length:=by omega
  subst w;rw[D];conv=>whnf
  repeat' ((first|refine x9p rfl ?_|(apply bD<;>intro _<;>try omega))<;>conv=>whnf)
  exact⟨_,x9b _,rfl,rfl⟩
def FG(p:Pg)(h:CopyF p):aH 47 [.p (.agg p.cells)] [] (.agg [.p (eStrs p.B),.hd 6 0 p.A.length]) (x3j p):=by
 refine sK Q6 func47 ?_;conv=>whnf
 repeat' ((first|refine x9p rfl ?_|(refine cH [] 5 (Yd p h) ?_ (hH:=z1x)))<;>conv=>whnf)
 exact⟨_,x9b _,rfl,rfl⟩
def Qi(p:Pg)(j:Nat):List Pr:=(Vr 0 p.A).take j++p.A.drop j
theorem Gq:∀(l:List Pr)(n j:Nat)(f:Pr),l[j]?=some f->(Vr n l)[j]?=some ⟨f.name,f.C,f.E,nmL (n+offN l j) f.body,f.fin⟩
 |g::r,n,0,f,h=>by cases h;rw[Vr];rfl
 | g::r,n,j+1,f,h=>by
   rw[Vr,z2n,Gq r (n+cntL g.body) j f (by simpa using h),offN,z1j]
theorem KS:∀(l:List Pr)(n:Nat),(Vr n l).length=l.length
 |[],n=>rfl
 |g::r,n=>by rw[Vr,x9f,x9f,KS r]
def IW(p:Pg)(h:j<=p.A.length):(Qi p j).length=p.A.length:=by
 unfold Qi;rw[x8m,x9s,z1d,KS];omega
def IZ(p:Pg)(h:j<p.A.length):(Qi p j)[j]?=some p.A[j]:=by
 unfold Qi;rw[x9n (by rw[x9s,KS];omega),x9s,KS,z1v];rw[show j+(j-min j p.A.length)=j by omega,x8p h]
def Af(p:Pg)(i:j<p.A.length):Qi p (j+1)=(Qi p j).set j ⟨p.A[j].name,p.A[j].C,p.A[j].E,nmL (offN p.A j) p.A[j].body,p.A[j].fin⟩:=by
 have h:=Gq p.A 0 j _ (x8p i);rw[z0t]at h;unfold Qi;have k:((Vr 0 p.A).take j).length=j:=by rw[x9s,KS];omega
 rw[z4c _ _ (by omega),k,z3n,x9i i,List.set_cons_zero,List.take_add_one,h];simp
def IJ{l:List Pr}(h:j<l.length):offN l (j+1)=offN l j+cntL l[j].body:=by
 induction l generalizing j with
 |nil=>simp at h
 | cons g r i=>
   cases j with
   |zero=>rw[offN,offN,offN];simp
   | succ j=>
     rw[offN,offN,i (by simpa using h)];simp only[List.getElem_cons_succ];omega
def GX(p:Pg)(h:CopyF p)(H:cntP p.A<=100000):aP 48 [.agg p.cells] (.agg (q7n p).cells):=by
 refine sC BO func48 ?_;conv=>whnf
 have F:(p.A.map fun f=>AV.agg f.cells).length=p.A.length:=x8b _;have D:=h.A;repeat' ((first|(refine gX ?_;intros)|(refine cH [] 20 (FG p h) ?_ (hH:=z1x)))<;>conv=>whnf)
 refine lJ (fun j:Nat=>⟨[(1,.p (.ip p.cells)),(2,.ptr 1 0),(3,.ptr 0 0),(4,.j (offN p.A j)),(10,.j p.A.length),(11,.j j)],[(0,.obj 25 [.p (eStrs p.B),.hd 26 0 p.A.length]),(26,.own 62 5 ((Qi p j).map fun f=>.agg f.cells)),(1,.obj 25 [.p .nils,.p .nils])]⟩) (fun j=>j<=p.A.length) (fun j=>p.A.length-j) 0 (Le.of_eq (by rw[show Qi p 0=p.A from rfl,show offN p.A 0=0 by rw[offN]];rfl)) (x8i _) ?_;intro j b;have v:=IW p b;rcases x8o j p.A.length with o|o
 .obtain ⟨I,y,z,e,u⟩:=h.pr _ (x9w o);have g:=IY p.A j;have d:=NM (cntL p.A[j].body+1) p.A[j].body (by omega) (offN p.A j) (by omega) fun t G=>(u t G).1;have k:((Qi p j).map fun f=>AV.agg f.cells)[j]?=some (.agg p.A[j].cells):=by rw[x9x,IZ p o];rfl
  have m:((Qi p j).map fun f=>AV.agg f.cells).set j (.agg (Pr.mk p.A[j].name p.A[j].C p.A[j].E (nmL (offN p.A j) p.A[j].body) p.A[j].fin).cells)=(Qi p (j+1)).map fun f=>AV.agg f.cells:=by
   rw[Af p o,<-z0o]
  have w:=IJ o;generalize((Qi p j).map fun f=>AV.agg f.cells)=row at k m⊢;conv=>whnf
  repeat' ((first|(refine gX ?_;intros)|refine DrawK.of ZP mixed (.cons 3 false (.cons 4 false (.cons 5 false (.cons 6 false (.cons 7 false (.cons 8 false (.cons 9 false (.cons 0 false (.cons 2 false (.fork 1 (.cons 10 true (.cons 11 false (.cons 12 false (.cons 14 true (.cons 15 true (.cons 13 false (.cons 16 true (.cons 17 true .nil)))))))) 10 (.cons 1 true (.cons 11 false (.cons 12 false (.cons 14 true (.cons 15 true (.cons 13 false (.cons 16 true (.cons 17 true .nil)))))))))))))))))) (by kernel_rfl) ?_|refine cP d ?_|refine z2b j rfl o ?_|refine z3h j 3 (.agg p.A[j].cells) (.agg (Pr.mk p.A[j].name p.A[j].C p.A[j].E (nmL (offN p.A j) p.A[j].body) p.A[j].fin).cells) (by show(0+j)*5+3=j*5+3;omega) k (z3w rfl) rfl ?_|(apply bD<;>intro _<;>try omega)|refine x9p ?_ ?_)<;>conv=>whnf)
  all_goals exact⟨j+1,o,by omega,Le.of_eq (by rw[<-m,w];rfl)⟩
 .have s:j=p.A.length:=by omega
  subst s;have x:Qi p p.A.length=(q7n p).A:=by
   unfold Qi q7n;rw[x9u (by rw[KS];exact x9h _),x9j (x9h _),z0k]
  have r:p.A.length=((q7n p).A.map fun f=>AV.agg f.cells).length:=by rw[x8b,<-x,v]
  rw[x];conv=>whnf
  repeat' ((first|refine x9p rfl ?_|(apply bD<;>intro _<;>try omega))<;>conv=>whnf)
  refine⟨_,.agg (cs:=(q7n p).cells) rfl fun i l c n q=>?_,rfl⟩
  match i,n,q with
  |0,n,q=>cases n;cases q;exact .p (Sub.refl _)
  | 1,n,q=>
    cases n;cases q;exact .hd rfl r
  |i+2,n,q=>simp at n
section
variable {p:Pg}{j:Nat}{f:Pr}
end
section
variable {p:Pg}{j:Nat}{f:Pr}
end
structure Book where
 s:Sheet
 ways:List Way
 N:List (List Str)
 P:List (List Str)
 ins:List (List Str)
 M:List (List Str)
def Book.cells(b:Book):List AV:=[.ip b.s.cells,.sl (b.ways.map fun w=>.ip w.cells),.sl (b.N.map eStrs),.sl (b.P.map eStrs),.sl (b.ins.map eStrs),.sl (b.M.map eStrs)]
def tapeS:Str:=[36,105,110]
def comB(p:Pg)(n:Str):Bool:=(n==tapeS)||p.B.any fun s=>n==s
def BZ(b:Book)(n:Str):aP 139 [.ip b.cells,.str n] (.bool (comB b.s.p n)):=by
 refine sC Xm func139 ?_;conv=>whnf
 repeat' ((first|refine cP (QV _ _) ?_|(apply bB<;>intro _))<;>conv=>whnf)
 all_goals first
  | (have h:(n==tapeS)=true:=by assumption
     exact RetK.tt (by unfold comB;rw[h];rfl))
  | (have h:(n==tapeS)=false:=by assumption
     exact RetK.bool (by unfold comB;rw[h,Bool.false_or]))
def Nq(p:Pg)(j:Nat)(f:Pr)(h:QP p=true)(o:p.A[j]?=some f)(id:Int)(i:plP p j f id):aP 138 [.ip (QQ p j f).cells,.int .i64 id] (.bool ((QQ p j f).live.getD (ixI p j f id).toNat false)):=by
 refine sC Jf func138 ?_;conv=>whnf
 have hT:=x3x h o;have k:=Wz (QQ p j f) f hT.hj hT.hc (by have:=hT.hn2;have:=hT.hn;have:=hT.hw;omega) id;have l:YW (loI (QQ p j f).p (QQ p j f).j) (hiI (QQ p j f).p (QQ p j f).j f) (QQ p j f).n id=ixI p j f id:=rfl;rw[l]at k;have r:=GP i;have q:(QQ p j f).live.length=cntL f.body+2:=by show(BJ _ (List.replicate (cntL f.body+2) false)).length=_;rw[Ai];simp
 generalize ixI p j f id=ix at*
 have m:((QQ p j f).live.map bv)[ix.toNat]?=some (bv ((QQ p j f).live.getD ix.toNat false)):=by
  rw[x9x,x8n,x8p (by omega)];rfl
 generalize(QQ p j f).live.getD ix.toNat false=v at*
 cases v;all_goals
  repeat' ((first|refine dA ?_|refine cP k ?_|refine iT m ?_)<;>conv=>whnf)
 all_goals first
  |exact RetK.tt rfl
  |exact RetK.ff rfl
def Tg(l:List Str)(h:l.length<=1000000000):aH 69 [.hd 1000 0 l.length] [(1000,.own 9 1 (l.map .str))] (.hd 1000 0 (WB l).length) [(1000,.own 9 1 ((WB l).map .str))]:=by
 refine sK De func69 ?_;conv=>whnf
 repeat' ((first|(refine cH [(1000,1000)] 0 (DT l h) ?_)|(refine cH [(1000,1000)] 0 (HV (YR l) (by rw[UT];omega)) ?_ (ha:=(x9t (z4q (by rw[UT];rfl)) z1w))))<;>conv=>whnf)
 all_goals first
  |exact z0f _ (x9b _) ⟨rfl,rfl⟩
def BX(b:Book)(t:S):aP 142 [.ip b.cells,.agg t.cells] (.int .i64 (idxF (fun f=>f.name==t.D) b.s.p.A)):=by
 refine sC Xn func142 ?_;conv=>whnf
 have h:=XE b.s t.D;repeat' ((first|refine dA ?_|refine cP h ?_)<;>conv=>whnf)
 all_goals exact RetK.p rfl
def x2i(O:List Str)(x:Arg×Param):Bool:=x.1.ref&&inS O x.2.name
def Ac(t:S)(f:Pr)(O:List Str)(j:Nat):List Str:=(((t.args.zip f.C).take j).filter (x2i O)).map fun x=>x.1.name
def Mj(p:Pg)(t:S)(f:Pr)(O:List Str):List Str:=(if t.name=[]then []else [t.name])++Ac t f O t.args.length++O.filter (comB p)
def Cq(t:S)(f:Pr)(O:List Str)(j:Nat):(Ac t f O j).length<=j:=by
 unfold Ac;rw[x8b];exact z1q (z2p _ _) (by rw[x9s];omega)
def O0{t:S}{f:Pr}{O:List Str}(k:j<t.args.length)(l:j<f.C.length):Ac t f O (j+1)=Ac t f O j++(if t.args[j].ref=true/\inS O f.C[j].name=true then [t.args[j].name]else []):=by
 have i:j<(t.args.zip f.C).length:=by rw[List.length_zip];omega
 unfold Ac;rw[x9v i,z2x,x8a];congr 1;have e:(t.args.zip f.C)[j]=(t.args[j],f.C[j]):=List.getElem_zip;rw[e];by_cases h:t.args[j].ref=true/\inS O f.C[j].name=true
 .rw [if_pos h,z1n (by unfold x2i;simp[h])];rfl
 .rw [if_neg h,z1t (by unfold x2i;simpa using h)];rfl
def Yk(b:Book)(t:S)(i:Nat)(f:Pr)(O:List Str)(V:idxF (fun f=>f.name==t.D) b.s.p.A=i)(U:b.s.p.A[i]?=some f)(P:b.M[i]?=some O)(Y:O.Pairwise ltT)(Z:O.length<=1000000)(ha:t.args.length<=f.C.length)(R:t.args.length<=1000000):SpecH prog 137 [.p (.ip b.cells),.p (.agg t.cells)] [] (fun r H=>OneRow (H9 (Mj b.s.p t f O)) False r H):=by
 refine sK Xl func137 ?_;conv=>whnf
 have I:=BX b t;rw[V]at I;have hH:=fun x=>Ys O x Y (by omega);have g:=fun x=>BZ b x;have w:(b.M.map eStrs)[i]?=some (eStrs O):=by rw[x9x,P];rfl
 have F:(b.s.p.A.map fun f=>AV.agg f.cells)[i]?=some (.agg f.cells):=by rw[x9x,U];rfl
 have T:(t.args.map fun a=>AV.agg a.cells).length=t.args.length:=x8b _;have Q:(O.map AV.str).length=O.length:=x8b _;repeat' ((first|(refine gX ?_;intros)|refine WU (es:=[]) rfl (by simp) ?_|refine cP I ?_|(apply bN<;>intro _))<;>conv=>whnf)
 all_goals
  refine LoopK.inv ZP (fun x:Nat×List Str=>⟨[(0,.p (.ip b.cells)),(5,.hd 0 0 x.2.length),(6,.j i),(23,.p (.sl (t.args.map fun a=>.agg a.cells))),(24,.p (.int .i64 (t.args.map fun a=>AV.agg a.cells).length)),(25,.j x.1)],[(0,.own 9 1 (x.2.map .str))]⟩) (fun x=>x.1<=t.args.length/\x.2=(if t.name=[]then []else [t.name])++Ac t f O x.1) (fun x=>t.args.length-x.1) (0,if t.name=[]then []else [t.name]) ?_ ⟨x8i _,by simp[Ac]⟩ ?_
  .first
    | (have k:(t.name==[])=true:=by assumption
       rw[if_pos (eq_of_beq k)];exact lM [(0,.own 9 1 [])])
    | (have k:(t.name==[])=false:=by assumption
       rw[if_neg (by simpa using k)];exact Le.of_eq rfl)
  rintro⟨j,h⟩ ⟨K,n⟩;simp only at K n⊢;have J:h.length<=j+1:=by
   rw[n,x8m];have:=Cq t f O j;split<;>simp<;>omega
  rcases x8o j t.args.length with z|z
  .have c:j<f.C.length:=by omega
   have m:=O0 (O:=O) z c;have E:=hH f.C[j].name;have G:(f.C.map fun a=>AV.agg a.cells)[j]?=some (.agg f.C[j].cells):=by rw[x9x,x8p c];rfl
   conv=>whnf
   repeat' ((first|refine dA ?_|(refine gX ?_;intros)|refine iT w ?_|refine iT F ?_|refine iT G ?_|refine cP E ?_|refine WU (by simp) (by rw[x8b];omega) ?_|((first|apply bD|apply bB)<;>intro _<;>try omega))<;>conv=>whnf)
   all_goals first
    | (have k:t.args[j].ref=true:=by assumption
       have l:inS O f.C[j].name=true:=by assumption
       exact⟨(j+1,h++[t.args[j].name]),⟨z,by simp only;rw[m,if_pos (show t.args[j].ref=true/\inS O f.C[j].name=true from⟨k,l⟩),n,x9l]⟩,by simp only;omega,Le.of_eq (by simp only[x8m,x8a];rfl)⟩)
    | (have l:inS O f.C[j].name=false:=by assumption
       exact nX (j+1,h) ⟨z,by simp only;rw[m,if_neg (show ¬(t.args[j].ref=true/\inS O f.C[j].name=true)from fun y=>by rw[l]at y;cases y.2),z0k];exact n⟩)
    | (have k:t.args[j].ref=false:=by assumption
       exact nX (j+1,h) ⟨z,by simp only;rw[m,if_neg (show ¬(t.args[j].ref=true/\inS O f.C[j].name=true)from fun y=>by rw[k]at y;cases y.1),z0k];exact n⟩)
  .obtain rfl:j=t.args.length:=by omega
   conv=>whnf
   repeat' ((first|(refine iM fun _=>?_)|refine iT w ?_|(apply bD<;>intro _<;>try omega))<;>conv=>whnf)
   refine lI (fun x:Nat×List Str=>⟨[(0,.p (.ip b.cells)),(5,.hd 0 0 x.2.length),(70,.p (eStrs O)),(71,.p (.int .i64 (O.map AV.str).length)),(72,.j x.1)],[(0,.own 9 1 (x.2.map .str))]⟩) (fun x=>x.1<=O.length/\x.2=h++(O.take x.1).filter (comB b.s.p)/\x.2.length<=h.length+x.1) (fun x=>O.length-x.1) (0,h) ⟨x8i _,by simp,by simp⟩ ?_;rintro⟨q,o⟩ ⟨L,u,N⟩;simp only at L u N⊢;rcases x8o q O.length with e|e
   .have d:=x9v e;have B:=g O[q];conv=>whnf
    repeat' ((first|(refine gX ?_;intros)|refine cP B ?_|refine WU (by simp) (by rw[x8b];omega) ?_|((first|apply bD|apply bB)<;>intro _<;>try omega))<;>conv=>whnf)
    all_goals first
     | (have k:comB b.s.p O[q]=true:=by assumption
        exact⟨(q+1,o++[O[q]]),⟨e,by simp only;rw[d,z2x,z1n k,u,x9l];rfl,by simp;omega⟩,by simp only;omega,Le.of_eq (by simp only[x8m,x8a];rfl)⟩)
     | (have k:comB b.s.p O[q]=false:=by assumption
        exact nX (q+1,o) ⟨e,by simp only;rw[d,z2x,z1t (by rw[k];decide),u];simp,by simp only;omega⟩)
   .rw [x9u e]at u;have v:o=Mj b.s.p t f O:=by rw[u,n];rfl
    subst v;conv=>whnf
    repeat' (apply bD<;>intro _<;>first|omega|conv=>whnf)
    all_goals exact z0f _ (x9b _) (OneRow.str rfl)
def retS:Str:=[36,114,101,116]
def caI(p:Pg)(t:S):Int:=idxF (fun f=>f.name==t.D) p.A
def caP(p:Pg)(t:S):Pr:=p.A.getD (caI p t).toNat Pr0
def caO(b:Book)(t:S):List Str:=b.M.getD (caI b.s.p t).toNat []
def FM(b:Book)(t:S):List Str:=if t.kind=1 then [t.name]else if t.kind=2 then [t.name,tapeS]else if t.kind=9 then [retS]else if t.kind=4 then Mj b.s.p t (caP b.s.p t) (caO b t)else []
structure CallOk(b:Book)(t:S):Prop where
 i0:0<=caI b.s.p t
 i1:(caI b.s.p t).toNat<b.s.p.A.length
 io:b.s.p.A.length<=b.M.length
 rise:(caO b t).Pairwise ltT
 len:(caO b t).length<=1000000
 args:t.args.length<=(caP b.s.p t).C.length
 al:t.args.length<=1000000
def Ef{b:Book}{t:S}(h:CallOk b t):SpecH prog 137 ([AV.ip b.cells,.agg t.cells].map .p) [] (OneRow (H9 (Mj b.s.p t (caP b.s.p t) (caO b t))) False):=by
 have i:=h.i1;have k:=h.io;refine Yk b t (caI b.s.p t).toNat (caP b.s.p t) (caO b t) ?_ ?_ ?_ h.rise h.len h.args h.al
 .rw [z2h h.i0];rfl
 .unfold caP;rw[x8n,x8p i];rfl
 .unfold caO;rw[x8n,x8p (by omega)];rfl
def Hk(b:Book)(t:S)(k:t.kind=4->CallOk b t):SpecH prog 70 [.p (.ip b.cells),.p (.agg t.cells)] [] (fun r H=>OneRow (H9 (FM b t)) (FM b t=[]) r H):=by
 refine sK Yq func70 ?_;conv=>whnf
 have l:=fun h=>Ef (k h);repeat' ((first|refine x9p rfl ?_|refine aD ?_|refine z4w (fun x i=>by rcases x9q.1 i with rfl;rfl) rfl ?_|refine z4w (fun x i=>by rcases x8s.1 i with rfl|i;rfl;rcases x9q.1 i with rfl;rfl) rfl ?_|(refine KU 0 rfl (l (by assumption)) (.cons (.p (Sub.refl _)) (.cons (.p (Sub.refl _)) .nil)) (fun h=>h.elim) ?_;rintro _ _ _ _ ⟨rfl,rfl,rfl⟩)|(apply bD<;>intro _<;>try omega))<;>conv=>whnf)
 .rw [show FM b t=[t.name] by unfold FM;rw[if_pos (by assumption)]];exact z0f _ (x9b _) (YY (L:=[t.name]) rfl)
 .rw [show FM b t=[t.name,tapeS] by unfold FM;rw[if_neg (by assumption),if_pos (by assumption)]];exact z0f _ (x9b _) (YY (L:=[t.name,tapeS]) rfl)
 .rw [show FM b t=[retS] by unfold FM;rw[if_neg (by assumption),if_neg (by assumption),if_pos (by assumption)]];exact z0f _ (x9b _) (YY (L:=[retS]) rfl)
 .rw [show FM b t=Mj b.s.p t (caP b.s.p t) (caO b t) by unfold FM;rw[if_neg (by assumption),if_neg (by assumption),if_neg (by assumption),if_pos (by assumption)]];exact z0f _ (x9b _) (YY (by rw[x8b]))
 .exact z0f _ (x9b _) (.inl ⟨rfl,rfl,by unfold FM;rw[if_neg (by assumption),if_neg (by assumption),if_neg (by assumption),if_neg (by assumption)]⟩)
def outB(p:Pg)(f:Pr)(n:Str):Bool:=comB p n||decide ((⟨n,true⟩:Param)∈f.C)
def PL(D:List (List Str))(id:Int):List Str:=D.getD (id-1).toNat []
def x1b(p:Pg)(i:Nat)(f:Pr)(D:List (List Str))(it:Item):List Str:=bif (QQ p i f).live.getD (ixI p i f it.s.id).toNat false then(PL D it.s.id).filter (outB p f)else []
def Ro(p:Pg)(i:Nat)(f:Pr)(D:List (List Str))(h:List Item):List Str:=h.flatMap (x1b p i f D)
def IP{p:Pg}{i:Nat}{f:Pr}{D:List (List Str)}{h:List Item}{k:Nat}(l:k<h.length):Ro p i f D (h.take (k+1))=Ro p i f D (h.take k)++x1b p i f D h[k]:=by
 unfold Ro;rw[x9v l,z3t];simp
def SC{p:Pg}{i:Nat}{f:Pr}{D:List (List Str)}(l:∀d∈D,d.length<=1000)(k:List Item):(Ro p i f D k).length<=k.length*1000:=by
 refine VL k fun it _=>?_;unfold x1b;cases(QQ p i f).live.getD (ixI p i f it.s.id).toNat false with
 |false=>exact x8i _
 | true=>
   refine z1q (z2p _ _) ?_;unfold PL;rcases x8o (it.s.id-1).toNat D.length with h|h
   .rw [x8n,x8p h];exact l _ (x9w h)
   .rw [x8n,z0x h];exact x8i _
def Hg(b:Book)(p:Pg)(V:b.s=sheetOf p)(h:QP p=true)(i:Nat)(f:Pr)(F:p.A[i]?=some f)(hW:b.ways[i]?=some (QQ p i f))(hD:b.N.length=(sheetOf p).l.length)(T:∀d∈b.N,d.length<=1000):SpecH prog 71 [.p (.ip b.cells),.j i] [] (fun r H=>OneRow (H9 (Ro p i f b.N (itsOf p i f))) False r H):=by
 refine sK Yx func71 ?_;conv=>whnf
 obtain⟨P,_,_,U,hs⟩:=QY p;obtain⟨s1,s2,s3,Y⟩:=hs i f F;have hcn:=(XQ h).2.2;have J:=Zg (sheetOf p) i (offN p.A i) (offN p.A i+cntL f.body) s1 s2 (by omega) (by omega) (by omega);rw[Y]at J;have Q:itL (i:Nat) 0 (-1) 0 (offN p.A i) f.body=itsOf p i f:=rfl;rw[Q,<-V]at J;have E:b.s.p=p:=by rw[V,P]
 have e:=fun x=>BZ b x;rw[E]at e;have K:(b.s.p.A.map fun f=>AV.agg f.cells)[i]?=some (.agg f.cells):=by rw[E,x9x,F];rfl
 have L:(b.ways.map fun w=>AV.ip w.cells)[i]?=some (.ip (QQ p i f).cells):=by rw[x9x,hW];rfl
 have hIl:((itsOf p i f).map fun i=>AV.agg i.cells).length=(itsOf p i f).length:=x8b _;have hil:(itsOf p i f).length<=200:=by
  have R:=z0l length Y;rw[Q,z1d,x9s]at R;omega
 have B:∀k,(Ro p i f b.N ((itsOf p i f).take k)).length<=200*1000:=fun k=>by
  have R:=SC (p:=p) (i:=i) (f:=f) T ((itsOf p i f).take k);have h2:((itsOf p i f).take k).length*1000<=200*1000:=z0m _ (by rw[x9s];omega);omega
 repeat' ((first|(refine iM fun _=>?_)|refine x9p rfl ?_|refine iT K ?_|refine cP J ?_)<;>conv=>whnf)
 refine lJ (fun k:Nat=>⟨[(0,.p (.ip b.cells)),(1,.j i),(5,.hd 0 0 (Ro p i f b.N ((itsOf p i f).take k)).length),(6,.p (.ip f.cells)),(27,.p (UD (itsOf p i f))),(28,.p (.int .i64 ((itsOf p i f).map fun i=>AV.agg i.cells).length)),(29,.j k)],[(0,.own 9 1 ((Ro p i f b.N ((itsOf p i f).take k)).map .str))]⟩) (fun k=>k<=(itsOf p i f).length) (fun k=>(itsOf p i f).length-k) 0 (lM [(0,.own 9 1 [])]) (x8i _) ?_;intro k hk;have hak:=B k;rcases x8o k (itsOf p i f).length with m|m;rotate_left 1
 .rw [x9u m];conv=>whnf
  repeat' (apply bD<;>intro _<;>first|omega|conv=>whnf)
  all_goals exact z0f _ (x9b _) (OneRow.str rfl)
 have t:=IP (p:=p) (i:=i) (f:=f) (D:=b.N) m;have hb:=ZS (QU h).1 F (YP (x9w m));have I:=Nq p i f h F (itsOf p i f)[k].s.id (.inr (.inr hb));have O:x1b p i f b.N (itsOf p i f)[k]=bif (QQ p i f).live.getD (ixI p i f (itsOf p i f)[k].s.id).toNat false then(PL b.N (itsOf p i f)[k].s.id).filter (outB p f)else []:=rfl;have u:((itsOf p i f)[k].s.id-1).toNat<b.N.length:=by omega
 have M:(b.N.map eStrs)[((itsOf p i f)[k].s.id-1).toNat]?=some (eStrs (PL b.N (itsOf p i f)[k].s.id)):=by
  unfold PL;rw[x9x,x8n,x8p u];rfl
 have hDl:(PL b.N (itsOf p i f)[k].s.id).length<=1000:=by
  unfold PL;rw[x8n,x8p u];exact T _ (x9w u)
 generalize(QQ p i f).live.getD (ixI p i f (itsOf p i f)[k].s.id).toNat false=lv at*
 rw[O]at t;generalize PL b.N (itsOf p i f)[k].s.id=D at*
 generalize Ro p i f b.N ((itsOf p i f).take k)=acc at*
 have hDm:(D.map AV.str).length=D.length:=x8b _;cases lv;all_goals
  conv=>whnf
  repeat' ((first|(refine gX ?_;intros)|refine dA ?_|refine iT L ?_|refine cP I ?_|refine iT M ?_|((first|apply bD|apply bN)<;>intro _<;>try omega))<;>conv=>whnf)
 all_goals first
  |contradiction
  |exact⟨k+1,m,by omega,Le.of_eq (by rw[t,x9k,z0k];rfl)⟩
  |skip
 all_goals
  rw[x9z]at t;refine lI (fun x:Nat×List Str=>⟨[(0,.p (.ip b.cells)),(1,.j i),(5,.hd 0 0 x.2.length),(6,.p (.ip f.cells)),(27,.p (UD (itsOf p i f))),(28,.p (.int .i64 ((itsOf p i f).map fun i=>AV.agg i.cells).length)),(29,.j k),(54,.p (eStrs D)),(55,.p (.int .i64 (D.map AV.str).length)),(56,.j x.1)],[(0,.own 9 1 (x.2.map .str))]⟩) (fun x=>x.1<=D.length/\x.2=acc++(D.take x.1).filter (outB p f)/\x.2.length<=acc.length+x.1) (fun x=>D.length-x.1) (0,acc) ⟨x8i _,by simp,by simp⟩ ?_;rintro⟨q,o⟩ ⟨Z,y,h6⟩;simp only at Z y h6⊢;rcases x8o q D.length with z|z
  .have v:=x9v z;have G:=e D[q];have g:=VM f.C ⟨D[q],true⟩;have n:outB p f D[q]=(comB p D[q]||decide ((⟨D[q],true⟩:Param)∈f.C)):=rfl;generalize hdc:decide ((⟨D[q],true⟩:Param)∈f.C)=dc at g n;conv=>whnf
   repeat' ((first|(refine gX ?_;intros)|refine cP G ?_|refine cP g ?_ (ha:=.cons (Sub.refl _) (.cons (Sub.agg (.cons (Sub.refl _) (.cons (Sub.tt rfl) .nil))) .nil))|refine WU (by simp) (by rw[x8b];omega) ?_|((first|apply bD|apply bB)<;>intro _<;>try omega))<;>conv=>whnf)
   all_goals first
    | (have c:outB p f D[q]=true:=by rw[n,show comB p D[q]=true by assumption];rfl
       exact⟨(q+1,o++[D[q]]),⟨z,by simp only;rw[v,z2x,z1n c,y,x9l];rfl,by simp;omega⟩,by simp only;omega,Le.of_eq (by simp only[x8m,x8a];rfl)⟩)
    | (have c:outB p f D[q]=true:=by rw[n,show dc=true by assumption,Bool.or_true]
       exact⟨(q+1,o++[D[q]]),⟨z,by simp only;rw[v,z2x,z1n c,y,x9l];rfl,by simp;omega⟩,by simp only;omega,Le.of_eq (by simp only[x8m,x8a];rfl)⟩)
    | (have c:outB p f D[q]=false:=by rw[n,show comB p D[q]=false by assumption,show dc=false by assumption];rfl
       exact nX (q+1,o) ⟨z,by simp only;rw[v,z2x,z1t (by rw[c];decide),y];simp,by simp only;omega⟩)
  .rw [x9u z,<-t]at y;subst y;conv=>whnf
   repeat' ((first|refine wI ?_|(apply bD<;>intro _<;>try omega))<;>conv=>whnf)
   all_goals exact nX (k+1) m
def Io(x:X):SpecH prog 141 ([AV.agg x.cells].map .p) [] (OneRow (H9 (QN x)) (QN x=[])):=by
 refine sK Uk func141 ?_;conv=>whnf
 repeat' ((first|refine cP (GM _) ?_|(apply bN<;>intro _))<;>conv=>whnf)
 .refine CallK.nil 5 9 1 rfl (.cons rfl (.row .nil)) ?_;refine cJ [(2000,5)] 0 (Gi 20 (by omega) x (by assumption) [] (by simp)) ?_;rintro l' H' ⟨rfl,rfl⟩;conv=>whnf
  have e:QN x=Wn x []:=by
   unfold QN;rw[show J0 x=true by assumption];rfl
  rw[e];exact z0f _ (x9b _) (FI rfl)
 .have e:QN x=[]:=by
   unfold QN;rw[show J0 x=false by assumption];rfl
  exact z0f _ (x9b _) (.inl ⟨rfl,rfl,e⟩)
def usA(a:Arg):List Str:=(if a.ref=true then [a.name]else [])++QN a.x
def inAt(b:Book)(t:S):List Str:=b.ins.getD (caI b.s.p t).toNat []
def OE(t:S):List Str:=QN t.x++(if t.kind=2 then [tapeS]else [])
def Xk(b:Book)(t:S):List Str:=if t.kind=4 then OE t++t.args.flatMap usA++inAt b t else OE t
def OY(a:Arg):(usA a).length<=1048577:=by
 have:=WJ a.x;unfold usA;rw[x8m];split<;>simp<;>omega
def Cl(t:S):(OE t).length<=1048577:=by
 have:=WJ t.x;unfold OE;rw[x8m];split<;>simp<;>omega
def AR(t:S)(j:Nat):List Str:=OE t++(t.args.take j).flatMap usA
def q0x(t:S)(ha:t.args.length<=21000):(AR t j).length<=23000000000:=by
 have h:=Cl t;have i:=DV OY (t.args.take j);have k:(t.args.take j).length*1048577<=21000*1048577:=z0m _ (by simp;omega);unfold AR;simp only[x8m];omega
def E8{t:S}(h:j<t.args.length):AR t (j+1)=AR t j++usA t.args[j]:=by
 unfold AR;rw[x9v h,z3t,x9l];simp
theorem OneRow.es{L:List Str}{es:List AV}{n:Nat}{nil:Prop}(i:es=L.map .str)(h:n=L.length):OneRow (H9 L) nil (.hd 0 0 n) [(0,.own 9 1 es)]:=by
 subst i;exact YY h
structure UseOk(b:Book)(t:S):Prop where
 i0:0<=caI b.s.p t
 ii:(caI b.s.p t).toNat<b.ins.length
 al:t.args.length<=21000
 len:(inAt b t).length<=1000000
def Hh(b:Book)(t:S)(c:t.kind=4->UseOk b t):SpecH prog 73 [.p (.ip b.cells),.p (.agg t.cells)] [] (fun r H=>OneRow (H9 (Xk b t)) (Xk b t=[]) r H):=by
 refine sK Yz func73 ?_;conv=>whnf
 have g:=Io t.x;have y:=BX b t;have d:idxF (fun f=>f.name==t.D) b.s.p.A=caI b.s.p t:=rfl;rw[d]at y;have G:=WJ t.x;conv=>whnf
 refine KU 0 rfl g (.cons (.p (Sub.refl _)) .nil) (fun k=>?_) (fun q e sz es B=>?_);rotate_left;obtain⟨rfl,rfl,rfl⟩:=B
 rotate_right
 all_goals
  conv=>whnf
  repeat' ((first|(refine gX ?_;intros)|refine WU (es:=[]) rfl (by simp) ?_|refine pS ?_|((first|apply bD|apply bE)<;>intro _<;>try omega))<;>conv=>whnf)
 .have e:Xk b t=[tapeS]:=by unfold Xk OE;rw[if_neg (by assumption),if_pos (by assumption),k];rfl
  rw[e];exact z0f _ (x9b _) (YY (L:=[tapeS]) rfl)
 rotate_left
 .have e:Xk b t=[]:=by unfold Xk OE;rw[if_neg (by assumption),if_neg (by assumption),k];rfl
  exact z0f _ (x9b _) (.inl ⟨rfl,rfl,e⟩)
 .have e:Xk b t=QN t.x++[tapeS]:=by unfold Xk OE;rw[if_neg (by assumption),if_pos (by assumption)]
  rw[e];exact z0f _ (x9b _) (OneRow.es (by rw[x8a];rfl) (by simp))
 rotate_left
 .have e:Xk b t=QN t.x:=by unfold Xk OE;rw[if_neg (by assumption),if_neg (by assumption),z0k]
  rw[e];exact z0f _ (x9b _) (OneRow.es rfl (by simp))
 all_goals
  have m:t.kind=4:=by assumption
  have o:=c m;have w:AR t 0=QN t.x:=by unfold AR OE;rw[if_neg (by omega),z3q,List.flatMap_nil,z0k,z0k]
  have J:(t.args.map fun a=>AV.agg a.cells).length=t.args.length:=x8b _;have C:(b.ins.map eStrs)[(caI b.s.p t).toNat]?=some (eStrs (inAt b t)):=by
   unfold inAt;rw[x9x,x8n,x8p o.ii];rfl
  have hi0:=o.i0;have E:=o.len;have u:=o.al;refine LoopK.inv ZP (fun j:Nat=>⟨[(0,.p (.ip b.cells)),(3,.p (.ip t.cells)),(5,.hd 0 0 (AR t j).length),(22,.p (.sl (t.args.map fun a=>.agg a.cells))),(23,.p (.int .i64 (t.args.map fun a=>AV.agg a.cells).length)),(24,.j j)],[(0,.own 9 1 ((AR t j).map .str))]⟩) (fun j=>j<=t.args.length) (fun j=>t.args.length-j) 0 ?_ (x8i _) ?_
  .first
    | (rw[w,k]
       exact lM [(0,.own 9 1 [])])
    | (rw[w]
       exact Le.of_eq (by rw[x8b];rfl))
  intro j I;have z:=q0x t (j:=j) u;have l:t.args.length<=j->Xk b t=AR t j++inAt b t:=fun h=>by
   unfold Xk AR;rw[if_pos m,x9u h]
  have n:=fun h=>E8 (t:=t) (j:=j) h;generalize AR t j=acc at*
  rcases x8o j t.args.length with i|i
  .have F:=WJ t.args[j].x;conv=>whnf
   repeat' ((first|refine cP (U7 _) ?_|(refine gX ?_;intros)|refine ZT _ (by simp) (by simp;omega) ?_|refine pS ?_|((first|apply bD|apply bB)<;>intro _<;>try omega))<;>conv=>whnf)
   all_goals
    refine⟨j+1,i,by omega,Le.of_eq ?_⟩;first
     | (have v:usA t.args[j]=[t.args[j].name]++QN t.args[j].x:=by rw[usA,if_pos (by assumption)]
        rw[n i,v];simp only[x8m,x8a,x8b,<-x9l,<-z1j];rfl)
     | (have v:usA t.args[j]=QN t.args[j].x:=by rw[usA,if_neg (by rw[show t.args[j].ref=false by assumption];decide)];rfl
        rw[n i,v];simp only[x8m,x8a,x8b];rfl)
  .rw [l i];conv=>whnf
   repeat' ((first|refine dA ?_|refine aD ?_|refine cP y ?_|refine iT C ?_|refine ZT _ (by simp) (by simp;omega) ?_|(apply bD<;>intro _<;>try omega))<;>conv=>whnf)
   all_goals exact z0f _ (x9b _) (OneRow.es (by rw[x8a]) (by simp))
def HW(w:Way)(f:Pr):List (Int×Int):=(PM w f).map (ixP w.p w.j f w.n)
def TS(w:Way)(f:Pr)(n:Nat)(h:WayT w f n)(B:∀t∈HW w f,(0<=t.1/\t.1<n)/\0<=t.2/\t.2<n)(k:(PM w f).length<=1000000):aP 143 [.ip w.cells] (H6 (Zs n (HW w f))):=by
 refine sC B6 func143 ?_;conv=>whnf
 have D:=h.hw;have A:=h.hn;have g:=h.hn2;have d:=Rl w f n h;have b:=DA w f h.hj h.hc (by omega) (PM w f) k;have C:(avP (HW w f)).length=(HW w f).length:=by unfold avP;rw[x8b]
 have c:(HW w f).length<=1000000:=by unfold HW;rw[x8b];exact k
 have v:(PM w f).map (ixP w.p w.j f w.n)=HW w f:=rfl;rw[v]at b;repeat' ((first|(refine gX ?_;intros)|refine MkK.mk n (by omega) (by show 24*_<=140737488355328;omega) (by unfold maxLen;omega) ?_|refine cP d ?_|refine cP b ?_)<;>conv=>whnf)
 refine lJ (fun j:Nat=>⟨[(3,.hd 0 0 n),(14,.p (.sl (avP (HW w f)))),(15,.p (.int .i64 (avP (HW w f)).length)),(16,.j j)],[(0,.ext (.mat 54 3 1 (avI (Zs n ((HW w f).take j))) []))]⟩) (fun j=>j<=(HW w f).length) (fun j=>(HW w f).length-j) 0 (by
   refine Le.trans (It n rfl) ?_;exact lE (hH:=.cons rfl (.of_eq (by simp[avI,Zs])) .nil)) (x8i _) ?_
 intro j J;rcases x8o j (HW w f).length with r|r
 .have o:(avP (HW w f))[j]?=some (.agg [.int .i64 (HW w f)[j].1,.int .i64 (HW w f)[j].2]):=by simp[avP,r]
  obtain⟨⟨F,G⟩,H,I⟩:=B _ (x9w r);have q:Zs n ((HW w f).take (j+1))=nxE (Zs n ((HW w f).take j)) (HW w f)[j]:=by
   unfold Zs;rw[x9v r,List.foldl_append];rfl
  have z:=G8 n ((HW w f).take j);have i:=Lt n ((HW w f).take j) (HW w f)[j].1.toNat;generalize(HW w f)[j]=t at o F G H I q i;generalize Zs n ((HW w f).take j)=rows at q z i⊢;obtain⟨a,ha⟩ : ∃a:Nat,t.1=a:=⟨t.1.toNat,by omega⟩;have m:a<rows.length:=by omega
  have l:(avI rows)[a]?=some (rows[a].map (.int .i64)):=by unfold avI;rw[x9x,x8p m];rfl
  have s:(avI rows).set a (rows[a].map (.int .i64)++[.int .i64 t.2])=avI (nxE rows t):=by
   unfold nxE avI;rw[ha,z1r,x8n,x8p m,z1k,z0o,x8a];rfl
  have e:rows[a].length<=1000000:=by
   rw[ha,z1r,x8n,x8p m,z1k,x9s]at i;omega
  rw[ha]at o;conv=>whnf
  repeat' ((first|refine x9p rfl ?_|refine aD ?_|refine wI ?_|refine DrawK.of ZP mixed (.cons 0 false (.cons 1 false (.cons 2 false (.cons 3 false (.cons 4 false (.cons 5 false (.cons 6 false (.cons 8 false (.cons 9 false (.alo 7 (.cons 10 true (.cons 11 true (.cons 12 true (.cons 13 true .nil)))))))))))))) (by kernel_rfl) ?_|refine iT o ?_|refine z2b 0 rfl (by decide) ?_|refine z2b 1 rfl (by decide) ?_|refine iO a ?_|refine RowK.mk a _ (by omega) l (by simp) ?_|refine z4w (fun x E=>by rcases x9q.1 E with rfl;rfl) rfl ?_|refine OpK.focus ZP 27 0 a 2 rfl rfl l (by simp) rfl rfl ?_|refine Xg rfl (by rw[x8b];omega) ?_|(refine Jn ZP rfl rfl rfl rfl rfl rfl rfl rfl rfl (by decide) a [] (by omega) (by unfold avI;rw[x8b];omega) (by simp) ⟨by simp,by simp,by simp⟩ ?_)|(apply bD<;>intro _<;>try omega))<;>conv=>whnf)
  all_goals exact⟨j+1,r,by omega,Le.of_eq (by rw[q,<-s];rfl)⟩
 .have y:(HW w f).take j=HW w f:=x9u r;rw[y];have u:=G8 n (HW w f);conv=>whnf
  repeat' (apply bD<;>intro _<;>first|omega|conv=>whnf)
  exact⟨_,.mat rfl (by unfold avI;rw[x8b,u]),rfl⟩
section
variable {p:Pg}{j:Nat}{f:Pr}
def dR(p:Pg)(j:Nat)(f:Pr):Int->Int->Prop:=stR (PM (QQ p j f) f)
def q4y(h:QP p=true)(k:p.A[j]?=some f){b:Int}:dR p j f a b↔wR p j f a b\/∃l∈trapsW (QQ p j f) f,∃t∈flL f.body,t.id∈l/\t.kind=10/\a=t.id/\b = -1:=by
 constructor
 .rintro ⟨s,q,rfl,rfl⟩;rcases x8e.1 ((NZ (Bh h k)).2.1 s q)with m|m
  .obtain ⟨l,o,t,r,i,n,rfl⟩:=(W9 h k).1 m;exact .inr ⟨l,o,t,r,i,n,rfl,rfl⟩
  .exact .inl ⟨s,m,rfl,rfl⟩
 .rintro (⟨s,q,rfl,rfl⟩|⟨l,o,t,r,i,n,rfl,rfl⟩)
  .exact Es h k (x8e.2 (.inr q))
  .exact Es h k (s:=⟨t.id,-1,3⟩) (x8e.2 (.inl ((W9 h k).2 ⟨l,o,t,r,i,n,rfl⟩)))
def q6w(h:QP p=true)(i:p.A[j]?=some f){b:Int}(m:dR p j f a b):plP p j f a/\plP p j f b:=by
 have l:x2p p j f a b:=by
  rcases(q4y h i).1 m with k|k
  .exact (E6 h i).2 (.inl k)
  .exact (E6 h i).2 (.inr (.inr (.inl k)))
 exact⟨(q9y h i l).1,(q9y h i l).2.1⟩
def NY(h:QP p=true)(l:p.A[j]?=some f):∀t∈HW (QQ p j f) f,(0<=t.1/\t.1<(cntL f.body+2:Nat))/\0<=t.2/\t.2<(cntL f.body+2:Nat):=fun t n=>by
 obtain⟨s,m,rfl⟩:=x8c.1 n;obtain⟨i,k⟩:=q6w h l ⟨s,m,rfl,rfl⟩;exact⟨GP i,GP k⟩
def q2r(h:QP p=true)(t:p.A[j]?=some f){b:Int}(ha:plP p j f a)(r:plP p j f b):(ixI p j f a,ixI p j f b)∈HW (QQ p j f) f↔dR p j f a b:=by
 constructor
 .intro n;obtain⟨s,i,k⟩:=x8c.1 n;obtain⟨o,q⟩:=q6w h t ⟨s,i,rfl,rfl⟩;have l:ixI p j f s.src=ixI p j f a:=z0l Prod.fst k;have m:ixI p j f s.dst=ixI p j f b:=z0l Prod.snd k;exact⟨s,i,LL o ha l,LL q r m⟩
 .rintro ⟨s,i,rfl,rfl⟩;exact x8c.2 ⟨s,i,rfl⟩
end

def GO:List RI->Int->Int×Bool
 |[],_=>(0,false)
 |x::r,i=>if i=0 then(0,false)else if x.s.id=i then(if x.s.kind=6 then(i,true)else GO r x.inn)else GO r i
def Re:List RI->Int->Int×Bool
 |[],_=>(0,false)
 |x::r,id=>if x.s.id=id then(if(GO r x.inn).2 then GO r x.inn else Re r id)else Re r id
def CS{l:List RI}{n:Nat}(h:n<l.length)(i:Int):GO (l.take (n+1)).reverse i=if i=0 then(0,false)else if l[n].s.id=i then(if l[n].s.kind=6 then(i,true)else GO (l.take n).reverse l[n].inn)else GO (l.take n).reverse i:=by
 rw[x9v h,List.reverse_append];show GO (l[n]::(l.take n).reverse) i=_;rw[GO]
def Mv{l:List RI}{n:Nat}(h:n<l.length)(i:Int):Re (l.take (n+1)).reverse i=if l[n].s.id=i then(if(GO (l.take n).reverse l[n].inn).2 then GO (l.take n).reverse l[n].inn else Re (l.take n).reverse i)else Re (l.take n).reverse i:=by
 rw[x9v h,List.reverse_append];show Re (l[n]::(l.take n).reverse) i=_;rw[Re]
def CC:∀(l:List RI),GO l 0=(0,false)
 |[]=>rfl
 |x::r=>by rw[GO,if_pos rfl]
theorem F7:∀(l r:List RI){i:Int},i≠0->(∀x∈l,x.s.id≠i)->GO (l++r) i=GO r i
 |[],_,_,_,_=>rfl
 |x::l,r,i,h0,h=>by rw[z3v,GO,if_neg h0,if_neg (h x x8l),F7 l r h0 fun y k=>h y (x8r _ k)]
mutual
theorem x7d(D d i:Int)(e:Bool):∀(t:S){nest m:Int}(nx lp:Int)(n:Nat),Hm nest n t=some m->(itS D i nx lp n t).map (fun it=>(it.s,it.up))=(fuS d i e t).map fun x=>(x.s,x.inn)
 | .mk id kind F name pr x has args I L,nest,m,nx,lp,n,h=>by
   obtain⟨_,hid,m1,h3,h4⟩:=FW h;have hid:id=(n:Int)+1:=hid;have hm1:=YC _ _ I h3;have h3':UA (nest+1) ((n+1:Nat):Int) I=some m1:=by rw[<-h3];rfl
   have h4':UA (nest+1) ((n+1+cntL I:Nat):Int) L=some m:=by
    rw[<-h4,hm1];congr 1
   rw[itS,fuS,x9c,x9c,x8a,x8a,<-hid,x2c D (d+1) id false I _ _ _ h3',x2c D (d+1) id true L _ _ _ h4']
theorem x2c(D d i:Int)(e:Bool):∀(l:List S){nest m:Int}(nx lp:Int)(n:Nat),UA nest n l=some m->(itL D i nx lp n l).map (fun it=>(it.s,it.up))=(fuL d i e l).map fun x=>(x.s,x.inn)
 |[],_,_,_,_,_,_=>by rw[itL,fuL];rfl
 | t::r,nest,m,nx,lp,n,h=>by
   obtain⟨_,m1,h1,h2⟩:=KH h;have hm1:=J7 _ _ t h1;have h2':UA nest ((n+XL t:Nat):Int) r=some m:=by rw[<-h2,hm1];rfl
   rw[itL,fuL,x8a,x8a,x7d D d i e t _ _ _ h1,x2c D d i e r _ _ _ h2']
end

mutual
theorem lpS(D:Int):∀(t:S){nest m:Int}(up nx lp:Int)(n:Nat),Hm nest n t=some m->∀it∈itS D up nx lp n t,(it.up=up/\it.loop=lp)\/∃iu∈itS D up nx lp n t,iu.s.id=it.up/\iu.s.id<it.s.id/\it.loop=if iu.s.kind=6 then iu.s.id else iu.loop
 | .mk id kind F name pr x has args I L,nest,m,up,nx,lp,n,h,it,hi=>by
   obtain⟨_,hid,m1,h3,h4⟩:=FW h;have hid:id=(n:Int)+1:=hid;have hm1:=YC _ _ I h3;have h3':UA (nest+1) ((n+1:Nat):Int) I=some m1:=by rw[<-h3];rfl
   have h4':UA (nest+1) ((n+1+cntL I:Nat):Int) L=some m:=by
    rw[<-h4,hm1];congr 1
   rw[itS]at hi⊢;rcases x8s.1 hi with rfl|hi
   ·exact .inl ⟨rfl,rfl⟩
   rcases x8e.1 hi with hi|hi
   ·have hr:=I8 h3' hi;rcases lpL D I _ _ _ (n+1) h3' it hi with⟨h5,h6⟩|⟨iu,h5,h6⟩
    ·refine .inr ⟨_,x8l,?_,?_,?_⟩
     ·rw[h5];exact hid
     ·show id<_;omega
     ·rw[h6];show(if kind=6 then(n:Int)+1 else lp)=if kind=6 then id else lp;rw[hid]
    ·exact .inr ⟨iu,x8r _ (x8e.2 (.inl h5)),h6⟩
   ·have hr:=I8 h4' hi;rcases lpL D L _ _ _ (n+1+cntL I) h4' it hi with⟨h5,h6⟩|⟨iu,h5,h6⟩
    ·refine .inr ⟨_,x8l,?_,?_,?_⟩
     ·rw[h5];exact hid
     ·show id<_;omega
     ·rw[h6];show(if kind=6 then(n:Int)+1 else lp)=if kind=6 then id else lp;rw[hid]
    ·exact .inr ⟨iu,x8r _ (x8e.2 (.inr h5)),h6⟩
theorem lpL(D:Int):∀(l:List S){nest m:Int}(up nx lp:Int)(n:Nat),UA nest n l=some m->∀it∈itL D up nx lp n l,(it.up=up/\it.loop=lp)\/∃iu∈itL D up nx lp n l,iu.s.id=it.up/\iu.s.id<it.s.id/\it.loop=if iu.s.kind=6 then iu.s.id else iu.loop
 |[],nest,m,up,nx,lp,n,h,it,hi=>by rw[itL]at hi;cases hi
 | t::r,nest,m,up,nx,lp,n,h,it,hi=>by
   obtain⟨_,m1,h1,h2⟩:=KH h;have hm1:=J7 _ _ t h1;have h2':UA nest ((n+XL t:Nat):Int) r=some m:=by rw[<-h2,hm1];rfl
   rw[itL]at hi⊢;rcases x8e.1 hi with hi|hi
   ·rcases lpS D t up _ lp n h1 it hi with h5|⟨iu,h5,h6⟩
    ·exact .inl h5
    ·exact .inr ⟨iu,x8e.2 (.inl h5),h6⟩
   ·rcases lpL D r up nx lp (n+XL t) h2' it hi with h5|⟨iu,h5,h6⟩
    ·exact .inl h5
    ·exact .inr ⟨iu,x8e.2 (.inr h5),h6⟩
end
section
variable {p:Pg}{j:Nat}{f:Pr}
def q1z(h:YV p=true)(i:p.A[j]?=some f):(flatU f).map (fun x=>x.s.id)=JB (offN p.A j) (cntL f.body):=by
 obtain⟨m,k⟩:=Ts h i;rw[<-DM 1 f.body k];have:=Vw 1 0 false f.body;rw[<-this,z4u];rfl
def q1w{t:S}(h:t∈flL f.body):∃x∈flatU f,x.s=t:=by
 rw[<-show(flatU f).map RI.s=flL f.body from Vw 1 0 false f.body]at h;exact x8c.1 h
def Tu(h:YV p=true)(E:p.A[j]?=some f){it:Item}(c:it∈itsOf p j f):Re (flatU f).reverse it.s.id=(it.loop,decide (it.loop≠0)):=by
 obtain⟨m,V⟩:=Ts h E;have i:=x2c (j:Nat) 1 0 false f.body (-1) 0 (offN p.A j) V;have d:=q1z h E;have e:=fun it c=>lpL (j:Nat) f.body 0 (-1) 0 (offN p.A j) V it c;have hib:=fun it (c:it∈itsOf p j f)=>ZS h E (YP c);have T:=fun a (ha:a∈itsOf p j f) b (hb:b∈itsOf p j f) H=>Iq h E ha hb H;have Y:itL (j:Nat) 0 (-1) 0 (offN p.A j) f.body=itsOf p j f:=rfl;have N:fuL 1 0 false f.body=flatU f:=rfl;rw[Y]at i e;rw[N]at i;have U:(itsOf p j f).length=(flatU f).length:=by simpa using z0l length i
 have u:∀(k:Nat)(r:k<(flatU f).length),((itsOf p j f)[k]'(by omega)).s=(flatU f)[k].s/\((itsOf p j f)[k]'(by omega)).up=(flatU f)[k].inn:=fun k r=>by
  have y:=z0l (fun l=>l[k]?) i;simp only[x9x,x8p r,x8p (show k<(itsOf p j f).length by omega),z1e]at y;have P:=z0y y;exact⟨z0l Prod.fst P,z0l Prod.snd P⟩
 have o:∀(k:Nat)(r:k<(flatU f).length),(flatU f)[k].s.id=(offN p.A j:Int)+1+k:=fun k r=>by
  have y:=z0l (fun l=>l[k]?) d;have I:k<cntL f.body:=by have:=DH 1 0 false f.body;rw[N]at this;omega
  unfold JB at y;simp only[x9x,x8p r,z1e,z2e I]at y;have:=z0y y;omega
 have key:∀(k:Nat)(r:k<(flatU f).length),GO ((flatU f).take k).reverse (flatU f)[k].inn=(((itsOf p j f)[k]'(by omega)).loop,decide (((itsOf p j f)[k]'(by omega)).loop≠0)):=fun k=>by
  induction k using Nat.strongRecOn with
  | _ k L=>
    intro r;obtain⟨F,w⟩:=u k r;have J:=o k r;rcases e _ (x9w (show k<(itsOf p j f).length by omega))with⟨G,v⟩|⟨iu,G,v,Q,Z⟩
    .rw [<-w,G,v,CC];rfl
    .obtain ⟨q,hq,rfl⟩:=z0v.1 G;obtain⟨M,b2⟩:=u q (by omega);have hqi:=o q (by omega);rw[F]at Q;rw[M]at v Q;have K:q<k:=by omega
     have C:(flatU f).take k=(flatU f).take q++(flatU f)[q]::((flatU f).take k).drop (q+1):=by
      have R:((flatU f).take k).take q++((flatU f).take k).drop q=(flatU f).take k:=z3e q _;rw[List.take_take,Nat.min_eq_left (by omega),x9i (by rw[x9s];omega),List.getElem_take]at R;exact R.symm
     have hi0:(flatU f)[k].inn≠0:=by rw[<-w,<-v];omega
     have B:((flatU f).take k).reverse=(((flatU f).take k).drop (q+1)).reverse++(flatU f)[q]::((flatU f).take q).reverse:=by
      rw[C];have:((flatU f).take q++(flatU f)[q]::((flatU f).take k).drop (q+1)).drop (q+1)=((flatU f).take k).drop (q+1):=by rw[<-C]
      rw[this,List.reverse_append,List.reverse_cons,x9l];rfl
     rw[B,F7 _ _ hi0 (fun x hx=>by
      obtain⟨z,hz,rfl⟩:=z0v.1 (List.mem_reverse.1 hx);rw[z1d,x9s]at hz;rw[List.getElem_drop,List.getElem_take,o _ (by omega),<-w,<-v];omega)]
     rw[GO,if_neg hi0,if_pos (by rw[<-w,<-v])];rw[Z,M];split
     .rename_i hk6;rw[<-w,<-v,z0r (by omega)]
     .exact L q K (by omega)
 obtain⟨k,r,rfl⟩:=z0v.1 c;have t:k<(flatU f).length:=by omega
 obtain⟨F,w⟩:=u k t;have D:∀(n:Nat),n<=(flatU f).length->Re ((flatU f).take n).reverse (flatU f)[k].s.id=if k<n then(((itsOf p j f)[k]'(by omega)).loop,decide (((itsOf p j f)[k]'(by omega)).loop≠0))else(0,false):=fun n=>by
  induction n with
  |zero=>intro _;rfl
  | succ n L=>
    intro hn;rw[Mv (show n<(flatU f).length by omega),L (by omega)];have J:=o k t;have hni:=o n (by omega);by_cases H:n=k
    .subst H;rw[if_pos rfl,key n t,if_neg (Nat.lt_irrefl n),if_pos (Nat.lt_succ_self n)];by_cases O:((itsOf p j f)[n]'(by omega)).loop=0
     .rw [O];rfl
     .rw [z0r O,if_pos rfl]
    .rw [if_neg (show ¬(flatU f)[n].s.id=(flatU f)[k].s.id by omega)];by_cases g:k<n
     .rw [if_pos g,if_pos (show k<n+1 by omega)]
     .rw [if_neg g,if_neg (show ¬k<n+1 by omega)]
 have:=D (flatU f).length (x9h _);rw[z3s,if_pos t]at this;rw[F];exact this
end
end Go.Ab
