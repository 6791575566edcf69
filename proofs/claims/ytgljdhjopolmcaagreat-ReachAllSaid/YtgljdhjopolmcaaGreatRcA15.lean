/- Who can come to an end has a way to its exit: the statement's own function, walked. -/
import Derived.Test.YtgljdhjopolmcaaGreatRcA14
set_option linter.all false
set_option maxRecDepth 100000
set_option maxHeartbeats 16000000
namespace Go.Ab
open Go.Proofs.Tryz
open Go.Proofs
variable {P:Program}{T:Tab}{a b:Int}
def Jj{hr:Bool}{s:St}{o:Oper}{K:LV->Prop}(hT:TabOK P T){t u:TypeId}{x y:Operand}(h:o.op=.binOp .eql t x y u){i:TyI}(d:T.get t=some i)(v:i.desc=.bool){a b:Bool}(f:q9p (QR s.sl x)=some a)(g:q9p (QR s.sl y)=some b)(r:K (.p (.bool (a==b)))):ValO P hr s o K:=by
 refine⟨fun σ β A w j _=>⟨_,.bool (a==b),r,.p (.bool _),fun w' _ _=>?_⟩⟩;have n:=Kt (QU j x) f;have q:=Kt (QU j y) g;have m:=hT.of d;rw[v]at m;have c:(eqGuard .eql t x y (.bool a) (.bool b)).run P w'=.ok () w':=by unfold eqGuard;rfl
 have z:(Op.equal t (.bool a) (.bool b)).run P w'=.ok (a==b) w':=by
  have e:Op.equal t (.bool a) (.bool b)=Op.equalIn (9999+1) t (.bool a) (.bool b):=rfl;rw[e,Op.equalIn,Sem.run_bind,run_underlying m,Result.andThen_ok];rfl
 simp only[execOp,h,n,q,Sem.run_bind,c,Result.andThen_ok,binOp];simp[z]
def XP{l:List Str}{x:Str}:inS l x=true↔x∈l:=by
 unfold inS;rw[z3z];constructor
 .rintro ⟨y,j,m⟩;have:y=x:=by simpa using m
  rw[<-this];exact j
 .intro h;exact⟨x,h,by simp⟩
def PR{p:Pg}(h:QM p=true){j:Nat}{f:Pr}(q:p.A[j]?=some f)(c:(QL p.A j:Int)+1<=a)(d:a<=(QL p.A j+QY f.body:Nat)):∃t∈flL f.body,q8c p a=some t/\t.id=a:=by
 obtain⟨it,u,w⟩:=BD q (k:=(a-1).toNat) (by omega) (by omega);refine⟨it.s,X2 w,by unfold q8c;rw[u];rfl,?_⟩;obtain⟨_,_,_,v,r⟩:=QK p;obtain⟨_,_,z,y⟩:=r j f q;have m:=Oc (QV h).1 q;have x:(itsOf p j f)[(a-1).toNat-QL p.A j]?=some it:=by
  unfold itsOf;rw[<-y,z3h,z2p,if_pos (by omega),show QL p.A j+((a-1).toNat-QL p.A j)=(a-1).toNat by omega];exact u
 have n:((itsOf p j f).map fun it=>it.s.id)[(a-1).toNat-QL p.A j]?=some it.s.id:=by rw[z1u,x];rfl
 rw[m]at n;unfold GM at n;rw[z1u,z5c (by omega)]at n;simp at n;omega
def C0{l:List Str}{s:Str}(h:s∈l):s∈Go.Lib.compact l:=by
 have key:∀(j:Nat)(m:j<l.length),l[j]∈Go.Lib.compact l:=fun j=>by
  induction j with
  | zero=>
    intro m;refine z1z.2 ⟨0,z2u.2 ⟨by simpa using m,by simp[Go.Lib.keeps]⟩,?_⟩;simp[m]
  | succ j q=>
    intro m;cases p:Go.Lib.keeps l.toArray (j+1)with
    | true=>
      refine z1z.2 ⟨j+1,z2u.2 ⟨by simpa using m,p⟩,?_⟩;simp[m]
    | false=>
      have n:j<l.length:=by omega
      have:l[j+1]=l[j]:=by
       unfold Go.Lib.keeps at p;simp[m,n]at p;exact p
      rw[this];exact q n
 obtain⟨j,m,rfl⟩:=z2e.1 h;exact key j m
def D4{l:List Str}{s:Str}:s∈Go.Lib.compact l↔s∈l:=⟨Z4,C0⟩
theorem FB{α:Type}{R:α->α->Prop}(irr:∀a,¬R a a)(r:∀a b c,R a b->R b c->R a c):∀{l m:List α},l.Pairwise R->m.Pairwise R->(∀s,s∈l↔s∈m)->l=m
 |[],[],_,_,_=>rfl
 |[],b::m,_,_,h=>by have:=(h b).2 z1j;cases this
 |a::l,[],_,_,h=>by have:=(h a).1 z1j;cases this
 | a::l,b::m,hl,hm,h=>by
   rw[z4s]at hl hm;have q:a=b:=by
    rcases z1g.1 ((h a).1 z1j)with j|j
    .exact j
    rcases z1g.1 ((h b).2 z1j)with p|p
    .exact p.symm
    exact absurd (r _ _ _ (hl.1 b p) (hm.1 a j)) (irr a)
   subst q;rw[FB irr r hl.2 hm.2 fun s=>?_];constructor
   .intro n;rcases z1g.1 ((h s).1 (z1x _ n))with rfl|j
    .exact absurd (hl.1 s n) (irr s)
    .exact j
   .intro n;rcases z1g.1 ((h s).2 (z1x _ n))with rfl|j
    .exact absurd (hm.1 s n) (irr s)
    .exact j
theorem CV:∀(x y:List UInt8),Op.bytesLess x y=decide (x<y)
 |[],[]=>by simp[Op.bytesLess]
 |_::_,[]=>by simp[Op.bytesLess]
 |[],_::_=>by simp[Op.bytesLess]
 | a::x,b::y=>by
   rw[Op.bytesLess,CV x y];simp only[List.cons_lt_cons_iff];by_cases h:a<b<;>by_cases j:a=b<;>by_cases m:x<y<;>simp[h,j,m]
def ltT(a b:Str):Prop:=Op.bytesLess a b=true
def LQ{a b:Str}:ltT a b↔a<b:=by
 unfold ltT;rw[CV,z2z]
theorem ltT.irr(a:Str):¬ltT a a:=fun h=>List.lt_irrefl a (LQ.1 h)
theorem ltT.trans(a b c:Str)(j:ltT a b)(m:ltT b c):ltT a c:=LQ.2 (List.lt_trans (LQ.1 j) (LQ.1 m))
theorem ltT.total{a b:Str}(h:a≠b):ltT a b\/ltT b a:=by
 by_cases m:a<b
 .exact .inl (LQ.2 m)
 .rcases List.le_iff_lt_or_eq.1 (List.not_lt.1 m)with j|j
  .exact .inr (LQ.2 j)
  .exact absurd j.symm h
def AK(l:List Str):(KL l).Pairwise fun a b=>a<=b:=by
 have:=List.pairwise_mergeSort (le:=fun x y:Str=>decide (x<=y)) (fun a b c j m=>by
  rw[z2z]at j m⊢;exact List.le_trans j m) (fun a b=>by
  rcases List.le_total a b with h|h
  .rw [z2t h];rfl
  .rw [z2t h];exact z8h _) l
 exact this.imp fun h=>by simpa using h
def T0{l:List Str}(h:l.Pairwise fun a b=>a<=b):(Go.Lib.compact l).Pairwise ltT:=by
 unfold Go.Lib.compact Go.Lib.compactUpTo;rw[z5o];refine(List.Pairwise.filter _ (List.pairwise_lt_range (n:=l.length))).imp_of_mem fun {i k} y z c=>?_;obtain⟨p,_⟩:=z2u.1 y;obtain⟨j,m⟩:=z2u.1 z;rw[z2h]at p j;have le:∀(a b:Nat)(_:a<=b)(v:b<l.length),l[a]'(by omega)<=l[b]:=fun a b x v=>by
  rcases z1w a b with q|q
  .exact z5n.1 h a b (by omega) v q
  .obtain rfl:a=b:=by omega
   exact List.le_refl _
 have g:∀(a:Nat)(ha:a<l.length),l.toArray[a]! = l[a]:=fun a ha=>by simp[ha]
 rw[g i p,g k j];unfold Go.Lib.keeps at m;rw[z2z,g k j,g (k-1) (by omega)]at m;have t:l[k]≠l[k-1]'(by omega):=by
  rcases m with u|u
  .omega
  .exact u
 have q:=le i (k-1) (by omega) (by omega);have w:=le (k-1) k (by omega) j;rcases List.le_iff_lt_or_eq.1 w with r|r
 .exact LQ.2 (List.lt_of_le_of_lt q r)
 .exact absurd r.symm t
def QA(l:List Str):List Str:=Go.Lib.compact (KL l)
def XY{l:List Str}{s:Str}:s∈QA l↔s∈l:=by unfold QA;rw[D4,Va]
def XB(l:List Str):(QA l).Pairwise ltT:=T0 (AK l)
def Vp{l m:List Str}(h:m.Pairwise ltT)(j:∀s,s∈m↔s∈l):m=QA l:=FB ltT.irr ltT.trans h (XB l) fun s=>by rw[j,XY]
def Cf{l:List Str}(h:l.Nodup):KL l=QA l:=by
 refine Vp ?_ fun s=>Va;have p:(KL l).Nodup:=by
  unfold KL;exact(z4i l _).nodup_iff.2 h
 refine(List.pairwise_and_iff.2 ⟨AK l,p⟩).imp fun⟨m,n⟩=>?_;rcases List.le_iff_lt_or_eq.1 m with j|j
 .exact LQ.2 j
 .exact absurd j n
structure RiseI{α:Type}(R:α->α->Prop)(l out:List α)(i:Nat):Prop where
 rise:out.Pairwise R
 sub:∀s∈out,s∈l
 seg:∀s∈l,s∉out->∀o∈out,R o s
 cnt:(∀s∈l,s∈out)\/out.length=i
def LeastI{α:Type}(R:α->α->Prop)(l out:List α)(k:Nat):Option α->Prop
 |none=>∀s∈l.take k,s∈out
 |some m=>m∈l/\m∉out/\∀s∈l.take k,s∉out->s=m\/R m s
section
variable {α:Type}{R:α->α->Prop}{l out:List α}{i k:Nat}
theorem RiseI.zero:RiseI R l [] 0:=⟨.nil,fun _ h=>(by cases h),fun _ _ _ _ h=>(by cases h),.inr rfl⟩
theorem LeastI.zero:LeastI R l out 0 none:=fun s h=>by rw[z5f]at h;cases h
def QO{s:α}(h:k<l.length):s∈l.take (k+1)↔s∈l.take k\/s=l[k]:=by
 rw[z1y h,z0o,z0i]
theorem LeastI.old(r:k<l.length){o:Option α}(h:LeastI R l out k o)(u:l[k]∈out):LeastI R l out (k+1) o:=by
 cases o with
 | none=>
   intro s q;rcases(QO r).1 q with j|rfl
   .exact h s j
   .exact u
 | some m=>
   refine⟨h.1,h.2.1,fun s q t=>?_⟩;rcases(QO r).1 q with j|rfl
   .exact h.2.2 s j t
   .exact absurd u t
theorem LeastI.first(j:k<l.length)(h:LeastI R l out k none)(t:l[k]∉out):LeastI R l out (k+1) (some l[k]):=by
 refine⟨z1h j,t,fun s r q=>?_⟩;rcases(QO j).1 r with m|rfl
 .exact absurd (h s m) q
 .exact .inl rfl
theorem LeastI.less(x:∀a b c,R a b->R b c->R a c)(q:k<l.length){m:α}(h:LeastI R l out k (some m))(w:l[k]∉out)(j:R l[k] m):LeastI R l out (k+1) (some l[k]):=by
 refine⟨z1h q,w,fun s v u=>?_⟩;rcases(QO q).1 v with r|rfl
 .rcases h.2.2 s r u with rfl|t
  .exact .inr j
  .exact .inr (x _ _ _ j t)
 .exact .inl rfl
theorem LeastI.more(tot:∀a b,a≠b->R a b\/R b a)(t:k<l.length){m:α}(h:LeastI R l out k (some m))(r:¬R l[k] m):LeastI R l out (k+1) (some m):=by
 refine⟨h.1,h.2.1,fun s v u=>?_⟩;rcases(QO t).1 v with q|rfl
 .exact h.2.2 s q u
 .by_cases j:l[k]=m
  .exact .inl j
  .exact .inr ((tot _ _ j).resolve_left r)
theorem RiseI.stay(h:RiseI R l out i)(j:LeastI R l out l.length none):RiseI R l out (i+1):=by
 rw[LeastI,z4k]at j;exact⟨h.rise,h.sub,h.seg,.inl j⟩
theorem RiseI.snoc(h:RiseI R l out i){m:α}(x:LeastI R l out l.length (some m)):RiseI R l (out++[m]) (i+1):=by
 obtain⟨t,u,v⟩:=x;rw[z4k]at v;refine⟨?_,fun s r=>?_,fun s r q o y=>?_,?_⟩
 .rw [z5a];exact⟨h.rise,z7f _ _,fun a ha b w=>by rw[z0i.1 w];exact h.seg m t u a ha⟩
 .rcases z0o.1 r with j|j
  .exact h.sub s j
  .rw [z0i.1 j];exact t
 .rw [z0o,not_or,z0i]at q;rcases z0o.1 y with j|j
  .exact h.seg s r q.1 o j
  .rw [z0i.1 j];exact(v s r q.1).resolve_left q.2
 .rcases h.cnt with j|j
  .exact absurd (j m t) u
  .exact .inr (by rw[z0e,j];rfl)
theorem RiseI.nodup(irr:∀a,¬R a a)(h:RiseI R l out i):out.Nodup:=by
 unfold List.Nodup;refine h.rise.imp fun {a b} j e=>?_;subst e;exact irr _ j
theorem RiseI.all[DecidableEq α](irr:∀a,¬R a a)(h:RiseI R l out i)(u:i=l.length):out.Pairwise R/\∀s,s∈out↔s∈l:=by
 refine⟨h.rise,fun s=>⟨h.sub s,fun r=>?_⟩⟩;rcases h.cnt with q|q
 .exact q s r
 .refine z3t fun t=>?_;have hnd:(s::out).Nodup:=z2i.2 ⟨t,h.nodup irr⟩;have:=UN hnd (m:=l) fun x j=>by
   rcases z1g.1 j with rfl|j
   .exact r
   .exact h.sub x j
  rw[z2k]at this;omega
theorem RiseI.len[DecidableEq α](irr:∀a,¬R a a)(h:RiseI R l out i):out.length<=l.length:=UN (h.nodup irr) h.sub
end
def ordP(a b:Int):Prop:=q5e a b=true
def GT:ordP a b↔(b = -1/\a ≠ -1)\/(a ≠ -1/\b ≠ -1/\a<b):=by
 unfold ordP q5e;by_cases ha:a = -1<;>by_cases h:b = -1<;>simp[ha,h]
theorem ordP.irr(a:Int):¬ordP a a:=fun h=>by rw[GT]at h;omega
theorem ordP.trans(a b c:Int)(j:ordP a b)(m:ordP b c):ordP a c:=by rw[GT]at*;omega
theorem ordP.total(a b:Int)(h:a≠b):ordP a b\/ordP b a:=by rw[GT,GT];omega
def C7{l m:List Int}(j:l.Pairwise ordP)(n:m.Pairwise ordP)(h:∀s,s∈l↔s∈m):l=m:=FB ordP.irr ordP.trans j n h
section
variable {P:Program}{T:Tab}{N:Nat}{o:Oper}{K:St->Prop}{s:St}
end
section
variable {P:Program}{T:Tab}{N:Nat}{o:Oper}{s:St}{hr:Bool}
def setCell(b:Nat)(c:AV)(l:List (Nat×AV)):List (Nat×AV):=l.map fun x=>if x.1=b then(b,c)else x
end
def Pk{s:St}{k p:Nat}{c t:Chunk}{K:St->Prop}(h:DU s k p c t K):∃u,K u/\DU s k p c t fun v=>v=u:=by
 unfold DU at h⊢;obtain⟨sl,w,_⟩:=VT (by rfl) h;have key:∀{f:LV->LV}{l:List (Nat×LV)}{K:List (Nat×LV)->Prop},Fo f l K↔K (l.map fun x=>(x.1,f x.2)):=fun {f} l=>by
  induction l with
  |nil=>intro K;rfl
  |cons x r q=>intro K;simp only[Fo,ZQ,q,z1t]
 have n:∀{f:LV->LV}{c:Chunk}{H:Heap},∃H',∀K:Heap->Prop,Yj k p f c H K↔K H':=fun {f c} H=>by
  induction H with
  |nil=>exact⟨[],fun K=>z8v⟩
  | cons x r q=>
    obtain⟨H',m⟩:=q;obtain⟨j,d⟩:=x;simp only[Yj,Vw];cases j==p with
    |true=>exact⟨H',fun K=>by simp only[z1n];exact m _⟩
    | false=>
      cases j==k with
      |true=>exact⟨(j,c)::H',fun K=>by simp only[z1n,z1o];exact m _⟩
      |false=>exact⟨(j,d.mapL f)::H',fun K=>by simp only[z1o];exact m _⟩
 rw[key]at h;simp only[key];obtain⟨H',m⟩:=n (f:=LV.xkill k) (c:=c) (H:=s.H);rw[m]at h;exact⟨_,h,(m _).2 rfl⟩
theorem OpK.focus{N:Nat}(hT:TabOK P T){s:St}{o:Oper}{K:St->Prop}(t k a x:Nat){e e2 sz:Nat}{rows:List (List AV)}{j:List Nat}{row:List AV}(L:WD x s=true)(E:getH s.H k=some (.ext (.mat e e2 sz rows j)))(v:rows[a]?=some row)(z:a∉j)(u:WV k=false)(J:getS s.sl t=.ext k (.row a row.length))(h:DU s k x (.ext (.mat e e2 sz rows (a::j))) (.own e2 sz row) fun r=>opW P T N ⟨(t,.hd x 0 row.length)::r.sl,r.H⟩ o K):OpK P N s o K:=by
 obtain⟨r,h,D⟩:=Pk h;refine⟨fun σ β B w hr Q=>?_⟩;obtain⟨β',m,I,A,q⟩:=CR hr L E v z u D;have c:Rel N σ β' ⟨(t,.hd x 0 row.length)::r.sl,r.H⟩ B w:=⟨m.size,m.defers,fun i=>by
  show RepL σ β' (getS ((t,.hd x 0 row.length)::r.sl) i) _;simp only[getS];cases F:t==i with
  | true=>
    have:t=i:=by simpa using F
    subst this;have g:=hr.G t;rw[J]at g;exact q _ g
  |false=>exact m.G i,m.heap⟩
 exact Oper.wp_mono (fun O w' ⟨σ',β'',M,C,f,y⟩=>⟨σ',β'',M,C,f,I.trans y⟩) (Dz hT h c Q)
def q1l{α:Type}{l m:List α}{j:Nat}(h:l.take j=m.take j)(p:j<l.length)(q:j<m.length)(n:l[j]=m[j]):l.take (j+1)=m.take (j+1):=by
 rw[z1y p,z1y q,h,n]
def q3y{α:Type}{l m:List α}{j:Nat}(h:l.take j=m.take j)(n:l.length<=j)(p:m.length<=j):l=m:=by
 rwa[z1f n,z1f p]at h
def X7(l m:List Int):aP 25 [QG l,QG m] (.bool (decide (l=m))):=by
 refine sC NF func25 ?_;conv=>whnf
 have t:(l.map (AV.int .i64)).length=l.length:=z0s _;have u:(m.map (AV.int .i64)).length=m.length:=z0s _;repeat' ((first|(refine iM fun _=>?_)|(apply bE<;>intro _<;>try omega))<;>conv=>whnf)
 all_goals first
  |exact RetK.ff (z2r fun h=>by subst h;omega)
  |skip
 have r:l.length=m.length:=by omega
 refine lI (fun j:Nat=>⟨[(0,.p (QG l)),(1,.p (QG m)),(12,.p (.int .i64 (l.map (AV.int .i64)).length)),(13,.j j)],[]⟩) (fun j=>j<=l.length/\l.take j=m.take j) (fun j=>l.length-j) 0 ⟨z1q _,rfl⟩ ?_;rintro j ⟨v,q⟩;rcases z1w j l.length with n|n
 .conv=>whnf
  repeat' ((first|refine dA ?_|(refine gX ?_;intros)|((first|apply bD|apply bE)<;>intro _<;>try omega))<;>conv=>whnf)
  all_goals first
   |exact RetK.ff (z2r fun h=>by subst h;simp_all)
   |exact nX (j+1) ⟨by omega,q1l q n (by omega) (by simp_all)⟩
 .conv=>whnf
  repeat' (apply bD<;>intro _<;>first|omega|conv=>whnf)
  exact RetK.tt (z2t (q3y q n (by omega)))
def IE{E:Int->Int->Prop}{B:List Int}{u x:Int}(h:Rch E u x)(v:u∈B)(m:x∉B):∃z y,z∈B/\E z y/\y∉B/\Rch E u y/\Rch E y x:=by
 induction h with
 |refl=>exact absurd v m
 | @tail b c h hr w=>
   by_cases j:b∈B
   .exact ⟨b,c,j,hr,m,.tail h hr,.refl⟩
   .obtain ⟨z,y,n,p,q,r,t⟩:=w j;exact⟨z,y,n,p,q,r,.tail t hr⟩
def chainE(E:Int->Int->Prop):List Int->Prop
 |[]=>True
 |[_]=>True
 |a::b::r=>E a b/\chainE E (b::r)
theorem Z1{E:Int->Int->Prop}:∀(l:List Int){a y:Int},chainE E (l++[a])->y∈l++[a]->Rch E y a
 | [],a,y,_,j=>by
   simp at j;rw[j];exact .refl
 | [b],a,y,h,j=>by
   simp at j;rcases j with rfl|rfl
   .exact .tail .refl h.1
   .exact .refl
 | b::c::r,a,y,h,j=>by
   have m:chainE E ((c::r)++[a]):=h.2;rcases z1g.1 j with rfl|j
   .exact .head h.1 (Z1 (c::r) m (by simp))
   .exact Z1 (c::r) m j
theorem Hj{E:Int->Int->Prop}:∀(l:List Int){a b:Int},chainE E (l++[a])->E a b->chainE E (l++[a]++[b])
 |[],a,b,_,hb=>⟨hb,trivial⟩
 |[c],a,b,h,hb=>⟨h.1,hb,trivial⟩
 |c::d::r,a,b,h,hb=>⟨h.1,Hj (d::r) h.2 hb⟩
theorem P5{E:Int->Int->Prop}:∀(l:List Int){a:Int},chainE E (l++[a])->chainE E l
 |[],_,_=>trivial
 |[_],_,_=>trivial
 |c::d::r,_,h=>⟨h.1,P5 (d::r) h.2⟩
structure DfsI(n:Nat)(E:Int->Int->Prop)(out stack:List Int):Prop where
 nd:(out++stack).Nodup
 rng:∀x∈out++stack,0<=x/\x<n
 path:chainE E stack
 cl:∀u∈out,∀v,E u v->v∈out\/v∈stack
 J:∀u∈out,∀x,Rch E u x->x∉out->∃s∈stack,Rch E u s/\Rch E s u/\Rch E s x
 K:∀(i:Nat)(r:Int),out[i]?=some r->∀u,Rch E u r->Rch E r u\/∃u',Rch E u u'/\Rch E u' u/\(u'∉out\/∃j,i<j/\out[j]?=some u')
theorem DfsI.start(n:Nat)(E:Int->Int->Prop):DfsI n E [] []:=⟨by simp,by simp,trivial,by simp,by simp,by simp⟩
theorem DfsI.push{n:Nat}{E:Int->Int->Prop}{out stack:List Int}(h:DfsI n E out stack)(w:0<=b/\b<n)(z:b∉out++stack)(c:chainE E (stack++[b])):DfsI n E out (stack++[b]):=by
 refine⟨?_,fun x j=>?_,c,fun u q v f=>?_,fun u q x j r=>?_,h.K⟩
 .rw [<-z1m,z3v];refine⟨h.nd,by simp,fun x j y g=>?_⟩;rw[z0i.1 g];exact fun e=>z (e▸j)
 .rw [<-z1m]at j;rcases z0o.1 j with j|j
  .exact h.rng x j
  .rw [z0i.1 j];exact w
 .rcases h.cl u q v f with m|m
  .exact .inl m
  .exact .inr (z0o.2 (.inl m))
 .obtain ⟨s,m,t⟩:=h.J u q x j r;exact⟨s,z0o.2 (.inl m),t⟩
theorem DfsI.pop{n:Nat}{E:Int->Int->Prop}{out st:List Int}(h:DfsI n E out (st++[a]))(ha:∀v,E a v->v∈out\/v∈st++[a]):DfsI n E (out++[a]) st:=by
 have hnd:=h.nd;rw[z3v]at hnd;obtain⟨hn1,Q,C⟩:=hnd;rw[z3v]at Q;obtain⟨hn4,_,hn5⟩:=Q;have Z:a∉out:=fun q=>C a q a (by simp) rfl;have F:a∉st:=fun q=>hn5 a q a (by simp) rfl;have L:∀u∈out++[a],∀v,E u v->v∈out++[a]\/v∈st:=fun u w v hv=>by
  have:v∈out\/v∈st++[a]:=by
   rcases z0o.1 w with w|w
   .exact h.cl u w v hv
   .rw [z0i.1 w]at hv;exact ha v hv
  rcases this with m|m
  .exact .inl (z0o.2 (.inl m))
  .rcases z0o.1 m with m|m
   .exact .inr m
   .exact .inl (z0o.2 (.inr m))
 have M:∀u∈out++[a],∀x,Rch E u x->x∉out++[a]->∃y∈st,Rch E u y/\Rch E y x:=fun u w x g G=>by
  obtain⟨z,y,m,D,c,t,H⟩:=IE g w G;rcases L z m y D with f|f
  .exact absurd f c
  .exact ⟨y,f,t,H⟩
 have Y:∀y∈st,Rch E y a:=fun y I=>Z1 st h.path (z0o.2 (.inl I));refine⟨?_,fun x g=>?_,P5 st h.path,L,fun u w x g G=>?_,fun i r O u w=>?_⟩
 .rw [z1m,z3v];refine⟨hn1,?_,fun x g y I=>C x g y (by simp at I⊢;exact I.symm)⟩;rw[z3v];refine⟨by simp,hn4,fun x g y I e=>?_⟩;rw[z0i.1 g]at e;exact F (e▸I)
 .refine h.rng x ?_;simp only[z0o,z0i]at g⊢;rcases g with(m|m)|m
  .exact .inl m
  .exact .inr (.inr m)
  .exact .inr (.inl m)
 .obtain ⟨y,m,D,c⟩:=M u w x g G;rcases z0o.1 w with w|w
  .have hyo:y∉out:=fun q=>C y q y (z0o.2 (.inl m)) rfl;obtain⟨s,t,H,f,h7⟩:=h.J u w y D hyo;rcases z0o.1 t with t|t
   .exact ⟨s,t,H,f,h7.trans c⟩
   .rw [z0i.1 t]at H f;exact⟨y,m,D,(Y y m).trans f,c⟩
  .rw [z0i.1 w]at D⊢;exact⟨y,m,D,Y y m,c⟩
 .rcases z1w i out.length with B|B
  .rw [z2a B]at O;rcases h.K i r O u w with m|⟨u',m,D,c⟩
   .exact .inl m
   .refine .inr ⟨u',m,D,?_⟩;rcases c with c|⟨j,c,t⟩
    .by_cases U:u'=a
     .exact .inr ⟨out.length,B,by rw[U];simp⟩
     .exact .inl fun q=>by
       rcases z0o.1 q with q|q
       .exact c q
       .exact U (z0i.1 q)
    .exact .inr ⟨j,c,by rw[z2a (z1k.1 t).1];exact t⟩
  .have hr:r=a:=by
    have m:=(z1k.1 O).1;simp at m;rw[z2f B,show i-out.length=0 by omega]at O;simpa using O.symm
   subst hr;by_cases A:Rch E r u
   .exact .inl A
   .right;by_cases V:u∈out
    .obtain ⟨s,t,H,f,h7⟩:=h.J u V r w Z;rcases z0o.1 t with t|t
     .refine ⟨s,H,f,.inl fun q=>?_⟩;rcases z0o.1 q with q|q
      .exact C s q s (z0o.2 (.inl t)) rfl
      .rw [z0i.1 q]at t;exact F t
     .rw [z0i.1 t]at f;exact absurd f A
    .refine ⟨u,.refl,.refl,.inl fun q=>?_⟩;rcases z0o.1 q with q|q
     .exact V q
     .rw [z0i.1 q]at A;exact A .refl
structure EndsP(n:Nat)(E:Int->Int->Prop)(es:List Int):Prop where
 nd:es.Nodup
 mem:∀x:Int,x∈es↔0<=x/\x<n
 K:∀(i:Nat)(r:Int),es[i]?=some r->∀u:Int,0<=u/\u<n->Rch E u r->Rch E r u\/∃u',Rch E u u'/\Rch E u' u/\∃j,i<j/\es[j]?=some u'
theorem DfsI.fin{n:Nat}{E:Int->Int->Prop}(w:∀x y,E x y->0<=y/\y<n){out:List Int}(h:DfsI n E out [])(j:∀x:Int,0<=x/\x<n->x∈out):EndsP n E out:=by
 refine⟨by simpa using h.nd,fun x=>⟨fun e=>h.rng x (by simpa using e),j x⟩,fun i r z u t c=>?_⟩;rcases h.K i r z u c with q|⟨f,q,v,m⟩
 .exact .inl q
 .refine .inr ⟨f,q,v,?_⟩;rcases m with m|m
  .exfalso;apply m;apply j;cases q with
   |refl=>exact t
   |tail _ hr=>exact w _ _ hr
  .exact m
def sccP(E:Int->Int->Prop)(x y:Int):Prop:=Rch E x y/\Rch E y x
theorem sccP.refl{E:Int->Int->Prop}(x:Int):sccP E x x:=⟨.refl,.refl⟩
theorem sccP.symm{E:Int->Int->Prop}{x y:Int}(h:sccP E x y):sccP E y x:=⟨h.2,h.1⟩
theorem sccP.trans{E:Int->Int->Prop}{x y z:Int}(h:sccP E x y)(j:sccP E y z):sccP E x z:=⟨h.1.trans j.1,j.2.trans h.2⟩
def SeenP(E:Int->Int->Prop)(es:List Int)(i:Nat)(x:Int):Prop:=∃(j:Nat) (y:Int),i<=j/\es[j]?=some y/\sccP E x y
def IY{n:Nat}{E:Int->Int->Prop}(g:∀x y,E x y->(0<=x/\x<n)/\0<=y/\y<n){es:List Int}(h:EndsP n E es){i:Nat}{r:Int}(f:es[i]?=some r)(hr:¬SeenP E es (i+1) r)(x:Int):
  Rch (fun a b=>E b a/\¬SeenP E es (i+1) b) r x↔sccP E r x:=by
 have e:=(h.mem r).1 (z1d f);constructor
 .intro A;have key:(0<=x/\x<n)/\¬SeenP E es (i+1) x/\Rch E x r:=A.closed (S:=fun x:Int=>(0<=x/\x<n)/\¬SeenP E es (i+1) x/\Rch E x r) (fun a b ⟨t,w,m⟩ ⟨p,u⟩=>⟨(g _ _ p).1,u,.head p m⟩) ⟨e,hr,.refl⟩;refine⟨?_,key.2.2⟩;rcases h.K i r f x key.1 key.2.2 with t|⟨D,t,w,j,m,p⟩
  .exact t
  .exact absurd ⟨j,D,m,p,t,w⟩ key.2.1
 .rintro ⟨t,w⟩;have d:∀y,sccP E r y->¬SeenP E es (i+1) y:=fun y B ⟨j,z,m,p,u⟩=>hr ⟨j,z,m,p,B.trans u⟩;have key:∀{a b:Int},Rch E a b->Rch E r a->Rch E b r->Rch (fun a b=>E b a/\¬SeenP E es (i+1) b) b a:=fun {a b} q=>by
   induction q with
   |refl=>intro _ _;exact .refl
   | @tail b c q v C=>
     intro m p;have u:Rch E b r:=.head v p;exact .head ⟨v,d b ⟨m.trans q,u⟩⟩ (C m u)
  exact key w t .refl
def q0m{E:Int->Int->Prop}{es:List Int}{i:Nat}{r:Int}(v:es[i]?=some r)(hr:SeenP E es (i+1) r)(x:Int):SeenP E es i x↔SeenP E es (i+1) x:=by
 constructor
 .rintro ⟨j,y,p,h,m⟩;rcases Nat.eq_or_lt_of_le p with n|n
  .subst n;rw[v]at h;cases h;obtain⟨k,z,q,t,u⟩:=hr;exact⟨k,z,q,t,m.trans u⟩
  .exact ⟨j,y,n,h,m⟩
 .rintro ⟨j,y,p,h,m⟩;exact⟨j,y,by omega,h,m⟩
def S2{E:Int->Int->Prop}{es:List Int}{i:Nat}{r:Int}(t:es[i]?=some r)(x:Int):SeenP E es i x↔SeenP E es (i+1) x\/sccP E r x:=by
 constructor
 .rintro ⟨j,y,q,m,n⟩;rcases Nat.eq_or_lt_of_le q with p|p
  .subst p;rw[t]at m;cases m;exact .inr n.symm
  .exact .inl ⟨j,y,p,m,n⟩
 .rintro (⟨j,y,q,m,n⟩|h)
  .exact ⟨j,y,by omega,m,n⟩
  .exact ⟨i,r,z1l _,t,h.symm⟩
def q6t{n:Nat}{E:Int->Int->Prop}{es:List Int}(h:EndsP n E es){x:Int}(p:0<=x/\x<n):SeenP E es 0 x:=by
 obtain⟨j,m⟩:=z3s.1 ((h.mem x).2 p);exact⟨j,x,z1q _,m,.refl x⟩
def rowE(rows:List (List Int))(x y:Int):Prop:=0<=x/\Lb rows x y
structure EndI(n:Nat)(rows:List (List Int))(out stack:List Int)(seen:List Bool)(at_:List Int):Prop where
 dfs:DfsI n (rowE rows) out stack
 sl:seen.length=n
 al:at_.length=n
 seen:∀x:Int,0<=x/\x<n->(seen.getD x.toNat false=true↔x∈out++stack)
 arng:∀x:Int,0<=x/\x<n->0<=at_.getD x.toNat 0/\at_.getD x.toNat 0<=(rows.getD x.toNat []).length
 cur:∀x:Int,0<=x/\x<n->∀(i:Nat)(y:Int),(i:Int)<at_.getD x.toNat 0->(rows.getD x.toNat [])[i]?=some y->y∈out++stack
theorem EndI.start(n:Nat)(rows:List (List Int)):EndI n rows [] [] (List.replicate n false) (List.replicate n 0):=by
 have j:∀x:Int,(List.replicate n (0:Int)).getD x.toNat 0=0:=fun x=>by
  rw[z0a,z2q];split<;>rfl
 refine⟨DfsI.start n _,by simp,by simp,fun x m=>?_,fun x m=>by rw[j];omega,fun x m i y q=>by rw[j]at q;omega⟩;rw[z0a,z2q];split<;>simp
def WQ{α:Type}{l:List α}{i j:Nat}{a d:α}(m:i<l.length):(l.set i a).getD j d=if i=j then a else l.getD j d:=by
 simp only[z0a,z5i];split
 .rename_i h;first
   |rfl
   |(rw[if_pos m];rfl)
 .rfl
theorem EndI.push{n:Nat}{rows:List (List Int)}{out stack:List Int}{seen:List Bool}{at_:List Int}(h:EndI n rows out stack seen at_){b:Int}(q:0<=b/\b<n)(r:seen.getD b.toNat false=false)(v:chainE (rowE rows) (stack++[b])):EndI n rows out (stack++[b]) (seen.set b.toNat true) at_:=by
 have j:b∉out++stack:=fun u=>by rw[(h.seen b q).2 u]at r;cases r
 refine⟨h.dfs.push q j v,by simpa using h.sl,h.al,fun x m=>?_,h.arng,fun x m i y t w=>?_⟩
 .rw [WQ (by rw[h.sl];omega),<-z1m,z0o,z0i];split
  .have:x=b:=by omega
   simp[this]
  .have:x≠b:=by omega
   rw[h.seen x m];simp[this]
 .rw [<-z1m];exact z0o.2 (.inl (h.cur x m i y t w))
theorem EndI.pop{n:Nat}{rows:List (List Int)}{out st:List Int}{a:Int}{seen:List Bool}{at_:List Int}(h:EndI n rows out (st++[a]) seen at_)(ha:at_.getD a.toNat 0=(rows.getD a.toNat []).length):EndI n rows (out++[a]) st seen at_:=by
 have hr:=h.dfs.rng a (by simp);have m:∀x:Int,x∈out++[a]++st↔x∈out++(st++[a]):=fun x=>by
  simp only[z0o,z0i];constructor
  .rintro ((j|j)|j)
   .exact .inl j
   .exact .inr (.inr j)
   .exact .inr (.inl j)
  .rintro (j|j|j)
   .exact .inl (.inl j)
   .exact .inr j
   .exact .inl (.inr j)
 refine⟨h.dfs.pop fun v t=>?_,h.sl,h.al,fun x r=>by rw[h.seen x r,m],h.arng,fun x r i y q u=>(m y).2 (h.cur x r i y q u)⟩;obtain⟨i,q⟩:=z3s.1 t.2;have:=h.cur a hr i v (by rw[ha];have:=(z1k.1 q).1;omega) q;exact z0o.1 this
theorem EndI.step{n:Nat}{rows:List (List Int)}{out stack:List Int}{seen:List Bool}{at_:List Int}(h:EndI n rows out stack seen at_)(ha:0<=a/\a<n){k:Nat}(z:at_.getD a.toNat 0=k)(v:(rows.getD a.toNat [])[k]?=some b)(w:b∈out++stack):EndI n rows out stack seen (at_.set a.toNat ((k:Int)+1)):=by
 have j:a.toNat<at_.length:=by rw[h.al];omega
 refine⟨h.dfs,h.sl,by simpa using h.al,h.seen,fun x u=>?_,fun x u i y r m=>?_⟩
 .rw [WQ j];split
  .rename_i q;have:=(z1k.1 v).1;rw[<-q];omega
  .exact h.arng x u
 .rw [WQ j]at r;split at r
  .rename_i q;rw[<-q]at m;rcases z1w i k with t|t
   .exact h.cur a ha i y (by omega) m
   .have:i=k:=by omega
    subst this;rw[v]at m;cases m;exact w
  .exact h.cur x u i y r m
def q8h(m:Int)(l:List Int):Int:=l.foldl (fun m x=>if x<m then x else m) m
def Rf:List Int->Int
 |[]=>0
 |a::r=>q8h a r
theorem TV:∀(l:List Int)(m:Int),q8h m l∈m::l/\∀x∈m::l,q8h m l<=x
 |[],m=>⟨by simp[q8h],by simp[q8h]⟩
 | a::r,m=>by
   obtain⟨q,n⟩:=TV r (if a<m then a else m);have e:q8h m (a::r)=q8h (if a<m then a else m) r:=rfl;have p:=n _ z1j;rw[e];generalize q8h (if a<m then a else m) r=z at q n p⊢;refine⟨?_,fun x j=>?_⟩
   .rcases z1g.1 q with h|h
    .rw [h];split<;>simp
    .exact z1x _ (z1x _ h)
   .rcases z1g.1 j with rfl|j
    .split at p<;>omega
    .rcases z1g.1 j with rfl|j
     .split at p<;>omega
     .exact n x (z1x _ j)
def TU{l:List Int}(h:0<l.length):Rf l∈l/\∀x∈l,Rf l<=x:=by
 cases l with
 |nil=>simp at h
 |cons a r=>exact TV r a
theorem OpK.min2{P:Program}{N:Nat}{s:St}{o:Oper}{K:St->Prop}{x y:Operand}{f:Array TypeId}(q:o.op=.call {callee:=.builtin .min,args:=#[x,y],argTypes:=f}){m n:Int}(c:QR s.sl x=.p (.int .i64 m))(e:QR s.sl y=.p (.int .i64 n))(h:setD N s.sl o.dst (.p (.int .i64 (if n<m then n else m))) fun sl=>K ⟨sl,s.H⟩):OpK P N s o K:=by
 refine⟨fun σ β a w hr Q=>?_⟩;have t:=QU hr.G x;have u:=QU hr.G y;rw[c]at t;rw[e]at u;have v:=t.int;have e2:=u.int;have j:(execOp a.eval o).run P w=.ok (.value (.int .i64 (if n<m then n else m))) w:=by
  simp[execOp,q,resolve,invoke,builtin,v,e2,Builtin.min_,Builtin.min2]
 obtain⟨sl,z,r⟩:=hr.setD (.p (.int .i64 (if n<m then n else m))) h;exact ZP j ⟨σ,β,_,z,r,Later.refl _ _ _ _⟩
def Zg(l:List Int)(q:0<l.length):aP 304 [QG l] (.int .i64 (Rf l)):=by
 refine sC NT func304 ?_;conv=>whnf
 have v:(l.map (AV.int .i64)).length=l.length:=z0s _;repeat' ((first|(refine iM fun _=>?_)|(apply bD<;>intro _<;>try omega))<;>conv=>whnf)
 refine IdxK.at (k:=0) (e:=.int .i64 l[0]) rfl (by simp[q]) rfl ?_;conv=>whnf
 skip
 refine lI (fun x:Nat×Int=>⟨[(0,.p (QG l)),(3,.j x.2),(4,.j x.1)],[]⟩) (fun x=>1<=x.1/\x.1<=l.length/\Rf (x.2::l.drop x.1)=Rf l) (fun x=>l.length-x.1) (1,l[0]) ⟨z1l _,q,by
  cases l with
  |nil=>simp at q
  |cons a r=>rfl⟩ ?_
 rintro⟨j,m⟩ ⟨t,u,h⟩;simp only at t u h⊢;rcases z1w j l.length with n|n
 .rw [QP n]at h;conv=>whnf
  repeat' ((first|(refine gX ?_;intros)|refine OpK.min2 rfl rfl rfl ?_|(apply bD<;>intro _<;>try omega))<;>conv=>whnf)
  exact nX (j+1,if l[j]<m then l[j]else m) ⟨by simp only;omega,n,h⟩
 .rw [z1b n]at h;conv=>whnf
  repeat' ((first|(refine iM fun _=>?_)|(apply bD<;>intro _<;>try omega))<;>conv=>whnf)
  exact RetK.int h
theorem q8a{α:Type}{f g:α->Nat}:∀{l:List α},(∀x∈l,f x<=g x)->(∃x∈l,f x<g x)->(l.map f).sum<(l.map g).sum
 |[],_,h=>by obtain⟨x,j,_⟩:=h;cases j
 | a::r,h1,h2=>by
   have m:∀{l:List α},(∀x∈l,f x<=g x)->(l.map f).sum<=(l.map g).sum:=fun {l} h=>by
    induction l with
    |nil=>simp
    | cons b r q=>
      simp only[z1t,z6d];have:=q fun x j=>h x (z1x _ j);have:=h b z1j;omega
   simp only[z1t,z6d];have t:=h1 a z1j;have u:=m fun x j=>h1 x (z1x _ j);obtain⟨x,j,n⟩:=h2;rcases z1g.1 j with rfl|j
   .omega
   .have:=q8a (fun y p=>h1 y (z1x _ p)) ⟨x,j,n⟩;omega
def muE(rows:List (List Int))(at_:List Int)(n:Nat):Nat:=((List.range n).map fun i=>(rows.getD i []).length-(at_.getD i 0).toNat).sum
def q5l{n:Nat}{rows:List (List Int)}{at_:List Int}{a:Nat}(ha:a<n)(p:at_.length=n){k:Nat}(j:at_.getD a 0=k)(m:k<(rows.getD a []).length):muE rows (at_.set a ((k:Int)+1)) n<muE rows at_ n:=by
 unfold muE;refine q8a (fun i _=>?_) ⟨a,z2h.2 ha,?_⟩
 .rw [WQ (by omega)];split
  .rename_i h;rw[<-h,j];omega
  .exact z1l _
 .rw [WQ (by omega),if_pos rfl,j];omega
def Lf{n:Nat}{l:List Int}(h:l.Nodup)(hr:∀x∈l,0<=x/\x<n):l.length<=n:=by
 have:=UN (m:=(List.range n).map fun(k:Nat)=>(k:Int)) h fun x j=>z1z.2 ⟨x.toNat,z2h.2 (by have:=hr x j;omega),by have:=hr x j;omega⟩;simpa using this
def q7n{l:List Bool}{i:Nat}(h:i<l.length):(l.map bv)[i]?=some (bv (l.getD i false)):=by
 rw[z1u,z0c h,z0a,z0c h];rfl
def Te{l:List Int}{i:Nat}(h:i<l.length):(l.map (AV.int .i64))[i]?=some (.int .i64 (l.getD i 0)):=by
 rw[z1u,z0c h,z0a,z0c h];rfl
def x3e(n:Nat)(rows:List (List Int))(r:AV):Prop:=∃es,r=QG es/\EndsP n (rowE rows) es
def Kj(n:Nat)(hn:n<=5000)(g:List (List Int)×List (List Int))(M:XT n g.1):SpecP prog 303 [YW g] (fun r=>x3e n g.1 r):=by
 refine sC W5 func303 ?_;conv=>whnf
 have V:((avI g.1).map AV.sl).length=n:=by simp[avI,M.1]
 repeat' ((first|(refine gX ?_;intros)|refine z6t n (by rw[V]) (by show 1*n<=140737488355328;omega) (by unfold maxLen;omega) ?_|refine z6t n (by rw[V]) (by show 8*n<=140737488355328;omega) (by unfold maxLen;omega) ?_)<;>conv=>whnf)
 refine lJ (fun x:Nat×List Int×List Bool×List Int=>⟨[(0,.p (YW g)),(3,.hd 2 0 x.2.1.length),(4,.hd 3 0 0),(5,.hd 0 0 n),(6,.hd 1 0 n),(26,.j n),(27,.j x.1)],[(0,.own 4 1 (x.2.2.1.map bv)),(1,.own 3 1 (x.2.2.2.map (.int .i64))),(2,.own 3 1 (x.2.1.map (.int .i64))),(3,.own 3 1 [])]⟩) (fun x=>x.1<=n/\EndI n g.1 x.2.1 [] x.2.2.1 x.2.2.2/\∀y:Int,0<=y/\y<x.1->y∈x.2.1) (fun x=>n-x.1) (0,[],List.replicate n false,List.replicate n 0) (lM [(2,.own 3 1 []),(3,.own 3 1 [])] (hsl:=.r (.cons (.nil z1j) (.cons (.nil (z1x _ z1j)) (.r (.r (.cons (.of_eq (by rw[V];rfl)) (.r .nil))))))) (hH:=.cons rfl (.of_eq (by rw[z4y];rfl)) (.cons rfl (.of_eq (by rw[z4y];rfl)) (.new z1j (.new (z1x _ z1j) .nil))))) ⟨z1q _,EndI.start n g.1,fun y J=>by omega⟩ ?_;rintro⟨r,out,seen,at_⟩ ⟨h1,h,m⟩;simp only at h1 h m⊢;have hsl:=h.sl;have d:=h.al;rcases z1w r n with hr|hr;rotate_left 1
 .conv=>whnf
  repeat' (apply bD<;>intro _<;>first|omega|conv=>whnf)
  have D:∀x:Int,0<=x/\x<n->x∈out:=fun x A=>m x (by omega);exact⟨_,.hd rfl (by simp),out,rfl,h.dfs.fin (fun x y Y=>LJ M Y.2) D⟩
 have B:=q7n (l:=seen) (i:=r) (by omega);have z:∃st Z,EndI n g.1 out st Z at_/\(r:Int)∈out++st/\((seen.getD r false=true/\st=[]/\Z=seen)\/(seen.getD r false=false/\st=[(r:Int)]/\Z=seen.set r true)):=by
  cases q:seen.getD r false with
  |true=>exact⟨[],seen,h,(h.seen r (by omega)).1 (by simpa using q),.inl ⟨rfl,rfl,rfl⟩⟩
  |false=>exact⟨[(r:Int)],seen.set r true,h.push (stack:=[]) (b:=r) (by omega) (by simpa using q) trivial,by simp,.inr ⟨rfl,rfl,rfl⟩⟩
 obtain⟨st0,f,c,h5,h6⟩:=z;rcases h6 with⟨q,v,e⟩|⟨q,v,e⟩;all_goals
  rw[q]at B;conv=>whnf
  repeat' ((first|refine gX ?_|refine iO r ?_|refine lO B ?_|refine lO B ?_|refine sO .tt B ?_|refine DN rfl (by simp) ?_|(apply bD<;>intro _<;>try omega))<;>conv=>whnf)
  refine lJ (fun x:List Int×List Int×List Bool×List Int=>⟨[(0,.p (YW g)),(3,.hd 2 0 x.1.length),(4,.hd 3 0 x.2.1.length),(5,.hd 0 0 n),(6,.hd 1 0 n),(26,.j n),(27,.j r)],[(0,.own 4 1 (x.2.2.1.map bv)),(1,.own 3 1 (x.2.2.2.map (.int .i64))),(2,.own 3 1 (x.1.map (.int .i64))),(3,.own 3 1 (x.2.1.map (.int .i64)))]⟩) (fun x=>EndI n g.1 x.1 x.2.1 x.2.2.1 x.2.2.2/\(r:Int)∈x.1++x.2.1/\∀y:Int,0<=y/\y<r->y∈x.1) (fun x=>muE g.1 x.2.2.2 n+(n-x.1.length)) (out,st0,f,at_) (lE (hsl:=.r (.r (.cons (.of_eq (by first|(rw[v];done)|(rw[v];rfl))) (.r (.r (.r (.r .nil))))))) (hH:=.cons rfl (.of_eq (by rw[e];first|done|rfl|(rw[z3w];rfl))) (.cons rfl (.refl _) (.cons rfl (.refl _) (.cons rfl (.of_eq (by rw[v];rfl)) .nil))))) ⟨c,h5,m⟩ ?_;clear c h5 v e B q hsl d h m;rintro⟨o,stk,s,t⟩ ⟨h,m,c⟩;simp only at h m c⊢;have hsl:=h.sl;have d:=h.al;have hol:o.length<=n:=Lf (by have:=h.dfs.nd;rw[z3v]at this;exact this.1) fun x A=>h.dfs.rng x (z0o.2 (.inl A));rcases z6e stk with rfl|⟨st,a,rfl⟩
  .have hz:(([]:List Int).length)=0:=rfl;conv=>whnf
   repeat' ((first|(refine gX ?_;intros)|(apply bD<;>intro _<;>try omega))<;>conv=>whnf)
   exact nX (r+1,o,s,t) ⟨hr,h,fun y J=>by
    rcases Int.lt_or_le y r with L|L
    .exact c y ⟨J.1,L⟩
    .have:y=r:=by simp only at J;omega
     rw[this];simpa using m⟩
  .rw [z6a]at h m⊢;have ha:=h.dfs.rng a (by simp);have hstl:(st++[a]).length=st.length+1:=by simp
   obtain⟨hk0,U⟩:=h.arng a ha;have e2:=Te (l:=t) (i:=a.toNat) (by omega);have O:((st++[a]).map (AV.int .i64))[st.length]?=some (.int .i64 a):=by simp
   have u:((avI g.1).map AV.sl)[a.toNat]?=some (.sl ((g.1.getD a.toNat []).map (.int .i64))):=by
    have:a.toNat<g.1.length:=by rw[M.1];omega
    rw[z0a,z0c this];simp[avI,this]
   obtain⟨k,G⟩ : ∃k:Nat,t.getD a.toNat 0=k:=⟨(t.getD a.toNat 0).toNat,by omega⟩;rw[G]at e2 U;have hrl:((g.1.getD a.toNat []).map (AV.int .i64)).length=(g.1.getD a.toNat []).length:=z0s _;have hnd:=h.dfs.nd;rcases z1w k (g.1.getD a.toNat []).length with w|w
   .obtain ⟨b,E⟩ : ∃b,(g.1.getD a.toNat [])[k]?=some b:=⟨_,z0c w⟩;have Q:(g.1.getD a.toNat [])[k]=b:=by rw[z0c w]at E;exact z3q E
    have hE:rowE g.1 a b:=⟨ha.1,z3s.2 ⟨k,E⟩⟩;have F:=LJ M hE.2;have hmu:=q5l (by omega) d G w;have C:=q7n (l:=s) (i:=b.toNat) (by omega);have hstk:(st++[a]).length<=n:=Lf (z3v.1 hnd).2.1 fun x A=>h.dfs.rng x (z0o.2 (.inr A));have I:(t.set a.toNat ((k:Int)+1)).map (AV.int .i64)=(t.map (AV.int .i64)).set a.toNat (.int .i64 ((k:Int)+1)):=z3w;have hkm:=h.arng a ha;cases q:s.getD b.toNat false with
    | true=>
      rw[q]at C;conv=>whnf
      repeat' ((first|(refine gX ?_;intros)|refine dA ?_|refine iO st.length ?_|refine lO O ?_|refine iO a.toNat ?_|refine lO e2 ?_|refine iT u ?_|refine iO b.toNat ?_|refine lO C ?_|refine sO (.int .i64 (k+1)) e2 ?_|(apply bD<;>intro _<;>try omega))<;>conv=>whnf)
      exact⟨(o,st++[a],s,t.set a.toNat ((k:Int)+1)),⟨h.step ha G E ((h.seen b F).1 q),m,c⟩,by simp only;omega,lE (hH:=.cons rfl (.refl _) (.cons rfl (.of_eq (by rw[I])) (.cons rfl (.refl _) (.cons rfl (.refl _) .nil))))⟩
    | false=>
      rw[q]at C;conv=>whnf
      repeat' ((first|(refine gX ?_;intros)|refine dA ?_|refine iO st.length ?_|refine lO O ?_|refine iO a.toNat ?_|refine lO e2 ?_|refine iT u ?_|refine iO b.toNat ?_|refine lO C ?_|refine sO (.int .i64 (k+1)) e2 ?_|refine sO .tt C ?_|refine pI ?_|(apply bD<;>intro _<;>try omega))<;>conv=>whnf)
      have h8:=h.push F q (Hj st h.dfs.path hE);exact⟨(o,st++[a]++[b],s.set b.toNat true,t.set a.toNat ((k:Int)+1)),⟨h8.step ha G E (by simp),by rw[<-z1m];exact z0o.2 (.inl m),c⟩,by simp only;omega,lE (hsl:=.r (.r (.cons (.of_eq (by simp;rfl)) (.r (.r (.r (.r .nil))))))) (hH:=.cons rfl (.of_eq (by rw[z3w];rfl)) (.cons rfl (.of_eq (by rw[I])) (.cons rfl (.refl _) (.cons rfl (.of_eq (by rw[Q];simp;rfl)) .nil))))⟩
   .have H:k=(g.1.getD a.toNat []).length:=by omega
    have hp:=h.pop (by rw[G,H]);have hol2:o.length+1<=n:=by
     have h7:=hp.dfs;have:=Lf (z3v.1 h7.nd).1 fun x A=>h7.rng x (z0o.2 (.inl A));simpa using this
    conv=>whnf
    repeat' ((first|(refine iM fun _=>?_)|refine dA ?_|refine z1s rfl ?_|refine aD ?_|refine bP ?_|refine wI ?_|refine iO st.length ?_|refine lO O ?_|refine iO a.toNat ?_|refine lO e2 ?_|refine iT u ?_|refine pI ?_|refine SlK.mk 0 st.length rfl (by show((st++[a]).length:Int)-1=_;omega) (by omega) (by omega) ?_|(apply bD<;>intro _<;>try omega))<;>conv=>whnf)
    have h9:muE g.1 t n+(n-(o++[a]).length)<muE g.1 t n+(n-o.length):=by simp;omega
    exact⟨(o++[a],st,s,t),⟨hp,by simpa[or_assoc,or_comm,or_left_comm]using m,fun y J=>z0o.2 (.inl (c y J))⟩,h9,(Le.cut (.same (.same (.same (.cut (es':=st.map (.int .i64)) ⟨[.int .i64 a],by simp⟩ .nil))))).trans (lE (hsl:=.r (.cons (.of_eq (by simp;rfl)) (.cons (.of_eq (by simp;rfl)) (.r (.r (.r (.r .nil))))))) (hH:=.cons rfl (.refl _) (.cons rfl (.refl _) (.cons rfl (.of_eq (by simp;rfl)) (.cons rfl (.refl _) .nil)))))⟩
def q8d(pre:List Bool)(rows:List (List Int)):List (List Int):=rows.map fun r=>r.filter fun b=> !pre.getD b.toNat false
def TD{pre:List Bool}{rows:List (List Int)}{x y:Int}:Lb (q8d pre rows) x y↔Lb rows x y/\pre.getD y.toNat false=false:=by
 unfold Lb q8d;simp only[z0a,z1u];cases rows[x.toNat]?with
 |none=>simp
 |some r=>simp
def x1y{n:Nat}{pre:List Bool}{rows:List (List Int)}(h:XT n rows):XT n (q8d pre rows):=by
 refine⟨by simp[q8d,h.1],fun r hr b m=>?_⟩;obtain⟨p,j,rfl⟩:=z1z.1 hr;exact h.2 p j b (z2u.1 m).1
structure SimW(pre:List Bool)(st st':List Bool×List Int):Prop where
 todo:st.2=st'.2
 len:st.1.length=st'.1.length
 mrk:∀k,st.1.getD k false=(pre.getD k false||st'.1.getD k false)
theorem SimW.see{pre:List Bool}{st j:List Bool×List Int}(h:SimW pre st j)(m:b.toNat<st.1.length)(r:pre.getD b.toNat false=false):SimW pre (FP st b) (FP j b):=by
 have q:=h.mrk b.toNat;rw[r,Bool.false_or]at q;unfold FP;rw[q];cases j.1.getD b.toNat false with
 |true=>exact h
 | false=>
   refine⟨by simp only[z1o];rw[h.todo],by simpa using h.len,fun k=>?_⟩;simp only[z1o];rw[WQ m,WQ (by rw[<-h.len];exact m)];split
   .simp
   .exact h.mrk k
theorem SimW.skip{pre:List Bool}{st j:List Bool×List Int}(h:SimW pre st j)(m:pre.getD b.toNat false=true):FP st b=st:=by
 unfold FP;rw[h.mrk,m];rfl
def q6r(st:List Bool×List Int)(b:Int):(FP st b).1.length=st.1.length:=by
 unfold FP;cases st.1.getD b.toNat false<;>simp
theorem SimW.fold{n:Nat}{pre:List Bool}:∀(l:List Int){st st':List Bool×List Int},SimW pre st st'->st.1.length=n->(∀b∈l,0<=b/\b<n)->SimW pre (l.foldl FP st) ((l.filter fun b=> !pre.getD b.toNat false).foldl FP st')/\(l.foldl FP st).1.length=n
 |[],_,_,h,hn,_=>⟨h,hn⟩
 | b::r,st,st',h,hn,hl=>by
   have q:=hl b z1j;have hr:∀c∈r,0<=c/\c<n:=fun c m=>hl c (z1x _ m);rw[z4d];cases j:pre.getD b.toNat false with
   | true=>
     rw[h.skip j,z2n (by rw[j];simp)];exact SimW.fold r h hn hr
   | false=>
     rw[z2m (by rw[j];simp),z4d];exact SimW.fold r (h.see (by omega) j) (by rw[q6r];exact hn) hr
theorem RJ{n:Nat}{pre:List Bool}{rows:List (List Int)}(hr:XT n rows):∀(k i:Nat){st st':List Bool×List Int},SimW pre st st'->st.1.length=n->SimW pre (ZC rows k i st) (ZC (q8d pre rows) k i st')
 |0,_,_,_,h,_=>h
 | k+1,i,st,st',h,hn=>by
   rw[ZC,ZC,<-h.todo];cases ha:st.2[i]?with
   |none=>exact h
   | some a=>
     simp only;have j:∀b∈rows.getD a.toNat [],0<=b/\b<n:=fun b q=>LJ hr q;have t:(q8d pre rows).getD a.toNat []=(rows.getD a.toNat []).filter fun b=> !pre.getD b.toNat false:=by
      unfold q8d;simp only[z0a,z1u];cases rows[a.toNat]?with
      |none=>simp
      |some r=>simp
     rw[t];obtain⟨m,p⟩:=SimW.fold (n:=n) _ h hn j;exact RJ hr k (i+1) m p
def q2d{n:Nat}{pre:List Bool}{rows:List (List Int)}(hr:XT n rows)(z:pre.length=n){r:Int}(u:0<=r/\r<n)(C:pre.getD r.toNat false=false):
  (∀x,x∈(ZC rows (n+1) 0 (pre.set r.toNat true,[r])).2↔Rch (fun a b=>Lb rows a b/\pre.getD b.toNat false=false) r x)/\
  (∀x:Int,0<=x/\x<n->((ZC rows (n+1) 0 (pre.set r.toNat true,[r])).1.getD x.toNat false=true↔pre.getD x.toNat false=true\/x∈(ZC rows (n+1) 0 (pre.set r.toNat true,[r])).2)):=by
 have c:FP (List.replicate n false,[]) r=((List.replicate n false).set r.toNat true,[r]):=by
  unfold FP;have:(List.replicate n false).getD r.toNat false=false:=by
   rw[z0a,z2q];split<;>rfl
  simp only[this,z1o,z4v]
 obtain⟨w,d,_⟩:=(WkM.start n).see u;rw[c]at w d;have p:SimW pre (pre.set r.toNat true,[r]) ((List.replicate n false).set r.toNat true,[r]):=⟨rfl,by simp[z],fun k=>by
  rw[WQ (by omega),WQ (by simp;omega)];split
  .simp
  .have:(List.replicate n false).getD k false=false:=by
    rw[z0a,z2q];split<;>rfl
   rw[this,Bool.or_false]⟩
 have v:=RJ hr (n+1) 0 p (by simpa using z);obtain⟨e,f,g,A⟩:=B0 (x1y (pre:=pre) hr) (n+1) 0 w (z1q _) (by omega) (fun m a B=>by omega);refine⟨fun x=>?_,fun x j=>?_⟩
 .rw [v.todo];constructor
  .intro j;exact A (fun x=>Rch (fun a b=>Lb rows a b/\pre.getD b.toNat false=false) r x) (fun x j=>by rw[z0i.1 j];exact .refl) (fun x b q t=>.tail q (TD.1 t)) x j
  .intro j;exact j.closed (S:=fun x=>x∈(ZC (q8d pre rows) (n+1) 0 ((List.replicate n false).set r.toNat true,[r])).2) (fun x y q t=>g x q y (TD.2 t)) (f r (by simp))
 .rw [v.mrk,v.todo,e.mem,z4f];exact⟨fun h=>h.imp id fun h=>⟨j,h⟩,fun h=>h.imp id fun h=>h.2⟩
def ME{n:Nat}(h:0<=a/\a<n):WH n a=true:=by
 unfold WH;simpa using h
structure MinP(E:Int->Int->Prop)(x v:Int):Prop where
 scc:sccP E x v
 le:∀y,sccP E x y->v<=y
theorem MinP.uniq{E:Int->Int->Prop}{x v w:Int}(h:MinP E x v)(j:MinP E x w):v=w:=Int.le_antisymm (h.le w j.scc) (j.le v h.scc)
def Yf(n:Nat)(rows:List (List Int)):List Int:=(List.range n).map fun(a:Nat)=>Rf ((NM 0 (WT rows [(a:Int)])).filter fun b=>(NM 0 (WT rows [b])).contains (a:Int))
def q6p{n:Nat}{rows:List (List Int)}(hr:XT n rows){x y:Int}(q:0<=x):Rch (rowE rows) x y↔Rch (Lb rows) x y:=by
 refine⟨fun h=>h.mono fun _ _ h=>h.2,fun h=>?_⟩;exact(h.closed (S:=fun y:Int=>0<=y/\Rch (rowE rows) x y) (fun a b ⟨m,p⟩ j=>⟨(LJ hr j).1,.tail p ⟨m,j⟩⟩) ⟨q,.refl⟩).2
def Ae{n:Nat}{rows:List (List Int)}(hr:XT n rows){x y:Int}(j:0<=x/\x<n)(h:Rch (rowE rows) x y):0<=y/\y<n:=
 h.closed (S:=fun y:Int=>0<=y/\y<n) (fun _ _ _ h=>LJ hr h.2) j
def SC{n:Nat}{rows:List (List Int)}(hr:XT n rows){x:Int}(j:0<=x/\x<n)(y:Int):y∈NM 0 (WT rows [x])↔Rch (rowE rows) x y:=by
 rw[TS hr,q6p hr j.1];constructor
 .rintro ⟨a,ha,_,h⟩;rw[z0i.1 ha]at h;exact h
 .intro h;exact⟨x,by simp,ME j,h⟩
def LW(n:Nat)(rows:List (List Int)):(Yf n rows).length=n:=by simp[Yf]
def Yd{n:Nat}{rows:List (List Int)}(hr:XT n rows){x:Int}(p:0<=x/\x<n):MinP (rowE rows) x ((Yf n rows).getD x.toNat 0):=by
 have e:(Yf n rows).getD x.toNat 0=Rf ((NM 0 (WT rows [x])).filter fun b=>(NM 0 (WT rows [b])).contains x):=by
  unfold Yf;rw[z0a,z1u,z5b (by omega)];have:((x.toNat:Nat):Int)=x:=by omega
  simp[this]
 have m:∀y,y∈(NM 0 (WT rows [x])).filter (fun b=>(NM 0 (WT rows [b])).contains x)↔sccP (rowE rows) x y:=fun y=>by
  rw[z2u,SC hr p,List.contains_iff_mem];constructor
  .rintro ⟨h,j⟩;exact⟨h,(SC hr (Ae hr p h) x).1 j⟩
  .rintro ⟨h,j⟩;exact⟨h,(SC hr (Ae hr p h) x).2 j⟩
 rw[e];obtain⟨h,j⟩:=TU (l:=(NM 0 (WT rows [x])).filter fun b=>(NM 0 (WT rows [b])).contains x) (z7l ((m x).2 (sccP.refl x)));exact⟨(m _).1 h,fun y q=>j y ((m y).2 q)⟩
structure PartI(n:Nat)(E:Int->Int->Prop)(es:List Int)(m:Nat)(part:List Int)(seen:List Bool):Prop where
 sl:seen.length=n
 pl:part.length=n
 seen:∀x:Int,0<=x/\x<n->(seen.getD x.toNat false=true↔SeenP E es m x)
 min:∀x:Int,0<=x/\x<n->SeenP E es m x->MinP E x (part.getD x.toNat 0)
theorem PartI.start{n:Nat}{E:Int->Int->Prop}{es:List Int}:PartI n E es es.length (List.replicate n 0) (List.replicate n false):=by
 have m:∀x,¬SeenP E es es.length x:=fun x ⟨j,y,t,q,_⟩=>by
  have:=(z1k.1 q).1;omega
 refine⟨by simp,by simp,fun x _=>?_,fun x _ r=>absurd r (m x)⟩;rw[z0a,z2q];have:=m x;split<;>simp[this]
def JX(l:List Int)(v:Int)(part:List Int):List Int:=l.foldl (fun p a=>p.set a.toNat v) part
theorem Zk(v:Int):∀(l part:List Int),(JX l v part).length=part.length
 |[],_=>rfl
 | a::r,part=>by
   show(JX r v (part.set a.toNat v)).length=_;rw[Zk v r];simp
theorem Db{n:Nat}(v:Int){x:Int}(y:0<=x/\x<n):∀(l:List Int){part:List Int},part.length=n->(∀a∈l,0<=a/\a<n)->(x∈l->(JX l v part).getD x.toNat 0=v)/\(x∉l->(JX l v part).getD x.toNat 0=part.getD x.toNat 0)
 |[],_,_,_=>⟨by simp,fun _=>rfl⟩
 | a::r,part,hl,ha=>by
   have t:=ha a z1j;have e:JX (a::r) v part=JX r v (part.set a.toNat v):=rfl;obtain⟨p,q⟩:=Db v y r (part:=part.set a.toNat v) (by simpa using hl) fun b u=>ha b (z1x _ u);have w:(part.set a.toNat v).getD x.toNat 0=if a.toNat=x.toNat then v else part.getD x.toNat 0:=WQ (by omega);rw[e];by_cases j:x∈r
   .exact ⟨fun _=>p j,fun h=>absurd (z1x _ j) h⟩
   .rw [q j,w];constructor
    .intro h;rcases z1g.1 h with rfl|h
     .rw [if_pos rfl]
     .exact absurd h j
    .intro h;have:x≠a:=fun m=>h (by rw[m];exact z1j);rw[if_neg (by omega)]
theorem PartI.part{n:Nat}{g:List (List Int)×List (List Int)}(Z:XT n g.1)(z:XT n g.2)(M:∀x y,rowE g.2 x y↔rowE g.1 y x){es:List Int}(Y:EndsP n (rowE g.1) es){m:Nat}{part:List Int}{seen:List Bool}(h:PartI n (rowE g.1) es (m+1) part seen){r:Int}(hr:es[m]?=some r)(Q:seen.getD r.toNat false=false):
  (∀x∈(ZC g.2 (n+1) 0 (seen.set r.toNat true,[r])).2,0<=x/\x<n)/\0<(ZC g.2 (n+1) 0 (seen.set r.toNat true,[r])).2.length/\wkInv n (seen.set r.toNat true,[r])/\
  PartI n (rowE g.1) es m (JX (ZC g.2 (n+1) 0 (seen.set r.toNat true,[r])).2 (Rf (ZC g.2 (n+1) 0 (seen.set r.toNat true,[r])).2) part) (ZC g.2 (n+1) 0 (seen.set r.toNat true,[r])).1:=by
 have v:=(Y.mem r).1 (z1d hr);have hsl:=h.sl;have O:¬SeenP (rowE g.1) es (m+1) r:=fun E=>by rw[(h.seen r v).2 E]at Q;cases Q
 obtain⟨h1,U⟩:=q2d z h.sl v Q;have C:∀x y,rowE g.1 x y->(0<=x/\x<n)/\0<=y/\y<n:=fun x y I=>⟨LJ z ((M y x).2 I).2,LJ Z I.2⟩;have e:=IY C Y hr O;have D:∀x,Rch (fun a b=>Lb g.2 a b/\seen.getD b.toNat false=false) r x↔Rch (fun a b=>rowE g.1 b a/\¬SeenP (rowE g.1) es (m+1) b) r x:=fun x=>by
  constructor
  .intro q;exact(q.closed (S:=fun x:Int=>(0<=x/\x<n)/\Rch (fun a b=>rowE g.1 b a/\¬SeenP (rowE g.1) es (m+1) b) r x) (fun a b ⟨f,B⟩ ⟨A,V⟩=>by
    have J:=LJ z A;refine⟨J,.tail B ⟨(M a b).1 ⟨f.1,A⟩,fun E=>?_⟩⟩;rw[(h.seen b J).2 E]at V;cases V) ⟨v,.refl⟩).2
  .intro q;refine q.mono fun a b ⟨f,B⟩=>⟨((M a b).2 f).2,?_⟩;have J:=(C b a f).1;cases hq:seen.getD b.toNat false with
   |true=>exact absurd ((h.seen b J).1 hq) B
   |false=>rfl
 have j:∀x,x∈(ZC g.2 (n+1) 0 (seen.set r.toNat true,[r])).2↔sccP (rowE g.1) r x:=fun x=>by rw[h1,D,e]
 have u:∀x∈(ZC g.2 (n+1) 0 (seen.set r.toNat true,[r])).2,0<=x/\x<n:=fun x q=>Ae Z v ((j x).1 q).1;have t:0<(ZC g.2 (n+1) 0 (seen.set r.toNat true,[r])).2.length:=z7l ((j r).2 (sccP.refl r));have G:wkInv n (seen.set r.toNat true,[r]):=by
  refine⟨by simpa using h.sl,?_,fun x q=>by rw[z0i.1 q];exact v⟩;have L:r.toNat<(seen.set r.toNat true).length:=by simp;omega
  show 1<=_;exact List.count_pos_iff.2 (z2e.2 ⟨r.toNat,L,by simp⟩)
 have H:(ZC g.2 (n+1) 0 (seen.set r.toNat true,[r])).1.length=n:=(LP z _ _ G).1;generalize ZC g.2 (n+1) 0 (seen.set r.toNat true,[r])=w at j u t H U⊢;obtain⟨h7,h8⟩:=TU t;refine⟨u,t,G,H,by rw[Zk];exact h.pl,fun x q=>?_,fun x q E=>?_⟩
 .rw [U x q,j,h.seen x q,S2 hr]
 .obtain ⟨f,B⟩:=Db (Rf w.2) q w.2 h.pl u;by_cases c:x∈w.2
  .rw [f c];have F:=(j x).1 c;exact⟨F.symm.trans ((j _).1 h7),fun y hy=>h8 y ((j y).2 (F.trans hy))⟩
  .rw [B c];refine h.min x q ?_;rcases(S2 hr x).1 E with A|A
   .exact A
   .exact absurd ((j x).2 A) c
theorem PartI.fin{n:Nat}{rows:List (List Int)}(hr:XT n rows){es:List Int}(w:EndsP n (rowE rows) es){part:List Int}{seen:List Bool}(h:PartI n (rowE rows) es 0 part seen):part=Yf n rows:=by
 refine z7t fun i=>?_;rcases z1w i n with j|j
 .have r:0<=(i:Int)/\(i:Int)<n:=by omega
  have t:=h.min i r (q6t w r);have u:=Yd hr r;have v:=t.uniq u;have m:i<part.length:=by rw[h.pl];exact j
  have q:i<(Yf n rows).length:=by rw[LW];exact j
  simpa[z0a,m,q]using v
 .rw [z3u (by rw[h.pl];exact j),z3u (by rw[LW];exact j)]
def Yx(n:Nat)(Y:n<=5000)(g:List (List Int)×List (List Int))(f:XT n g.1)(u:XT n g.2)(D:∀x y,rowE g.2 x y↔rowE g.1 y x):aP 267 [YW g] (QG (Yf n g.1)):=by
 refine sC Xg func267 ?_;conv=>whnf
 have V:((avI g.1).map AV.sl).length=n:=by simp[avI,f.1]
 repeat' ((first|(refine gX ?_;intros)|refine z6t n (by rw[V]) (by show 1*n<=140737488355328;omega) (by unfold maxLen;omega) ?_|refine z6t n (by rw[V]) (by show 8*n<=140737488355328;omega) (by unfold maxLen;omega) ?_|(refine CallK.pure (Kj n Y g f) (.cons (Sub.refl _) .nil) ?_;rintro _ ⟨es,rfl,c⟩))<;>conv=>whnf)
 have U:es.length<=n:=by
  have B:=c.nd;exact Lf B fun x v=>(c.mem x).1 v
 have E:(es.map (AV.int .i64)).length=es.length:=z0s _;refine lJ (fun x:Nat×List Int×List Bool=>⟨[(0,.p (YW g)),(3,.hd 0 0 n),(4,.hd 1 0 n),(5,.p (QG es)),(6,.j ((x.1:Int)-1))],[(0,.own 3 1 (x.2.1.map (.int .i64))),(1,.own 4 1 (x.2.2.map bv))]⟩) (fun x=>x.1<=es.length/\PartI n (rowE g.1) es x.1 x.2.1 x.2.2) (fun x=>x.1) (es.length,List.replicate n 0,List.replicate n false) (lE (hsl:=.r (.cons (.of_eq rfl) (.cons (.of_eq rfl) (.r (.cons (.of_eq (by rw[E];rfl)) .nil))))) (hH:=.cons rfl (.of_eq (by rw[z4y];rfl)) (.cons rfl (.of_eq (by rw[z4y];rfl)) .nil))) ⟨z1l _,PartI.start⟩ ?_;rintro⟨m,part,seen⟩ ⟨B,t⟩;simp only at B t⊢;have hsl:=t.sl;have F:=t.pl;cases m with
 | zero=>
   conv=>whnf
   repeat' (apply bD<;>intro _<;>first|omega|conv=>whnf)
   exact⟨_,.hd rfl (by simp[F]),by rw[t.fin f c];rfl⟩
 | succ m=>
   obtain⟨r,hr⟩ : ∃r,es[m]?=some r:=⟨_,z0c (by omega)⟩;have G:=(c.mem r).1 (z1d hr);have hre:es[m]=r:=by rw[z0c (by omega)]at hr;exact z3q hr
   have d:(es.map (AV.int .i64))[m]?=some (.int .i64 r):=by rw[z1u,hr];rfl
   have z:=q7n (l:=seen) (i:=r.toNat) (by omega);cases A:seen.getD r.toNat false with
   | true=>
     rw[A]at z;have e:=q0m hr ((t.seen r G).1 A);conv=>whnf
     repeat' ((first|refine z1s rfl ?_|refine wI ?_|refine iT d ?_|refine iO r.toNat ?_|refine lO z ?_|(apply bD<;>intro _<;>try omega))<;>conv=>whnf)
     exact⟨(m,part,seen),⟨by simp only;omega,t.sl,t.pl,fun x v=>by rw[t.seen x v,e],fun x v hs=>t.min x v ((e x).1 hs)⟩,z7y m,Le.of_eq (by rw[show((m+1:Nat):Int)-1-1=(m:Int)-1 by omega])⟩
   | false=>
     rw[A]at z;obtain⟨M,O,Q,C⟩:=t.part f u D c hr A;conv=>whnf
     repeat' ((first|refine dA ?_|refine z1s rfl ?_|refine aD ?_|refine iT d ?_|refine iO r.toNat ?_|refine lO z ?_|refine sO .tt z ?_|refine z5l (fun x v=>by rcases z0i.1 v with rfl;rfl) rfl ?_|(apply bD<;>intro _<;>try omega))<;>conv=>whnf)
     have H:(ZC g.2 (n+1) 0 (seen.set r.toNat true,[r])).1.length=n:=C.sl;rw[show(seen.map bv).set r.toNat AV.tt=(seen.set r.toNat true).map bv by rw[z3w];rfl];refine cJ [(1000,1),(2000,2)] 0 (Pl n Y g.2 u (seen.set r.toNat true,[r]) Q) ?_;rintro l' H' ⟨rfl,rfl⟩;conv=>whnf
     have I:(ZC g.2 (n+1) 0 (seen.set r.toNat true,[r])).2.length<=n:=LM (LP u _ _ Q);generalize ZC g.2 (n+1) 0 (seen.set r.toNat true,[r])=w at M O C H I⊢;repeat' ((first|(refine iM fun _=>?_)|(refine QB (Zg w.2 O) (.cons (.hd rfl (by simp)) .nil) (by rintro _ rfl;rfl) ?_;rintro _ rfl))<;>conv=>whnf)
     refine lI (fun x:Nat=>⟨[(0,.p (YW g)),(3,.hd 0 0 n),(4,.hd 1 0 n),(5,.p (QG es)),(6,.j (((m+1:Nat):Int)-1)),(8,.j (Rf w.2)),(60,.hd 2 0 w.2.length),(61,.j w.2.length),(62,.j x)],[(1,.own 4 1 (w.1.map bv)),(2,.own 3 1 (w.2.map (.int .i64))),(0,.own 3 1 ((JX (w.2.take x) (Rf w.2) part).map (.int .i64)))]⟩) (fun x=>x<=w.2.length) (fun x=>w.2.length-x) 0 (z1q _) ?_;intro q Z;rcases z1w q w.2.length with h|h
     .have hwr:=M _ (z1h h);have J:=Te (l:=JX (w.2.take q) (Rf w.2) part) (i:=w.2[q].toNat) (by rw[Zk];omega);have L:JX (w.2.take (q+1)) (Rf w.2) part=(JX (w.2.take q) (Rf w.2) part).set w.2[q].toNat (Rf w.2):=by
       unfold JX;rw[z1y h,z7q];rfl
      generalize JX (w.2.take q) (Rf w.2) part=pt at J L⊢;conv=>whnf
      repeat' ((first|refine gX ?_|refine iO q ?_|refine z5r q 0 (.int .i64 w.2[q]) (by omega) (by simp[h]) ?_|refine z4u w.2[q].toNat (by omega) (by omega) ?_|refine z6g w.2[q].toNat 0 (.int .i64 (pt.getD w.2[q].toNat 0)) (.int .i64 (Rf w.2)) (by omega) J (z1l 1) rfl ?_|(apply bD<;>intro _<;>try omega))<;>conv=>whnf)
      exact⟨q+1,h,by omega,Le.of_eq (by rw[L,z3w];rfl)⟩
     .rw [z1f h];conv=>whnf
      repeat' ((first|refine wI ?_|(apply bD<;>intro _<;>try omega))<;>conv=>whnf)
      exact⟨(m,JX w.2 (Rf w.2) part,w.1),⟨by simp only;omega,C⟩,z7y m,lE (hsl:=.r (.r (.r (.r (.cons (.of_eq (by rw[show(m:Int)=((m+1:Nat):Int)-1 by omega];rfl)) .nil)))))⟩
theorem OpK.frz{N:Nat}{o:Oper}{K:St->Prop}{s:St}(hT:TabOK P T)(t:List (List Nat))(h:x5r t s fun s'=>opW P T N s' o K):OpK P N s o K:=⟨fun σ β a w hr Q=>by
 obtain⟨c,u,m⟩:=Ho (N:=N) h;obtain⟨σ1,β1,r,j⟩:=m σ β a w hr;exact Oper.wp_mono (fun z w' ⟨σ',β',y,v,q,x⟩=>⟨σ',β',y,v,q,j.trans x⟩) (Dz hT u r Q)⟩
def As{N:List (List Int)}{a:Nat}(ha:a<N.length){y:Int}{k:Nat}:y∈(N9 N a b).getD k []↔y∈N.getD k []\/(a=k/\y=b):=by
 unfold N9;rw[WQ ha];split
 .rename_i h;rw[A1,h];simp
 .rename_i h;simp[h]
def IQ{n:Nat}{g:List (List Int)×List (List Int)}(h:g.2.length=n)(e:Int×Int):(Rj n g e).2.length=n:=by
 rw[Ba];cases(WH n e.1&&WH n e.2 && !(g.1.getD e.1.toNat []).contains e.2)with
 |true=>rw[z1n];unfold N9;rw[z3e];exact h
 |false=>exact h
structure MirG(n:Nat)(g:List (List Int)×List (List Int)):Prop where
 l1:g.1.length=n
 l2:g.2.length=n
 m:∀x y:Int,0<=x/\x<n->0<=y/\y<n->(y∈g.1.getD x.toNat []↔x∈g.2.getD y.toNat [])
theorem MirG.add{n:Nat}{g:List (List Int)×List (List Int)}(h:MirG n g)(e:Int×Int):MirG n (Rj n g e):=by
 refine⟨CQ h.l1 e,IQ h.l2 e,fun x y r t=>?_⟩;rw[H6,Ba];cases q:(WH n e.1&&WH n e.2 && !(g.1.getD e.1.toNat []).contains e.2)with
 | true=>
   simp only[z1p]at q;have v:=ZL q.1.1;have w:=ZL q.1.2;rw[z1n,z1n,As (by rw[h.l1];omega),As (by rw[h.l2];omega),h.m x y r t];constructor
   .rintro (j|⟨j,u⟩)
    .exact .inl j
    .exact .inr ⟨by omega,by omega⟩
   .rintro (j|⟨j,u⟩)
    .exact .inl j
    .exact .inr ⟨by omega,by omega⟩
 |false=>exact h.m x y r t
theorem MirG.fold{n:Nat}:∀(l:List (Int×Int)){g:List (List Int)×List (List Int)},MirG n g->MirG n (l.foldl (Rj n) g)
 |[],_,h=>h
 |e::r,_,h=>MirG.fold r (h.add e)
def Tr(n:Nat)(l:List (Int×Int)):MirG n (QE n l):=by
 refine MirG.fold l ⟨by simp,by simp,fun x y _ _=>?_⟩;have:∀k,(List.replicate n ([]:List Int)).getD k []=[]:=fun k=>by
  rw[z0a,z2q];split<;>rfl
 simp only[this];simp
def Cx{n:Nat}{rows:List (List Int)}(p:rows.length=n){x y:Int}(h:rowE rows x y):0<=x/\x<n:=by
 refine⟨h.1,?_⟩;have j:=h.2;unfold Lb at j;rcases z1w x.toNat rows.length with m|m
 .omega
 .rw [z0a,z3u m]at j;simp at j
def Et(n:Nat)(l:List (Int×Int))(x y:Int):rowE (QE n l).2 x y↔rowE (QE n l).1 y x:=by
 obtain⟨r,t⟩:=HH n l;have p:=Tr n l;constructor
 .intro h;have q:=Cx p.l2 h;have j:=LJ t h.2;exact⟨j.1,(p.m y x j q).2 h.2⟩
 .intro h;have q:=Cx p.l1 h;have j:=LJ r h.2;exact⟨j.1,(p.m y x q j).1 h.2⟩
def BJ{n:Nat}{l:List (Int×Int)}{x y:Int}:rowE (QE n l).1 x y↔(x,y)∈l/\WH n x=true/\WH n y=true:=by
 constructor
 .intro h;have j:=Cx (Tr n l).l1 h;have:=(LI j).1 h.2;exact⟨this.1,ME j,this.2⟩
 .rintro ⟨m,p,q⟩;have j:=ZL p;exact⟨j.1,(LI j).2 ⟨m,q⟩⟩
def Yg(part:List Int)(o:List Bool)(t:Int×Int):List Bool:=if part.getD t.1.toNat 0=part.getD t.2.toNat 0 then o else o.set (part.getD t.1.toNat 0).toNat true
def Bf(n:Nat)(part:List Int):List Bool:=((List.replicate n false).set (part.getD 0 0).toNat true).set (part.getD (n-1) 0).toNat true
def Kg(n:Nat)(part:List Int)(h:List (Int×Int)):List Bool:=h.foldl (Yg part) (Bf n part)
def BP(h:Int->Int)(part:List Int)(i q:Nat):List Int:=((List.range q).filter fun j=>part.getD j 0==(i:Int)).map fun(j:Nat)=>h j
def U0(part:List Int)(op:List Bool)(i:Nat):Bool:=part.getD i 0==(i:Int) && !op.getD i false
def Zf(h:Int->Int)(part:List Int)(op:List Bool)(q:Nat):List (List Int):=((List.range q).filter (U0 part op)).map fun i=>BP h part i part.length
def prsW(w:Way)(f:Pr):List (Int×Int):=w.real.map (ixP w.p w.j f w.n)
def VF(w:Way)(f:Pr):List Int:=Yf w.n.toNat (QE w.n.toNat (prsW w f)).1
def trapsW(w:Way)(f:Pr):List (List Int):=Zf (QH w.p w.j w.n) (VF w f) (Kg w.n.toNat (VF w f) (prsW w f)) (VF w f).length
def TN(part:List Int)(o:List Bool)(t:Int×Int):(Yg part o t).length=o.length:=by
 unfold Yg;split<;>simp
def Ad{n:Nat}{rows:List (List Int)}(hr:XT n rows){k:Nat}(j:k<n):0<=(Yf n rows).getD k 0/\(Yf n rows).getD k 0<n:=by
 have h:0<=(k:Int)/\(k:Int)<n:=by omega
 have:=Yd hr h;exact Ae hr h this.scc.1
def Iv(j:Int->Int)(part:List Int)(i q:Nat):BP j part i (q+1)=if part.getD q 0=(i:Int)then BP j part i q++[j q]else BP j part i q:=by
 unfold BP;rw[z5m,z2j,z1v];by_cases h:part.getD q 0=(i:Int)
 .rw [if_pos h,z2m (by rw[h];simp)];rfl
 .rw [if_neg h,z2n (by simpa using h)];simp
def Iw(j:Int->Int)(part:List Int)(op:List Bool)(q:Nat):Zf j part op (q+1)=if U0 part op q=true then Zf j part op q++[BP j part q part.length]else Zf j part op q:=by
 unfold Zf;rw[z5m,z2j,z1v];by_cases h:U0 part op q=true
 .rw [if_pos h,z2m h];rfl
 .rw [if_neg h,z2n h];simp
def Su(h:Int->Int)(part:List Int)(i q:Nat):(BP h part i q).length<=q:=by
 unfold BP;rw[z0s];exact z2g (z2s _ _) (by simp)
def Sv(h:Int->Int)(part:List Int)(op:List Bool)(q:Nat):(Zf h part op q).length<=q:=by
 unfold Zf;rw[z0s];exact z2g (z2s _ _) (by simp)
theorem TP(part:List Int):∀(l:List (Int×Int))(o:List Bool),(l.foldl (Yg part) o).length=o.length
 |[],_=>rfl
 |t::r,o=>by rw[z4d,TP part r,TN]
def OS(n:Nat)(part:List Int)(l:List (Int×Int)):(l.foldl (Yg part) (Bf n part)).length=n:=by
 rw[TP];simp[Bf]
def Rz(w:Way)(f:Pr)(n:Nat)(O:w.n=n)(Y:w.p.A[w.j]?=some f)(V:cntP w.p.A<=1000)(hn:n<=5000)(hn2:2<=n)(y:w.real.length<=1000000)(hr:∀t∈prsW w f,(0<=t.1/\t.1<n)/\0<=t.2/\t.2<n):aP 208 [.ip w.cells] (eMat (trapsW w f)):=by
 refine sC Gi func208 ?_;conv=>whnf
 have e:=HH n (prsW w f);have u:VF w f=Yf n (QE n (prsW w f)).1:=by unfold VF;rw[O];rfl
 have L:trapsW w f=Zf (QH w.p w.j w.n) (VF w f) (Kg n (VF w f) (prsW w f)) n:=by unfold trapsW;rw[u,LW,O];rfl
 have v:∀k,k<n->0<=(VF w f).getD k 0/\(VF w f).getD k 0<n:=fun k hk=>by rw[u];exact Ad e.1 hk
 have B:(VF w f).length=n:=by rw[u,LW]
 have d:=Yx n hn (QE n (prsW w f)) e.1 e.2 (Et n (prsW w f));rw[<-u]at d;rw[L];clear L u e;generalize VF w f=part at v B d⊢;have ha0:=v 0 (by omega);have ha1:=v (n-1) (by omega);have H:=Te (l:=part) (i:=0) (by omega);have I:=Te (l:=part) (i:=n-1) (by omega);have e0:(List.replicate n AV.ff)[(part.getD 0 0).toNat]?=some .ff:=by rw[z2q,if_pos (by omega)]
 have e1:((List.replicate n AV.ff).set (part.getD 0 0).toNat .tt)[(part.getD (n-1) 0).toNat]?=some (bv (((List.replicate n false).set (part.getD 0 0).toNat true).getD (part.getD (n-1) 0).toNat false)):=by
  have:(List.replicate n AV.ff).set (part.getD 0 0).toNat .tt=((List.replicate n false).set (part.getD 0 0).toNat true).map bv:=by
   rw[z3w,z4y];rfl
  rw[this];exact q7n (by rw[z3e,z2o];omega)
 have hplm:(part.map (AV.int .i64)).length=n:=by rw[z0s,B]
 repeat' ((first|(refine iM fun _=>?_)|refine dA ?_|refine z1s rfl ?_|refine aR ?_|refine wI ?_|refine cP (Rw w f n O Y V hn w.real y) ?_|refine cP d ?_|refine z6t n O (by show 1*n<=140737488355328;omega) (by unfold maxLen;omega) ?_|refine iT H ?_|refine iT I ?_|refine z4u (part.getD 0 0).toNat (by omega) (by omega) ?_|refine z4u (part.getD (n-1) 0).toNat (by omega) (by omega) ?_|refine z6g (part.getD 0 0).toNat 0 .ff .tt (show(0+(part.getD 0 0).toNat)*1=(part.getD 0 0).toNat*1+0 by omega) e0 (z1l 1) rfl ?_|refine cP (GA w f Y V (by omega) w.real y) ?_ (ha:=.cons (Sub.refl _) (.cons (Sub.refl _) .nil))|(refine z6g (part.getD (n-1) 0).toNat 0 _ .tt (show(0+(part.getD (n-1) 0).toNat)*1=(part.getD (n-1) 0).toNat*1+0 by omega) e1 (z1l 1) (by cases((List.replicate n false).set (part.getD 0 0).toNat true).getD (part.getD (n-1) 0).toNat false<;>rfl) ?_))<;>conv=>whnf)
 have hprl:(prsW w f).length<=1000000:=by unfold prsW;rw[z0s];exact y
 have hpl2:(avP (prsW w f)).length=(prsW w f).length:=by simp[avP]
 refine lJ (fun x:Nat×List Bool=>⟨[(0,.p (.ip w.cells)),(3,.p (QG part)),(4,.hd 0 0 n),(43,.p (.sl (avP (prsW w f)))),(44,.p (.int .i64 (avP (prsW w f)).length)),(45,.j x.1)],[(0,.own 4 1 (x.2.map bv))]⟩) (fun x=>x.1<=(prsW w f).length/\x.2=((prsW w f).take x.1).foldl (Yg part) (Bf n part)) (fun x=>(prsW w f).length-x.1) (0,Bf n part) (lE (hH:=.cons rfl (.of_eq (by unfold Bf;rw[z3w,z3w,z4y];rfl)) .nil)) ⟨z1q _,rfl⟩ ?_;rintro⟨m,o⟩ ⟨h1,D⟩;simp only at h1 D⊢;have hol:o.length=n:=by rw[D];exact OS n part _
 rcases z1w m (prsW w f).length with F|F
 .obtain ⟨⟨h3,h4⟩,h5,h6⟩:=hr _ (z1h F);have h7:=v (prsW w f)[m].1.toNat (by omega);have h8:=v (prsW w f)[m].2.toNat (by omega);have e2:=Te (l:=part) (i:=(prsW w f)[m].1.toNat) (by omega);have C:=Te (l:=part) (i:=(prsW w f)[m].2.toNat) (by omega);have e4:=q7n (l:=o) (i:=(part.getD (prsW w f)[m].1.toNat 0).toNat) (by omega);have Z:(avP (prsW w f))[m]?=some (.agg [.int .i64 (prsW w f)[m].1,.int .i64 (prsW w f)[m].2]):=by simp[avP,F]
  have e5:((prsW w f).take (m+1)).foldl (Yg part) (Bf n part)=Yg part o (prsW w f)[m]:=by rw[z1y F,z7q,<-D];rfl
  conv=>whnf
  repeat' ((first|refine dA ?_|refine z1s rfl ?_|refine wI ?_|refine iT Z ?_|refine z4u 0 rfl (by decide) ?_|refine z4u 1 rfl (by decide) ?_|refine iT e2 ?_|refine iT C ?_|refine z4u (part.getD (prsW w f)[m].1.toNat 0).toNat (by omega) (by omega) ?_|refine z6g (part.getD (prsW w f)[m].1.toNat 0).toNat 0 _ .tt (by omega) e4 (z1l 1) (by cases o.getD (part.getD (prsW w f)[m].1.toNat 0).toNat false<;>rfl) ?_|((first|apply bD|apply bE)<;>intro _<;>try omega))<;>conv=>whnf)
  all_goals first
   | (have g:part.getD (prsW w f)[m].1.toNat 0=part.getD (prsW w f)[m].2.toNat 0:=by assumption
      exact nX (m+1,o) ⟨by simp only;omega,by simp only;rw[e5];unfold Yg;rw[if_pos g]⟩)
   | (have g:¬part.getD (prsW w f)[m].1.toNat 0=part.getD (prsW w f)[m].2.toNat 0:=by assumption
      exact⟨(m+1,o.set (part.getD (prsW w f)[m].1.toNat 0).toNat true),⟨by simp only;omega,by simp only;rw[e5];unfold Yg;rw[if_neg g]⟩,by simp only;omega,Le.of_eq (by simp only[z3w];rfl)⟩)
 .rw [z1f F]at D;have G:Kg n part (prsW w f)=o:=D.symm;rw[G];clear G D e0 e1 H I d;conv=>whnf
  repeat' ((first|(refine iM fun _=>?_)|(apply bD<;>intro _<;>try omega))<;>conv=>whnf)
  refine lJ (fun q:Nat=>⟨[(0,.p (.ip w.cells)),(3,.p (QG part)),(4,.hd 0 0 n),(7,.hd 1 0 (Zf (QH w.p w.j w.n) part o q).length),(69,.p (.int .i64 (part.map (AV.int .i64)).length)),(70,.j q)],[(0,.own 4 1 (o.map bv)),(1,.own 54 1 ((avI (Zf (QH w.p w.j w.n) part o q)).map AV.sl))]⟩) (fun q=>q<=n) (fun q=>n-q) 0 (lM [(1,.own 54 1 [])]) (z1q _) ?_;intro q hqn;have Q:=Sv (QH w.p w.j w.n) part o q;rcases z1w q n with g|g
  .have e2:=Te (l:=part) (i:=q) (by omega);have C:=q7n (l:=o) (i:=q) (by omega);have r:=Iw (QH w.p w.j w.n) part o q;generalize Zf (QH w.p w.j w.n) part o q=acc at Q r⊢;have hpe:part[q]=part.getD q 0:=by rw[z0a,z0c];rfl
   cases M:o.getD q false with
   | true=>
     rw[M]at C;have J:¬U0 part o q=true:=by unfold U0;rw[M];simp
     rw[if_neg J]at r;conv=>whnf
     repeat' ((first|(refine gX ?_;intros)|refine iO q ?_|refine lO C ?_|((first|apply bD|apply bE)<;>intro _<;>try omega))<;>conv=>whnf)
     all_goals exact⟨q+1,g,by omega,Le.of_eq (by rw[r];rfl)⟩
   | false=>
     rw[M]at C;conv=>whnf
     repeat' ((first|(refine gX ?_;intros)|refine iO q ?_|refine lO C ?_|((first|apply bD|apply bE)<;>intro _<;>try omega))<;>conv=>whnf)
     all_goals try
      have hne:¬part.getD q 0=(q:Int):=by omega
      have J:¬U0 part o q=true:=fun h=>by
       unfold U0 at h;rw[z1p,z4n]at h;exact hne h.1
      rw[if_neg J]at r;exact⟨q+1,g,by omega,Le.of_eq (by rw[r];rfl)⟩
     have hpq:part.getD q 0=(q:Int):=by omega
     have J:U0 part o q=true:=by unfold U0;rw[M,hpq];simp
     rw[if_pos J,B]at r;refine lJ (fun z:Nat=>⟨[(0,.p (.ip w.cells)),(3,.p (QG part)),(4,.hd 0 0 n),(7,.hd 1 0 acc.length),(8,.j q),(9,.hd 2 0 (BP (QH w.p w.j w.n) part q z).length),(69,.p (.int .i64 (part.map (AV.int .i64)).length)),(70,.j q),(86,.p (.int .i64 (part.map (AV.int .i64)).length)),(87,.j z)],[(0,.own 4 1 (o.map bv)),(1,.own 54 1 ((avI acc).map AV.sl)),(2,.own 3 1 ((BP (QH w.p w.j w.n) part q z).map (.int .i64)))]⟩) (fun z=>z<=n) (fun z=>n-z) 0 (lM [(2,.own 3 1 [])]) (z1q _) ?_;intro z hzn;have U:=Su (QH w.p w.j w.n) part q z;rcases z1w z n with hz|hz
     .have e4:=Te (l:=part) (i:=z) (by omega);have c:=Iv (QH w.p w.j w.n) part q z;generalize BP (QH w.p w.j w.n) part q z=l at U c⊢;conv=>whnf
      repeat' ((first|(refine gX ?_;intros)|refine cP (JU w f Y V (by omega) z (by omega)) ?_ (ha:=.cons (Sub.refl _) (.cons (Sub.refl _) .nil))|refine pI ?_|(apply bD<;>intro _<;>try omega))<;>conv=>whnf)
      have hpz:part[z]=part.getD z 0:=by rw[z0a,z0c];rfl
      .rw [if_pos (by omega)]at c;exact⟨z+1,hz,by omega,Le.of_eq (by rw[c,z0e,z1v];rfl)⟩
      .have hpz:part[z]=part.getD z 0:=by rw[z0a,z0c];rfl
       rw[if_neg (by omega)]at c;exact⟨z+1,hz,by omega,Le.of_eq (by rw[c];rfl)⟩
     .have hze:z=n:=by omega
      subst hze;conv=>whnf
      repeat' (apply bD<;>intro _<;>first|omega|conv=>whnf)
      have E:(BP (QH w.p w.j w.n) part q z).length=((BP (QH w.p w.j w.n) part q z).map (AV.int .i64)).length:=by simp
      refine OpK.frz ZI [[9,104]] ?_;conv=>whnf
      refine LenK.mk E ?_;conv=>whnf
      refine LenK.mk E ?_;conv=>whnf
      repeat' ((first|refine gX ?_|refine pA 1 24 (by simp[avI]) ?_)<;>conv=>whnf)
      exact⟨q+1,g,by omega,Le.of_eq (by rw[r];simp only[avI,z0e,z1v];rfl)⟩
  .have hqe:q=n:=by omega
   subst hqe;conv=>whnf
   repeat' (apply bD<;>intro _<;>first|omega|conv=>whnf)
   exact⟨_,.hd rfl (by simp[avI]),rfl⟩
end Go.Ab
