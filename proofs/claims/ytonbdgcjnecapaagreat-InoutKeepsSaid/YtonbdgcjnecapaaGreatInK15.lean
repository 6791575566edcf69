/- Parts of a graph: what a search into the depth leaves behind; going back from the last one done, part by part. -/
import Derived.Test.YtonbdgcjnecapaaGreatInK14
set_option linter.all false
set_option maxRecDepth 100000
set_option maxHeartbeats 16000000
open List (sum_cons)
namespace Go.Ab
open Go.Proofs.Tryz
open Go.Proofs
variable {a b:Int}
def E2{E:Int->Int->Prop}{B:List Int}{u x:Int}(h:Rch E u x)(q:u∈B)(k:x∉B):∃z y,z∈B/\E z y/\y∉B/\Rch E u y/\Rch E y x:=by
 induction h with
 |refl=>exact absurd q k
 | @tail b c h i r=>
   by_cases j:b∈B
   .exact ⟨b,c,j,i,k,.tail h i,.refl⟩
   .obtain ⟨z,y,l,m,n,o,p⟩:=r j;exact⟨z,y,l,m,n,o,.tail p i⟩
def chainE(E:Int->Int->Prop):List Int->Prop
 |[]=>True
 |[_]=>True
 |a::b::r=>E a b/\chainE E (b::r)
theorem LI{E:Int->Int->Prop}:∀(l:List Int){a y:Int},chainE E (l++[a])->y∈l++[a]->Rch E y a
 | [],a,y,_,i=>by
   simp at i;rw[i];exact .refl
 | [b],a,y,h,i=>by
   simp at i;rcases i with rfl|rfl
   .exact .tail .refl h.1
   .exact .refl
 | b::c::r,a,y,h,i=>by
   have j:chainE E ((c::r)++[a]):=h.2;rcases x6m.1 i with rfl|i
   .exact .head h.1 (LI (c::r) j (by simp))
   .exact LI (c::r) j i
theorem J7{E:Int->Int->Prop}:∀(l:List Int){a b:Int},chainE E (l++[a])->E a b->chainE E (l++[a]++[b])
 |[],a,b,_,hb=>⟨hb,trivial⟩
 |[c],a,b,h,hb=>⟨h.1,hb,trivial⟩
 |c::d::r,a,b,h,hb=>⟨h.1,J7 (d::r) h.2 hb⟩
theorem Hu{E:Int->Int->Prop}:∀(l:List Int){a:Int},chainE E (l++[a])->chainE E l
 |[],_,_=>trivial
 |[_],_,_=>trivial
 |c::d::r,_,h=>⟨h.1,Hu (d::r) h.2⟩
structure DfsI(n:Nat)(E:Int->Int->Prop)(out stack:List Int):Prop where
 nd:(out++stack).Nodup
 rng:∀x∈out++stack,0<=x/\x<n
 path:chainE E stack
 cl:∀u∈out,∀v,E u v->v∈out\/v∈stack
 J:∀u∈out,∀x,Rch E u x->x∉out->∃s∈stack,Rch E u s/\Rch E s u/\Rch E s x
 K:∀(i:Nat)(r:Int),out[i]?=some r->∀u,Rch E u r->Rch E r u\/∃u',Rch E u u'/\Rch E u' u/\(u'∉out\/∃j,i<j/\out[j]?=some u')
theorem DfsI.start(n:Nat)(E:Int->Int->Prop):DfsI n E [] []:=⟨by simp,by simp,trivial,by simp,by simp,by simp⟩
theorem DfsI.push{n:Nat}{E:Int->Int->Prop}{out stack:List Int}(h:DfsI n E out stack)(q:0<=b/\b<n)(r:b∉out++stack)(t:chainE E (stack++[b])):DfsI n E out (stack++[b]):=by
 refine⟨?_,fun x i=>?_,t,fun u l v w=>?_,fun u l x i m=>?_,h.K⟩
 .rw [<-x7n,x8b];refine⟨h.nd,by simp,fun x i y z=>?_⟩;rw[x6p.1 z];exact fun e=>r (e▸i)
 .rw [<-x7n]at i;rcases x6s.1 i with i|i
  .exact h.rng x i
  .rw [x6p.1 i];exact q
 .rcases h.cl u l v w with j|j
  .exact .inl j
  .exact .inr (x6s.2 (.inl j))
 .obtain ⟨s,j,o⟩:=h.J u l x i m;exact⟨s,x6s.2 (.inl j),o⟩
theorem DfsI.pop{n:Nat}{E:Int->Int->Prop}{out st:List Int}(h:DfsI n E out (st++[a]))(ha:∀v,E a v->v∈out\/v∈st++[a]):DfsI n E (out++[a]) st:=by
 have N:=h.nd;rw[x8b]at N;obtain⟨T,M,A⟩:=N;rw[x8b]at M;obtain⟨U,_,V⟩:=M;have R:a∉out:=fun m=>A a m a (by simp) rfl;have C:a∉st:=fun m=>V a m a (by simp) rfl;have H:∀u∈out++[a],∀v,E u v->v∈out++[a]\/v∈st:=fun u q v Y=>by
  have:v∈out\/v∈st++[a]:=by
   rcases x6s.1 q with q|q
   .exact h.cl u q v Y
   .rw [x6p.1 q]at Y;exact ha v Y
  rcases this with l|l
  .exact .inl (x6s.2 (.inl l))
  .rcases x6s.1 l with l|l
   .exact .inr l
   .exact .inl (x6s.2 (.inr l))
 have I:∀u∈out++[a],∀x,Rch E u x->x∉out++[a]->∃y∈st,Rch E u y/\Rch E y x:=fun u q x c D=>by
  obtain⟨z,y,l,B,t,o,F⟩:=E2 c q D;rcases H z l y B with w|w
  .exact absurd w t
  .exact ⟨y,w,o,F⟩
 have Q:∀y∈st,Rch E y a:=fun y G=>LI st h.path (x6s.2 (.inl G));refine⟨?_,fun x c=>?_,Hu st h.path,H,fun u q x c D=>?_,fun i r L u q=>?_⟩
 .rw [x7n,x8b];refine⟨T,?_,fun x c y G=>A x c y (by simp at G⊢;exact G.symm)⟩;rw[x8b];refine⟨by simp,U,fun x c y G e=>?_⟩;rw[x6p.1 c]at e;exact C (e▸G)
 .refine h.rng x ?_;simp only[x6s,x6p]at c⊢;rcases c with(l|l)|l
  .exact .inl l
  .exact .inr (.inr l)
  .exact .inr (.inl l)
 .obtain ⟨y,l,B,t⟩:=I u q x c D;rcases x6s.1 q with q|q
  .have Z:y∉out:=fun m=>A y m y (x6s.2 (.inl l)) rfl;obtain⟨s,o,F,w,h7⟩:=h.J u q y B Z;rcases x6s.1 o with o|o
   .exact ⟨s,o,F,w,h7.trans t⟩
   .rw [x6p.1 o]at F w;exact⟨y,l,B,(Q y l).trans w,t⟩
  .rw [x6p.1 q]at B⊢;exact⟨y,l,B,Q y l,t⟩
 .rcases x6c i out.length with g|g
  .rw [x7b g]at L;rcases h.K i r L u q with l|⟨u',l,B,t⟩
   .exact .inl l
   .refine .inr ⟨u',l,B,?_⟩;rcases t with t|⟨j,t,o⟩
    .by_cases O:u'=a
     .exact .inr ⟨out.length,g,by rw[O];simp⟩
     .exact .inl fun m=>by
       rcases x6s.1 m with m|m
       .exact t m
       .exact O (x6p.1 m)
    .exact .inr ⟨j,t,by rw[x7b (x6n.1 o).1];exact o⟩
  .have hr:r=a:=by
    have l:=(x6n.1 L).1;simp at l;rw[x7d g,show i-out.length=0 by omega]at L;simpa using L.symm
   subst hr;by_cases f:Rch E r u
   .exact .inl f
   .right;by_cases P:u∈out
    .obtain ⟨s,o,F,w,h7⟩:=h.J u P r q R;rcases x6s.1 o with o|o
     .refine ⟨s,F,w,.inl fun m=>?_⟩;rcases x6s.1 m with m|m
      .exact A s m s (x6s.2 (.inl o)) rfl
      .rw [x6p.1 m]at o;exact C o
     .rw [x6p.1 o]at w;exact absurd w f
    .refine ⟨u,.refl,.refl,.inl fun m=>?_⟩;rcases x6s.1 m with m|m
     .exact P m
     .rw [x6p.1 m]at f;exact f .refl
structure EndsP(n:Nat)(E:Int->Int->Prop)(es:List Int):Prop where
 nd:es.Nodup
 mem:∀x:Int,x∈es↔0<=x/\x<n
 K:∀(i:Nat)(r:Int),es[i]?=some r->∀u:Int,0<=u/\u<n->Rch E u r->Rch E r u\/∃u',Rch E u u'/\Rch E u' u/\∃j,i<j/\es[j]?=some u'
theorem DfsI.fin{n:Nat}{E:Int->Int->Prop}(t:∀x y,E x y->0<=y/\y<n){out:List Int}(h:DfsI n E out [])(j:∀x:Int,0<=x/\x<n->x∈out):EndsP n E out:=by
 refine⟨by simpa using h.nd,fun x=>⟨fun c=>h.rng x (by simpa using c),j x⟩,fun i r v u o z=>?_⟩;rcases h.K i r v u z with m|⟨e,m,q,l⟩
 .exact .inl m
 .refine .inr ⟨e,m,q,?_⟩;rcases l with l|l
  .exfalso;apply l;apply j;cases m with
   |refl=>exact o
   |tail _ w=>exact t _ _ w
  .exact l
def sccP(E:Int->Int->Prop)(x y:Int):Prop:=Rch E x y/\Rch E y x
theorem sccP.refl{E:Int->Int->Prop}(x:Int):sccP E x x:=⟨.refl,.refl⟩
theorem sccP.symm{E:Int->Int->Prop}{x y:Int}(h:sccP E x y):sccP E y x:=⟨h.2,h.1⟩
theorem sccP.trans{E:Int->Int->Prop}{x y z:Int}(h:sccP E x y)(i:sccP E y z):sccP E x z:=⟨h.1.trans i.1,i.2.trans h.2⟩
def SeenP(E:Int->Int->Prop)(es:List Int)(i:Nat)(x:Int):Prop:=∃(j:Nat) (y:Int),i<=j/\es[j]?=some y/\sccP E x y
def Ai{n:Nat}{E:Int->Int->Prop}(d:∀x y,E x y->(0<=x/\x<n)/\0<=y/\y<n){es:List Int}(h:EndsP n E es){i:Nat}{r:Int}(v:es[i]?=some r)(w:¬SeenP E es (i+1) r)(x:Int):
  Rch (fun a b=>E b a/\¬SeenP E es (i+1) b) r x↔sccP E r x:=by
 have u:=(h.mem r).1 (x7j v);constructor
 .intro e;have key:(0<=x/\x<n)/\¬SeenP E es (i+1) x/\Rch E x r:=e.closed (S:=fun x:Int=>(0<=x/\x<n)/\¬SeenP E es (i+1) x/\Rch E x r) (fun a b ⟨o,s,k⟩ ⟨l,p⟩=>⟨(d _ _ l).1,p,.head l k⟩) ⟨u,w,.refl⟩;refine⟨?_,key.2.2⟩;rcases h.K i r v x key.1 key.2.2 with o|⟨A,o,s,j,k,l⟩
  .exact o
  .exact absurd ⟨j,A,k,l,o,s⟩ key.2.1
 .rintro ⟨o,s⟩;have t:∀y,sccP E r y->¬SeenP E es (i+1) y:=fun y f ⟨j,z,k,l,p⟩=>w ⟨j,z,k,l,f.trans p⟩;have key:∀{a b:Int},Rch E a b->Rch E r a->Rch E b r->Rch (fun a b=>E b a/\¬SeenP E es (i+1) b) b a:=fun {a b} m=>by
   induction m with
   |refl=>intro _ _;exact .refl
   | @tail b c m q g=>
     intro k l;have p:Rch E b r:=.head q l;exact .head ⟨q,t b ⟨k.trans m,p⟩⟩ (g k p)
  exact key s o .refl
def Iw{E:Int->Int->Prop}{es:List Int}{i:Nat}{r:Int}(s:es[i]?=some r)(t:SeenP E es (i+1) r)(x:Int):SeenP E es i x↔SeenP E es (i+1) x:=by
 constructor
 .rintro ⟨j,y,n,h,l⟩;rcases Nat.eq_or_lt_of_le n with m|m
  .subst m;rw[s]at h;cases h;obtain⟨k,z,o,p,q⟩:=t;exact⟨k,z,o,p,l.trans q⟩
  .exact ⟨j,y,m,h,l⟩
 .rintro ⟨j,y,n,h,l⟩;exact⟨j,y,by omega,h,l⟩
def Ly{E:Int->Int->Prop}{es:List Int}{i:Nat}{r:Int}(o:es[i]?=some r)(x:Int):SeenP E es i x↔SeenP E es (i+1) x\/sccP E r x:=by
 constructor
 .rintro ⟨j,y,n,k,l⟩;rcases Nat.eq_or_lt_of_le n with m|m
  .subst m;rw[o]at k;cases k;exact .inr l.symm
  .exact .inl ⟨j,y,m,k,l⟩
 .rintro (⟨j,y,n,k,l⟩|h)
  .exact ⟨j,y,by omega,k,l⟩
  .exact ⟨i,r,x7u _,o,h.symm⟩
def q0i{n:Nat}{E:Int->Int->Prop}{es:List Int}(h:EndsP n E es){x:Int}(k:0<=x/\x<n):SeenP E es 0 x:=by
 obtain⟨j,i⟩:=x9s.1 ((h.mem x).2 k);exact⟨j,x,x6t _,i,.refl x⟩
def rowE(h:List (List Int))(x y:Int):Prop:=0<=x/\Be h x y
structure EndI(n:Nat)(rows:List (List Int))(out stack:List Int)(seen:List Bool)(at_:List Int):Prop where
 dfs:DfsI n (rowE rows) out stack
 sl:seen.length=n
 al:at_.length=n
 seen:∀x:Int,0<=x/\x<n->(seen.getD x.toNat false=true↔x∈out++stack)
 arng:∀x:Int,0<=x/\x<n->0<=at_.getD x.toNat 0/\at_.getD x.toNat 0<=(rows.getD x.toNat []).length
 cur:∀x:Int,0<=x/\x<n->∀(i:Nat)(y:Int),(i:Int)<at_.getD x.toNat 0->(rows.getD x.toNat [])[i]?=some y->y∈out++stack
theorem EndI.start(n:Nat)(j:List (List Int)):EndI n j [] [] (List.replicate n false) (List.replicate n 0):=by
 have l:∀x:Int,(List.replicate n (0:Int)).getD x.toNat 0=0:=fun x=>by
  rw[x6h,x7c];split<;>rfl
 refine⟨DfsI.start n _,by simp,by simp,fun x m=>?_,fun x m=>by rw[l];omega,fun x m i y o=>by rw[l]at o;omega⟩;rw[x6h,x7c];split<;>simp
def WJ{α:Type}{l:List α}{i j:Nat}{a d:α}(k:i<l.length):(l.set i a).getD j d=if i=j then a else l.getD j d:=by
 simp only[x6h,x9r];split
 .rename_i h;first
   |rfl
   |(rw[if_pos k];rfl)
 .rfl
theorem EndI.push{n:Nat}{j:List (List Int)}{out stack:List Int}{seen:List Bool}{l:List Int}(h:EndI n j out stack seen l){b:Int}(q:0<=b/\b<n)(r:seen.getD b.toNat false=false)(v:chainE (rowE j) (stack++[b])):EndI n j out (stack++[b]) (seen.set b.toNat true) l:=by
 have m:b∉out++stack:=fun u=>by rw[(h.seen b q).2 u]at r;cases r
 refine⟨h.dfs.push q m v,by simpa using h.sl,h.al,fun x o=>?_,h.arng,fun x o i y t w=>?_⟩
 .rw [WJ (by rw[h.sl];omega),<-x7n,x6s,x6p];split
  .have:x=b:=by omega
   simp[this]
  .have:x≠b:=by omega
   rw[h.seen x o];simp[this]
 .rw [<-x7n];exact x6s.2 (.inl (h.cur x o i y t w))
theorem EndI.pop{n:Nat}{l:List (List Int)}{out st:List Int}{a:Int}{seen:List Bool}{m:List Int}(h:EndI n l out (st++[a]) seen m)(t:m.getD a.toNat 0=(l.getD a.toNat []).length):EndI n l (out++[a]) st seen m:=by
 have u:=h.dfs.rng a (by simp);have o:∀x:Int,x∈out++[a]++st↔x∈out++(st++[a]):=fun x=>by
  simp only[x6s,x6p];constructor
  .rintro ((j|j)|j)
   .exact .inl j
   .exact .inr (.inr j)
   .exact .inr (.inl j)
  .rintro (j|j|j)
   .exact .inl (.inl j)
   .exact .inr j
   .exact .inl (.inr j)
 refine⟨h.dfs.pop fun v w=>?_,h.sl,h.al,fun x r=>by rw[h.seen x r,o],h.arng,fun x r i y q z=>(o y).2 (h.cur x r i y q z)⟩;obtain⟨i,q⟩:=x9s.1 w.2;have:=h.cur a u i v (by rw[t];have:=(x6n.1 q).1;omega) q;exact x6s.1 this
theorem EndI.step{n:Nat}{j:List (List Int)}{out stack:List Int}{seen:List Bool}{l:List Int}(h:EndI n j out stack seen l)(w:0<=a/\a<n){k:Nat}(c:l.getD a.toNat 0=k)(v:(j.getD a.toNat [])[k]?=some b)(z:b∈out++stack):EndI n j out stack seen (l.set a.toNat ((k:Int)+1)):=by
 have m:a.toNat<l.length:=by rw[h.al];omega
 refine⟨h.dfs,h.sl,by simpa using h.al,h.seen,fun x u=>?_,fun x u i y r o=>?_⟩
 .rw [WJ m];split
  .rename_i q;have:=(x6n.1 v).1;rw[<-q];omega
  .exact h.arng x u
 .rw [WJ m]at r;split at r
  .rename_i q;rw[<-q]at o;rcases x6c i k with t|t
   .exact h.cur a w i y (by omega) o
   .have:i=k:=by omega
    subst this;rw[v]at o;cases o;exact z
  .exact h.cur x u i y r o
def q2m(m:Int)(l:List Int):Int:=l.foldl (fun m x=>if x<m then x else m) m
def Pp:List Int->Int
 |[]=>0
 |a::r=>q2m a r
theorem Ma:∀(l:List Int)(m:Int),q2m m l∈m::l/\∀x∈m::l,q2m m l<=x
 |[],m=>⟨by simp[q2m],by simp[q2m]⟩
 | a::r,m=>by
   obtain⟨n,j⟩:=Ma r (if a<m then a else m);have e:q2m m (a::r)=q2m (if a<m then a else m) r:=rfl;have k:=j _ x6g;rw[e];generalize q2m (if a<m then a else m) r=z at n j k⊢;refine⟨?_,fun x i=>?_⟩
   .rcases x6m.1 n with h|h
    .rw [h];split<;>simp
    .exact x6b _ (x6b _ h)
   .rcases x6m.1 i with rfl|i
    .split at k<;>omega
    .rcases x6m.1 i with rfl|i
     .split at k<;>omega
     .exact j x (x6b _ i)
def Me{l:List Int}(h:0<l.length):Pp l∈l/\∀x∈l,Pp l<=x:=by
 cases l with
 |nil=>simp at h
 |cons a r=>exact Ma r a
theorem OpK.min2{P:Program}{N:Nat}{s:St}{o:Oper}{K:St->Prop}{x y:Operand}{f:Array TypeId}(j:o.op=.call {callee:=.builtin .min,args:=#[x,y],argTypes:=f}){m n:Int}(c:QR s.sl x=.p (.int .i64 m))(e:QR s.sl y=.p (.int .i64 n))(h:setD N s.sl o.dst (.p (.int .i64 (if n<m then n else m))) fun sl=>K ⟨sl,s.H⟩):OpK P N s o K:=by
 refine⟨fun σ β a w l Q=>?_⟩;have r:=QV l.G x;have t:=QV l.G y;rw[c]at r;rw[e]at t;have u:=r.int;have v:=t.int;have i:(execOp a.eval o).run P w=.ok (.value (.int .i64 (if n<m then n else m))) w:=by
  simp[execOp,j,resolve,invoke,builtin,u,v,Builtin.min_,Builtin.min2]
 obtain⟨sl,z,q⟩:=l.setD (.p (.int .i64 (if n<m then n else m))) h;exact VR i ⟨σ,β,_,z,q,Later.refl _ _ _ _⟩
def Qy(l:List Int)(n:0<l.length):SpecP prog 322 [XL l] (fun r=>r=.int .i64 (Pp l)):=by
 refine sB BY func322 rfl call322 ?_;conv=>whnf
 have s:(l.map (AV.int .i64)).length=l.length:=x6j _;repeat' (first|(refine iM fun _=>?_;conv=>whnf)|(apply bD<;>intro _<;>first|omega|conv=>whnf))
 refine IdxK.at (k:=0) (e:=.int .i64 l[0]) rfl (by simp[n]) rfl ?_;conv=>whnf
 skip
 refine LoopK.inv QW (fun x:Nat×Int=>⟨[(0,.p (XL l)),(3,.p (.int .i64 x.2)),(4,.p (.int .i64 x.1))],[]⟩) (fun x=>1<=x.1/\x.1<=l.length/\Pp (x.2::l.drop x.1)=Pp l) (fun x=>l.length-x.1) (1,l[0]) (Le.of_eq rfl) ⟨x7u _,n,by
  cases l with
  |nil=>simp at n
  |cons a r=>rfl⟩ ?_
 rintro⟨j,m⟩ ⟨o,q,h⟩;simp only at o q h⊢;rcases x6c j l.length with i|i
 .rw [QF i]at h;conv=>whnf
  repeat' (first|((first|(refine iM fun _=>?_)|(refine iA fun _=>?_)|refine wI ?_|refine OpK.min2 rfl rfl rfl ?_);conv=>whnf)|(apply bD<;>intro _<;>first|omega|conv=>whnf))
  exact⟨(j+1,if l[j]<m then l[j]else m),⟨by simp only;omega,i,h⟩,by simp only;omega,Le.of_eq rfl⟩
 .rw [x7v i]at h;conv=>whnf
  repeat' (first|(refine iM fun _=>?_;conv=>whnf)|(apply bD<;>intro _<;>first|omega|conv=>whnf))
  exact RetK.int h
theorem q3v{α:Type}{f g:α->Nat}:∀{l:List α},(∀x∈l,f x<=g x)->(∃x∈l,f x<g x)->(l.map f).sum<(l.map g).sum
 |[],_,h=>by obtain⟨x,i,_⟩:=h;cases i
 | a::r,h1,h2=>by
   have j:∀{l:List α},(∀x∈l,f x<=g x)->(l.map f).sum<=(l.map g).sum:=fun {l} h=>by
    induction l with
    |nil=>simp
    | cons b r n=>
      simp only[x7l,sum_cons];have:=n fun x i=>h x (x6b _ i);have:=h b x6g;omega
   simp only[x7l,sum_cons];have o:=h1 a x6g;have p:=j fun x i=>h1 x (x6b _ i);obtain⟨x,i,k⟩:=h2;rcases x6m.1 i with rfl|i
   .omega
   .have:=q3v (fun y m=>h1 y (x6b _ m)) ⟨x,i,k⟩;omega
def muE(h:List (List Int))(j:List Int)(n:Nat):Nat:=((List.range n).map fun i=>(h.getD i []).length-(j.getD i 0).toNat).sum
def OO{n:Nat}{j:List (List Int)}{l:List Int}{a:Nat}(o:a<n)(q:l.length=n){k:Nat}(m:l.getD a 0=k)(p:k<(j.getD a []).length):muE j (l.set a ((k:Int)+1)) n<muE j l n:=by
 unfold muE;refine q3v (fun i _=>?_) ⟨a,x9l.2 o,?_⟩
 .rw [WJ (by omega)];split
  .rename_i h;rw[<-h,m];omega
  .exact x7u _
 .rw [WJ (by omega),if_pos rfl,m];omega
def Bc{n:Nat}{l:List Int}(h:l.Nodup)(i:∀x∈l,0<=x/\x<n):l.length<=n:=by
 have:=PF (m:=(List.range n).map fun(k:Nat)=>(k:Int)) h fun x j=>x6r.2 ⟨x.toNat,x9l.2 (by have:=i x j;omega),by have:=i x j;omega⟩;simpa using this
def q2x{l:List Bool}{i:Nat}(h:i<l.length):(l.map bv)[i]?=some (bv (l.getD i false)):=by
 rw[x6a,x6k h,x6h,x6k h];rfl
def Md{l:List Int}{i:Nat}(h:i<l.length):(l.map (AV.int .i64))[i]?=some (.int .i64 (l.getD i 0)):=by
 rw[x6a,x6k h,x6h,x6k h];rfl
def q8y(n:Nat)(h:List (List Int))(r:AV):Prop:=∃es,r=XL es/\EndsP n (rowE h) es
def Ur(n:Nat)(hn:n<=5000)(g:List (List Int)×List (List Int))(O:XD n g.1):SpecP prog 321 [HG g] (fun r=>q8y n g.1 r):=by
 refine sB X2 func321 rfl call321 ?_;conv=>whnf
 have T:((avI g.1).map AV.sl).length=n:=by simp[avI,O.1]
 repeat' ((first|(refine iM fun _=>?_)|refine aR ?_|refine MkK.mk n (by rw[T]) (by show 1*n<=140737488355328;omega) (by unfold maxLen;omega) ?_|refine MkK.mk n (by rw[T]) (by show 8*n<=140737488355328;omega) (by unfold maxLen;omega) ?_);conv=>whnf)
 refine LoopK.inv QW (fun x:Nat×List Int×List Bool×List Int=>⟨[(0,.p (HG g)),(3,.hd 2 0 x.2.1.length),(4,.hd 3 0 0),(5,.hd 0 0 n),(6,.hd 1 0 n),(26,.p (.int .i64 n)),(27,.p (.int .i64 x.1))],[(0,.own 4 1 (x.2.2.1.map bv)),(1,.own 3 1 (x.2.2.2.map (.int .i64))),(2,.own 3 1 (x.2.1.map (.int .i64))),(3,.own 3 1 [])]⟩)
  (fun x=>x.1<=n/\EndI n g.1 x.2.1 [] x.2.2.1 x.2.2.2/\∀y:Int,0<=y/\y<x.1->y∈x.2.1) (fun x=>n-x.1) (0,[],List.replicate n false,List.replicate n 0)
  (Le.mk [(2,.own 3 1 []),(3,.own 3 1 [])] (by simp[Chunk.new0];exact⟨rfl,rfl⟩) (by simp) (by simp) (.r (.cons (.nil x6g) (.cons (.nil (x6b _ x6g)) (.r (.r (.cons (.of_eq (by rw[T];rfl)) (.r .nil)))))))
    (.cons rfl (.of_eq (by rw[x9e];rfl)) (.cons rfl (.of_eq (by rw[x9e];rfl)) (.new x6g (.new (x6b _ x6g) .nil)))))
  ⟨x6t _,EndI.start n g.1,fun y M=>by omega⟩ ?_
 rintro⟨r,out,seen,B⟩ ⟨h1,h,j⟩;simp only at h1 h j⊢;have L:=h.sl;have c:=h.al;rcases x6c r n with hr|hr;rotate_left 1
 .conv=>whnf
  repeat' (apply bD<;>intro _<;>first|omega|conv=>whnf)
  have F:∀x:Int,0<=x/\x<n->x∈out:=fun x A=>j x (by omega);exact⟨_,.hd rfl (by simp),out,rfl,h.dfs.fin (fun x y V=>PT O V.2) F⟩
 have C:=q2x (l:=seen) (i:=r) (by omega);have w:∃st Y,EndI n g.1 out st Y B/\(r:Int)∈out++st/\((seen.getD r false=true/\st=[]/\Y=seen)\/(seen.getD r false=false/\st=[(r:Int)]/\Y=seen.set r true)):=by
  cases m:seen.getD r false with
  |true=>exact⟨[],seen,h,(h.seen r (by omega)).1 (by simpa using m),.inl ⟨rfl,rfl,rfl⟩⟩
  |false=>exact⟨[(r:Int)],seen.set r true,h.push (stack:=[]) (b:=r) (by omega) (by simpa using m) trivial,by simp,.inr ⟨rfl,rfl,rfl⟩⟩
 obtain⟨st0,e,z,h5,h6⟩:=w;rcases h6 with⟨m,u,d⟩|⟨m,u,d⟩;all_goals
  rw[m]at C;conv=>whnf
  repeat' (first|((first|refine x6d rfl ?_|refine aD ?_|refine bP ?_|refine x8q r rfl (by omega) ?_|refine x8p r 0 .tt (by omega) C ?_|refine x8p r 0 .ff (by omega) C ?_|refine z0j r 0 .ff .tt (by omega) C (x7u 1) rfl ?_|refine WZ rfl (by simp) ?_);conv=>whnf)|(apply bD<;>intro _<;>first|omega|conv=>whnf))
  refine LoopK.inv QW (fun x:List Int×List Int×List Bool×List Int=>⟨[(0,.p (HG g)),(3,.hd 2 0 x.1.length),(4,.hd 3 0 x.2.1.length),(5,.hd 0 0 n),(6,.hd 1 0 n),(26,.p (.int .i64 n)),(27,.p (.int .i64 r))],[(0,.own 4 1 (x.2.2.1.map bv)),(1,.own 3 1 (x.2.2.2.map (.int .i64))),(2,.own 3 1 (x.1.map (.int .i64))),(3,.own 3 1 (x.2.1.map (.int .i64)))]⟩)
   (fun x=>EndI n g.1 x.1 x.2.1 x.2.2.1 x.2.2.2/\(r:Int)∈x.1++x.2.1/\∀y:Int,0<=y/\y<r->y∈x.1) (fun x=>muE g.1 x.2.2.2 n+(n-x.1.length)) (out,st0,e,B)
   (Le.mk [] (by simp) (by simp) (by simp) (.r (.r (.cons (.of_eq (by first|(rw[u];done)|(rw[u];rfl))) (.r (.r (.r (.r .nil)))))))
     (.cons rfl (.of_eq (by rw[d];first|done|rfl|(rw[x9w];rfl))) (.cons rfl (.refl _) (.cons rfl (.refl _) (.cons rfl (.of_eq (by rw[u];rfl)) .nil)))))
   ⟨z,h5,j⟩ ?_
  clear z h5 u d C m L c h j;rintro⟨o,Z,s,t⟩ ⟨h,j,z⟩;simp only at h j z⊢;have L:=h.sl;have c:=h.al;have hol:o.length<=n:=Bc (by have:=h.dfs.nd;rw[x8b]at this;exact this.1) fun x A=>h.dfs.rng x (x6s.2 (.inl A));rcases List.eq_nil_or_concat Z with rfl|⟨st,a,rfl⟩
  .have hz:(([]:List Int).length)=0:=rfl;conv=>whnf
   repeat' (first|((first|(refine iM fun _=>?_)|refine wI ?_);conv=>whnf)|(apply bD<;>intro _<;>first|omega|conv=>whnf))
   exact⟨(r+1,o,s,t),⟨hr,h,fun y M=>by
    rcases Int.lt_or_le y r with N|N
    .exact z y ⟨M.1,N⟩
    .have:y=r:=by simp only at M;omega
     rw[this];simpa using j⟩,by simp only;omega,Le.of_eq rfl⟩
  .rw [List.concat_eq_append]at h j⊢;have E:=h.dfs.rng a (by simp);have hstl:(st++[a]).length=st.length+1:=by simp
   obtain⟨hk0,R⟩:=h.arng a E;have f:=Md (l:=t) (i:=a.toNat) (by omega);have P:((st++[a]).map (AV.int .i64))[st.length]?=some (.int .i64 a):=by simp
   have q:((avI g.1).map AV.sl)[a.toNat]?=some (.sl ((g.1.getD a.toNat []).map (.int .i64))):=by
    have:a.toNat<g.1.length:=by rw[O.1];omega
    rw[x6h,x6k this];simp[avI,this]
   obtain⟨k,I⟩ : ∃k:Nat,t.getD a.toNat 0=k:=⟨(t.getD a.toNat 0).toNat,by omega⟩;rw[I]at f R;have hrl:((g.1.getD a.toNat []).map (AV.int .i64)).length=(g.1.getD a.toNat []).length:=x6j _;have U:=h.dfs.nd;rcases x6c k (g.1.getD a.toNat []).length with v|v
   .obtain ⟨b,G⟩ : ∃b,(g.1.getD a.toNat [])[k]?=some b:=⟨_,x6k v⟩;have Q:(g.1.getD a.toNat [])[k]=b:=by rw[x6k v]at G;exact x8l G
    have hE:rowE g.1 a b:=⟨E.1,x9s.2 ⟨k,G⟩⟩;have H:=PT O hE.2;have hmu:=OO (by omega) c I v;have D:=q2x (l:=s) (i:=b.toNat) (by omega);have hstk:(st++[a]).length<=n:=Bc (x8b.1 U).2.1 fun x A=>h.dfs.rng x (x6s.2 (.inr A));have K:(t.set a.toNat ((k:Int)+1)).map (AV.int .i64)=(t.map (AV.int .i64)).set a.toNat (.int .i64 ((k:Int)+1)):=x9w;have hkm:=h.arng a E;cases m:s.getD b.toNat false with
    | true=>
      rw[m]at D;conv=>whnf
      repeat' (first|((first|(refine iM fun _=>?_)|refine dA ?_|refine x6d rfl ?_|(refine iA fun _=>?_)|refine wI ?_|refine x8q st.length (by omega) (by omega) ?_|refine x8p st.length 0 (.int .i64 a) (by omega) P ?_|refine x8q a.toNat (by omega) (by omega) ?_|refine x8p a.toNat 0 (.int .i64 k) (by omega) f ?_|(refine IdxK.at (k:=a.toNat) (by omega) q rfl ?_)|refine x8q b.toNat (by omega) (by omega) ?_|refine x8p b.toNat 0 .tt (by omega) D ?_|refine z0j a.toNat 0 (.int .i64 k) (.int .i64 (k+1)) (by omega) f (x7u 1) rfl ?_);conv=>whnf)|(apply bD<;>intro _<;>first|omega|conv=>whnf))
      exact⟨(o,st++[a],s,t.set a.toNat ((k:Int)+1)),⟨h.step E I G ((h.seen b H).1 m),j,z⟩,by simp only;omega,Le.mk [] (by simp) (by simp) (by simp) (.r (.r (.r (.r (.r (.r (.r .nil))))))) (.cons rfl (.refl _) (.cons rfl (.of_eq (by rw[K])) (.cons rfl (.refl _) (.cons rfl (.refl _) .nil))))⟩
    | false=>
      rw[m]at D;conv=>whnf
      repeat' (first|((first|(refine iM fun _=>?_)|refine dA ?_|refine x6d rfl ?_|refine aD ?_|refine bP ?_|(refine iA fun _=>?_)|refine wI ?_|refine x8q st.length (by omega) (by omega) ?_|refine x8p st.length 0 (.int .i64 a) (by omega) P ?_|refine x8q a.toNat (by omega) (by omega) ?_|refine x8p a.toNat 0 (.int .i64 k) (by omega) f ?_|(refine IdxK.at (k:=a.toNat) (by omega) q rfl ?_)|refine x8q b.toNat (by omega) (by omega) ?_|refine x8p b.toNat 0 .ff (by omega) D ?_|refine z0j a.toNat 0 (.int .i64 k) (.int .i64 (k+1)) (by omega) f (x7u 1) rfl ?_|refine z0j b.toNat 0 .ff .tt (by omega) D (x7u 1) rfl ?_|refine WZ (by simp) (by simp;omega) ?_);conv=>whnf)|(apply bD<;>intro _<;>first|omega|conv=>whnf))
      have h8:=h.push H m (J7 st h.dfs.path hE);exact⟨(o,st++[a]++[b],s.set b.toNat true,t.set a.toNat ((k:Int)+1)),⟨h8.step E I G (by simp),by rw[<-x7n];exact x6s.2 (.inl j),z⟩,by simp only;omega,Le.mk [] (by simp) (by simp) (by simp) (.r (.r (.cons (.of_eq (by simp;rfl)) (.r (.r (.r (.r .nil))))))) (.cons rfl (.of_eq (by rw[x9w];rfl)) (.cons rfl (.of_eq (by rw[K])) (.cons rfl (.refl _) (.cons rfl (.of_eq (by rw[Q];simp;rfl)) .nil))))⟩
   .have J:k=(g.1.getD a.toNat []).length:=by omega
    have hp:=h.pop (by rw[I,J]);have hol2:o.length+1<=n:=by
     have h7:=hp.dfs;have:=Bc (x8b.1 h7.nd).1 fun x A=>h7.rng x (x6s.2 (.inl A));simpa using this
    conv=>whnf
    repeat' (first|((first|(refine iM fun _=>?_)|refine dA ?_|refine x6d rfl ?_|refine aD ?_|refine bP ?_|refine wI ?_|refine x8q st.length (by omega) (by omega) ?_|refine x8p st.length 0 (.int .i64 a) (by omega) P ?_|refine x8q a.toNat (by omega) (by omega) ?_|refine x8p a.toNat 0 (.int .i64 k) (by omega) f ?_|(refine IdxK.at (k:=a.toNat) (by omega) q rfl ?_)|refine WZ (by simp) (by simp;omega) ?_|refine z2f 0 st.length rfl (by show((st++[a]).length:Int)-1=_;omega) (by omega) (by omega) ?_);conv=>whnf)|(apply bD<;>intro _<;>first|omega|conv=>whnf))
    have h9:muE g.1 t n+(n-(o++[a]).length)<muE g.1 t n+(n-o.length):=by simp;omega
    exact⟨(o++[a],st,s,t),⟨hp,by simpa[or_assoc,or_comm,or_left_comm]using j,fun y M=>x6s.2 (.inl (z y M))⟩,h9,(Le.cut (.same (.same (.same (.cut (es':=st.map (.int .i64)) ⟨[.int .i64 a],by simp⟩ .nil))))).trans (Le.mk [] (by simp) (by simp) (by simp) (.r (.cons (.of_eq (by simp;rfl)) (.cons (.of_eq (by simp;rfl)) (.r (.r (.r (.r .nil))))))) (.cons rfl (.refl _) (.cons rfl (.refl _) (.cons rfl (.of_eq (by simp;rfl)) (.cons rfl (.refl _) .nil)))))⟩
def q2t(pre:List Bool)(h:List (List Int)):List (List Int):=h.map fun r=>r.filter fun b=> !pre.getD b.toNat false
def L3{pre:List Bool}{h:List (List Int)}{x y:Int}:Be (q2t pre h) x y↔Be h x y/\pre.getD y.toNat false=false:=by
 unfold Be q2t;simp only[x6h,x6a];cases h[x.toNat]?with
 |none=>simp
 |some r=>simp
def q5d{n:Nat}{pre:List Bool}{i:List (List Int)}(h:XD n i):XD n (q2t pre i):=by
 refine⟨by simp[q2t,h.1],fun r l b k=>?_⟩;obtain⟨m,j,rfl⟩:=x6r.1 l;exact h.2 m j b (x7o.1 k).1
structure SimW(pre:List Bool)(st st':List Bool×List Int):Prop where
 todo:st.2=st'.2
 len:st.1.length=st'.1.length
 mrk:∀k,st.1.getD k false=(pre.getD k false||st'.1.getD k false)
theorem SimW.see{pre:List Bool}{st i:List Bool×List Int}(h:SimW pre st i)(j:b.toNat<st.1.length)(m:pre.getD b.toNat false=false):SimW pre (GU st b) (GU i b):=by
 have l:=h.mrk b.toNat;rw[m,Bool.false_or]at l;unfold GU;rw[l];cases i.1.getD b.toNat false with
 |true=>exact h
 | false=>
   refine⟨by simp only[x7k];rw[h.todo],by simpa using h.len,fun k=>?_⟩;simp only[x7k];rw[WJ j,WJ (by rw[<-h.len];exact j)];split
   .simp
   .exact h.mrk k
theorem SimW.skip{pre:List Bool}{st i:List Bool×List Int}(h:SimW pre st i)(j:pre.getD b.toNat false=true):GU st b=st:=by
 unfold GU;rw[h.mrk,j];rfl
def q0e(st:List Bool×List Int)(b:Int):(GU st b).1.length=st.1.length:=by
 unfold GU;cases st.1.getD b.toNat false<;>simp
theorem SimW.fold{n:Nat}{pre:List Bool}:∀(l:List Int){st st':List Bool×List Int},SimW pre st st'->st.1.length=n->(∀b∈l,0<=b/\b<n)->SimW pre (l.foldl GU st) ((l.filter fun b=> !pre.getD b.toNat false).foldl GU st')/\(l.foldl GU st).1.length=n
 |[],_,_,h,hn,_=>⟨h,hn⟩
 | b::r,st,st',h,hn,hl=>by
   have o:=hl b x6g;have j:∀c∈r,0<=c/\c<n:=fun c m=>hl c (x6b _ m);rw[x9p];cases i:pre.getD b.toNat false with
   | true=>
     rw[h.skip i,x9f (by rw[i];simp)];exact SimW.fold r h hn j
   | false=>
     rw[x9j (by rw[i];simp),x9p];exact SimW.fold r (h.see (by omega) i) (by rw[q0e];exact hn) j
theorem Nq{n:Nat}{pre:List Bool}{j:List (List Int)}(m:XD n j):∀(k i:Nat){st st':List Bool×List Int},SimW pre st st'->st.1.length=n->SimW pre (ZD j k i st) (ZD (q2t pre j) k i st')
 |0,_,_,_,h,_=>h
 | k+1,i,st,st',h,hn=>by
   rw[ZD,ZD,<-h.todo];cases t:st.2[i]?with
   |none=>exact h
   | some a=>
     simp only;have l:∀b∈j.getD a.toNat [],0<=b/\b<n:=fun b q=>PT m q;have s:(q2t pre j).getD a.toNat []=(j.getD a.toNat []).filter fun b=> !pre.getD b.toNat false:=by
      unfold q2t;simp only[x6h,x6a];cases j[a.toNat]?with
      |none=>simp
      |some r=>simp
     rw[s];obtain⟨o,p⟩:=SimW.fold (n:=n) _ h hn l;exact Nq m k (i+1) o p
def IR{n:Nat}{pre:List Bool}{i:List (List Int)}(v:XD n i)(u:pre.length=n){r:Int}(q:0<=r/\r<n)(A:pre.getD r.toNat false=false):
  (∀x,x∈(ZD i (n+1) 0 (pre.set r.toNat true,[r])).2↔Rch (fun a b=>Be i a b/\pre.getD b.toNat false=false) r x)/\
  (∀x:Int,0<=x/\x<n->((ZD i (n+1) 0 (pre.set r.toNat true,[r])).1.getD x.toNat false=true↔pre.getD x.toNat false=true\/x∈(ZD i (n+1) 0 (pre.set r.toNat true,[r])).2)):=by
 have w:GU (List.replicate n false,[]) r=((List.replicate n false).set r.toNat true,[r]):=by
  unfold GU;have:(List.replicate n false).getD r.toNat false=false:=by
   rw[x6h,x7c];split<;>rfl
  simp only[this,x7k,x9z]
 obtain⟨t,z,_⟩:=(WkM.start n).see q;rw[w]at t z;have l:SimW pre (pre.set r.toNat true,[r]) ((List.replicate n false).set r.toNat true,[r]):=⟨rfl,by simp[u],fun k=>by
  rw[WJ (by omega),WJ (by simp;omega)];split
  .simp
  .have:(List.replicate n false).getD k false=false:=by
    rw[x6h,x7c];split<;>rfl
   rw[this,Bool.or_false]⟩
 have s:=Nq v (n+1) 0 l (by simpa using u);obtain⟨c,d,e,f⟩:=Gq (q5d (pre:=pre) v) (n+1) 0 t (x6t _) (by omega) (fun m a g=>by omega);refine⟨fun x=>?_,fun x j=>?_⟩
 .rw [s.todo];constructor
  .intro j;exact f (fun x=>Rch (fun a b=>Be i a b/\pre.getD b.toNat false=false) r x) (fun x j=>by rw[x6p.1 j];exact .refl) (fun x b o p=>.tail o (L3.1 p)) x j
  .intro j;exact j.closed (S:=fun x=>x∈(ZD (q2t pre i) (n+1) 0 ((List.replicate n false).set r.toNat true,[r])).2) (fun x y o p=>e x o y (L3.2 p)) (d r (by simp))
 .rw [s.mrk,s.todo,c.mem,z1q];exact⟨fun h=>h.imp id fun h=>⟨j,h⟩,fun h=>h.imp id fun h=>h.2⟩
def B8{n:Nat}(h:0<=a/\a<n):WV n a=true:=by
 unfold WV;simpa using h
structure MinP(E:Int->Int->Prop)(x v:Int):Prop where
 scc:sccP E x v
 le:∀y,sccP E x y->v<=y
theorem MinP.uniq{E:Int->Int->Prop}{x v w:Int}(h:MinP E x v)(i:MinP E x w):v=w:=Int.le_antisymm (h.le w i.scc) (i.le v h.scc)
def V6(n:Nat)(h:List (List Int)):List Int:=(List.range n).map fun(a:Nat)=>Pp ((DS 0 (ZO h [(a:Int)])).filter fun b=>(DS 0 (ZO h [b])).contains (a:Int))
def q0t{n:Nat}{i:List (List Int)}(m:XD n i){x y:Int}(o:0<=x):Rch (rowE i) x y↔Rch (Be i) x y:=by
 refine⟨fun h=>h.mono fun _ _ h=>h.2,fun h=>?_⟩;exact(h.closed (S:=fun y:Int=>0<=y/\Rch (rowE i) x y) (fun a b ⟨k,l⟩ j=>⟨(PT m j).1,.tail l ⟨k,j⟩⟩) ⟨o,.refl⟩).2
def Sr{n:Nat}{i:List (List Int)}(j:XD n i){x y:Int}(k:0<=x/\x<n)(h:Rch (rowE i) x y):0<=y/\y<n:=
 h.closed (S:=fun y:Int=>0<=y/\y<n) (fun _ _ _ h=>PT j h.2) k
def RM{n:Nat}{i:List (List Int)}(j:XD n i){x:Int}(k:0<=x/\x<n)(y:Int):y∈DS 0 (ZO i [x])↔Rch (rowE i) x y:=by
 rw[Lx j,q0t j k.1];constructor
 .rintro ⟨a,l,_,h⟩;rw[x6p.1 l]at h;exact h
 .intro h;exact⟨x,by simp,B8 k,h⟩
def PN(n:Nat)(h:List (List Int)):(V6 n h).length=n:=by simp[V6]
def V7{n:Nat}{h:List (List Int)}(k:XD n h){x:Int}(o:0<=x/\x<n):MinP (rowE h) x ((V6 n h).getD x.toNat 0):=by
 have e:(V6 n h).getD x.toNat 0=Pp ((DS 0 (ZO h [x])).filter fun b=>(DS 0 (ZO h [b])).contains x):=by
  unfold V6;rw[x6h,x6a,x9b (by omega)];have:((x.toNat:Nat):Int)=x:=by omega
  simp[this]
 have m:∀y,y∈(DS 0 (ZO h [x])).filter (fun b=>(DS 0 (ZO h [b])).contains x)↔sccP (rowE h) x y:=fun y=>by
  rw[x7o,RM k o,List.contains_iff_mem];constructor
  .rintro ⟨i,j⟩;exact⟨i,(RM k (Sr k o i) x).1 j⟩
  .rintro ⟨i,j⟩;exact⟨i,(RM k (Sr k o i) x).2 j⟩
 rw[e];obtain⟨i,j⟩:=Me (l:=(DS 0 (ZO h [x])).filter fun b=>(DS 0 (ZO h [b])).contains x) (z2w ((m x).2 (sccP.refl x)));exact⟨(m _).1 i,fun y p=>j y ((m y).2 p)⟩
structure PartI(n:Nat)(E:Int->Int->Prop)(es:List Int)(m:Nat)(part:List Int)(seen:List Bool):Prop where
 sl:seen.length=n
 pl:part.length=n
 seen:∀x:Int,0<=x/\x<n->(seen.getD x.toNat false=true↔SeenP E es m x)
 min:∀x:Int,0<=x/\x<n->SeenP E es m x->MinP E x (part.getD x.toNat 0)
theorem PartI.start{n:Nat}{E:Int->Int->Prop}{es:List Int}:PartI n E es es.length (List.replicate n 0) (List.replicate n false):=by
 have i:∀x,¬SeenP E es es.length x:=fun x ⟨j,y,o,l,_⟩=>by
  have:=(x6n.1 l).1;omega
 refine⟨by simp,by simp,fun x _=>?_,fun x _ m=>absurd m (i x)⟩;rw[x6h,x7c];have:=i x;split<;>simp[this]
def UB(l:List Int)(v:Int)(part:List Int):List Int:=l.foldl (fun p a=>p.set a.toNat v) part
theorem Qu(v:Int):∀(l part:List Int),(UB l v part).length=part.length
 |[],_=>rfl
 | a::r,part=>by
   show(UB r v (part.set a.toNat v)).length=_;rw[Qu v r];simp
theorem Kt{n:Nat}(v:Int){x:Int}(s:0<=x/\x<n):∀(l:List Int){part:List Int},part.length=n->(∀a∈l,0<=a/\a<n)->(x∈l->(UB l v part).getD x.toNat 0=v)/\(x∉l->(UB l v part).getD x.toNat 0=part.getD x.toNat 0)
 |[],_,_,_=>⟨by simp,fun _=>rfl⟩
 | a::r,part,hl,ha=>by
   have o:=ha a x6g;have e:UB (a::r) v part=UB r v (part.set a.toNat v):=rfl;obtain⟨k,m⟩:=Kt v s r (part:=part.set a.toNat v) (by simpa using hl) fun b p=>ha b (x6b _ p);have q:(part.set a.toNat v).getD x.toNat 0=if a.toNat=x.toNat then v else part.getD x.toNat 0:=WJ (by omega);rw[e];by_cases i:x∈r
   .exact ⟨fun _=>k i,fun h=>absurd (x6b _ i) h⟩
   .rw [m i,q];constructor
    .intro h;rcases x6m.1 h with rfl|h
     .rw [if_pos rfl]
     .exact absurd h i
    .intro h;have:x≠a:=fun j=>h (by rw[j];exact x6g);rw[if_neg (by omega)]
theorem PartI.part{n:Nat}{g:List (List Int)×List (List Int)}(P:XD n g.1)(t:XD n g.2)(J:∀x y,rowE g.2 x y↔rowE g.1 y x){es:List Int}(O:EndsP n (rowE g.1) es){m:Nat}{part:List Int}{seen:List Bool}(h:PartI n (rowE g.1) es (m+1) part seen){r:Int}(H:es[m]?=some r)(L:seen.getD r.toNat false=false):
  (∀x∈(ZD g.2 (n+1) 0 (seen.set r.toNat true,[r])).2,0<=x/\x<n)/\0<(ZD g.2 (n+1) 0 (seen.set r.toNat true,[r])).2.length/\wkInv n (seen.set r.toNat true,[r])/\
  PartI n (rowE g.1) es m (UB (ZD g.2 (n+1) 0 (seen.set r.toNat true,[r])).2 (Pp (ZD g.2 (n+1) 0 (seen.set r.toNat true,[r])).2) part) (ZD g.2 (n+1) 0 (seen.set r.toNat true,[r])).1:=by
 have q:=(O.mem r).1 (x7j H);have V:=h.sl;have K:¬SeenP (rowE g.1) es (m+1) r:=fun B=>by rw[(h.seen r q).2 B]at L;cases L
 obtain⟨Q,M⟩:=IR t h.sl q L;have f:∀x y,rowE g.1 x y->(0<=x/\x<n)/\0<=y/\y<n:=fun x y F=>⟨PT t ((J y x).2 F).2,PT P F.2⟩;have v:=Ai f O H K;have A:∀x,Rch (fun a b=>Be g.2 a b/\seen.getD b.toNat false=false) r x↔Rch (fun a b=>rowE g.1 b a/\¬SeenP (rowE g.1) es (m+1) b) r x:=fun x=>by
  constructor
  .intro j;exact(j.closed (S:=fun x:Int=>(0<=x/\x<n)/\Rch (fun a b=>rowE g.1 b a/\¬SeenP (rowE g.1) es (m+1) b) r x) (fun a b ⟨z,e⟩ ⟨c,N⟩=>by
    have G:=PT t c;refine⟨G,.tail e ⟨(J a b).1 ⟨z.1,c⟩,fun B=>?_⟩⟩;rw[(h.seen b G).2 B]at N;cases N) ⟨q,.refl⟩).2
  .intro j;refine j.mono fun a b ⟨z,e⟩=>⟨((J a b).2 z).2,?_⟩;have G:=(f b a z).1;cases U:seen.getD b.toNat false with
   |true=>exact absurd ((h.seen b G).1 U) e
   |false=>rfl
 have i:∀x,x∈(ZD g.2 (n+1) 0 (seen.set r.toNat true,[r])).2↔sccP (rowE g.1) r x:=fun x=>by rw[Q,A,v]
 have o:∀x∈(ZD g.2 (n+1) 0 (seen.set r.toNat true,[r])).2,0<=x/\x<n:=fun x j=>Sr P q ((i x).1 j).1;have l:0<(ZD g.2 (n+1) 0 (seen.set r.toNat true,[r])).2.length:=z2w ((i r).2 (sccP.refl r));have D:wkInv n (seen.set r.toNat true,[r]):=by
  refine⟨by simpa using h.sl,?_,fun x j=>by rw[x6p.1 j];exact q⟩;have I:r.toNat<(seen.set r.toNat true).length:=by simp;omega
  show 1<=_;exact List.count_pos_iff.2 (x8v.2 ⟨r.toNat,I,by simp⟩)
 have E:(ZD g.2 (n+1) 0 (seen.set r.toNat true,[r])).1.length=n:=(PO t _ _ D).1;generalize ZD g.2 (n+1) 0 (seen.set r.toNat true,[r])=w at i o l E M⊢;obtain⟨R,T⟩:=Me l;refine⟨o,l,D,E,by rw[Qu];exact h.pl,fun x j=>?_,fun x j B=>?_⟩
 .rw [M x j,i,h.seen x j,Ly H]
 .obtain ⟨z,e⟩:=Kt (Pp w.2) j w.2 h.pl o;by_cases u:x∈w.2
  .rw [z u];have C:=(i x).1 u;exact⟨C.symm.trans ((i _).1 R),fun y Y=>T y ((i y).2 (C.trans Y))⟩
  .rw [e u];refine h.min x j ?_;rcases(Ly H x).1 B with c|c
   .exact c
   .exact absurd ((i x).2 c) u
theorem PartI.fin{n:Nat}{j:List (List Int)}(w:XD n j){es:List Int}(v:EndsP n (rowE j) es){part:List Int}{seen:List Bool}(h:PartI n (rowE j) es 0 part seen):part=V6 n j:=by
 refine z1y fun i=>?_;rcases x6c i n with l|l
 .have q:0<=(i:Int)/\(i:Int)<n:=by omega
  have r:=h.min i q (q0i v q);have t:=V7 w q;have u:=r.uniq t;have m:i<part.length:=by rw[h.pl];exact l
  have o:i<(V6 n j).length:=by rw[PN];exact l
  simpa[x6h,m,o]using u
 .rw [x7a (by rw[h.pl];exact l),x7a (by rw[PN];exact l)]
def Wl(n:Nat)(P:n<=5000)(g:List (List Int)×List (List Int))(e:XD n g.1)(s:XD n g.2)(C:∀x y,rowE g.2 x y↔rowE g.1 y x):SpecP prog 287 [HG g] (fun r=>r=XL (V6 n g.1)):=by
 refine sB LQ func287 rfl call287 ?_;conv=>whnf
 have O:((avI g.1).map AV.sl).length=n:=by simp[avI,e.1]
 repeat' ((first|(refine iM fun _=>?_)|refine aR ?_|refine wI ?_|refine MkK.mk n (by rw[O]) (by show 1*n<=140737488355328;omega) (by unfold maxLen;omega) ?_|refine MkK.mk n (by rw[O]) (by show 8*n<=140737488355328;omega) (by unfold maxLen;omega) ?_|(refine CallK.pure (Ur n P g e) (.cons (Sub.refl _) .nil) ?_;rintro _ ⟨es,rfl,z⟩));conv=>whnf)
 have N:es.length<=n:=by
  have A:=z.nd;exact Bc A fun x t=>(z.mem x).1 t
 have D:(es.map (AV.int .i64)).length=es.length:=x6j _;refine LoopK.inv QW (fun x:Nat×List Int×List Bool=>⟨[(0,.p (HG g)),(3,.hd 0 0 n),(4,.hd 1 0 n),(5,.p (XL es)),(6,.p (.int .i64 ((x.1:Int)-1)))],[(0,.own 3 1 (x.2.1.map (.int .i64))),(1,.own 4 1 (x.2.2.map bv))]⟩)
  (fun x=>x.1<=es.length/\PartI n (rowE g.1) es x.1 x.2.1 x.2.2) (fun x=>x.1) (es.length,List.replicate n 0,List.replicate n false)
  (Le.mk [] (by simp) (by simp) (by simp) (.r (.cons (.of_eq rfl) (.cons (.of_eq rfl) (.r (.cons (.of_eq (by rw[D];rfl)) .nil)))))
    (.cons rfl (.of_eq (by rw[x9e];rfl)) (.cons rfl (.of_eq (by rw[x9e];rfl)) .nil)))
  ⟨x7u _,PartI.start⟩ ?_
 rintro⟨m,part,seen⟩ ⟨A,o⟩;simp only at A o⊢;have U:=o.sl;have E:=o.pl;cases m with
 | zero=>
   conv=>whnf
   repeat' (apply bD<;>intro _<;>first|omega|conv=>whnf)
   exact⟨_,.hd rfl (by simp[E]),by rw[o.fin e z];rfl⟩
 | succ m=>
   obtain⟨r,u⟩ : ∃r,es[m]?=some r:=⟨_,x6k (by omega)⟩;have F:=(z.mem r).1 (x7j u);have R:es[m]=r:=by rw[x6k (by omega)]at u;exact x8l u
   have c:(es.map (AV.int .i64))[m]?=some (.int .i64 r):=by rw[x6a,u];rfl
   have v:=q2x (l:=seen) (i:=r.toNat) (by omega);cases f:seen.getD r.toNat false with
   | true=>
     rw[f]at v;have d:=Iw u ((o.seen r F).1 f);conv=>whnf
     repeat' (first|((first|refine x6d rfl ?_|refine wI ?_|(refine IdxK.at (k:=m) (by omega) c rfl ?_)|refine x8q r.toNat (by omega) (by omega) ?_|refine x8p r.toNat 0 .tt (by omega) v ?_);conv=>whnf)|(apply bD<;>intro _<;>first|omega|conv=>whnf))
     exact⟨(m,part,seen),⟨by simp only;omega,o.sl,o.pl,fun x t=>by rw[o.seen x t,d],fun x t T=>o.min x t ((d x).1 T)⟩,Nat.lt_succ_self m,Le.of_eq (by rw[show((m+1:Nat):Int)-1-1=(m:Int)-1 by omega])⟩
   | false=>
     rw[f]at v;obtain⟨K,L,M,B⟩:=o.part e s C z u f;conv=>whnf
     repeat' (first|((first|refine dA ?_|refine x6d rfl ?_|refine aD ?_|(refine IdxK.at (k:=m) (by omega) c rfl ?_)|refine x8q r.toNat (by omega) (by omega) ?_|refine x8p r.toNat 0 .ff (by omega) v ?_|refine z0j r.toNat 0 .ff .tt (by omega) v (x7u 1) rfl ?_|refine z1c (fun x t=>by rcases x6p.1 t with rfl;rfl) rfl ?_);conv=>whnf)|(apply bD<;>intro _<;>first|omega|conv=>whnf))
     have G:(ZD g.2 (n+1) 0 (seen.set r.toNat true,[r])).1.length=n:=B.sl;rw[show(seen.map bv).set r.toNat AV.tt=(seen.set r.toNat true).map bv by rw[x9w];rfl];refine CallK.heap [(1000,1),(2000,2)] 0 (x6i (x6e _) (x6i (x6e _) (x6i (x6e _) x7h))) (by refine x6y (j:=1) rfl rfl ?_ ?_;exact CSub.refl _;refine x6y (j:=2) rfl rfl ?_ ?_;exact CSub.refl _;exact x7f) (Hc n P g.2 s (seen.set r.toNat true,[r]) M) rfl rfl ?_;rintro l' H' ⟨rfl,rfl⟩;conv=>whnf
     have H:(ZD g.2 (n+1) 0 (seen.set r.toNat true,[r])).2.length<=n:=NZ (PO s _ _ M);generalize ZD g.2 (n+1) 0 (seen.set r.toNat true,[r])=w at K L B G H⊢;repeat' ((first|(refine iM fun _=>?_)|(refine QB (Qy w.2 L) (.cons (.hd rfl (by simp)) .nil) (by rintro _ rfl;rfl) ?_;rintro _ rfl));conv=>whnf)
     refine LoopK.inv QW (fun x:Nat=>⟨[(0,.p (HG g)),(3,.hd 0 0 n),(4,.hd 1 0 n),(5,.p (XL es)),(6,.p (.int .i64 (((m+1:Nat):Int)-1))),(8,.p (.int .i64 (Pp w.2))),(60,.hd 2 0 w.2.length),(61,.p (.int .i64 w.2.length)),(62,.p (.int .i64 x))],[(1,.own 4 1 (w.1.map bv)),(2,.own 3 1 (w.2.map (.int .i64))),(0,.own 3 1 ((UB (w.2.take x) (Pp w.2) part).map (.int .i64)))]⟩)
      (fun x=>x<=w.2.length) (fun x=>w.2.length-x) 0 (Le.of_eq rfl) (x6t _) ?_
     intro q Q;rcases x6c q w.2.length with h|h
     .have V:=K _ (x6o h);have I:=Md (l:=UB (w.2.take q) (Pp w.2) part) (i:=w.2[q].toNat) (by rw[Qu];omega);have J:UB (w.2.take (q+1)) (Pp w.2) part=(UB (w.2.take q) (Pp w.2) part).set w.2[q].toNat (Pp w.2):=by
       unfold UB;rw[x7x h,List.foldl_append];rfl
      generalize UB (w.2.take q) (Pp w.2) part=pt at I J⊢;conv=>whnf
      repeat' (first|((first|refine x6d rfl ?_|refine wI ?_|refine x8q q (by omega) (by omega) ?_|refine x8p q 0 (.int .i64 w.2[q]) (by omega) (by simp[h]) ?_|refine x8q w.2[q].toNat (by omega) (by omega) ?_|refine z0j w.2[q].toNat 0 (.int .i64 (pt.getD w.2[q].toNat 0)) (.int .i64 (Pp w.2)) (by omega) I (x7u 1) rfl ?_);conv=>whnf)|(apply bD<;>intro _<;>first|omega|conv=>whnf))
      exact⟨q+1,h,by omega,Le.of_eq (by rw[J,x9w];rfl)⟩
     .rw [x7w h];conv=>whnf
      repeat' (first|(refine wI ?_;conv=>whnf)|(apply bD<;>intro _<;>first|omega|conv=>whnf))
      exact⟨(m,UB w.2 (Pp w.2) part,w.1),⟨by simp only;omega,B⟩,Nat.lt_succ_self m,Le.mk [] (by simp) (by simp) (by simp) (.r (.r (.r (.r (.cons (.of_eq (by rw[show(m:Int)=((m+1:Nat):Int)-1 by omega];rfl)) .nil))))) (.cons rfl (.refl _) (.cons rfl (.refl _) .nil))⟩
theorem OpK.frz{P:Program}{T:Tab}{N:Nat}{o:Oper}{K:St->Prop}{s:St}(hT:TabOK P T)(q:List (List Nat))(h:x0d q s fun s'=>opW P T N s' o K):OpK P N s o K:=⟨fun σ β a w v Q=>by
 obtain⟨z,r,j⟩:=Jg (N:=N) h;obtain⟨σ1,β1,m,i⟩:=j σ β a w v;exact Oper.wp_mono (fun y w' ⟨σ',β',x,t,l,u⟩=>⟨σ',β',x,t,l,i.trans u⟩) (PB hT r m Q)⟩
def Sl{N:List (List Int)}{a:Nat}(i:a<N.length){y:Int}{k:Nat}:y∈(Fk N a b).getD k []↔y∈N.getD k []\/(a=k/\y=b):=by
 unfold Fk;rw[WJ i];split
 .rename_i h;rw[TC,h];simp
 .rename_i h;simp[h]
def An{n:Nat}{g:List (List Int)×List (List Int)}(h:g.2.length=n)(e:Int×Int):(Pd n g e).2.length=n:=by
 rw[H8];cases(WV n e.1&&WV n e.2 && !(g.1.getD e.1.toNat []).contains e.2)with
 |true=>rw[x7z];unfold Fk;rw[x8i];exact h
 |false=>exact h
structure MirG(n:Nat)(g:List (List Int)×List (List Int)):Prop where
 l1:g.1.length=n
 l2:g.2.length=n
 m:∀x y:Int,0<=x/\x<n->0<=y/\y<n->(y∈g.1.getD x.toNat []↔x∈g.2.getD y.toNat [])
theorem MirG.add{n:Nat}{g:List (List Int)×List (List Int)}(h:MirG n g)(e:Int×Int):MirG n (Pd n g e):=by
 refine⟨Tt h.l1 e,An h.l2 e,fun x y l o=>?_⟩;rw[Yo,H8];cases j:(WV n e.1&&WV n e.2 && !(g.1.getD e.1.toNat []).contains e.2)with
 | true=>
   simp only[x7y]at j;have r:=ZK j.1.1;have t:=ZK j.1.2;rw[x7z,x7z,Sl (by rw[h.l1];omega),Sl (by rw[h.l2];omega),h.m x y l o];constructor
   .rintro (i|⟨i,q⟩)
    .exact .inl i
    .exact .inr ⟨by omega,by omega⟩
   .rintro (i|⟨i,q⟩)
    .exact .inl i
    .exact .inr ⟨by omega,by omega⟩
 |false=>exact h.m x y l o
theorem MirG.fold{n:Nat}:∀(l:List (Int×Int)){g:List (List Int)×List (List Int)},MirG n g->MirG n (l.foldl (Pd n) g)
 |[],_,h=>h
 |e::r,_,h=>MirG.fold r (h.add e)
def Mg(n:Nat)(l:List (Int×Int)):MirG n (QO n l):=by
 refine MirG.fold l ⟨by simp,by simp,fun x y _ _=>?_⟩;have:∀k,(List.replicate n ([]:List Int)).getD k []=[]:=fun k=>by
  rw[x6h,x7c];split<;>rfl
 simp only[this];simp
def T4{n:Nat}{i:List (List Int)}(l:i.length=n){x y:Int}(h:rowE i x y):0<=x/\x<n:=by
 refine⟨h.1,?_⟩;have j:=h.2;unfold Be at j;rcases x6c x.toNat i.length with k|k
 .omega
 .rw [x6h,x7a k]at j;simp at j
def Ch(n:Nat)(l:List (Int×Int))(x y:Int):rowE (QO n l).2 x y↔rowE (QO n l).1 y x:=by
 obtain⟨o,p⟩:=HB n l;have j:=Mg n l;constructor
 .intro h;have k:=T4 j.l2 h;have i:=PT p h.2;exact⟨i.1,(j.m y x i k).2 h.2⟩
 .intro h;have k:=T4 j.l1 h;have i:=PT o h.2;exact⟨i.1,(j.m y x k i).1 h.2⟩
def Cd{n:Nat}{l:List (Int×Int)}{x y:Int}:rowE (QO n l).1 x y↔(x,y)∈l/\WV n x=true/\WV n y=true:=by
 constructor
 .intro h;have i:=T4 (Mg n l).l1 h;have:=(NH i).1 h.2;exact⟨this.1,B8 i,this.2⟩
 .rintro ⟨j,k,m⟩;have i:=ZK k;exact⟨i.1,(NH i).2 ⟨j,m⟩⟩
def V4(part:List Int)(o:List Bool)(t:Int×Int):List Bool:=if part.getD t.1.toNat 0=part.getD t.2.toNat 0 then o else o.set (part.getD t.1.toNat 0).toNat true
def Gc(n:Nat)(part:List Int):List Bool:=((List.replicate n false).set (part.getD 0 0).toNat true).set (part.getD (n-1) 0).toNat true
def Bb(n:Nat)(part:List Int)(h:List (Int×Int)):List Bool:=h.foldl (V4 part) (Gc n part)
def PI(h:Int->Int)(part:List Int)(i q:Nat):List Int:=((List.range q).filter fun j=>part.getD j 0==(i:Int)).map fun(j:Nat)=>h j
def Ki(part:List Int)(op:List Bool)(i:Nat):Bool:=part.getD i 0==(i:Int) && !op.getD i false
def Vj(h:Int->Int)(part:List Int)(op:List Bool)(q:Nat):List (List Int):=((List.range q).filter (Ki part op)).map fun i=>PI h part i part.length
def prsW(w:Way)(f:Pr):List (Int×Int):=w.real.map (ixP w.p w.j f w.n)
def VA(w:Way)(f:Pr):List Int:=V6 w.n.toNat (QO w.n.toNat (prsW w f)).1
def trapsW(w:Way)(f:Pr):List (List Int):=Vj (ZM w.p w.j w.n) (VA w f) (Bb w.n.toNat (VA w f) (prsW w f)) (VA w f).length
def L6(part:List Int)(o:List Bool)(t:Int×Int):(V4 part o t).length=o.length:=by
 unfold V4;split<;>simp
def Sh{n:Nat}{h:List (List Int)}(i:XD n h){k:Nat}(l:k<n):0<=(V6 n h).getD k 0/\(V6 n h).getD k 0<n:=by
 have j:0<=(k:Int)/\(k:Int)<n:=by omega
 have:=V7 i j;exact Sr i j this.scc.1
def A0(j:Int->Int)(part:List Int)(i q:Nat):PI j part i (q+1)=if part.getD q 0=(i:Int)then PI j part i q++[j q]else PI j part i q:=by
 unfold PI;rw[List.range_succ,x9t,x6l];by_cases h:part.getD q 0=(i:Int)
 .rw [if_pos h,x9j (by rw[h];simp)];rfl
 .rw [if_neg h,x9f (by simpa using h)];simp
def CO(i:Int->Int)(part:List Int)(op:List Bool)(q:Nat):Vj i part op (q+1)=if Ki part op q=true then Vj i part op q++[PI i part q part.length]else Vj i part op q:=by
 unfold Vj;rw[List.range_succ,x9t,x6l];by_cases h:Ki part op q=true
 .rw [if_pos h,x9j h];rfl
 .rw [if_neg h,x9f h];simp
def Ln(h:Int->Int)(part:List Int)(i q:Nat):(PI h part i q).length<=q:=by
 unfold PI;rw[x6j];exact x8s (z0z _ _) (by simp)
def Lp(h:Int->Int)(part:List Int)(op:List Bool)(q:Nat):(Vj h part op q).length<=q:=by
 unfold Vj;rw[x6j];exact x8s (z0z _ _) (by simp)
theorem L5(part:List Int):∀(l:List (Int×Int))(o:List Bool),(l.foldl (V4 part) o).length=o.length
 |[],_=>rfl
 |t::r,o=>by rw[x9p,L5 part r,L6]
def ES(n:Nat)(part:List Int)(l:List (Int×Int)):(l.foldl (V4 part) (Gc n part)).length=n:=by
 rw[L5];simp[Gc]
def Pk(w:Way)(f:Pr)(n:Nat)(M:w.n=n)(Q:w.p.A[w.j]?=some f)(P:cntP w.p.A<=1000)(hn:n<=5000)(hn2:2<=n)(y:w.real.length<=1000000)(hr:∀t∈prsW w f,(0<=t.1/\t.1<n)/\0<=t.2/\t.2<n):SpecP prog 232 [.ip w.cells] (fun r=>r=Gz (trapsW w f)):=by
 refine sB Ya func232 rfl call232 ?_;conv=>whnf
 have e:=HB n (prsW w f);have u:VA w f=V6 n (QO n (prsW w f)).1:=by unfold VA;rw[M];rfl
 have K:trapsW w f=Vj (ZM w.p w.j w.n) (VA w f) (Bb n (VA w f) (prsW w f)) n:=by unfold trapsW;rw[u,PN,M];rfl
 have v:∀k,k<n->0<=(VA w f).getD k 0/\(VA w f).getD k 0<n:=fun k hk=>by rw[u];exact Sh e.1 hk
 have B:(VA w f).length=n:=by rw[u,PN]
 have d:=Wl n hn (QO n (prsW w f)) e.1 e.2 (Ch n (prsW w f));rw[<-u]at d;rw[K];clear K u e;generalize VA w f=part at v B d⊢;have ha0:=v 0 (by omega);have ha1:=v (n-1) (by omega);have H:=Md (l:=part) (i:=0) (by omega);have I:=Md (l:=part) (i:=n-1) (by omega);have e0:(List.replicate n AV.ff)[(part.getD 0 0).toNat]?=some .ff:=by rw[x7c,if_pos (by omega)]
 have e1:((List.replicate n AV.ff).set (part.getD 0 0).toNat .tt)[(part.getD (n-1) 0).toNat]?=some (bv (((List.replicate n false).set (part.getD 0 0).toNat true).getD (part.getD (n-1) 0).toNat false)):=by
  have:(List.replicate n AV.ff).set (part.getD 0 0).toNat .tt=((List.replicate n false).set (part.getD 0 0).toNat true).map bv:=by
   rw[x9w,x9e];rfl
  rw[this];exact q2x (by rw[x8i,x8j];omega)
 have hplm:(part.map (AV.int .i64)).length=n:=by rw[x6j,B]
 repeat' ((first|(refine iM fun _=>?_)|refine dA ?_|refine x6d rfl ?_|refine aR ?_|refine wI ?_|refine cP (Ph w f n M Q P hn w.real y) ?_|refine cP d ?_|refine MkK.mk n M (by show 1*n<=140737488355328;omega) (by unfold maxLen;omega) ?_|(refine IdxK.at (k:=0) rfl H rfl ?_)|(refine IdxK.at (k:=n-1) (by omega) I rfl ?_)|refine x8q (part.getD 0 0).toNat (by omega) (by omega) ?_|refine x8q (part.getD (n-1) 0).toNat (by omega) (by omega) ?_|refine z0j (part.getD 0 0).toNat 0 .ff .tt (show(0+(part.getD 0 0).toNat)*1=(part.getD 0 0).toNat*1+0 by omega) e0 (x7u 1) rfl ?_|(refine CallK.pure (DD w f Q P (by omega) w.real y) (.cons (Sub.refl _) (.cons (Sub.refl _) .nil)) ?_;rintro _ rfl)|(refine z0j (part.getD (n-1) 0).toNat 0 _ .tt (show(0+(part.getD (n-1) 0).toNat)*1=(part.getD (n-1) 0).toNat*1+0 by omega) e1 (x7u 1) (by cases((List.replicate n false).set (part.getD 0 0).toNat true).getD (part.getD (n-1) 0).toNat false<;>rfl) ?_));conv=>whnf)
 have hprl:(prsW w f).length<=1000000:=by unfold prsW;rw[x6j];exact y
 have hpl2:(avP (prsW w f)).length=(prsW w f).length:=by simp[avP]
 refine LoopK.inv QW (fun x:Nat×List Bool=>⟨[(0,.p (.ip w.cells)),(3,.p (XL part)),(4,.hd 0 0 n),(43,.p (.sl (avP (prsW w f)))),(44,.p (.int .i64 (avP (prsW w f)).length)),(45,.p (.int .i64 x.1))],[(0,.own 4 1 (x.2.map bv))]⟩)
  (fun x=>x.1<=(prsW w f).length/\x.2=((prsW w f).take x.1).foldl (V4 part) (Gc n part)) (fun x=>(prsW w f).length-x.1) (0,Gc n part)
  (Le.mk [] (by simp) (by simp) (by simp) (.r (.r (.r (.r (.r (.r .nil)))))) (.cons rfl (.of_eq (by unfold Gc;rw[x9w,x9w,x9e];rfl)) .nil))
  ⟨x6t _,rfl⟩ ?_
 rintro⟨m,o⟩ ⟨h1,D⟩;simp only at h1 D⊢;have hol:o.length=n:=by rw[D];exact ES n part _
 rcases x6c m (prsW w f).length with F|F
 .obtain ⟨⟨h3,h4⟩,h5,h6⟩:=hr _ (x6o F);have h7:=v (prsW w f)[m].1.toNat (by omega);have h8:=v (prsW w f)[m].2.toNat (by omega);have e2:=Md (l:=part) (i:=(prsW w f)[m].1.toNat) (by omega);have C:=Md (l:=part) (i:=(prsW w f)[m].2.toNat) (by omega);have e4:=q2x (l:=o) (i:=(part.getD (prsW w f)[m].1.toNat 0).toNat) (by omega);have R:(avP (prsW w f))[m]?=some (.agg [.int .i64 (prsW w f)[m].1,.int .i64 (prsW w f)[m].2]):=by simp[avP,F]
  have e5:((prsW w f).take (m+1)).foldl (V4 part) (Gc n part)=V4 part o (prsW w f)[m]:=by rw[x7x F,List.foldl_append,<-D];rfl
  conv=>whnf
  repeat' (first|((first|refine dA ?_|refine x6d rfl ?_|refine wI ?_|(refine IdxK.at (k:=m) rfl R rfl ?_)|refine x8q 0 rfl (by decide) ?_|refine x8q 1 rfl (by decide) ?_|(refine IdxK.at (k:=(prsW w f)[m].1.toNat) (by omega) e2 rfl ?_)|(refine IdxK.at (k:=(prsW w f)[m].2.toNat) (by omega) C rfl ?_)|refine x8q (part.getD (prsW w f)[m].1.toNat 0).toNat (by omega) (by omega) ?_|refine z0j (part.getD (prsW w f)[m].1.toNat 0).toNat 0 _ .tt (by omega) e4 (x7u 1) (by cases o.getD (part.getD (prsW w f)[m].1.toNat 0).toNat false<;>rfl) ?_);conv=>whnf)|(apply bD<;>intro _<;>first|omega|conv=>whnf)|(apply bE<;>intro _<;>first|omega|conv=>whnf))
  all_goals first
   | (have g:part.getD (prsW w f)[m].1.toNat 0=part.getD (prsW w f)[m].2.toNat 0:=by assumption
      exact⟨(m+1,o),⟨by simp only;omega,by simp only;rw[e5];unfold V4;rw[if_pos g]⟩,by simp only;omega,Le.of_eq rfl⟩)
   | (have g:¬part.getD (prsW w f)[m].1.toNat 0=part.getD (prsW w f)[m].2.toNat 0:=by assumption
      exact⟨(m+1,o.set (part.getD (prsW w f)[m].1.toNat 0).toNat true),⟨by simp only;omega,by simp only;rw[e5];unfold V4;rw[if_neg g]⟩,by simp only;omega,Le.of_eq (by simp only[x9w];rfl)⟩)
 .rw [x7w F]at D;have G:Bb n part (prsW w f)=o:=D.symm;rw[G];clear G D e0 e1 H I d;conv=>whnf
  repeat' (first|(refine iM fun _=>?_;conv=>whnf)|(apply bD<;>intro _<;>first|omega|conv=>whnf))
  refine LoopK.inv QW (fun q:Nat=>⟨[(0,.p (.ip w.cells)),(3,.p (XL part)),(4,.hd 0 0 n),(7,.hd 1 0 (Vj (ZM w.p w.j w.n) part o q).length),(69,.p (.int .i64 (part.map (AV.int .i64)).length)),(70,.p (.int .i64 q))],[(0,.own 4 1 (o.map bv)),(1,.own 54 1 ((avI (Vj (ZM w.p w.j w.n) part o q)).map AV.sl))]⟩)
   (fun q=>q<=n) (fun q=>n-q) 0
   (Le.mk [(1,.own 54 1 [])] (by simp[Chunk.new0];rfl) (by simp) (by simp) (.r (.r (.r (.cons (.nil x6g) (.r (.r .nil)))))) (.cons rfl (.refl _) (.new x6g .nil)))
   (x6t _) ?_
  intro q hqn;have N:=Lp (ZM w.p w.j w.n) part o q;rcases x6c q n with g|g
  .have e2:=Md (l:=part) (i:=q) (by omega);have C:=q2x (l:=o) (i:=q) (by omega);have s:=CO (ZM w.p w.j w.n) part o q;generalize Vj (ZM w.p w.j w.n) part o q=acc at N s⊢;have hpe:part[q]=part.getD q 0:=by rw[x6h,x6k];rfl
   cases L:o.getD q false with
   | true=>
     rw[L]at C;have J:¬Ki part o q=true:=by unfold Ki;rw[L];simp
     rw[if_neg J]at s;conv=>whnf
     repeat' (first|((first|refine x6d rfl ?_|(refine iA fun _=>?_)|refine wI ?_|refine x8q q rfl (by omega) ?_|refine x8p q 0 .tt (by omega) C ?_);conv=>whnf)|(apply bD<;>intro _<;>first|omega|conv=>whnf)|(apply bE<;>intro _<;>first|omega|conv=>whnf))
     all_goals exact⟨q+1,g,by omega,Le.of_eq (by rw[s];rfl)⟩
   | false=>
     rw[L]at C;conv=>whnf
     repeat' (first|((first|(refine iM fun _=>?_)|refine x6d rfl ?_|(refine iA fun _=>?_)|refine wI ?_|refine x8q q rfl (by omega) ?_|refine x8p q 0 .ff (by omega) C ?_);conv=>whnf)|(apply bD<;>intro _<;>first|omega|conv=>whnf)|(apply bE<;>intro _<;>first|omega|conv=>whnf))
     all_goals try
      have T:¬part.getD q 0=(q:Int):=by omega
      have J:¬Ki part o q=true:=fun h=>by
       unfold Ki at h;rw[x7y,z0x]at h;exact T h.1
      rw[if_neg J]at s;exact⟨q+1,g,by omega,Le.of_eq (by rw[s];rfl)⟩
     have U:part.getD q 0=(q:Int):=by omega
     have J:Ki part o q=true:=by unfold Ki;rw[L,U];simp
     rw[if_pos J,B]at s;refine LoopK.inv QW (fun z:Nat=>⟨[(0,.p (.ip w.cells)),(3,.p (XL part)),(4,.hd 0 0 n),(7,.hd 1 0 acc.length),(8,.p (.int .i64 q)),(9,.hd 2 0 (PI (ZM w.p w.j w.n) part q z).length),(69,.p (.int .i64 (part.map (AV.int .i64)).length)),(70,.p (.int .i64 q)),(86,.p (.int .i64 (part.map (AV.int .i64)).length)),(87,.p (.int .i64 z))],[(0,.own 4 1 (o.map bv)),(1,.own 54 1 ((avI acc).map AV.sl)),(2,.own 3 1 ((PI (ZM w.p w.j w.n) part q z).map (.int .i64)))]⟩)
      (fun z=>z<=n) (fun z=>n-z) 0
      (Le.mk [(2,.own 3 1 [])] (by simp[Chunk.new0];rfl) (by simp) (by simp) (.r (.r (.r (.r (.r (.cons (.nil x6g) (.r (.r (.r (.r .nil)))))))))) (.cons rfl (.refl _) (.cons rfl (.refl _) (.new x6g .nil))))
      (x6t _) ?_
     intro z hzn;have O:=Ln (ZM w.p w.j w.n) part q z;rcases x6c z n with Z|Z
     .have e4:=Md (l:=part) (i:=z) (by omega);have c:=A0 (ZM w.p w.j w.n) part q z;generalize PI (ZM w.p w.j w.n) part q z=l at O c⊢;conv=>whnf
      repeat' (first|((first|refine x6d rfl ?_|refine aD ?_|refine bP ?_|(refine iA fun _=>?_)|refine wI ?_|(refine CallK.pure (Zm w f Q P (by omega) z (by omega)) (.cons (Sub.refl _) (.cons (Sub.refl _) .nil)) ?_;rintro _ rfl)|refine WZ (by simp) (by simp;omega) ?_);conv=>whnf)|(apply bD<;>intro _<;>first|omega|conv=>whnf))
      have V:part[z]=part.getD z 0:=by rw[x6h,x6k];rfl
      .rw [if_pos (by omega)]at c;exact⟨z+1,Z,by omega,Le.of_eq (by rw[c,x6f,x6l];rfl)⟩
      .have V:part[z]=part.getD z 0:=by rw[x6h,x6k];rfl
       rw[if_neg (by omega)]at c;exact⟨z+1,Z,by omega,Le.of_eq (by rw[c];rfl)⟩
     .have hze:z=n:=by omega
      subst hze;conv=>whnf
      repeat' (apply bD<;>intro _<;>first|omega|conv=>whnf)
      have E:(PI (ZM w.p w.j w.n) part q z).length=((PI (ZM w.p w.j w.n) part q z).map (AV.int .i64)).length:=by simp
      refine OpK.frz QW [[9,104]] ?_;conv=>whnf
      refine LenK.mk E ?_;conv=>whnf
      refine LenK.mk E ?_;conv=>whnf
      repeat' ((first|refine x6d rfl ?_|refine aD ?_|refine bP ?_|refine wI ?_|refine x8e (by simp[avI]) rfl (by show(acc.length+1)*24<=140737488355328;omega) (by show acc.length+1<=9223372036854775807;omega) (fun x hx=>by rcases x6p.1 hx with rfl;exact⟨rfl,rfl⟩) ?_);conv=>whnf)
      exact⟨q+1,g,by omega,Le.of_eq (by rw[s];simp only[avI,x6f,x6l];rfl)⟩
  .have Y:q=n:=by omega
   subst Y;conv=>whnf
   repeat' (apply bD<;>intro _<;>first|omega|conv=>whnf)
   exact⟨_,.hd rfl (by simp[avI]),rfl⟩
def vOf(p:Pg)(id:Int):List Step:=match O1 p id with
 |some s=>if s.kind=10 then [⟨id,-1,3⟩]else []
 |none=>[]
def UI(w:Way)(f:Pr):List Step:=(trapsW w f).flatMap fun l=>l.flatMap (vOf w.p)
def q6s(p:Pg)(id:Int):(vOf p id).length<=1:=by
 unfold vOf;split
 .split<;>simp
 .simp
theorem VM{α β:Type}{g:α->List β}{c:Nat}:∀(l:List α),(∀x∈l,(g x).length<=c)->(l.flatMap g).length<=l.length*c
 |[],_=>by simp
 | a::r,h=>by
   have j:=h a x6g;have k:=VM r fun x i=>h x (x6b _ i);rw[x8n,x6f,x7g,x9g];omega
def Tb(w:Way)(f:Pr)(n:Nat)(hw:w.n=n)(P:w.p.A[w.j]?=some f)(O:cntP w.p.A<=1000)(T:n<=5000)(D:2<=n)(c:w.real.length<=1000000)(U:∀t∈prsW w f,(0<=t.1/\t.1<n)/\0<=t.2/\t.2<n)(E:(trapsW w f).length<=5000)(e:∀l∈trapsW w f,l.length<=5000/\∀id∈l,1<=id/\id<=(sheetOf w.p).l.length):
  SpecH prog 183 [.p (.ip w.cells)] [] (fun r H=>r=.hd 0 0 (UI w f).length/\H=[(0,.own 232 3 (avS (UI w f)))]):=by
 refine sH W9 func183 rfl call183 ?_;conv=>whnf
 repeat' ((first|(refine iM fun _=>?_)|refine cP (Pk w f n hw P O T D c U) ?_);conv=>whnf)
 unfold UI;generalize trapsW w f=ts at E e⊢;have R:((avI ts).map AV.sl).length=ts.length:=by simp[avI]
 refine LoopK.inv QW (fun x:Nat×List Step=>⟨[(0,.p (.ip w.cells)),(3,.hd 0 0 x.2.length),(9,.p (Gz ts)),(10,.p (.int .i64 ((avI ts).map AV.sl).length)),(11,.p (.int .i64 x.1))],[(0,.own 232 3 (avS x.2))]⟩)
  (fun x=>x.1<=ts.length/\x.2.length<=x.1*5000/\x.2++(ts.drop x.1).flatMap (fun l=>l.flatMap (vOf w.p))=ts.flatMap fun l=>l.flatMap (vOf w.p)) (fun x=>ts.length-x.1) (0,[])
  (Le.mk [(0,.own 232 3 [])] (by simp[Chunk.new0];rfl) (by simp) (by simp) (.r (.cons (.nil x6g) (.r (.r (.r .nil))))) (.new x6g .nil))
  ⟨x6t _,by simp,rfl⟩ ?_
 rintro⟨m,g⟩ ⟨K,L,q⟩;simp only at K L q⊢;rcases x6c m ts.length with v|v;rotate_left 1
 .rw [x7v v,List.flatMap_nil,x8x]at q;conv=>whnf
  repeat' (apply bD<;>intro _<;>first|omega|conv=>whnf)
  exact⟨_,x6e _,by rw[q],by rw[q]⟩
 obtain⟨C,z⟩:=e _ (x6o v);have I:((avI ts).map AV.sl)[m]?=some (.sl (ts[m].map (.int .i64))):=by simp[avI,v]
 rw[YS v]at q;conv=>whnf
 repeat' (first|((first|(refine iM fun _=>?_)|(refine iA fun _=>?_));conv=>whnf)|(apply bD<;>intro _<;>first|omega|conv=>whnf))
 have B:(avI ts)[m]'(by simp[avI];exact v)=ts[m].map (.int .i64):=by simp[avI]
 rw[B];generalize ts[m]=l at C z q⊢;have Q:(l.map (AV.int .i64)).length=l.length:=x6j _;generalize J:(ts.flatMap fun l=>l.flatMap (vOf w.p))=tot at q⊢;refine LoopK.inv QW (fun x:Nat×List Step=>⟨[(0,.p (.ip w.cells)),(3,.hd 0 0 x.2.length),(9,.p (Gz ts)),(10,.p (.int .i64 ((avI ts).map AV.sl).length)),(11,.p (.int .i64 m)),(15,.p (XL l)),(16,.p (.int .i64 (l.map (AV.int .i64)).length)),(17,.p (.int .i64 x.1))],[(0,.own 232 3 (avS x.2))]⟩)
  (fun x=>x.1<=l.length/\x.2.length<=m*5000+x.1/\x.2++((l.drop x.1).flatMap (vOf w.p)++(ts.drop (m+1)).flatMap (fun l=>l.flatMap (vOf w.p)))=tot) (fun x=>l.length-x.1) (0,g) (Le.of_eq rfl) ⟨x6t _,by simp only;omega,q⟩ ?_
 rintro⟨k,h⟩ ⟨M,N,o⟩;simp only at M N o⊢;rcases x6c k l.length with y|y;rotate_left 1
 .rw [x7v y]at o;conv=>whnf
  repeat' (first|(refine wI ?_;conv=>whnf)|(apply bD<;>intro _<;>first|omega|conv=>whnf))
  exact⟨(m+1,h),⟨v,by simp only;omega,by simpa using o⟩,by simp only;omega,Le.of_eq rfl⟩
 obtain⟨h7,h8⟩:=z _ (x6o y);obtain⟨_,_,_,V,_⟩:=QY w.p;have d:(l[k]-1).toNat<(sheetOf w.p).l.length:=by omega
 have Y:∃u:Item,((sheetOf w.p).l.map fun i=>AV.agg i.cells)[(l[k]-1).toNat]?=some (.agg u.cells)/\O1 w.p l[k]=some u.s:=⟨_,by rw[x6a,x6k d];rfl,by unfold O1;rw[x6k d];rfl⟩;obtain⟨u,F,G⟩:=Y;rw[YS y]at o;have Z:vOf w.p l[k]=if u.s.kind=10 then [⟨l[k],-1,3⟩]else []:=by unfold vOf;rw[G]
 rw[Z]at o;conv=>whnf
 repeat' (first|((first|refine x6d rfl ?_|refine aD ?_|refine bP ?_|(refine iA fun _=>?_)|refine wI ?_|(refine IdxK.at (by omega) F rfl ?_)|refine x8e (by simp[avS]) rfl (by show(h.length+1)*24<=140737488355328;omega) (by show h.length+1<=9223372036854775807;omega) (fun x hx=>by rcases x6p.1 hx with rfl;exact⟨rfl,rfl⟩) ?_);conv=>whnf)|(apply bD<;>intro _<;>first|omega|conv=>whnf))
 .rw [if_pos (by assumption)]at o;exact⟨(k+1,h++[⟨l[k],-1,3⟩]),⟨y,by simp;omega,by simpa using o⟩,by simp only;omega,Le.of_eq (by simp only[avS,x6f,x6l];rfl)⟩
 .rw [if_neg (by assumption)]at o;exact⟨(k+1,h),⟨y,by simp only;omega,by simpa using o⟩,by simp only;omega,Le.of_eq rfl⟩
def fOf(it:Item):List Step:=if it.s.kind=7\/it.s.kind=8\/it.s.kind=9\/it.s.kind=10 then [⟨it.s.id,it.next,2⟩]else []
structure WayT(w:Way)(f:Pr)(n:Nat):Prop where
 hw:w.n=n
 hj:w.p.A[w.j]?=some f
 hc:cntP w.p.A<=1000
 hn:n<=5000
 hn2:2<=n
 hlen:w.real.length<=1000000
 hr:∀t∈prsW w f,(0<=t.1/\t.1<n)/\0<=t.2/\t.2<n
 htl:(trapsW w f).length<=5000
 hti:∀l∈trapsW w f,l.length<=5000/\∀id∈l,1<=id/\id<=(sheetOf w.p).l.length
 hok:∀s∈w.real,okSt s
 hfk:∀it∈itsOf w.p w.j f,∀s∈fOf it,okSt s
def q6c{p:Pg}{id:Int}{s:Step}(h:s∈vOf p id):s=⟨id,-1,3⟩:=by
 unfold vOf at h;split at h
 .split at h
  .simpa using h
  .simp at h
 .simp at h
theorem WayT.virt_ok{w:Way}{f:Pr}{n:Nat}(h:WayT w f n):∀s∈UI w f,okSt s:=fun s i=>by
 unfold UI at i;obtain⟨l,m,i⟩:=x8w.1 i;obtain⟨id,j,i⟩:=x8w.1 i;obtain⟨_,_,_,o,_⟩:=QY w.p;have q:=(h.hti l m).2 id j;have r:=h.hc;rw[q6c i];exact⟨by show id≠_;omega,by show(-1:Int)≠_;decide⟩
theorem WayT.virt_len{w:Way}{f:Pr}{n:Nat}(h:WayT w f n):(UI w f).length<=25000000:=by
 have m:=VM (g:=fun l=>l.flatMap (vOf w.p)) (c:=5000) (trapsW w f) fun l j=>by
  have i:=VM (g:=vOf w.p) (c:=1) l fun id _=>q6s w.p id;have o:=(h.hti l j).1;omega
 have i:=h.htl;unfold UI;omega
def BO(w:Way)(f:Pr):List Step:=WA (UI w f++w.real)
def Hz(w:Way)(f:Pr):List Step:=UI w f++w.real++[⟨0,-1,2⟩]++(itsOf w.p w.j f).flatMap fOf
def x4i(w:Way)(f:Pr):List Step:=WA (Hz w f)
def Li(w:Way)(f:Pr)(n:Nat)(h:WayT w f n):SpecP prog 111 [.ip w.cells] (fun r=>r=DN (BO w f)):=by
 refine sB Gh func111 rfl call111 ?_;conv=>whnf
 have p:=h.hlen;have t:=h.virt_len;have l:=h.virt_ok;repeat' (first|((first|refine dA ?_|refine aD ?_);conv=>whnf)|(refine CallK.heap [] 0 (x6i (x6e _) x7h) x7f (Tb w f n h.hw h.hj h.hc h.hn h.hn2 h.hlen h.hr h.htl h.hti) rfl rfl ?_;rintro l' H' ⟨rfl,rfl⟩;conv=>whnf))
 have k:(w.real.map fun s=>AV.agg s.cells).length=w.real.length:=x6j _;have o:(avS (UI w f)).length=(UI w f).length:=by simp[avS]
 refine x8e o.symm rfl (by rw[k];show((UI w f).length+w.real.length)*24<=140737488355328;omega) (by rw[k];show(UI w f).length+w.real.length<=9223372036854775807;omega) (fun x u=>by obtain⟨s,_,rfl⟩:=x6r.1 u;exact⟨rfl,rfl⟩) ?_;conv=>whnf
 have i:avS (UI w f)++(w.real.map fun s=>AV.agg s.cells)=avS (UI w f++w.real):=by simp[avS]
 have m:(UI w f).length+(w.real.map fun s=>AV.agg s.cells).length=(UI w f++w.real).length:=by simp
 rw[i,m];repeat' (refine CallK.heap [(1000,0)] 0 (by repeat' (first|exact x7h|refine x6i ?_ ?_|exact x6e _|exact x7q Sub.nils|exact x7q (Sub.tt rfl)|exact x7q (Sub.ff rfl)|exact x7q (Sub.int (by omega)))) (by refine x6y (j:=0) rfl rfl ?_ ?_;exact CSub.refl _;exact x7f) (M4 (UI w f++w.real) (fun s q=>(x6s.1 q).elim (l s) (h.hok s)) (by rw[x6f];omega)) rfl rfl ?_;rintro l' H' ⟨rfl,rfl⟩;conv=>whnf)
 exact⟨_,.hd rfl (by simp[avS]),rfl⟩
def Se{p:Pg}(h:QS p=true){j:Nat}{f:Pr}(n:p.A[j]?=some f){k:Nat}{it:Item}(q:QH p.A j<=k)(r:k<QH p.A j+cntL f.body)(o:(sheetOf p).l[k]?=some it):it.s.id=(k:Int)+1:=by
 obtain⟨t,_,i,m⟩:=P9 h n (a:=(k:Int)+1) (by omega) (by omega);unfold O1 at i;rw[show((k:Int)+1-1).toNat=k by omega,o]at i;cases i;exact m
def q2a{p:Pg}{j:Nat}{f:Pr}{it:Item}(h:it∈itsOf p j f){y:Int}(i:y∈UC (sheetOf p) f it):(⟨it.s.id,y,1⟩:Step)∈QG p j f:=by
 unfold QG;exact x6b _ (x8w.2 ⟨it,h,x6r.2 ⟨y,i,rfl⟩⟩)
theorem L4{n:Nat}{part:List Int}(q:∀k,k<n->0<=part.getD k 0/\part.getD k 0<n){i:Nat}(s:i<n):∀(l:List (Int×Int)){o:List Bool},o.length=n->(∀t∈l,0<=t.1/\t.1<n)->
  ((l.foldl (V4 part) o).getD i false=true↔o.getD i false=true\/∃t∈l,part.getD t.1.toNat 0≠part.getD t.2.toNat 0/\part.getD t.1.toNat 0=i)
 |[],o,_,_=>by simp
 | t::r,o,ho,hr=>by
   rw [x9p,L4 q s r (by rw[L6];exact ho) fun u j=>hr u (x6b _ j)];have v:=hr t x6g;have w:=q t.1.toNat (by omega);have key:(V4 part o t).getD i false=true↔o.getD i false=true\/(part.getD t.1.toNat 0≠part.getD t.2.toNat 0/\part.getD t.1.toNat 0=i):=by
    unfold V4;split
    .rename_i p;constructor
     .exact .inl
     .rintro (h|⟨h,_⟩)
      .exact h
      .exact absurd p h
    .rename_i p;rw[WJ (by omega)];split
     .rename_i h;constructor
      .intro _;exact .inr ⟨p,by omega⟩
      .intro _;rfl
     .rename_i h;constructor
      .exact .inl
      .rintro (m|⟨_,m⟩)
       .exact m
       .exact absurd (by omega) h
   rw[key,or_assoc];constructor
   .rintro (h|⟨h,m⟩|⟨u,j,h⟩)
    .exact .inl h
    .exact .inr ⟨t,x6g,h,m⟩
    .exact .inr ⟨u,x6b _ j,h⟩
   .rintro (h|⟨u,j,h⟩)
    .exact .inl h
    .rcases x6m.1 j with rfl|j
     .exact .inr (.inl h)
     .exact .inr (.inr ⟨u,j,h⟩)
def q0u{n:Nat}{part:List Int}(o:0<n)(j:∀k,k<n->0<=part.getD k 0/\part.getD k 0<n){i:Nat}(m:i<n){l:List (Int×Int)}(p:∀t∈l,0<=t.1/\t.1<n):
  (Bb n part l).getD i false=true↔part.getD 0 0=i\/part.getD (n-1) 0=i\/∃t∈l,part.getD t.1.toNat 0≠part.getD t.2.toNat 0/\part.getD t.1.toNat 0=i:=by
 have q:=j 0 o;have r:=j (n-1) (by omega);unfold Bb;rw[L4 j m l (by simp[Gc]) p];have key:(Gc n part).getD i false=true↔part.getD 0 0=i\/part.getD (n-1) 0=i:=by
  unfold Gc;rw[WJ (by rw[x8i,x8j];omega),WJ (by rw[x8j];omega)];split
  .exact ⟨fun _=>.inr (by omega),fun _=>rfl⟩
  .split
   .exact ⟨fun _=>.inl (by omega),fun _=>rfl⟩
   .have:(List.replicate n false).getD i false=false:=by
     rw[x6h,x7c];split<;>rfl
    rw[this];constructor
    .intro h;cases h
    .rintro (h|h)<;>omega
 rw[key,or_assoc]
end Go.Ab
