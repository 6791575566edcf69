/- Parts of a graph: what a search into the depth leaves behind; going back from the last one done, part by part. -/
import Derived.Test.YtgljdhjopolmcaaGreatInN14
set_option linter.all false
set_option maxRecDepth 100000
set_option maxHeartbeats 16000000
open List (sum_cons)
namespace Go.Ab
open Go.Proofs.Tryz
open Go.Proofs
variable {a b:Int}
def EF{E:Int->Int->Prop}{B:List Int}{u x:Int}(h:Rch E u x)(q:u∈B)(k:x∉B):∃z y,z∈B/\E z y/\y∉B/\Rch E u y/\Rch E y x:=by
 induction h with
 |refl=>exact absurd q k
 | @tail b c h i r=>
   by_cases j:b∈B
   .exact ⟨b,c,j,i,k,.tail h i,.refl⟩
   .obtain ⟨z,y,l,m,n,o,p⟩:=r j;exact⟨z,y,l,m,n,o,.tail p i⟩
def chainE(E:Int->Int->Prop):List Int->Prop
 |[]=>True
 |[_]=>True
 |a::b::r=>E a b/\chainE E (b::r)
theorem Qk{E:Int->Int->Prop}:∀(l:List Int){a y:Int},chainE E (l++[a])->y∈l++[a]->Rch E y a
 | [],a,y,_,i=>by
   simp at i;rw[i];exact .refl
 | [b],a,y,h,i=>by
   simp at i;rcases i with rfl|rfl
   .exact .tail .refl h.1
   .exact .refl
 | b::c::r,a,y,h,i=>by
   have j:chainE E ((c::r)++[a]):=h.2;rcases x8s.1 i with rfl|i
   .exact .head h.1 (Qk (c::r) j (by simp))
   .exact Qk (c::r) j i
theorem Ji{E:Int->Int->Prop}:∀(l:List Int){a b:Int},chainE E (l++[a])->E a b->chainE E (l++[a]++[b])
 |[],a,b,_,hb=>⟨hb,trivial⟩
 |[c],a,b,h,hb=>⟨h.1,hb,trivial⟩
 |c::d::r,a,b,h,hb=>⟨h.1,Ji (d::r) h.2 hb⟩
theorem Fx{E:Int->Int->Prop}:∀(l:List Int){a:Int},chainE E (l++[a])->chainE E l
 |[],_,_=>trivial
 |[_],_,_=>trivial
 |c::d::r,_,h=>⟨h.1,Fx (d::r) h.2⟩
structure DfsI(n:Nat)(E:Int->Int->Prop)(out stack:List Int):Prop where
 nd:(out++stack).Nodup
 rng:∀x∈out++stack,0<=x/\x<n
 path:chainE E stack
 cl:∀u∈out,∀v,E u v->v∈out\/v∈stack
 J:∀u∈out,∀x,Rch E u x->x∉out->∃s∈stack,Rch E u s/\Rch E s u/\Rch E s x
 K:∀(i:Nat)(r:Int),out[i]?=some r->∀u,Rch E u r->Rch E r u\/∃u',Rch E u u'/\Rch E u' u/\(u'∉out\/∃j,i<j/\out[j]?=some u')
theorem DfsI.start(n:Nat)(E:Int->Int->Prop):DfsI n E [] []:=⟨by simp,by simp,trivial,by simp,by simp,by simp⟩
theorem DfsI.push{n:Nat}{E:Int->Int->Prop}{out stack:List Int}(h:DfsI n E out stack)(q:0<=b/\b<n)(r:b∉out++stack)(t:chainE E (stack++[b])):DfsI n E out (stack++[b]):=by
 refine⟨?_,fun x i=>?_,t,fun u l v w=>?_,fun u l x i m=>?_,h.K⟩
 .rw [<-x9l,z0a];refine⟨h.nd,by simp,fun x i y z=>?_⟩;rw[x9q.1 z];exact fun e=>r (e▸i)
 .rw [<-x9l]at i;rcases x8e.1 i with i|i
  .exact h.rng x i
  .rw [x9q.1 i];exact q
 .rcases h.cl u l v w with j|j
  .exact .inl j
  .exact .inr (x8e.2 (.inl j))
 .obtain ⟨s,j,o⟩:=h.J u l x i m;exact⟨s,x8e.2 (.inl j),o⟩
theorem DfsI.pop{n:Nat}{E:Int->Int->Prop}{out st:List Int}(h:DfsI n E out (st++[a]))(ha:∀v,E a v->v∈out\/v∈st++[a]):DfsI n E (out++[a]) st:=by
 have hnd:=h.nd;rw[z0a]at hnd;obtain⟨R,M,A⟩:=hnd;rw[z0a]at M;obtain⟨T,_,U⟩:=M;have Q:a∉out:=fun m=>A a m a (by simp) rfl;have C:a∉st:=fun m=>U a m a (by simp) rfl;have H:∀u∈out++[a],∀v,E u v->v∈out++[a]\/v∈st:=fun u q v V=>by
  have:v∈out\/v∈st++[a]:=by
   rcases x8e.1 q with q|q
   .exact h.cl u q v V
   .rw [x9q.1 q]at V;exact ha v V
  rcases this with l|l
  .exact .inl (x8e.2 (.inl l))
  .rcases x8e.1 l with l|l
   .exact .inr l
   .exact .inl (x8e.2 (.inr l))
 have I:∀u∈out++[a],∀x,Rch E u x->x∉out++[a]->∃y∈st,Rch E u y/\Rch E y x:=fun u q x c D=>by
  obtain⟨z,y,l,B,t,o,F⟩:=EF c q D;rcases H z l y B with w|w
  .exact absurd w t
  .exact ⟨y,w,o,F⟩
 have P:∀y∈st,Rch E y a:=fun y G=>Qk st h.path (x8e.2 (.inl G));refine⟨?_,fun x c=>?_,Fx st h.path,H,fun u q x c D=>?_,fun i r L u q=>?_⟩
 .rw [x9l,z0a];refine⟨R,?_,fun x c y G=>A x c y (by simp at G⊢;exact G.symm)⟩;rw[z0a];refine⟨by simp,T,fun x c y G e=>?_⟩;rw[x9q.1 c]at e;exact C (e▸G)
 .refine h.rng x ?_;simp only[x8e,x9q]at c⊢;rcases c with(l|l)|l
  .exact .inl l
  .exact .inr (.inr l)
  .exact .inr (.inl l)
 .obtain ⟨y,l,B,t⟩:=I u q x c D;rcases x8e.1 q with q|q
  .have Y:y∉out:=fun m=>A y m y (x8e.2 (.inl l)) rfl;obtain⟨s,o,F,w,Z⟩:=h.J u q y B Y;rcases x8e.1 o with o|o
   .exact ⟨s,o,F,w,Z.trans t⟩
   .rw [x9q.1 o]at F w;exact⟨y,l,B,(P y l).trans w,t⟩
  .rw [x9q.1 q]at B⊢;exact⟨y,l,B,P y l,t⟩
 .rcases x8o i out.length with g|g
  .rw [x9d g]at L;rcases h.K i r L u q with l|⟨u',l,B,t⟩
   .exact .inl l
   .refine .inr ⟨u',l,B,?_⟩;rcases t with t|⟨j,t,o⟩
    .by_cases N:u'=a
     .exact .inr ⟨out.length,g,by rw[N];simp⟩
     .exact .inl fun m=>by
       rcases x8e.1 m with m|m
       .exact t m
       .exact N (x9q.1 m)
    .exact .inr ⟨j,t,by rw[x9d (x8t.1 o).1];exact o⟩
  .have hr:r=a:=by
    have l:=(x8t.1 L).1;simp at l;rw[x9n g,show i-out.length=0 by omega]at L;simpa using L.symm
   subst hr;by_cases f:Rch E r u
   .exact .inl f
   .right;by_cases O:u∈out
    .obtain ⟨s,o,F,w,Z⟩:=h.J u O r q Q;rcases x8e.1 o with o|o
     .refine ⟨s,F,w,.inl fun m=>?_⟩;rcases x8e.1 m with m|m
      .exact A s m s (x8e.2 (.inl o)) rfl
      .rw [x9q.1 m]at o;exact C o
     .rw [x9q.1 o]at w;exact absurd w f
    .refine ⟨u,.refl,.refl,.inl fun m=>?_⟩;rcases x8e.1 m with m|m
     .exact O m
     .rw [x9q.1 m]at f;exact f .refl
structure EndsP(n:Nat)(E:Int->Int->Prop)(es:List Int):Prop where
 nd:es.Nodup
 mem:∀x:Int,x∈es↔0<=x/\x<n
 K:∀(i:Nat)(r:Int),es[i]?=some r->∀u:Int,0<=u/\u<n->Rch E u r->Rch E r u\/∃u',Rch E u u'/\Rch E u' u/\∃j,i<j/\es[j]?=some u'
theorem DfsI.fin{n:Nat}{E:Int->Int->Prop}(t:∀x y,E x y->0<=y/\y<n){out:List Int}(h:DfsI n E out [])(j:∀x:Int,0<=x/\x<n->x∈out):EndsP n E out:=by
 refine⟨by simpa using h.nd,fun x=>⟨fun c=>h.rng x (by simpa using c),j x⟩,fun i r v u o z=>?_⟩;rcases h.K i r v u z with m|⟨e,m,q,l⟩
 .exact .inl m
 .refine .inr ⟨e,m,q,?_⟩;rcases l with l|l
  .exfalso;apply l;apply j;cases m with
   |refl=>exact o
   |tail _ w=>exact t _ _ w
  .exact l
def sccP(E:Int->Int->Prop)(x y:Int):Prop:=Rch E x y/\Rch E y x
theorem sccP.refl{E:Int->Int->Prop}(x:Int):sccP E x x:=⟨.refl,.refl⟩
theorem sccP.symm{E:Int->Int->Prop}{x y:Int}(h:sccP E x y):sccP E y x:=⟨h.2,h.1⟩
theorem sccP.trans{E:Int->Int->Prop}{x y z:Int}(h:sccP E x y)(i:sccP E y z):sccP E x z:=⟨h.1.trans i.1,i.2.trans h.2⟩
def SeenP(E:Int->Int->Prop)(es:List Int)(i:Nat)(x:Int):Prop:=∃(j:Nat) (y:Int),i<=j/\es[j]?=some y/\sccP E x y
def Ej{n:Nat}{E:Int->Int->Prop}(d:∀x y,E x y->(0<=x/\x<n)/\0<=y/\y<n){es:List Int}(h:EndsP n E es){i:Nat}{r:Int}(v:es[i]?=some r)(w:¬SeenP E es (i+1) r)(x:Int):
  Rch (fun a b=>E b a/\¬SeenP E es (i+1) b) r x↔sccP E r x:=by
 have u:=(h.mem r).1 (x9y v);constructor
 .intro e;have key:(0<=x/\x<n)/\¬SeenP E es (i+1) x/\Rch E x r:=e.closed (S:=fun x:Int=>(0<=x/\x<n)/\¬SeenP E es (i+1) x/\Rch E x r) (fun a b ⟨o,s,k⟩ ⟨l,p⟩=>⟨(d _ _ l).1,p,.head l k⟩) ⟨u,w,.refl⟩;refine⟨?_,key.2.2⟩;rcases h.K i r v x key.1 key.2.2 with o|⟨A,o,s,j,k,l⟩
  .exact o
  .exact absurd ⟨j,A,k,l,o,s⟩ key.2.1
 .rintro ⟨o,s⟩;have t:∀y,sccP E r y->¬SeenP E es (i+1) y:=fun y f ⟨j,z,k,l,p⟩=>w ⟨j,z,k,l,f.trans p⟩;have key:∀{a b:Int},Rch E a b->Rch E r a->Rch E b r->Rch (fun a b=>E b a/\¬SeenP E es (i+1) b) b a:=fun {a b} m=>by
   induction m with
   |refl=>intro _ _;exact .refl
   | @tail b c m q g=>
     intro k l;have p:Rch E b r:=.head q l;exact .head ⟨q,t b ⟨k.trans m,p⟩⟩ (g k p)
  exact key s o .refl
def O8{E:Int->Int->Prop}{es:List Int}{i:Nat}{r:Int}(s:es[i]?=some r)(t:SeenP E es (i+1) r)(x:Int):SeenP E es i x↔SeenP E es (i+1) x:=by
 constructor
 .rintro ⟨j,y,n,h,l⟩;rcases Nat.eq_or_lt_of_le n with m|m
  .subst m;rw[s]at h;cases h;obtain⟨k,z,o,p,q⟩:=t;exact⟨k,z,o,p,l.trans q⟩
  .exact ⟨j,y,m,h,l⟩
 .rintro ⟨j,y,n,h,l⟩;exact⟨j,y,by omega,h,l⟩
def Rq{E:Int->Int->Prop}{es:List Int}{i:Nat}{r:Int}(o:es[i]?=some r)(x:Int):SeenP E es i x↔SeenP E es (i+1) x\/sccP E r x:=by
 constructor
 .rintro ⟨j,y,n,k,l⟩;rcases Nat.eq_or_lt_of_le n with m|m
  .subst m;rw[o]at k;cases k;exact .inr l.symm
  .exact .inl ⟨j,y,m,k,l⟩
 .rintro (⟨j,y,n,k,l⟩|h)
  .exact ⟨j,y,by omega,k,l⟩
  .exact ⟨i,r,x9h _,o,h.symm⟩
def q3v{n:Nat}{E:Int->Int->Prop}{es:List Int}(h:EndsP n E es){x:Int}(k:0<=x/\x<n):SeenP E es 0 x:=by
 obtain⟨j,i⟩:=z2z.1 ((h.mem x).2 k);exact⟨j,x,x8i _,i,.refl x⟩
def rowE(h:List (List Int))(x y:Int):Prop:=0<=x/\Pn h x y
structure EndI(n:Nat)(rows:List (List Int))(out stack:List Int)(seen:List Bool)(at_:List Int):Prop where
 dfs:DfsI n (rowE rows) out stack
 sl:seen.length=n
 al:at_.length=n
 seen:∀x:Int,0<=x/\x<n->(seen.getD x.toNat false=true↔x∈out++stack)
 arng:∀x:Int,0<=x/\x<n->0<=at_.getD x.toNat 0/\at_.getD x.toNat 0<=(rows.getD x.toNat []).length
 cur:∀x:Int,0<=x/\x<n->∀(i:Nat)(y:Int),(i:Int)<at_.getD x.toNat 0->(rows.getD x.toNat [])[i]?=some y->y∈out++stack
theorem EndI.start(n:Nat)(j:List (List Int)):EndI n j [] [] (List.replicate n false) (List.replicate n 0):=by
 have l:∀x:Int,(List.replicate n (0:Int)).getD x.toNat 0=0:=fun x=>by
  rw[x8n,z0q];split<;>rfl
 refine⟨DfsI.start n _,by simp,by simp,fun x m=>?_,fun x m=>by rw[l];omega,fun x m i y o=>by rw[l]at o;omega⟩;rw[x8n,z0q];split<;>simp
def WG{α:Type}{l:List α}{i j:Nat}{a d:α}(k:i<l.length):(l.set i a).getD j d=if i=j then a else l.getD j d:=by
 simp only[x8n,z1o];split
 .rename_i h;first
   |rfl
   |(rw[if_pos k];rfl)
 .rfl
theorem EndI.push{n:Nat}{j:List (List Int)}{out stack:List Int}{seen:List Bool}{l:List Int}(h:EndI n j out stack seen l){b:Int}(q:0<=b/\b<n)(r:seen.getD b.toNat false=false)(v:chainE (rowE j) (stack++[b])):EndI n j out (stack++[b]) (seen.set b.toNat true) l:=by
 have m:b∉out++stack:=fun u=>by rw[(h.seen b q).2 u]at r;cases r
 refine⟨h.dfs.push q m v,by simpa using h.sl,h.al,fun x o=>?_,h.arng,fun x o i y t w=>?_⟩
 .rw [WG (by rw[h.sl];omega),<-x9l,x8e,x9q];split
  .have:x=b:=by omega
   simp[this]
  .have:x≠b:=by omega
   rw[h.seen x o];simp[this]
 .rw [<-x9l];exact x8e.2 (.inl (h.cur x o i y t w))
theorem EndI.pop{n:Nat}{l:List (List Int)}{out st:List Int}{a:Int}{seen:List Bool}{m:List Int}(h:EndI n l out (st++[a]) seen m)(ha:m.getD a.toNat 0=(l.getD a.toNat []).length):EndI n l (out++[a]) st seen m:=by
 have t:=h.dfs.rng a (by simp);have o:∀x:Int,x∈out++[a]++st↔x∈out++(st++[a]):=fun x=>by
  simp only[x8e,x9q];constructor
  .rintro ((j|j)|j)
   .exact .inl j
   .exact .inr (.inr j)
   .exact .inr (.inl j)
  .rintro (j|j|j)
   .exact .inl (.inl j)
   .exact .inr j
   .exact .inl (.inr j)
 refine⟨h.dfs.pop fun v u=>?_,h.sl,h.al,fun x r=>by rw[h.seen x r,o],h.arng,fun x r i y q w=>(o y).2 (h.cur x r i y q w)⟩;obtain⟨i,q⟩:=z2z.1 u.2;have:=h.cur a t i v (by rw[ha];have:=(x8t.1 q).1;omega) q;exact x8e.1 this
theorem EndI.step{n:Nat}{j:List (List Int)}{out stack:List Int}{seen:List Bool}{l:List Int}(h:EndI n j out stack seen l)(ha:0<=a/\a<n){k:Nat}(z:l.getD a.toNat 0=k)(v:(j.getD a.toNat [])[k]?=some b)(w:b∈out++stack):EndI n j out stack seen (l.set a.toNat ((k:Int)+1)):=by
 have m:a.toNat<l.length:=by rw[h.al];omega
 refine⟨h.dfs,h.sl,by simpa using h.al,h.seen,fun x u=>?_,fun x u i y r o=>?_⟩
 .rw [WG m];split
  .rename_i q;have:=(x8t.1 v).1;rw[<-q];omega
  .exact h.arng x u
 .rw [WG m]at r;split at r
  .rename_i q;rw[<-q]at o;rcases x8o i k with t|t
   .exact h.cur a ha i y (by omega) o
   .have:i=k:=by omega
    subst this;rw[v]at o;cases o;exact w
  .exact h.cur x u i y r o
def q4e(m:Int)(l:List Int):Int:=l.foldl (fun m x=>if x<m then x else m) m
def Nk:List Int->Int
 |[]=>0
 |a::r=>q4e a r
theorem Ln:∀(l:List Int)(m:Int),q4e m l∈m::l/\∀x∈m::l,q4e m l<=x
 |[],m=>⟨by simp[q4e],by simp[q4e]⟩
 | a::r,m=>by
   obtain⟨n,j⟩:=Ln r (if a<m then a else m);have e:q4e m (a::r)=q4e (if a<m then a else m) r:=rfl;have k:=j _ x8l;rw[e];generalize q4e (if a<m then a else m) r=z at n j k⊢;refine⟨?_,fun x i=>?_⟩
   .rcases x8s.1 n with h|h
    .rw [h];split<;>simp
    .exact x8r _ (x8r _ h)
   .rcases x8s.1 i with rfl|i
    .split at k<;>omega
    .rcases x8s.1 i with rfl|i
     .split at k<;>omega
     .exact j x (x8r _ i)
def Lm{l:List Int}(h:0<l.length):Nk l∈l/\∀x∈l,Nk l<=x:=by
 cases l with
 |nil=>simp at h
 |cons a r=>exact Ln r a
theorem OpK.min2{P:Program}{N:Nat}{s:St}{o:Oper}{K:St->Prop}{x y:Operand}{f:Array TypeId}(j:o.op=.call {callee:=.builtin .min,args:=#[x,y],argTypes:=f}){m n:Int}(c:QR s.sl x=.p (.int .i64 m))(e:QR s.sl y=.p (.int .i64 n))(h:setD N s.sl o.dst (.p (.int .i64 (if n<m then n else m))) fun sl=>K ⟨sl,s.H⟩):OpK P N s o K:=by
 refine⟨fun σ β a w l Q=>?_⟩;have r:=QW l.G x;have t:=QW l.G y;rw[c]at r;rw[e]at t;have u:=r.int;have v:=t.int;have i:(execOp a.eval o).run P w=.ok (.value (.int .i64 (if n<m then n else m))) w:=by
  simp[execOp,j,resolve,invoke,builtin,u,v,Builtin.min_,Builtin.min2]
 obtain⟨sl,z,q⟩:=l.setD (.p (.int .i64 (if n<m then n else m))) h;exact VT i ⟨σ,β,_,z,q,Later.refl _ _ _ _⟩
def X4(l:List Int)(n:0<l.length):aP 304 [XZ l] (.int .i64 (Nk l)):=by
 refine sC BR func304 ?_;conv=>whnf
 have s:(l.map (AV.int .i64)).length=l.length:=x8b _;repeat' ((first|(refine iM fun _=>?_)|(apply bD<;>intro _<;>try omega))<;>conv=>whnf)
 refine IdxK.at (k:=0) (e:=.int .i64 l[0]) rfl (by simp[n]) rfl ?_;conv=>whnf
 skip
 refine lI (fun x:Nat×Int=>⟨[(0,.p (XZ l)),(3,.j x.2),(4,.j x.1)],[]⟩) (fun x=>1<=x.1/\x.1<=l.length/\Nk (x.2::l.drop x.1)=Nk l) (fun x=>l.length-x.1) (1,l[0]) ⟨x9h _,n,by
  cases l with
  |nil=>simp at n
  |cons a r=>rfl⟩ ?_
 rintro⟨j,m⟩ ⟨o,q,h⟩;simp only at o q h⊢;rcases x8o j l.length with i|i
 .rw [QG i]at h;conv=>whnf
  repeat' ((first|(refine gX ?_;intros)|refine OpK.min2 rfl rfl rfl ?_|(apply bD<;>intro _<;>try omega))<;>conv=>whnf)
  exact nX (j+1,if l[j]<m then l[j]else m) ⟨by simp only;omega,i,h⟩
 .rw [x9j i]at h;conv=>whnf
  repeat' ((first|(refine iM fun _=>?_)|(apply bD<;>intro _<;>try omega))<;>conv=>whnf)
  exact RetK.int h
theorem q5j{α:Type}{f g:α->Nat}:∀{l:List α},(∀x∈l,f x<=g x)->(∃x∈l,f x<g x)->(l.map f).sum<(l.map g).sum
 |[],_,h=>by obtain⟨x,i,_⟩:=h;cases i
 | a::r,h1,h2=>by
   have j:∀{l:List α},(∀x∈l,f x<=g x)->(l.map f).sum<=(l.map g).sum:=fun {l} h=>by
    induction l with
    |nil=>simp
    | cons b r n=>
      simp only[x9c,sum_cons];have:=n fun x i=>h x (x8r _ i);have:=h b x8l;omega
   simp only[x9c,sum_cons];have o:=h1 a x8l;have p:=j fun x i=>h1 x (x8r _ i);obtain⟨x,i,k⟩:=h2;rcases x8s.1 i with rfl|i
   .omega
   .have:=q5j (fun y m=>h1 y (x8r _ m)) ⟨x,i,k⟩;omega
def muE(h:List (List Int))(j:List Int)(n:Nat):Nat:=((List.range n).map fun i=>(h.getD i []).length-(j.getD i 0).toNat).sum
def q2u{n:Nat}{j:List (List Int)}{l:List Int}{a:Nat}(ha:a<n)(p:l.length=n){k:Nat}(m:l.getD a 0=k)(o:k<(j.getD a []).length):muE j (l.set a ((k:Int)+1)) n<muE j l n:=by
 unfold muE;refine q5j (fun i _=>?_) ⟨a,z1i.2 ha,?_⟩
 .rw [WG (by omega)];split
  .rename_i h;rw[<-h,m];omega
  .exact x9h _
 .rw [WG (by omega),if_pos rfl,m];omega
def Pb{n:Nat}{l:List Int}(h:l.Nodup)(i:∀x∈l,0<=x/\x<n):l.length<=n:=by
 have:=NX (m:=(List.range n).map fun(k:Nat)=>(k:Int)) h fun x j=>x8c.2 ⟨x.toNat,z1i.2 (by have:=i x j;omega),by have:=i x j;omega⟩;simpa using this
def q4u{l:List Bool}{i:Nat}(h:i<l.length):(l.map bv)[i]?=some (bv (l.getD i false)):=by
 rw[x9x,x8p h,x8n,x8p h];rfl
def Lj{l:List Int}{i:Nat}(h:i<l.length):(l.map (AV.int .i64))[i]?=some (.int .i64 (l.getD i 0)):=by
 rw[x9x,x8p h,x8n,x8p h];rfl
def x0w(n:Nat)(h:List (List Int))(r:AV):Prop:=∃es,r=XZ es/\EndsP n (rowE h) es
def Yg(n:Nat)(hn:n<=5000)(g:List (List Int)×List (List Int))(N:XB n g.1):SpecP prog 303 [HL g] (fun r=>x0w n g.1 r):=by
 refine sC Xr func303 ?_;conv=>whnf
 have R:((avI g.1).map AV.sl).length=n:=by simp[avI,N.1]
 repeat' ((first|(refine gX ?_;intros)|refine MkK.mk n (by rw[R]) (by show 1*n<=140737488355328;omega) (by unfold maxLen;omega) ?_|refine MkK.mk n (by rw[R]) (by show 8*n<=140737488355328;omega) (by unfold maxLen;omega) ?_)<;>conv=>whnf)
 refine lJ (fun x:Nat×List Int×List Bool×List Int=>⟨[(0,.p (HL g)),(3,.hd 2 0 x.2.1.length),(4,.hd 3 0 0),(5,.hd 0 0 n),(6,.hd 1 0 n),(26,.j n),(27,.j x.1)],[(0,.own 4 1 (x.2.2.1.map bv)),(1,.own 3 1 (x.2.2.2.map (.int .i64))),(2,.own 3 1 (x.2.1.map (.int .i64))),(3,.own 3 1 [])]⟩) (fun x=>x.1<=n/\EndI n g.1 x.2.1 [] x.2.2.1 x.2.2.2/\∀y:Int,0<=y/\y<x.1->y∈x.2.1) (fun x=>n-x.1) (0,[],List.replicate n false,List.replicate n 0) (lM [(2,.own 3 1 []),(3,.own 3 1 [])] (hsl:=.r (.cons (.nil x8l) (.cons (.nil (x8r _ x8l)) (.r (.r (.cons (.of_eq (by rw[R];rfl)) (.r .nil))))))) (hH:=.cons rfl (.of_eq (by rw[z2u];rfl)) (.cons rfl (.of_eq (by rw[z2u];rfl)) (.new x8l (.new (x8r _ x8l) .nil))))) ⟨x8i _,EndI.start n g.1,fun y L=>by omega⟩ ?_;rintro⟨r,out,seen,C⟩ ⟨h1,h,m⟩;simp only at h1 h m⊢;have hsl:=h.sl;have d:=h.al;rcases x8o r n with hr|hr;rotate_left 1
 .conv=>whnf
  repeat' (apply bD<;>intro _<;>first|omega|conv=>whnf)
  have F:∀x:Int,0<=x/\x<n->x∈out:=fun x B=>m x (by omega);exact⟨_,.hd rfl (by simp),out,rfl,h.dfs.fin (fun x y T=>NG N T.2) F⟩
 have D:=q4u (l:=seen) (i:=r) (by omega);have z:∃st U,EndI n g.1 out st U C/\(r:Int)∈out++st/\((seen.getD r false=true/\st=[]/\U=seen)\/(seen.getD r false=false/\st=[(r:Int)]/\U=seen.set r true)):=by
  cases q:seen.getD r false with
  |true=>exact⟨[],seen,h,(h.seen r (by omega)).1 (by simpa using q),.inl ⟨rfl,rfl,rfl⟩⟩
  |false=>exact⟨[(r:Int)],seen.set r true,h.push (stack:=[]) (b:=r) (by omega) (by simpa using q) trivial,by simp,.inr ⟨rfl,rfl,rfl⟩⟩
 obtain⟨st0,f,c,Y,h6⟩:=z;rcases h6 with⟨q,v,e⟩|⟨q,v,e⟩;all_goals
  rw[q]at D;conv=>whnf
  repeat' ((first|refine gX ?_|refine iO r ?_|refine lO D ?_|refine lO D ?_|refine sO .tt D ?_|refine Xg rfl (by simp) ?_|(apply bD<;>intro _<;>try omega))<;>conv=>whnf)
  refine lJ (fun x:List Int×List Int×List Bool×List Int=>⟨[(0,.p (HL g)),(3,.hd 2 0 x.1.length),(4,.hd 3 0 x.2.1.length),(5,.hd 0 0 n),(6,.hd 1 0 n),(26,.j n),(27,.j r)],[(0,.own 4 1 (x.2.2.1.map bv)),(1,.own 3 1 (x.2.2.2.map (.int .i64))),(2,.own 3 1 (x.1.map (.int .i64))),(3,.own 3 1 (x.2.1.map (.int .i64)))]⟩) (fun x=>EndI n g.1 x.1 x.2.1 x.2.2.1 x.2.2.2/\(r:Int)∈x.1++x.2.1/\∀y:Int,0<=y/\y<r->y∈x.1) (fun x=>muE g.1 x.2.2.2 n+(n-x.1.length)) (out,st0,f,C) (lE (hsl:=.r (.r (.cons (.of_eq (by first|(rw[v];done)|(rw[v];rfl))) (.r (.r (.r (.r .nil))))))) (hH:=.cons rfl (.of_eq (by rw[e];first|done|rfl|(rw[z0o];rfl))) (.cons rfl (.refl _) (.cons rfl (.refl _) (.cons rfl (.of_eq (by rw[v];rfl)) .nil))))) ⟨c,Y,m⟩ ?_;clear c Y v e D q hsl d h m;rintro⟨o,V,s,t⟩ ⟨h,m,c⟩;simp only at h m c⊢;have hsl:=h.sl;have d:=h.al;have hol:o.length<=n:=Pb (by have:=h.dfs.nd;rw[z0a]at this;exact this.1) fun x B=>h.dfs.rng x (x8e.2 (.inl B));rcases List.eq_nil_or_concat V with rfl|⟨st,a,rfl⟩
  .have hz:(([]:List Int).length)=0:=rfl;conv=>whnf
   repeat' ((first|(refine gX ?_;intros)|(apply bD<;>intro _<;>try omega))<;>conv=>whnf)
   exact nX (r+1,o,s,t) ⟨hr,h,fun y L=>by
    rcases Int.lt_or_le y r with M|M
    .exact c y ⟨L.1,M⟩
    .have:y=r:=by simp only at L;omega
     rw[this];simpa using m⟩
  .rw [List.concat_eq_append]at h m⊢;have ha:=h.dfs.rng a (by simp);have hstl:(st++[a]).length=st.length+1:=by simp
   obtain⟨hk0,Q⟩:=h.arng a ha;have A:=Lj (l:=t) (i:=a.toNat) (by omega);have O:((st++[a]).map (AV.int .i64))[st.length]?=some (.int .i64 a):=by simp
   have u:((avI g.1).map AV.sl)[a.toNat]?=some (.sl ((g.1.getD a.toNat []).map (.int .i64))):=by
    have:a.toNat<g.1.length:=by rw[N.1];omega
    rw[x8n,x8p this];simp[avI,this]
   obtain⟨k,I⟩ : ∃k:Nat,t.getD a.toNat 0=k:=⟨(t.getD a.toNat 0).toNat,by omega⟩;rw[I]at A Q;have hrl:((g.1.getD a.toNat []).map (AV.int .i64)).length=(g.1.getD a.toNat []).length:=x8b _;have hnd:=h.dfs.nd;rcases x8o k (g.1.getD a.toNat []).length with w|w
   .obtain ⟨b,G⟩ : ∃b,(g.1.getD a.toNat [])[k]?=some b:=⟨_,x8p w⟩;have P:(g.1.getD a.toNat [])[k]=b:=by rw[x8p w]at G;exact z0y G
    have hE:rowE g.1 a b:=⟨ha.1,z2z.2 ⟨k,G⟩⟩;have H:=NG N hE.2;have hmu:=q2u (by omega) d I w;have E:=q4u (l:=s) (i:=b.toNat) (by omega);have hstk:(st++[a]).length<=n:=Pb (z0a.1 hnd).2.1 fun x B=>h.dfs.rng x (x8e.2 (.inr B));have K:(t.set a.toNat ((k:Int)+1)).map (AV.int .i64)=(t.map (AV.int .i64)).set a.toNat (.int .i64 ((k:Int)+1)):=z0o;have hkm:=h.arng a ha;cases q:s.getD b.toNat false with
    | true=>
      rw[q]at E;conv=>whnf
      repeat' ((first|(refine gX ?_;intros)|refine dA ?_|refine iO st.length ?_|refine lO O ?_|refine iO a.toNat ?_|refine lO A ?_|refine iT u ?_|refine iO b.toNat ?_|refine lO E ?_|refine sO (.int .i64 (k+1)) A ?_|(apply bD<;>intro _<;>try omega))<;>conv=>whnf)
      exact⟨(o,st++[a],s,t.set a.toNat ((k:Int)+1)),⟨h.step ha I G ((h.seen b H).1 q),m,c⟩,by simp only;omega,lE (hH:=.cons rfl (.refl _) (.cons rfl (.of_eq (by rw[K])) (.cons rfl (.refl _) (.cons rfl (.refl _) .nil))))⟩
    | false=>
      rw[q]at E;conv=>whnf
      repeat' ((first|(refine gX ?_;intros)|refine dA ?_|refine iO st.length ?_|refine lO O ?_|refine iO a.toNat ?_|refine lO A ?_|refine iT u ?_|refine iO b.toNat ?_|refine lO E ?_|refine sO (.int .i64 (k+1)) A ?_|refine sO .tt E ?_|refine pI ?_|(apply bD<;>intro _<;>try omega))<;>conv=>whnf)
      have h8:=h.push H q (Ji st h.dfs.path hE);exact⟨(o,st++[a]++[b],s.set b.toNat true,t.set a.toNat ((k:Int)+1)),⟨h8.step ha I G (by simp),by rw[<-x9l];exact x8e.2 (.inl m),c⟩,by simp only;omega,lE (hsl:=.r (.r (.cons (.of_eq (by simp;rfl)) (.r (.r (.r (.r .nil))))))) (hH:=.cons rfl (.of_eq (by rw[z0o];rfl)) (.cons rfl (.of_eq (by rw[K])) (.cons rfl (.refl _) (.cons rfl (.of_eq (by rw[P];simp;rfl)) .nil))))⟩
   .have J:k=(g.1.getD a.toNat []).length:=by omega
    have hp:=h.pop (by rw[I,J]);have hol2:o.length+1<=n:=by
     have Z:=hp.dfs;have:=Pb (z0a.1 Z.nd).1 fun x B=>Z.rng x (x8e.2 (.inl B));simpa using this
    conv=>whnf
    repeat' ((first|(refine iM fun _=>?_)|refine dA ?_|refine x9p rfl ?_|refine aD ?_|refine bP ?_|refine wI ?_|refine iO st.length ?_|refine lO O ?_|refine iO a.toNat ?_|refine lO A ?_|refine iT u ?_|refine pI ?_|refine z4i 0 st.length rfl (by show((st++[a]).length:Int)-1=_;omega) (by omega) (by omega) ?_|(apply bD<;>intro _<;>try omega))<;>conv=>whnf)
    have h9:muE g.1 t n+(n-(o++[a]).length)<muE g.1 t n+(n-o.length):=by simp;omega
    exact⟨(o++[a],st,s,t),⟨hp,by simpa[or_assoc,or_comm,or_left_comm]using m,fun y L=>x8e.2 (.inl (c y L))⟩,h9,(Le.cut (.same (.same (.same (.cut (es':=st.map (.int .i64)) ⟨[.int .i64 a],by simp⟩ .nil))))).trans (lE (hsl:=.r (.cons (.of_eq (by simp;rfl)) (.cons (.of_eq (by simp;rfl)) (.r (.r (.r (.r .nil))))))) (hH:=.cons rfl (.refl _) (.cons rfl (.refl _) (.cons rfl (.of_eq (by simp;rfl)) (.cons rfl (.refl _) .nil)))))⟩
def q5q(pre:List Bool)(h:List (List Int)):List (List Int):=h.map fun r=>r.filter fun b=> !pre.getD b.toNat false
def La{pre:List Bool}{h:List (List Int)}{x y:Int}:Pn (q5q pre h) x y↔Pn h x y/\pre.getD y.toNat false=false:=by
 unfold Pn q5q;simp only[x8n,x9x];cases h[x.toNat]?with
 |none=>simp
 |some r=>simp
def q7l{n:Nat}{pre:List Bool}{i:List (List Int)}(h:XB n i):XB n (q5q pre i):=by
 refine⟨by simp[q5q,h.1],fun r l b k=>?_⟩;obtain⟨m,j,rfl⟩:=x8c.1 l;exact h.2 m j b (z0u.1 k).1
structure SimW(pre:List Bool)(st st':List Bool×List Int):Prop where
 todo:st.2=st'.2
 len:st.1.length=st'.1.length
 mrk:∀k,st.1.getD k false=(pre.getD k false||st'.1.getD k false)
theorem SimW.see{pre:List Bool}{st i:List Bool×List Int}(h:SimW pre st i)(j:b.toNat<st.1.length)(m:pre.getD b.toNat false=false):SimW pre (GN st b) (GN i b):=by
 have l:=h.mrk b.toNat;rw[m,Bool.false_or]at l;unfold GN;rw[l];cases i.1.getD b.toNat false with
 |true=>exact h
 | false=>
   refine⟨by simp only[x9k];rw[h.todo],by simpa using h.len,fun k=>?_⟩;simp only[x9k];rw[WG j,WG (by rw[<-h.len];exact j)];split
   .simp
   .exact h.mrk k
theorem SimW.skip{pre:List Bool}{st i:List Bool×List Int}(h:SimW pre st i)(j:pre.getD b.toNat false=true):GN st b=st:=by
 unfold GN;rw[h.mrk,j];rfl
def q3w(st:List Bool×List Int)(b:Int):(GN st b).1.length=st.1.length:=by
 unfold GN;cases st.1.getD b.toNat false<;>simp
theorem SimW.fold{n:Nat}{pre:List Bool}:∀(l:List Int){st st':List Bool×List Int},SimW pre st st'->st.1.length=n->(∀b∈l,0<=b/\b<n)->SimW pre (l.foldl GN st) ((l.filter fun b=> !pre.getD b.toNat false).foldl GN st')/\(l.foldl GN st).1.length=n
 |[],_,_,h,hn,_=>⟨h,hn⟩
 | b::r,st,st',h,hn,hl=>by
   have o:=hl b x8l;have j:∀c∈r,0<=c/\c<n:=fun c m=>hl c (x8r _ m);rw[z1c];cases i:pre.getD b.toNat false with
   | true=>
     rw[h.skip i,z1t (by rw[i];simp)];exact SimW.fold r h hn j
   | false=>
     rw[z1n (by rw[i];simp),z1c];exact SimW.fold r (h.see (by omega) i) (by rw[q3w];exact hn) j
theorem M6{n:Nat}{pre:List Bool}{j:List (List Int)}(m:XB n j):∀(k i:Nat){st st':List Bool×List Int},SimW pre st st'->st.1.length=n->SimW pre (ZH j k i st) (ZH (q5q pre j) k i st')
 |0,_,_,_,h,_=>h
 | k+1,i,st,st',h,hn=>by
   rw[ZH,ZH,<-h.todo];cases ha:st.2[i]?with
   |none=>exact h
   | some a=>
     simp only;have l:∀b∈j.getD a.toNat [],0<=b/\b<n:=fun b q=>NG m q;have s:(q5q pre j).getD a.toNat []=(j.getD a.toNat []).filter fun b=> !pre.getD b.toNat false:=by
      unfold q5q;simp only[x8n,x9x];cases j[a.toNat]?with
      |none=>simp
      |some r=>simp
     rw[s];obtain⟨o,p⟩:=SimW.fold (n:=n) _ h hn l;exact M6 m k (i+1) o p
def OB{n:Nat}{pre:List Bool}{i:List (List Int)}(v:XB n i)(u:pre.length=n){r:Int}(q:0<=r/\r<n)(A:pre.getD r.toNat false=false):
  (∀x,x∈(ZH i (n+1) 0 (pre.set r.toNat true,[r])).2↔Rch (fun a b=>Pn i a b/\pre.getD b.toNat false=false) r x)/\
  (∀x:Int,0<=x/\x<n->((ZH i (n+1) 0 (pre.set r.toNat true,[r])).1.getD x.toNat false=true↔pre.getD x.toNat false=true\/x∈(ZH i (n+1) 0 (pre.set r.toNat true,[r])).2)):=by
 have w:GN (List.replicate n false,[]) r=((List.replicate n false).set r.toNat true,[r]):=by
  unfold GN;have:(List.replicate n false).getD r.toNat false=false:=by
   rw[x8n,z0q];split<;>rfl
  simp only[this,x9k,z1g]
 obtain⟨t,z,_⟩:=(WkM.start n).see q;rw[w]at t z;have l:SimW pre (pre.set r.toNat true,[r]) ((List.replicate n false).set r.toNat true,[r]):=⟨rfl,by simp[u],fun k=>by
  rw[WG (by omega),WG (by simp;omega)];split
  .simp
  .have:(List.replicate n false).getD k false=false:=by
    rw[x8n,z0q];split<;>rfl
   rw[this,Bool.or_false]⟩
 have s:=M6 v (n+1) 0 l (by simpa using u);obtain⟨c,d,e,f⟩:=H4 (q7l (pre:=pre) v) (n+1) 0 t (x8i _) (by omega) (fun m a g=>by omega);refine⟨fun x=>?_,fun x j=>?_⟩
 .rw [s.todo];constructor
  .intro j;exact f (fun x=>Rch (fun a b=>Pn i a b/\pre.getD b.toNat false=false) r x) (fun x j=>by rw[x9q.1 j];exact .refl) (fun x b o p=>.tail o (La.1 p)) x j
  .intro j;exact j.closed (S:=fun x=>x∈(ZH (q5q pre i) (n+1) 0 ((List.replicate n false).set r.toNat true,[r])).2) (fun x y o p=>e x o y (La.2 p)) (d r (by simp))
 .rw [s.mrk,s.todo,c.mem,z3x];exact⟨fun h=>h.imp id fun h=>⟨j,h⟩,fun h=>h.imp id fun h=>h.2⟩
def P0{n:Nat}(h:0<=a/\a<n):WY n a=true:=by
 unfold WY;simpa using h
structure MinP(E:Int->Int->Prop)(x v:Int):Prop where
 scc:sccP E x v
 le:∀y,sccP E x y->v<=y
theorem MinP.uniq{E:Int->Int->Prop}{x v w:Int}(h:MinP E x v)(i:MinP E x w):v=w:=Int.le_antisymm (h.le w i.scc) (i.le v h.scc)
def Vc(n:Nat)(h:List (List Int)):List Int:=(List.range n).map fun(a:Nat)=>Nk ((BV 0 (WX h [(a:Int)])).filter fun b=>(BV 0 (WX h [b])).contains (a:Int))
def q2o{n:Nat}{i:List (List Int)}(m:XB n i){x y:Int}(o:0<=x):Rch (rowE i) x y↔Rch (Pn i) x y:=by
 refine⟨fun h=>h.mono fun _ _ h=>h.2,fun h=>?_⟩;exact(h.closed (S:=fun y:Int=>0<=y/\Rch (rowE i) x y) (fun a b ⟨k,l⟩ j=>⟨(NG m j).1,.tail l ⟨k,j⟩⟩) ⟨o,.refl⟩).2
def C8{n:Nat}{i:List (List Int)}(j:XB n i){x y:Int}(k:0<=x/\x<n)(h:Rch (rowE i) x y):0<=y/\y<n:=
 h.closed (S:=fun y:Int=>0<=y/\y<n) (fun _ _ _ h=>NG j h.2) k
def Tp{n:Nat}{i:List (List Int)}(j:XB n i){x:Int}(k:0<=x/\x<n)(y:Int):y∈BV 0 (WX i [x])↔Rch (rowE i) x y:=by
 rw[R6 j,q2o j k.1];constructor
 .rintro ⟨a,ha,_,h⟩;rw[x9q.1 ha]at h;exact h
 .intro h;exact⟨x,by simp,P0 k,h⟩
def NU(n:Nat)(h:List (List Int)):(Vc n h).length=n:=by simp[Vc]
def Va{n:Nat}{h:List (List Int)}(k:XB n h){x:Int}(o:0<=x/\x<n):MinP (rowE h) x ((Vc n h).getD x.toNat 0):=by
 have e:(Vc n h).getD x.toNat 0=Nk ((BV 0 (WX h [x])).filter fun b=>(BV 0 (WX h [b])).contains x):=by
  unfold Vc;rw[x8n,x9x,z1h (by omega)];have:((x.toNat:Nat):Int)=x:=by omega
  simp[this]
 have m:∀y,y∈(BV 0 (WX h [x])).filter (fun b=>(BV 0 (WX h [b])).contains x)↔sccP (rowE h) x y:=fun y=>by
  rw[z0u,Tp k o,List.contains_iff_mem];constructor
  .rintro ⟨i,j⟩;exact⟨i,(Tp k (C8 k o i) x).1 j⟩
  .rintro ⟨i,j⟩;exact⟨i,(Tp k (C8 k o i) x).2 j⟩
 rw[e];obtain⟨i,j⟩:=Lm (l:=(BV 0 (WX h [x])).filter fun b=>(BV 0 (WX h [b])).contains x) (z4p ((m x).2 (sccP.refl x)));exact⟨(m _).1 i,fun y p=>j y ((m y).2 p)⟩
structure PartI(n:Nat)(E:Int->Int->Prop)(es:List Int)(m:Nat)(part:List Int)(seen:List Bool):Prop where
 sl:seen.length=n
 pl:part.length=n
 seen:∀x:Int,0<=x/\x<n->(seen.getD x.toNat false=true↔SeenP E es m x)
 min:∀x:Int,0<=x/\x<n->SeenP E es m x->MinP E x (part.getD x.toNat 0)
theorem PartI.start{n:Nat}{E:Int->Int->Prop}{es:List Int}:PartI n E es es.length (List.replicate n 0) (List.replicate n false):=by
 have i:∀x,¬SeenP E es es.length x:=fun x ⟨j,y,o,l,_⟩=>by
  have:=(x8t.1 l).1;omega
 refine⟨by simp,by simp,fun x _=>?_,fun x _ m=>absurd m (i x)⟩;rw[x8n,z0q];have:=i x;split<;>simp[this]
def UL(l:List Int)(v:Int)(part:List Int):List Int:=l.foldl (fun p a=>p.set a.toNat v) part
theorem X3(v:Int):∀(l part:List Int),(UL l v part).length=part.length
 |[],_=>rfl
 | a::r,part=>by
   show(UL r v (part.set a.toNat v)).length=_;rw[X3 v r];simp
theorem Gm{n:Nat}(v:Int){x:Int}(s:0<=x/\x<n):∀(l:List Int){part:List Int},part.length=n->(∀a∈l,0<=a/\a<n)->(x∈l->(UL l v part).getD x.toNat 0=v)/\(x∉l->(UL l v part).getD x.toNat 0=part.getD x.toNat 0)
 |[],_,_,_=>⟨by simp,fun _=>rfl⟩
 | a::r,part,hl,ha=>by
   have o:=ha a x8l;have e:UL (a::r) v part=UL r v (part.set a.toNat v):=rfl;obtain⟨k,m⟩:=Gm v s r (part:=part.set a.toNat v) (by simpa using hl) fun b p=>ha b (x8r _ p);have q:(part.set a.toNat v).getD x.toNat 0=if a.toNat=x.toNat then v else part.getD x.toNat 0:=WG (by omega);rw[e];by_cases i:x∈r
   .exact ⟨fun _=>k i,fun h=>absurd (x8r _ i) h⟩
   .rw [m i,q];constructor
    .intro h;rcases x8s.1 h with rfl|h
     .rw [if_pos rfl]
     .exact absurd h i
    .intro h;have:x≠a:=fun j=>h (by rw[j];exact x8l);rw[if_neg (by omega)]
theorem PartI.part{n:Nat}{g:List (List Int)×List (List Int)}(P:XB n g.1)(t:XB n g.2)(J:∀x y,rowE g.2 x y↔rowE g.1 y x){es:List Int}(O:EndsP n (rowE g.1) es){m:Nat}{part:List Int}{seen:List Bool}(h:PartI n (rowE g.1) es (m+1) part seen){r:Int}(H:es[m]?=some r)(L:seen.getD r.toNat false=false):
  (∀x∈(ZH g.2 (n+1) 0 (seen.set r.toNat true,[r])).2,0<=x/\x<n)/\0<(ZH g.2 (n+1) 0 (seen.set r.toNat true,[r])).2.length/\wkInv n (seen.set r.toNat true,[r])/\
  PartI n (rowE g.1) es m (UL (ZH g.2 (n+1) 0 (seen.set r.toNat true,[r])).2 (Nk (ZH g.2 (n+1) 0 (seen.set r.toNat true,[r])).2) part) (ZH g.2 (n+1) 0 (seen.set r.toNat true,[r])).1:=by
 have q:=(O.mem r).1 (x9y H);have hsl:=h.sl;have K:¬SeenP (rowE g.1) es (m+1) r:=fun B=>by rw[(h.seen r q).2 B]at L;cases L
 obtain⟨Q,M⟩:=OB t h.sl q L;have f:∀x y,rowE g.1 x y->(0<=x/\x<n)/\0<=y/\y<n:=fun x y F=>⟨NG t ((J y x).2 F).2,NG P F.2⟩;have v:=Ej f O H K;have A:∀x,Rch (fun a b=>Pn g.2 a b/\seen.getD b.toNat false=false) r x↔Rch (fun a b=>rowE g.1 b a/\¬SeenP (rowE g.1) es (m+1) b) r x:=fun x=>by
  constructor
  .intro j;exact(j.closed (S:=fun x:Int=>(0<=x/\x<n)/\Rch (fun a b=>rowE g.1 b a/\¬SeenP (rowE g.1) es (m+1) b) r x) (fun a b ⟨z,e⟩ ⟨c,N⟩=>by
    have G:=NG t c;refine⟨G,.tail e ⟨(J a b).1 ⟨z.1,c⟩,fun B=>?_⟩⟩;rw[(h.seen b G).2 B]at N;cases N) ⟨q,.refl⟩).2
  .intro j;refine j.mono fun a b ⟨z,e⟩=>⟨((J a b).2 z).2,?_⟩;have G:=(f b a z).1;cases U:seen.getD b.toNat false with
   |true=>exact absurd ((h.seen b G).1 U) e
   |false=>rfl
 have i:∀x,x∈(ZH g.2 (n+1) 0 (seen.set r.toNat true,[r])).2↔sccP (rowE g.1) r x:=fun x=>by rw[Q,A,v]
 have o:∀x∈(ZH g.2 (n+1) 0 (seen.set r.toNat true,[r])).2,0<=x/\x<n:=fun x j=>C8 P q ((i x).1 j).1;have l:0<(ZH g.2 (n+1) 0 (seen.set r.toNat true,[r])).2.length:=z4p ((i r).2 (sccP.refl r));have D:wkInv n (seen.set r.toNat true,[r]):=by
  refine⟨by simpa using h.sl,?_,fun x j=>by rw[x9q.1 j];exact q⟩;have I:r.toNat<(seen.set r.toNat true).length:=by simp;omega
  show 1<=_;exact List.count_pos_iff.2 (z0v.2 ⟨r.toNat,I,by simp⟩)
 have E:(ZH g.2 (n+1) 0 (seen.set r.toNat true,[r])).1.length=n:=(NP t _ _ D).1;generalize ZH g.2 (n+1) 0 (seen.set r.toNat true,[r])=w at i o l E M⊢;obtain⟨R,T⟩:=Lm l;refine⟨o,l,D,E,by rw[X3];exact h.pl,fun x j=>?_,fun x j B=>?_⟩
 .rw [M x j,i,h.seen x j,Rq H]
 .obtain ⟨z,e⟩:=Gm (Nk w.2) j w.2 h.pl o;by_cases u:x∈w.2
  .rw [z u];have C:=(i x).1 u;exact⟨C.symm.trans ((i _).1 R),fun y V=>T y ((i y).2 (C.trans V))⟩
  .rw [e u];refine h.min x j ?_;rcases(Rq H x).1 B with c|c
   .exact c
   .exact absurd ((i x).2 c) u
theorem PartI.fin{n:Nat}{j:List (List Int)}(w:XB n j){es:List Int}(v:EndsP n (rowE j) es){part:List Int}{seen:List Bool}(h:PartI n (rowE j) es 0 part seen):part=Vc n j:=by
 refine z3m fun i=>?_;rcases x8o i n with l|l
 .have q:0<=(i:Int)/\(i:Int)<n:=by omega
  have r:=h.min i q (q3v v q);have t:=Va w q;have u:=r.uniq t;have m:i<part.length:=by rw[h.pl];exact l
  have o:i<(Vc n j).length:=by rw[NU];exact l
  simpa[x8n,m,o]using u
 .rw [z0x (by rw[h.pl];exact l),z0x (by rw[NU];exact l)]
def Vk(n:Nat)(O:n<=5000)(g:List (List Int)×List (List Int))(d:XB n g.1)(o:XB n g.2)(B:∀x y,rowE g.2 x y↔rowE g.1 y x):aP 267 [HL g] (XZ (Vc n g.1)):=by
 refine sC LA func267 ?_;conv=>whnf
 have N:((avI g.1).map AV.sl).length=n:=by simp[avI,d.1]
 repeat' ((first|(refine gX ?_;intros)|refine MkK.mk n (by rw[N]) (by show 1*n<=140737488355328;omega) (by unfold maxLen;omega) ?_|refine MkK.mk n (by rw[N]) (by show 8*n<=140737488355328;omega) (by unfold maxLen;omega) ?_|(refine CallK.pure (Yg n O g d) (.cons (Sub.refl _) .nil) ?_;rintro _ ⟨es,rfl,v⟩))<;>conv=>whnf)
 have M:es.length<=n:=by
  have f:=v.nd;exact Pb f fun x s=>(v.mem x).1 s
 have C:(es.map (AV.int .i64)).length=es.length:=x8b _;refine lJ (fun x:Nat×List Int×List Bool=>⟨[(0,.p (HL g)),(3,.hd 0 0 n),(4,.hd 1 0 n),(5,.p (XZ es)),(6,.j ((x.1:Int)-1))],[(0,.own 3 1 (x.2.1.map (.int .i64))),(1,.own 4 1 (x.2.2.map bv))]⟩) (fun x=>x.1<=es.length/\PartI n (rowE g.1) es x.1 x.2.1 x.2.2) (fun x=>x.1) (es.length,List.replicate n 0,List.replicate n false) (lE (hsl:=.r (.cons (.of_eq rfl) (.cons (.of_eq rfl) (.r (.cons (.of_eq (by rw[C];rfl)) .nil))))) (hH:=.cons rfl (.of_eq (by rw[z2u];rfl)) (.cons rfl (.of_eq (by rw[z2u];rfl)) .nil))) ⟨x9h _,PartI.start⟩ ?_;rintro⟨m,part,seen⟩ ⟨f,k⟩;simp only at f k⊢;have hsl:=k.sl;have D:=k.pl;cases m with
 | zero=>
   conv=>whnf
   repeat' (apply bD<;>intro _<;>first|omega|conv=>whnf)
   exact⟨_,.hd rfl (by simp[D]),by rw[k.fin d v];rfl⟩
 | succ m=>
   obtain⟨r,t⟩ : ∃r,es[m]?=some r:=⟨_,x8p (by omega)⟩;have E:=(v.mem r).1 (x9y t);have Q:es[m]=r:=by rw[x8p (by omega)]at t;exact z0y t
   have z:(es.map (AV.int .i64))[m]?=some (.int .i64 r):=by rw[x9x,t];rfl
   have u:=q4u (l:=seen) (i:=r.toNat) (by omega);cases e:seen.getD r.toNat false with
   | true=>
     rw[e]at u;have c:=O8 t ((k.seen r E).1 e);conv=>whnf
     repeat' ((first|refine x9p rfl ?_|refine wI ?_|refine iT z ?_|refine iO r.toNat ?_|refine lO u ?_|(apply bD<;>intro _<;>try omega))<;>conv=>whnf)
     exact⟨(m,part,seen),⟨by simp only;omega,k.sl,k.pl,fun x s=>by rw[k.seen x s,c],fun x s R=>k.min x s ((c x).1 R)⟩,Nat.lt_succ_self m,Le.of_eq (by rw[show((m+1:Nat):Int)-1-1=(m:Int)-1 by omega])⟩
   | false=>
     rw[e]at u;obtain⟨J,K,L,A⟩:=k.part d o B v t e;conv=>whnf
     repeat' ((first|refine dA ?_|refine x9p rfl ?_|refine aD ?_|refine iT z ?_|refine iO r.toNat ?_|refine lO u ?_|refine sO .tt u ?_|refine z4w (fun x s=>by rcases x9q.1 s with rfl;rfl) rfl ?_|(apply bD<;>intro _<;>try omega))<;>conv=>whnf)
     have F:(ZH g.2 (n+1) 0 (seen.set r.toNat true,[r])).1.length=n:=A.sl;rw[show(seen.map bv).set r.toNat AV.tt=(seen.set r.toNat true).map bv by rw[z0o];rfl];refine cJ [(1000,1),(2000,2)] 0 (Ft n O g.2 o (seen.set r.toNat true,[r]) L) ?_;rintro l' H' ⟨rfl,rfl⟩;conv=>whnf
     have G:(ZH g.2 (n+1) 0 (seen.set r.toNat true,[r])).2.length<=n:=NR (NP o _ _ L);generalize ZH g.2 (n+1) 0 (seen.set r.toNat true,[r])=w at J K A F G⊢;repeat' ((first|(refine iM fun _=>?_)|(refine QH (X4 w.2 K) (.cons (.hd rfl (by simp)) .nil) (by rintro _ rfl;rfl) ?_;rintro _ rfl))<;>conv=>whnf)
     refine lI (fun x:Nat=>⟨[(0,.p (HL g)),(3,.hd 0 0 n),(4,.hd 1 0 n),(5,.p (XZ es)),(6,.j (((m+1:Nat):Int)-1)),(8,.j (Nk w.2)),(60,.hd 2 0 w.2.length),(61,.j w.2.length),(62,.j x)],[(1,.own 4 1 (w.1.map bv)),(2,.own 3 1 (w.2.map (.int .i64))),(0,.own 3 1 ((UL (w.2.take x) (Nk w.2) part).map (.int .i64)))]⟩) (fun x=>x<=w.2.length) (fun x=>w.2.length-x) 0 (x8i _) ?_;intro q P;rcases x8o q w.2.length with h|h
     .have T:=J _ (x9w h);have H:=Lj (l:=UL (w.2.take q) (Nk w.2) part) (i:=w.2[q].toNat) (by rw[X3];omega);have I:UL (w.2.take (q+1)) (Nk w.2) part=(UL (w.2.take q) (Nk w.2) part).set w.2[q].toNat (Nk w.2):=by
       unfold UL;rw[x9v h,List.foldl_append];rfl
      generalize UL (w.2.take q) (Nk w.2) part=pt at H I⊢;conv=>whnf
      repeat' ((first|refine gX ?_|refine iO q ?_|refine z4b q 0 (.int .i64 w.2[q]) (by omega) (by simp[h]) ?_|refine z2b w.2[q].toNat (by omega) (by omega) ?_|refine z3h w.2[q].toNat 0 (.int .i64 (pt.getD w.2[q].toNat 0)) (.int .i64 (Nk w.2)) (by omega) H (x9h 1) rfl ?_|(apply bD<;>intro _<;>try omega))<;>conv=>whnf)
      exact⟨q+1,h,by omega,Le.of_eq (by rw[I,z0o];rfl)⟩
     .rw [x9u h];conv=>whnf
      repeat' ((first|refine wI ?_|(apply bD<;>intro _<;>try omega))<;>conv=>whnf)
      exact⟨(m,UL w.2 (Nk w.2) part,w.1),⟨by simp only;omega,A⟩,Nat.lt_succ_self m,lE (hsl:=.r (.r (.r (.r (.cons (.of_eq (by rw[show(m:Int)=((m+1:Nat):Int)-1 by omega];rfl)) .nil)))))⟩
theorem OpK.frz{P:Program}{T:Tab}{N:Nat}{o:Oper}{K:St->Prop}{s:St}(hT:TabOK P T)(q:List (List Nat))(h:x2s q s fun s'=>opW P T N s' o K):OpK P N s o K:=⟨fun σ β a w v Q=>by
 obtain⟨z,r,j⟩:=Kq (N:=N) h;obtain⟨σ1,β1,m,i⟩:=j σ β a w v;exact Oper.wp_mono (fun y w' ⟨σ',β',x,t,l,u⟩=>⟨σ',β',x,t,l,i.trans u⟩) (NW hT r m Q)⟩
def C7{N:List (List Int)}{a:Nat}(ha:a<N.length){y:Int}{k:Nat}:y∈(D9 N a b).getD k []↔y∈N.getD k []\/(a=k/\y=b):=by
 unfold D9;rw[WG ha];split
 .rename_i h;rw[Sa,h];simp
 .rename_i h;simp[h]
def E9{n:Nat}{g:List (List Int)×List (List Int)}(h:g.2.length=n)(e:Int×Int):(Ny n g e).2.length=n:=by
 rw[He];cases(WY n e.1&&WY n e.2 && !(g.1.getD e.1.toNat []).contains e.2)with
 |true=>rw[x9z];unfold D9;rw[z0h];exact h
 |false=>exact h
structure MirG(n:Nat)(g:List (List Int)×List (List Int)):Prop where
 l1:g.1.length=n
 l2:g.2.length=n
 m:∀x y:Int,0<=x/\x<n->0<=y/\y<n->(y∈g.1.getD x.toNat []↔x∈g.2.getD y.toNat [])
theorem MirG.add{n:Nat}{g:List (List Int)×List (List Int)}(h:MirG n g)(e:Int×Int):MirG n (Ny n g e):=by
 refine⟨S5 h.l1 e,E9 h.l2 e,fun x y l o=>?_⟩;rw[Jm,He];cases j:(WY n e.1&&WY n e.2 && !(g.1.getD e.1.toNat []).contains e.2)with
 | true=>
   simp only[x9g]at j;have r:=ZY j.1.1;have t:=ZY j.1.2;rw[x9z,x9z,C7 (by rw[h.l1];omega),C7 (by rw[h.l2];omega),h.m x y l o];constructor
   .rintro (i|⟨i,q⟩)
    .exact .inl i
    .exact .inr ⟨by omega,by omega⟩
   .rintro (i|⟨i,q⟩)
    .exact .inl i
    .exact .inr ⟨by omega,by omega⟩
 |false=>exact h.m x y l o
theorem MirG.fold{n:Nat}:∀(l:List (Int×Int)){g:List (List Int)×List (List Int)},MirG n g->MirG n (l.foldl (Ny n) g)
 |[],_,h=>h
 |e::r,_,h=>MirG.fold r (h.add e)
def Lw(n:Nat)(l:List (Int×Int)):MirG n (QI n l):=by
 refine MirG.fold l ⟨by simp,by simp,fun x y _ _=>?_⟩;have:∀k,(List.replicate n ([]:List Int)).getD k []=[]:=fun k=>by
  rw[x8n,z0q];split<;>rfl
 simp only[this];simp
def TZ{n:Nat}{i:List (List Int)}(l:i.length=n){x y:Int}(h:rowE i x y):0<=x/\x<n:=by
 refine⟨h.1,?_⟩;have j:=h.2;unfold Pn at j;rcases x8o x.toNat i.length with k|k
 .omega
 .rw [x8n,z0x k]at j;simp at j
def A3(n:Nat)(l:List (Int×Int))(x y:Int):rowE (QI n l).2 x y↔rowE (QI n l).1 y x:=by
 obtain⟨o,p⟩:=HS n l;have j:=Lw n l;constructor
 .intro h;have k:=TZ j.l2 h;have i:=NG p h.2;exact⟨i.1,(j.m y x i k).2 h.2⟩
 .intro h;have k:=TZ j.l1 h;have i:=NG o h.2;exact⟨i.1,(j.m y x k i).1 h.2⟩
def A4{n:Nat}{l:List (Int×Int)}{x y:Int}:rowE (QI n l).1 x y↔(x,y)∈l/\WY n x=true/\WY n y=true:=by
 constructor
 .intro h;have i:=TZ (Lw n l).l1 h;have:=(MQ i).1 h.2;exact⟨this.1,P0 i,this.2⟩
 .rintro ⟨j,k,m⟩;have i:=ZY k;exact⟨i.1,(MQ i).2 ⟨j,m⟩⟩
def Vt(part:List Int)(o:List Bool)(t:Int×Int):List Bool:=if part.getD t.1.toNat 0=part.getD t.2.toNat 0 then o else o.set (part.getD t.1.toNat 0).toNat true
def Hp(n:Nat)(part:List Int):List Bool:=((List.replicate n false).set (part.getD 0 0).toNat true).set (part.getD (n-1) 0).toNat true
def Pu(n:Nat)(part:List Int)(h:List (Int×Int)):List Bool:=h.foldl (Vt part) (Hp n part)
def NB(h:Int->Int)(part:List Int)(i q:Nat):List Int:=((List.range q).filter fun j=>part.getD j 0==(i:Int)).map fun(j:Nat)=>h j
def Ge(part:List Int)(op:List Bool)(i:Nat):Bool:=part.getD i 0==(i:Int) && !op.getD i false
def U6(h:Int->Int)(part:List Int)(op:List Bool)(q:Nat):List (List Int):=((List.range q).filter (Ge part op)).map fun i=>NB h part i part.length
def prsW(w:Way)(f:Pr):List (Int×Int):=w.real.map (ixP w.p w.j f w.n)
def VA(w:Way)(f:Pr):List Int:=Vc w.n.toNat (QI w.n.toNat (prsW w f)).1
def trapsW(w:Way)(f:Pr):List (List Int):=U6 (ZN w.p w.j w.n) (VA w f) (Pu w.n.toNat (VA w f) (prsW w f)) (VA w f).length
def R1(part:List Int)(o:List Bool)(t:Int×Int):(Vt part o t).length=o.length:=by
 unfold Vt;split<;>simp
def SA{n:Nat}{h:List (List Int)}(i:XB n h){k:Nat}(l:k<n):0<=(Vc n h).getD k 0/\(Vc n h).getD k 0<n:=by
 have j:0<=(k:Int)/\(k:Int)<n:=by omega
 have:=Va i j;exact C8 i j this.scc.1
def AF(j:Int->Int)(part:List Int)(i q:Nat):NB j part i (q+1)=if part.getD q 0=(i:Int)then NB j part i q++[j q]else NB j part i q:=by
 unfold NB;rw[List.range_succ,z2x,x8a];by_cases h:part.getD q 0=(i:Int)
 .rw [if_pos h,z1n (by rw[h];simp)];rfl
 .rw [if_neg h,z1t (by simpa using h)];simp
def AH(i:Int->Int)(part:List Int)(op:List Bool)(q:Nat):U6 i part op (q+1)=if Ge part op q=true then U6 i part op q++[NB i part q part.length]else U6 i part op q:=by
 unfold U6;rw[List.range_succ,z2x,x8a];by_cases h:Ge part op q=true
 .rw [if_pos h,z1n h];rfl
 .rw [if_neg h,z1t h];simp
def Rg(h:Int->Int)(part:List Int)(i q:Nat):(NB h part i q).length<=q:=by
 unfold NB;rw[x8b];exact z1q (z2p _ _) (by simp)
def Rk(h:Int->Int)(part:List Int)(op:List Bool)(q:Nat):(U6 h part op q).length<=q:=by
 unfold U6;rw[x8b];exact z1q (z2p _ _) (by simp)
theorem R0(part:List Int):∀(l:List (Int×Int))(o:List Bool),(l.foldl (Vt part) o).length=o.length
 |[],_=>rfl
 |t::r,o=>by rw[z1c,R0 part r,R1]
def IF(n:Nat)(part:List Int)(l:List (Int×Int)):(l.foldl (Vt part) (Hp n part)).length=n:=by
 rw[R0];simp[Hp]
def Nx(w:Way)(f:Pr)(n:Nat)(L:w.n=n)(P:w.p.A[w.j]?=some f)(O:cntP w.p.A<=1000)(hn:n<=5000)(hn2:2<=n)(v:w.real.length<=1000000)(hr:∀t∈prsW w f,(0<=t.1/\t.1<n)/\0<=t.2/\t.2<n):aP 208 [.ip w.cells] (H6 (trapsW w f)):=by
 refine sC Jb func208 ?_;conv=>whnf
 have d:=HS n (prsW w f);have s:VA w f=Vc n (QI n (prsW w f)).1:=by unfold VA;rw[L];rfl
 have J:trapsW w f=U6 (ZN w.p w.j w.n) (VA w f) (Pu n (VA w f) (prsW w f)) n:=by unfold trapsW;rw[s,NU,L];rfl
 have u:∀k,k<n->0<=(VA w f).getD k 0/\(VA w f).getD k 0<n:=fun k hk=>by rw[s];exact SA d.1 hk
 have g:(VA w f).length=n:=by rw[s,NU]
 have c:=Vk n hn (QI n (prsW w f)) d.1 d.2 (A3 n (prsW w f));rw[<-s]at c;rw[J];clear J s d;generalize VA w f=part at u g c⊢;have ha0:=u 0 (by omega);have ha1:=u (n-1) (by omega);have G:=Lj (l:=part) (i:=0) (by omega);have H:=Lj (l:=part) (i:=n-1) (by omega);have e0:(List.replicate n AV.ff)[(part.getD 0 0).toNat]?=some .ff:=by rw[z0q,if_pos (by omega)]
 have e1:((List.replicate n AV.ff).set (part.getD 0 0).toNat .tt)[(part.getD (n-1) 0).toNat]?=some (bv (((List.replicate n false).set (part.getD 0 0).toNat true).getD (part.getD (n-1) 0).toNat false)):=by
  have:(List.replicate n AV.ff).set (part.getD 0 0).toNat .tt=((List.replicate n false).set (part.getD 0 0).toNat true).map bv:=by
   rw[z0o,z2u];rfl
  rw[this];exact q4u (by rw[z0h,z0b];omega)
 have hplm:(part.map (AV.int .i64)).length=n:=by rw[x8b,g]
 repeat' ((first|(refine iM fun _=>?_)|refine dA ?_|refine x9p rfl ?_|refine aR ?_|refine wI ?_|refine cP (Nz w f n L P O hn w.real v) ?_|refine cP c ?_|refine MkK.mk n L (by show 1*n<=140737488355328;omega) (by unfold maxLen;omega) ?_|refine iT G ?_|refine iT H ?_|refine z2b (part.getD 0 0).toNat (by omega) (by omega) ?_|refine z2b (part.getD (n-1) 0).toNat (by omega) (by omega) ?_|refine z3h (part.getD 0 0).toNat 0 .ff .tt (show(0+(part.getD 0 0).toNat)*1=(part.getD 0 0).toNat*1+0 by omega) e0 (x9h 1) rfl ?_|refine cP (DA w f P O (by omega) w.real v) ?_ (ha:=.cons (Sub.refl _) (.cons (Sub.refl _) .nil))|(refine z3h (part.getD (n-1) 0).toNat 0 _ .tt (show(0+(part.getD (n-1) 0).toNat)*1=(part.getD (n-1) 0).toNat*1+0 by omega) e1 (x9h 1) (by cases((List.replicate n false).set (part.getD 0 0).toNat true).getD (part.getD (n-1) 0).toNat false<;>rfl) ?_))<;>conv=>whnf)
 have hprl:(prsW w f).length<=1000000:=by unfold prsW;rw[x8b];exact v
 have hpl2:(avP (prsW w f)).length=(prsW w f).length:=by simp[avP]
 refine lJ (fun x:Nat×List Bool=>⟨[(0,.p (.ip w.cells)),(3,.p (XZ part)),(4,.hd 0 0 n),(43,.p (.sl (avP (prsW w f)))),(44,.p (.int .i64 (avP (prsW w f)).length)),(45,.j x.1)],[(0,.own 4 1 (x.2.map bv))]⟩) (fun x=>x.1<=(prsW w f).length/\x.2=((prsW w f).take x.1).foldl (Vt part) (Hp n part)) (fun x=>(prsW w f).length-x.1) (0,Hp n part) (lE (hH:=.cons rfl (.of_eq (by unfold Hp;rw[z0o,z0o,z2u];rfl)) .nil)) ⟨x8i _,rfl⟩ ?_;rintro⟨m,o⟩ ⟨h1,C⟩;simp only at h1 C⊢;have hol:o.length=n:=by rw[C];exact IF n part _
 rcases x8o m (prsW w f).length with E|E
 .obtain ⟨⟨h3,h4⟩,h5,h6⟩:=hr _ (x9w E);have h7:=u (prsW w f)[m].1.toNat (by omega);have h8:=u (prsW w f)[m].2.toNat (by omega);have e2:=Lj (l:=part) (i:=(prsW w f)[m].1.toNat) (by omega);have B:=Lj (l:=part) (i:=(prsW w f)[m].2.toNat) (by omega);have e4:=q4u (l:=o) (i:=(part.getD (prsW w f)[m].1.toNat 0).toNat) (by omega);have Q:(avP (prsW w f))[m]?=some (.agg [.int .i64 (prsW w f)[m].1,.int .i64 (prsW w f)[m].2]):=by simp[avP,E]
  have e5:((prsW w f).take (m+1)).foldl (Vt part) (Hp n part)=Vt part o (prsW w f)[m]:=by rw[x9v E,List.foldl_append,<-C];rfl
  conv=>whnf
  repeat' ((first|refine dA ?_|refine x9p rfl ?_|refine wI ?_|refine iT Q ?_|refine z2b 0 rfl (by decide) ?_|refine z2b 1 rfl (by decide) ?_|refine iT e2 ?_|refine iT B ?_|refine z2b (part.getD (prsW w f)[m].1.toNat 0).toNat (by omega) (by omega) ?_|refine z3h (part.getD (prsW w f)[m].1.toNat 0).toNat 0 _ .tt (by omega) e4 (x9h 1) (by cases o.getD (part.getD (prsW w f)[m].1.toNat 0).toNat false<;>rfl) ?_|((first|apply bD|apply bE)<;>intro _<;>try omega))<;>conv=>whnf)
  all_goals first
   | (have e:part.getD (prsW w f)[m].1.toNat 0=part.getD (prsW w f)[m].2.toNat 0:=by assumption
      exact nX (m+1,o) ⟨by simp only;omega,by simp only;rw[e5];unfold Vt;rw[if_pos e]⟩)
   | (have e:¬part.getD (prsW w f)[m].1.toNat 0=part.getD (prsW w f)[m].2.toNat 0:=by assumption
      exact⟨(m+1,o.set (part.getD (prsW w f)[m].1.toNat 0).toNat true),⟨by simp only;omega,by simp only;rw[e5];unfold Vt;rw[if_neg e]⟩,by simp only;omega,Le.of_eq (by simp only[z0o];rfl)⟩)
 .rw [x9u E]at C;have F:Pu n part (prsW w f)=o:=C.symm;rw[F];clear F C e0 e1 G H c;conv=>whnf
  repeat' ((first|(refine iM fun _=>?_)|(apply bD<;>intro _<;>try omega))<;>conv=>whnf)
  refine lJ (fun q:Nat=>⟨[(0,.p (.ip w.cells)),(3,.p (XZ part)),(4,.hd 0 0 n),(7,.hd 1 0 (U6 (ZN w.p w.j w.n) part o q).length),(69,.p (.int .i64 (part.map (AV.int .i64)).length)),(70,.j q)],[(0,.own 4 1 (o.map bv)),(1,.own 54 1 ((avI (U6 (ZN w.p w.j w.n) part o q)).map AV.sl))]⟩) (fun q=>q<=n) (fun q=>n-q) 0 (lM [(1,.own 54 1 [])]) (x8i _) ?_;intro q hqn;have M:=Rk (ZN w.p w.j w.n) part o q;rcases x8o q n with e|e
  .have e2:=Lj (l:=part) (i:=q) (by omega);have B:=q4u (l:=o) (i:=q) (by omega);have r:=AH (ZN w.p w.j w.n) part o q;generalize U6 (ZN w.p w.j w.n) part o q=acc at M r⊢;have hpe:part[q]=part.getD q 0:=by rw[x8n,x8p];rfl
   cases K:o.getD q false with
   | true=>
     rw[K]at B;have I:¬Ge part o q=true:=by unfold Ge;rw[K];simp
     rw[if_neg I]at r;conv=>whnf
     repeat' ((first|(refine gX ?_;intros)|refine iO q ?_|refine lO B ?_|((first|apply bD|apply bE)<;>intro _<;>try omega))<;>conv=>whnf)
     all_goals exact⟨q+1,e,by omega,Le.of_eq (by rw[r];rfl)⟩
   | false=>
     rw[K]at B;conv=>whnf
     repeat' ((first|(refine gX ?_;intros)|refine iO q ?_|refine lO B ?_|((first|apply bD|apply bE)<;>intro _<;>try omega))<;>conv=>whnf)
     all_goals try
      have R:¬part.getD q 0=(q:Int):=by omega
      have I:¬Ge part o q=true:=fun h=>by
       unfold Ge at h;rw[x9g,z2d]at h;exact R h.1
      rw[if_neg I]at r;exact⟨q+1,e,by omega,Le.of_eq (by rw[r];rfl)⟩
     have T:part.getD q 0=(q:Int):=by omega
     have I:Ge part o q=true:=by unfold Ge;rw[K,T];simp
     rw[if_pos I,g]at r;refine lJ (fun z:Nat=>⟨[(0,.p (.ip w.cells)),(3,.p (XZ part)),(4,.hd 0 0 n),(7,.hd 1 0 acc.length),(8,.j q),(9,.hd 2 0 (NB (ZN w.p w.j w.n) part q z).length),(69,.p (.int .i64 (part.map (AV.int .i64)).length)),(70,.j q),(86,.p (.int .i64 (part.map (AV.int .i64)).length)),(87,.j z)],[(0,.own 4 1 (o.map bv)),(1,.own 54 1 ((avI acc).map AV.sl)),(2,.own 3 1 ((NB (ZN w.p w.j w.n) part q z).map (.int .i64)))]⟩) (fun z=>z<=n) (fun z=>n-z) 0 (lM [(2,.own 3 1 [])]) (x8i _) ?_;intro z hzn;have N:=Rg (ZN w.p w.j w.n) part q z;rcases x8o z n with Y|Y
     .have e4:=Lj (l:=part) (i:=z) (by omega);have y:=AF (ZN w.p w.j w.n) part q z;generalize NB (ZN w.p w.j w.n) part q z=l at N y⊢;conv=>whnf
      repeat' ((first|(refine gX ?_;intros)|refine cP (Ww w f P O (by omega) z (by omega)) ?_ (ha:=.cons (Sub.refl _) (.cons (Sub.refl _) .nil))|refine pI ?_|(apply bD<;>intro _<;>try omega))<;>conv=>whnf)
      have U:part[z]=part.getD z 0:=by rw[x8n,x8p];rfl
      .rw [if_pos (by omega)]at y;exact⟨z+1,Y,by omega,Le.of_eq (by rw[y,x8m,x8a];rfl)⟩
      .have U:part[z]=part.getD z 0:=by rw[x8n,x8p];rfl
       rw[if_neg (by omega)]at y;exact⟨z+1,Y,by omega,Le.of_eq (by rw[y];rfl)⟩
     .have Z:z=n:=by omega
      subst Z;conv=>whnf
      repeat' (apply bD<;>intro _<;>first|omega|conv=>whnf)
      have D:(NB (ZN w.p w.j w.n) part q z).length=((NB (ZN w.p w.j w.n) part q z).map (AV.int .i64)).length:=by simp
      refine OpK.frz ZP [[9,104]] ?_;conv=>whnf
      refine LenK.mk D ?_;conv=>whnf
      refine LenK.mk D ?_;conv=>whnf
      repeat' ((first|refine gX ?_|refine pA 1 24 (by simp[avI]) ?_)<;>conv=>whnf)
      exact⟨q+1,e,by omega,Le.of_eq (by rw[r];simp only[avI,x8m,x8a];rfl)⟩
  .have V:q=n:=by omega
   subst V;conv=>whnf
   repeat' (apply bD<;>intro _<;>first|omega|conv=>whnf)
   exact⟨_,.hd rfl (by simp[avI]),rfl⟩
def vOf(p:Pg)(id:Int):List Step:=match OA p id with
 |some s=>if s.kind=10 then [⟨id,-1,3⟩]else []
 |none=>[]
def UO(w:Way)(f:Pr):List Step:=(trapsW w f).flatMap fun l=>l.flatMap (vOf w.p)
def q8a(p:Pg)(id:Int):(vOf p id).length<=1:=by
 unfold vOf;split
 .split<;>simp
 .simp
theorem VL{α β:Type}{g:α->List β}{c:Nat}:∀(l:List α),(∀x∈l,(g x).length<=c)->(l.flatMap g).length<=l.length*c
 |[],_=>by simp
 | a::r,h=>by
   have j:=h a x8l;have k:=VL r fun x i=>h x (x8r _ i);rw[z0e,x8m,x9f,z1l];omega
def TC(w:Way)(f:Pr)(n:Nat)(V:w.n=n)(N:w.p.A[w.j]?=some f)(M:cntP w.p.A<=1000)(Q:n<=5000)(C:2<=n)(z:w.real.length<=1000000)(R:∀t∈prsW w f,(0<=t.1/\t.1<n)/\0<=t.2/\t.2<n)(D:(trapsW w f).length<=5000)(d:∀l∈trapsW w f,l.length<=5000/\∀id∈l,1<=id/\id<=(sheetOf w.p).l.length):
  aH 158 [.p (.ip w.cells)] [] (.hd 0 0 (UO w f).length) [(0,.own 217 3 (avS (UO w f)))]:=by
 refine sK Wo func158 ?_;conv=>whnf
 repeat' ((first|(refine iM fun _=>?_)|refine cP (Nx w f n V N M Q C z R) ?_)<;>conv=>whnf)
 unfold UO;generalize trapsW w f=ts at D d⊢;have P:((avI ts).map AV.sl).length=ts.length:=by simp[avI]
 refine lJ (fun x:Nat×List Step=>⟨[(0,.p (.ip w.cells)),(3,.hd 0 0 x.2.length),(9,.p (H6 ts)),(10,.p (.int .i64 ((avI ts).map AV.sl).length)),(11,.j x.1)],[(0,.own 217 3 (avS x.2))]⟩) (fun x=>x.1<=ts.length/\x.2.length<=x.1*5000/\x.2++(ts.drop x.1).flatMap (fun l=>l.flatMap (vOf w.p))=ts.flatMap fun l=>l.flatMap (vOf w.p)) (fun x=>ts.length-x.1) (0,[]) (lM [(0,.own 217 3 [])]) ⟨x8i _,by simp,rfl⟩ ?_;rintro⟨m,e⟩ ⟨I,J,q⟩;simp only at I J q⊢;rcases x8o m ts.length with r|r;rotate_left 1
 .rw [x9j r,List.flatMap_nil,z0k]at q;conv=>whnf
  repeat' (apply bD<;>intro _<;>first|omega|conv=>whnf)
  exact⟨_,x9b _,by rw[q],by rw[q]⟩
 obtain⟨B,y⟩:=d _ (x9w r);have G:((avI ts).map AV.sl)[m]?=some (.sl (ts[m].map (.int .i64))):=by simp[avI,r]
 rw[YO r]at q;conv=>whnf
 repeat' ((first|(refine gX ?_;intros)|(apply bD<;>intro _<;>try omega))<;>conv=>whnf)
 have g:(avI ts)[m]'(by simp[avI];exact r)=ts[m].map (.int .i64):=by simp[avI]
 rw[g];generalize ts[m]=l at B y q⊢;have O:(l.map (AV.int .i64)).length=l.length:=x8b _;generalize H:(ts.flatMap fun l=>l.flatMap (vOf w.p))=tot at q⊢;refine lI (fun x:Nat×List Step=>⟨[(0,.p (.ip w.cells)),(3,.hd 0 0 x.2.length),(9,.p (H6 ts)),(10,.p (.int .i64 ((avI ts).map AV.sl).length)),(11,.j m),(15,.p (XZ l)),(16,.p (.int .i64 (l.map (AV.int .i64)).length)),(17,.j x.1)],[(0,.own 217 3 (avS x.2))]⟩) (fun x=>x.1<=l.length/\x.2.length<=m*5000+x.1/\x.2++((l.drop x.1).flatMap (vOf w.p)++(ts.drop (m+1)).flatMap (fun l=>l.flatMap (vOf w.p)))=tot) (fun x=>l.length-x.1) (0,e) ⟨x8i _,by simp only;omega,q⟩ ?_;rintro⟨k,h⟩ ⟨K,L,o⟩;simp only at K L o⊢;rcases x8o k l.length with v|v;rotate_left 1
 .rw [x9j v]at o;conv=>whnf
  repeat' ((first|refine wI ?_|(apply bD<;>intro _<;>try omega))<;>conv=>whnf)
  exact nX (m+1,h) ⟨r,by simp only;omega,by simpa using o⟩
 obtain⟨Y,Z⟩:=y _ (x9w v);obtain⟨_,_,_,hsl,_⟩:=QY w.p;have c:(l[k]-1).toNat<(sheetOf w.p).l.length:=by omega
 have T:∃u:Item,((sheetOf w.p).l.map fun i=>AV.agg i.cells)[(l[k]-1).toNat]?=some (.agg u.cells)/\OA w.p l[k]=some u.s:=⟨_,by rw[x9x,x8p c];rfl,by unfold OA;rw[x8p c];rfl⟩;obtain⟨u,E,F⟩:=T;rw[YO v]at o;have U:vOf w.p l[k]=if u.s.kind=10 then [⟨l[k],-1,3⟩]else []:=by unfold vOf;rw[F]
 rw[U]at o;conv=>whnf
 repeat' ((first|(refine gX ?_;intros)|refine iT E ?_|refine pA 1 24 (by simp[avS]) ?_|(apply bD<;>intro _<;>try omega))<;>conv=>whnf)
 .rw [if_pos (by assumption)]at o;exact⟨(k+1,h++[⟨l[k],-1,3⟩]),⟨v,by simp;omega,by simpa using o⟩,by simp only;omega,Le.of_eq (by simp only[avS,x8m,x8a];rfl)⟩
 .rw [if_neg (by assumption)]at o;exact nX (k+1,h) ⟨v,by simp only;omega,by simpa using o⟩
def fOf(it:Item):List Step:=if it.s.kind=7\/it.s.kind=8\/it.s.kind=9\/it.s.kind=10 then [⟨it.s.id,it.next,2⟩]else []
structure WayT(w:Way)(f:Pr)(n:Nat):Prop where
 hw:w.n=n
 hj:w.p.A[w.j]?=some f
 hc:cntP w.p.A<=1000
 hn:n<=5000
 hn2:2<=n
 hlen:w.real.length<=1000000
 hr:∀t∈prsW w f,(0<=t.1/\t.1<n)/\0<=t.2/\t.2<n
 htl:(trapsW w f).length<=5000
 hti:∀l∈trapsW w f,l.length<=5000/\∀id∈l,1<=id/\id<=(sheetOf w.p).l.length
 hok:∀s∈w.real,okSt s
 hfk:∀it∈itsOf w.p w.j f,∀s∈fOf it,okSt s
def q8e{p:Pg}{id:Int}{s:Step}(h:s∈vOf p id):s=⟨id,-1,3⟩:=by
 unfold vOf at h;split at h
 .split at h
  .simpa using h
  .simp at h
 .simp at h
theorem WayT.virt_ok{w:Way}{f:Pr}{n:Nat}(h:WayT w f n):∀s∈UO w f,okSt s:=fun s i=>by
 unfold UO at i;obtain⟨l,m,i⟩:=z0j.1 i;obtain⟨id,j,i⟩:=z0j.1 i;obtain⟨_,_,_,hsl,_⟩:=QY w.p;have o:=(h.hti l m).2 id j;have q:=h.hc;rw[q8e i];exact⟨by show id≠_;omega,by show(-1:Int)≠_;decide⟩
theorem WayT.virt_len{w:Way}{f:Pr}{n:Nat}(h:WayT w f n):(UO w f).length<=25000000:=by
 have m:=VL (g:=fun l=>l.flatMap (vOf w.p)) (c:=5000) (trapsW w f) fun l j=>by
  have i:=VL (g:=vOf w.p) (c:=1) l fun id _=>q8a w.p id;have o:=(h.hti l j).1;omega
 have i:=h.htl;unfold UO;omega
def PM(w:Way)(f:Pr):List Step:=WC (UO w f++w.real)
def F8(w:Way)(f:Pr):List Step:=UO w f++w.real++[⟨0,-1,2⟩]++(itsOf w.p w.j f).flatMap fOf
def x7h(w:Way)(f:Pr):List Step:=WC (F8 w f)
def Rl(w:Way)(f:Pr)(n:Nat)(h:WayT w f n):aP 87 [.ip w.cells] (DO (PM w f)):=by
 refine sC Hw func87 ?_;conv=>whnf
 have o:=h.hlen;have q:=h.virt_len;have k:=h.virt_ok;repeat' ((first|refine dA ?_|refine aD ?_|(refine cH [] 0 (TC w f n h.hw h.hj h.hc h.hn h.hn2 h.hlen h.hr h.htl h.hti) ?_ (hH:=z1x)))<;>conv=>whnf)
 have j:(w.real.map fun s=>AV.agg s.cells).length=w.real.length:=x8b _;have m:(avS (UO w f)).length=(UO w f).length:=by simp[avS]
 refine z5w m.symm rfl (by rw[j];show((UO w f).length+w.real.length)*24<=140737488355328;omega) (by rw[j];show(UO w f).length+w.real.length<=9223372036854775807;omega) (fun x r=>by obtain⟨s,_,rfl⟩:=x8c.1 r;exact⟨rfl,rfl⟩) ?_;conv=>whnf
 have i:avS (UO w f)++(w.real.map fun s=>AV.agg s.cells)=avS (UO w f++w.real):=by simp[avS]
 have l:(UO w f).length+(w.real.map fun s=>AV.agg s.cells).length=(UO w f++w.real).length:=by simp
 rw[i,l];repeat' ((refine cH rH2 0 (Ma (UO w f++w.real) (fun s p=>(x8e.1 p).elim (k s) (h.hok s)) (by rw[x8m];omega)) ?_)<;>conv=>whnf)
 exact⟨_,.hd rfl (by simp[avS]),rfl⟩
def Cu{p:Pg}(h:QP p=true){j:Nat}{f:Pr}(n:p.A[j]?=some f){k:Nat}{it:Item}(q:offN p.A j<=k)(r:k<offN p.A j+cntL f.body)(o:(sheetOf p).l[k]?=some it):it.s.id=(k:Int)+1:=by
 obtain⟨t,_,i,m⟩:=J9 h n (a:=(k:Int)+1) (by omega) (by omega);unfold OA at i;rw[show((k:Int)+1-1).toNat=k by omega,o]at i;cases i;exact m
def R5{p:Pg}{j:Nat}{f:Pr}{it:Item}(h:it∈itsOf p j f){y:Int}(i:y∈UU (sheetOf p) f it):(⟨it.s.id,y,1⟩:Step)∈QK p j f:=by
 unfold QK;exact x8r _ (z0j.2 ⟨it,h,x8c.2 ⟨y,i,rfl⟩⟩)
theorem Li{n:Nat}{part:List Int}(q:∀k,k<n->0<=part.getD k 0/\part.getD k 0<n){i:Nat}(s:i<n):∀(l:List (Int×Int)){o:List Bool},o.length=n->(∀t∈l,0<=t.1/\t.1<n)->
  ((l.foldl (Vt part) o).getD i false=true↔o.getD i false=true\/∃t∈l,part.getD t.1.toNat 0≠part.getD t.2.toNat 0/\part.getD t.1.toNat 0=i)
 |[],o,_,_=>by simp
 | t::r,o,ho,hr=>by
   rw [z1c,Li q s r (by rw[R1];exact ho) fun u j=>hr u (x8r _ j)];have v:=hr t x8l;have w:=q t.1.toNat (by omega);have key:(Vt part o t).getD i false=true↔o.getD i false=true\/(part.getD t.1.toNat 0≠part.getD t.2.toNat 0/\part.getD t.1.toNat 0=i):=by
    unfold Vt;split
    .rename_i p;constructor
     .exact .inl
     .rintro (h|⟨h,_⟩)
      .exact h
      .exact absurd p h
    .rename_i p;rw[WG (by omega)];split
     .rename_i h;constructor
      .intro _;exact .inr ⟨p,by omega⟩
      .intro _;rfl
     .rename_i h;constructor
      .exact .inl
      .rintro (m|⟨_,m⟩)
       .exact m
       .exact absurd (by omega) h
   rw[key,or_assoc];constructor
   .rintro (h|⟨h,m⟩|⟨u,j,h⟩)
    .exact .inl h
    .exact .inr ⟨t,x8l,h,m⟩
    .exact .inr ⟨u,x8r _ j,h⟩
   .rintro (h|⟨u,j,h⟩)
    .exact .inl h
    .rcases x8s.1 j with rfl|j
     .exact .inr (.inl h)
     .exact .inr (.inr ⟨u,j,h⟩)
def q2d{n:Nat}{part:List Int}(o:0<n)(j:∀k,k<n->0<=part.getD k 0/\part.getD k 0<n){i:Nat}(m:i<n){l:List (Int×Int)}(p:∀t∈l,0<=t.1/\t.1<n):
  (Pu n part l).getD i false=true↔part.getD 0 0=i\/part.getD (n-1) 0=i\/∃t∈l,part.getD t.1.toNat 0≠part.getD t.2.toNat 0/\part.getD t.1.toNat 0=i:=by
 have q:=j 0 o;have r:=j (n-1) (by omega);unfold Pu;rw[Li j m l (by simp[Hp]) p];have key:(Hp n part).getD i false=true↔part.getD 0 0=i\/part.getD (n-1) 0=i:=by
  unfold Hp;rw[WG (by rw[z0h,z0b];omega),WG (by rw[z0b];omega)];split
  .exact ⟨fun _=>.inr (by omega),fun _=>rfl⟩
  .split
   .exact ⟨fun _=>.inl (by omega),fun _=>rfl⟩
   .have:(List.replicate n false).getD i false=false:=by
     rw[x8n,z0q];split<;>rfl
    rw[this];constructor
    .intro h;cases h
    .rintro (h|h)<;>omega
 rw[key,or_assoc]
end Go.Ab
