/- graph: the order in which a search into the depth is done. -/
import Derived.Test.YtonbdgcjnecapaaGreatRchR9
import Derived.Test.YtonbdgcjnecapaaGreatRchR10
import Derived.Test.YtonbdgcjnecapaaGreatRchR15
set_option linter.all false
set_option maxRecDepth 100000
set_option maxHeartbeats 16000000
namespace Go.Ab
open Go.Proofs.Tryz
open Go.Proofs
variable {b:Int}
def rowE(rows:List (List Int))(x y:Int):Prop:=0<=x/\Dh rows x y
structure EndI(n:Nat)(rows:List (List Int))(out stack:List Int)(seen:List Bool)(at_:List Int):Prop where
 dfs:DfsI n (rowE rows) out stack
 sl:seen.length=n
 al:at_.length=n
 seen:∀x:Int,0<=x/\x<n->(seen.getD x.toNat false=true↔x∈out++stack)
 arng:∀x:Int,0<=x/\x<n->0<=at_.getD x.toNat 0/\at_.getD x.toNat 0<=(rows.getD x.toNat []).length
 cur:∀x:Int,0<=x/\x<n->∀(i:Nat)(y:Int),(i:Int)<at_.getD x.toNat 0->(rows.getD x.toNat [])[i]?=some y->y∈out++stack
theorem EndI.start(n:Nat)(rows:List (List Int)):EndI n rows [] [] (List.replicate n false) (List.replicate n 0):=by
 have j:∀x:Int,(List.replicate n (0:Int)).getD x.toNat 0=0:=fun x=>by
  rw[x7w,x8g];split<;>rfl
 refine⟨DfsI.start n _,by simp,by simp,fun x l=>?_,fun x l=>by rw[j];omega,fun x l i y m=>by rw[j]at m;omega⟩;rw[x7w,x8g];split<;>simp
def ZJ{α:Type}{l:List α}{i j:Nat}{a d:α}(k:i<l.length):(l.set i a).getD j d=if i=j then a else l.getD j d:=by
 simp only[x7w,z1n];split
 .rename_i h;first
   |rfl
   |(rw[if_pos k];rfl)
 .rfl
theorem EndI.push{n:Nat}{rows:List (List Int)}{out stack:List Int}{seen:List Bool}{at_:List Int}(h:EndI n rows out stack seen at_){b:Int}(m:0<=b/\b<n)(o:seen.getD b.toNat false=false)(t:chainE (rowE rows) (stack++[b])):EndI n rows out (stack++[b]) (seen.set b.toNat true) at_:=by
 have j:b∉out++stack:=fun r=>by rw[(h.seen b m).2 r]at o;cases o
 refine⟨h.dfs.push m j t,by simpa using h.sl,h.al,fun x l=>?_,h.arng,fun x l i y q u=>?_⟩
 .rw [ZJ (by rw[h.sl];omega),<-x8w,x7b,x7y];split
  .have:x=b:=by omega
   simp[this]
  .have:x≠b:=by omega
   rw[h.seen x l];simp[this]
 .rw [<-x8w];exact x7b.2 (.inl (h.cur x l i y q u))
theorem EndI.pop{n:Nat}{rows:List (List Int)}{out st:List Int}{a:Int}{seen:List Bool}{at_:List Int}(h:EndI n rows out (st++[a]) seen at_)(ha:at_.getD a.toNat 0=(rows.getD a.toNat []).length):EndI n rows (out++[a]) st seen at_:=by
 have q:=h.dfs.rng a (by simp);have l:∀x:Int,x∈out++[a]++st↔x∈out++(st++[a]):=fun x=>by
  simp only[x7b,x7y];constructor
  .rintro ((j|j)|j)
   .exact .inl j
   .exact .inr (.inr j)
   .exact .inr (.inl j)
  .rintro (j|j|j)
   .exact .inl (.inl j)
   .exact .inr j
   .exact .inl (.inr j)
 refine⟨h.dfs.pop fun v r=>?_,h.sl,h.al,fun x o=>by rw[h.seen x o,l],h.arng,fun x o i y m t=>(l y).2 (h.cur x o i y m t)⟩;obtain⟨i,m⟩:=x9c.1 r.2;have:=h.cur a q i v (by rw[ha];have:=(x7h.1 m).1;omega) m;exact x7b.1 this
theorem EndI.step{n:Nat}{rows:List (List Int)}{out stack:List Int}{seen:List Bool}{at_:List Int}(h:EndI n rows out stack seen at_){a:Int}(ha:0<=a/\a<n){k:Nat}(v:at_.getD a.toNat 0=k)(t:(rows.getD a.toNat [])[k]?=some b)(u:b∈out++stack):EndI n rows out stack seen (at_.set a.toNat ((k:Int)+1)):=by
 have j:a.toNat<at_.length:=by rw[h.al];omega
 refine⟨h.dfs,h.sl,by simpa using h.al,h.seen,fun x r=>?_,fun x r i y o l=>?_⟩
 .rw [ZJ j];split
  .rename_i m;have:=(x7h.1 t).1;rw[<-m];omega
  .exact h.arng x r
 .rw [ZJ j]at o;split at o
  .rename_i m;rw[<-m]at l;rcases x7m i k with q|q
   .exact h.cur a ha i y (by omega) l
   .have:i=k:=by omega
    subst this;rw[t]at l;cases l;exact u
  .exact h.cur x r i y o l
def q3g(m:Int)(l:List Int):Int:=l.foldl (fun m x=>if x<m then x else m) m
def Bw:List Int->Int
 |[]=>0
 |a::r=>q3g a r
theorem Np:∀(l:List Int)(m:Int),q3g m l∈m::l/\∀x∈m::l,q3g m l<=x
 |[],m=>⟨by simp[q3g],by simp[q3g]⟩
 | a::r,m=>by
   obtain⟨n,j⟩:=Np r (if a<m then a else m);have e:q3g m (a::r)=q3g (if a<m then a else m) r:=rfl;have k:=j _ x7v;rw[e];generalize q3g (if a<m then a else m) r=z at n j k⊢;refine⟨?_,fun x i=>?_⟩
   .rcases x7f.1 n with h|h
    .rw [h];split<;>simp
    .exact x7j _ (x7j _ h)
   .rcases x7f.1 i with rfl|i
    .split at k<;>omega
    .rcases x7f.1 i with rfl|i
     .split at k<;>omega
     .exact j x (x7j _ i)
def Nn{l:List Int}(h:0<l.length):Bw l∈l/\∀x∈l,Bw l<=x:=by
 cases l with
 |nil=>simp at h
 |cons a r=>exact Np r a
theorem OpK.min2{P:Program}{N:Nat}{s:St}{o:Oper}{K:St->Prop}{x y:Operand}{e:Array TypeId}(j:o.op=.call {callee:=.builtin .min,args:=#[x,y],argTypes:=e}){m n:Int}(z:QN s.sl x=.p (.int .i64 m))(c:QN s.sl y=.p (.int .i64 n))(h:setD N s.sl o.dst (.p (.int .i64 (if n<m then n else m))) fun sl=>K ⟨sl,s.H⟩):OpK P N s o K:=by
 refine⟨fun σ β a w l Q=>?_⟩;have r:=QQ l.E x;have t:=QQ l.E y;rw[z]at r;rw[c]at t;have u:=r.int;have e2:=t.int;have i:(execOp a.eval o).run P w=.ok (.value (.int .i64 (if n<m then n else m))) w:=by
  simp[execOp,j,resolve,invoke,builtin,u,e2,Builtin.min_,Builtin.min2]
 obtain⟨sl,v,q⟩:=l.setD (.p (.int .i64 (if n<m then n else m))) h;exact XE i ⟨σ,β,_,v,q,Later.refl _ _ _ _⟩
def MQ(l:List Int)(n:0<l.length):SpecP prog 322 [QB l] (fun r=>r=.int .i64 (Bw l)):=by
 refine sB FF func322 rfl call322 ?_;conv=>whnf
 have s:(l.map (AV.int .i64)).length=l.length:=x7z _;repeat' (first|(refine iM fun _=>?_;conv=>whnf)|(apply bD<;>intro _<;>first|omega|conv=>whnf))
 refine IdxK.at (k:=0) (e:=.int .i64 l[0]) rfl (by simp[n]) rfl ?_;conv=>whnf
 skip
 refine LoopK.inv QV (fun x:Nat×Int=>⟨[(0,.p (QB l)),(3,.j x.2),(4,.j x.1)],[]⟩) (fun x=>1<=x.1/\x.1<=l.length/\Bw (x.2::l.drop x.1)=Bw l) (fun x=>l.length-x.1) (1,l[0]) (Le.of_eq rfl) ⟨x7s _,n,by
  cases l with
  |nil=>simp at n
  |cons a r=>rfl⟩ ?_
 rintro⟨j,m⟩ ⟨o,q,h⟩;simp only at o q h⊢;rcases x7m j l.length with i|i
 .rw [QG i]at h;conv=>whnf
  repeat' (first|((first|(refine iM fun _=>?_)|(refine iA fun _=>?_)|refine wI ?_|refine OpK.min2 rfl rfl rfl ?_);conv=>whnf)|(apply bD<;>intro _<;>first|omega|conv=>whnf))
  exact⟨(j+1,if l[j]<m then l[j]else m),⟨by simp only;omega,i,h⟩,by simp only;omega,Le.of_eq rfl⟩
 .rw [x7e i]at h;conv=>whnf
  repeat' (first|(refine iM fun _=>?_;conv=>whnf)|(apply bD<;>intro _<;>first|omega|conv=>whnf))
  exact RetK.int h
theorem q3e{α:Type}{f g:α->Nat}:∀{l:List α},(∀x∈l,f x<=g x)->(∃x∈l,f x<g x)->(l.map f).sum<(l.map g).sum
 |[],_,h=>by obtain⟨x,i,_⟩:=h;cases i
 | a::r,h1,h2=>by
   have j:∀{l:List α},(∀x∈l,f x<=g x)->(l.map f).sum<=(l.map g).sum:=fun {l} h=>by
    induction l with
    |nil=>simp
    | cons b r n=>
      simp only[x8v,z3y];have:=n fun x i=>h x (x7j _ i);have:=h b x7v;omega
   simp only[x8v,z3y];have o:=h1 a x7v;have p:=j fun x i=>h1 x (x7j _ i);obtain⟨x,i,k⟩:=h2;rcases x7f.1 i with rfl|i
   .omega
   .have:=q3e (fun y m=>h1 y (x7j _ m)) ⟨x,i,k⟩;omega
def muE(rows:List (List Int))(at_:List Int)(n:Nat):Nat:=((List.range n).map fun i=>(rows.getD i []).length-(at_.getD i 0).toNat).sum
def q0j{n:Nat}{rows:List (List Int)}{at_:List Int}{a:Nat}(ha:a<n)(m:at_.length=n){k:Nat}(j:at_.getD a 0=k)(l:k<(rows.getD a []).length):muE rows (at_.set a ((k:Int)+1)) n<muE rows at_ n:=by
 unfold muE;refine q3e (fun i _=>?_) ⟨a,x8n.2 ha,?_⟩
 .rw [ZJ (by omega)];split
  .rename_i h;rw[<-h,j];omega
  .exact x7s _
 .rw [ZJ (by omega),if_pos rfl,j];omega
def Dg{n:Nat}{l:List Int}(h:l.Nodup)(i:∀x∈l,0<=x/\x<n):l.length<=n:=by
 have:=Ye (m:=(List.range n).map fun(k:Nat)=>(k:Int)) h fun x j=>x7d.2 ⟨x.toNat,x8n.2 (by have:=i x j;omega),by have:=i x j;omega⟩;simpa using this
def q2l{l:List Bool}{i:Nat}(h:i<l.length):(l.map bv)[i]?=some (bv (l.getD i false)):=by
 rw[x7k,x7x h,x7w,x7x h];rfl
def Nj{l:List Int}{i:Nat}(h:i<l.length):(l.map (AV.int .i64))[i]?=some (.int .i64 (l.getD i 0)):=by
 rw[x7k,x7x h,x7w,x7x h];rfl
def q9v(n:Nat)(rows:List (List Int))(r:AV):Prop:=∃es,r=QB es/\EndsP n (rowE rows) es
def Wp(n:Nat)(hn:n<=5000)(g:List (List Int)×List (List Int))(M:XG n g.1):SpecP prog 321 [VW g] (fun r=>q9v n g.1 r):=by
 refine sB MN func321 rfl call321 ?_;conv=>whnf
 have Q:((avI g.1).map AV.sl).length=n:=by simp[avI,M.1]
 repeat' ((first|(refine iM fun _=>?_)|refine aR ?_|refine z2b n (by rw[Q]) (by show 1*n<=140737488355328;omega) (by unfold maxLen;omega) ?_|refine z2b n (by rw[Q]) (by show 8*n<=140737488355328;omega) (by unfold maxLen;omega) ?_);conv=>whnf)
 refine LoopK.inv QV (fun x:Nat×List Int×List Bool×List Int=>⟨[(0,.p (VW g)),(3,.hd 2 0 x.2.1.length),(4,.hd 3 0 0),(5,.hd 0 0 n),(6,.hd 1 0 n),(26,.j n),(27,.j x.1)],[(0,.own 4 1 (x.2.2.1.map bv)),(1,.own 3 1 (x.2.2.2.map (.int .i64))),(2,.own 3 1 (x.2.1.map (.int .i64))),(3,.own 3 1 [])]⟩)
  (fun x=>x.1<=n/\EndI n g.1 x.2.1 [] x.2.2.1 x.2.2.2/\∀y:Int,0<=y/\y<x.1->y∈x.2.1) (fun x=>n-x.1) (0,[],List.replicate n false,List.replicate n 0)
  (Le.mk [(2,.own 3 1 []),(3,.own 3 1 [])] (by simp[Chunk.new0];exact⟨rfl,rfl⟩) (by simp) (by simp) (.r (.cons (.nil x7v) (.cons (.nil (x7j _ x7v)) (.r (.r (.cons (.of_eq (by rw[Q];rfl)) (.r .nil)))))))
    (.cons rfl (.of_eq (by rw[z0n];rfl)) (.cons rfl (.of_eq (by rw[z0n];rfl)) (.new x7v (.new (x7j _ x7v) .nil)))))
  ⟨x7p _,EndI.start n g.1,fun y K=>by omega⟩ ?_
 rintro⟨r,out,seen,at_⟩ ⟨h1,h,m⟩;simp only at h1 h m⊢;have J:=h.sl;have d:=h.al;rcases x7m r n with hr|hr;rotate_left 1
 .conv=>whnf
  repeat' (apply bD<;>intro _<;>first|omega|conv=>whnf)
  have D:∀x:Int,0<=x/\x<n->x∈out:=fun x A=>m x (by omega);exact⟨_,.hd rfl (by simp),out,rfl,h.dfs.fin (fun x y T=>DP M T.2) D⟩
 have B:=q2l (l:=seen) (i:=r) (by omega);have z:∃st U,EndI n g.1 out st U at_/\(r:Int)∈out++st/\((seen.getD r false=true/\st=[]/\U=seen)\/(seen.getD r false=false/\st=[(r:Int)]/\U=seen.set r true)):=by
  cases q:seen.getD r false with
  |true=>exact⟨[],seen,h,(h.seen r (by omega)).1 (by simpa using q),.inl ⟨rfl,rfl,rfl⟩⟩
  |false=>exact⟨[(r:Int)],seen.set r true,h.push (stack:=[]) (b:=r) (by omega) (by simpa using q) trivial,by simp,.inr ⟨rfl,rfl,rfl⟩⟩
 obtain⟨st0,f,c,Y,h6⟩:=z;rcases h6 with⟨q,v,e⟩|⟨q,v,e⟩;all_goals
  rw[q]at B;conv=>whnf
  repeat' (first|((first|refine x7g rfl ?_|refine aD ?_|refine bP ?_|refine x8p r rfl (by omega) ?_|refine x9g r 0 .tt (by omega) B ?_|refine x9g r 0 .ff (by omega) B ?_|refine z0d r 0 .ff .tt (by omega) B (x7s 1) rfl ?_|refine XX rfl (by simp) ?_);conv=>whnf)|(apply bD<;>intro _<;>first|omega|conv=>whnf))
  refine LoopK.inv QV (fun x:List Int×List Int×List Bool×List Int=>⟨[(0,.p (VW g)),(3,.hd 2 0 x.1.length),(4,.hd 3 0 x.2.1.length),(5,.hd 0 0 n),(6,.hd 1 0 n),(26,.j n),(27,.j r)],[(0,.own 4 1 (x.2.2.1.map bv)),(1,.own 3 1 (x.2.2.2.map (.int .i64))),(2,.own 3 1 (x.1.map (.int .i64))),(3,.own 3 1 (x.2.1.map (.int .i64)))]⟩)
   (fun x=>EndI n g.1 x.1 x.2.1 x.2.2.1 x.2.2.2/\(r:Int)∈x.1++x.2.1/\∀y:Int,0<=y/\y<r->y∈x.1) (fun x=>muE g.1 x.2.2.2 n+(n-x.1.length)) (out,st0,f,at_)
   (Le.mk [] (by simp) (by simp) (by simp) (.r (.r (.cons (.of_eq (by first|(rw[v];done)|(rw[v];rfl))) (.r (.r (.r (.r .nil)))))))
     (.cons rfl (.of_eq (by rw[e];first|done|rfl|(rw[x8o];rfl))) (.cons rfl (.refl _) (.cons rfl (.refl _) (.cons rfl (.of_eq (by rw[v];rfl)) .nil)))))
   ⟨c,Y,m⟩ ?_
  clear c Y v e B q J d h m;rintro⟨o,V,s,t⟩ ⟨h,m,c⟩;simp only at h m c⊢;have J:=h.sl;have d:=h.al;have hol:o.length<=n:=Dg (by have:=h.dfs.nd;rw[x9k]at this;exact this.1) fun x A=>h.dfs.rng x (x7b.2 (.inl A));rcases List.eq_nil_or_concat V with rfl|⟨st,a,rfl⟩
  .have hz:(([]:List Int).length)=0:=rfl;conv=>whnf
   repeat' (first|((first|(refine iM fun _=>?_)|refine wI ?_);conv=>whnf)|(apply bD<;>intro _<;>first|omega|conv=>whnf))
   exact⟨(r+1,o,s,t),⟨hr,h,fun y K=>by
    rcases Int.lt_or_le y r with L|L
    .exact c y ⟨K.1,L⟩
    .have:y=r:=by simp only at K;omega
     rw[this];simpa using m⟩,by simp only;omega,Le.of_eq rfl⟩
  .rw [List.concat_eq_append]at h m⊢;have ha:=h.dfs.rng a (by simp);have hstl:(st++[a]).length=st.length+1:=by simp
   obtain⟨hk0,P⟩:=h.arng a ha;have e2:=Nj (l:=t) (i:=a.toNat) (by omega);have N:((st++[a]).map (AV.int .i64))[st.length]?=some (.int .i64 a):=by simp
   have u:((avI g.1).map AV.sl)[a.toNat]?=some (.sl ((g.1.getD a.toNat []).map (.int .i64))):=by
    have:a.toNat<g.1.length:=by rw[M.1];omega
    rw[x7w,x7x this];simp[avI,this]
   obtain⟨k,G⟩ : ∃k:Nat,t.getD a.toNat 0=k:=⟨(t.getD a.toNat 0).toNat,by omega⟩;rw[G]at e2 P;have hrl:((g.1.getD a.toNat []).map (AV.int .i64)).length=(g.1.getD a.toNat []).length:=x7z _;have R:=h.dfs.nd;rcases x7m k (g.1.getD a.toNat []).length with w|w
   .obtain ⟨b,E⟩ : ∃b,(g.1.getD a.toNat [])[k]?=some b:=⟨_,x7x w⟩;have O:(g.1.getD a.toNat [])[k]=b:=by rw[x7x w]at E;exact z0m E
    have hE:rowE g.1 a b:=⟨ha.1,x9c.2 ⟨k,E⟩⟩;have F:=DP M hE.2;have hmu:=q0j (by omega) d G w;have C:=q2l (l:=s) (i:=b.toNat) (by omega);have hstk:(st++[a]).length<=n:=Dg (x9k.1 R).2.1 fun x A=>h.dfs.rng x (x7b.2 (.inr A));have I:(t.set a.toNat ((k:Int)+1)).map (AV.int .i64)=(t.map (AV.int .i64)).set a.toNat (.int .i64 ((k:Int)+1)):=x8o;have hkm:=h.arng a ha;cases q:s.getD b.toNat false with
    | true=>
      rw[q]at C;conv=>whnf
      repeat' (first|((first|(refine iM fun _=>?_)|refine dA ?_|refine x7g rfl ?_|(refine iA fun _=>?_)|refine wI ?_|refine x8p st.length (by omega) (by omega) ?_|refine x9g st.length 0 (.int .i64 a) (by omega) N ?_|refine x8p a.toNat (by omega) (by omega) ?_|refine x9g a.toNat 0 (.int .i64 k) (by omega) e2 ?_|(refine IdxK.at (k:=a.toNat) (by omega) u rfl ?_)|refine x8p b.toNat (by omega) (by omega) ?_|refine x9g b.toNat 0 .tt (by omega) C ?_|refine z0d a.toNat 0 (.int .i64 k) (.int .i64 (k+1)) (by omega) e2 (x7s 1) rfl ?_);conv=>whnf)|(apply bD<;>intro _<;>first|omega|conv=>whnf))
      exact⟨(o,st++[a],s,t.set a.toNat ((k:Int)+1)),⟨h.step ha G E ((h.seen b F).1 q),m,c⟩,by simp only;omega,Le.mk [] (by simp) (by simp) (by simp) (.r (.r (.r (.r (.r (.r (.r .nil))))))) (.cons rfl (.refl _) (.cons rfl (.of_eq (by rw[I])) (.cons rfl (.refl _) (.cons rfl (.refl _) .nil))))⟩
    | false=>
      rw[q]at C;conv=>whnf
      repeat' (first|((first|(refine iM fun _=>?_)|refine dA ?_|refine x7g rfl ?_|refine aD ?_|refine bP ?_|(refine iA fun _=>?_)|refine wI ?_|refine x8p st.length (by omega) (by omega) ?_|refine x9g st.length 0 (.int .i64 a) (by omega) N ?_|refine x8p a.toNat (by omega) (by omega) ?_|refine x9g a.toNat 0 (.int .i64 k) (by omega) e2 ?_|(refine IdxK.at (k:=a.toNat) (by omega) u rfl ?_)|refine x8p b.toNat (by omega) (by omega) ?_|refine x9g b.toNat 0 .ff (by omega) C ?_|refine z0d a.toNat 0 (.int .i64 k) (.int .i64 (k+1)) (by omega) e2 (x7s 1) rfl ?_|refine z0d b.toNat 0 .ff .tt (by omega) C (x7s 1) rfl ?_|refine XX (by simp) (by simp;omega) ?_);conv=>whnf)|(apply bD<;>intro _<;>first|omega|conv=>whnf))
      have h8:=h.push F q (Uv st h.dfs.path hE);exact⟨(o,st++[a]++[b],s.set b.toNat true,t.set a.toNat ((k:Int)+1)),⟨h8.step ha G E (by simp),by rw[<-x8w];exact x7b.2 (.inl m),c⟩,by simp only;omega,Le.mk [] (by simp) (by simp) (by simp) (.r (.r (.cons (.of_eq (by simp;rfl)) (.r (.r (.r (.r .nil))))))) (.cons rfl (.of_eq (by rw[x8o];rfl)) (.cons rfl (.of_eq (by rw[I])) (.cons rfl (.refl _) (.cons rfl (.of_eq (by rw[O];simp;rfl)) .nil))))⟩
   .have H:k=(g.1.getD a.toNat []).length:=by omega
    have hp:=h.pop (by rw[G,H]);have hol2:o.length+1<=n:=by
     have Z:=hp.dfs;have:=Dg (x9k.1 Z.nd).1 fun x A=>Z.rng x (x7b.2 (.inl A));simpa using this
    conv=>whnf
    repeat' (first|((first|(refine iM fun _=>?_)|refine dA ?_|refine x7g rfl ?_|refine aD ?_|refine bP ?_|refine wI ?_|refine x8p st.length (by omega) (by omega) ?_|refine x9g st.length 0 (.int .i64 a) (by omega) N ?_|refine x8p a.toNat (by omega) (by omega) ?_|refine x9g a.toNat 0 (.int .i64 k) (by omega) e2 ?_|(refine IdxK.at (k:=a.toNat) (by omega) u rfl ?_)|refine XX (by simp) (by simp;omega) ?_|refine z3d 0 st.length rfl (by show((st++[a]).length:Int)-1=_;omega) (by omega) (by omega) ?_);conv=>whnf)|(apply bD<;>intro _<;>first|omega|conv=>whnf))
    have h9:muE g.1 t n+(n-(o++[a]).length)<muE g.1 t n+(n-o.length):=by simp;omega
    exact⟨(o++[a],st,s,t),⟨hp,by simpa[or_assoc,or_comm,or_left_comm]using m,fun y K=>x7b.2 (.inl (c y K))⟩,h9,(Le.cut (.same (.same (.same (.cut (es':=st.map (.int .i64)) ⟨[.int .i64 a],by simp⟩ .nil))))).trans (Le.mk [] (by simp) (by simp) (by simp) (.r (.cons (.of_eq (by simp;rfl)) (.cons (.of_eq (by simp;rfl)) (.r (.r (.r (.r .nil))))))) (.cons rfl (.refl _) (.cons rfl (.refl _) (.cons rfl (.of_eq (by simp;rfl)) (.cons rfl (.refl _) .nil)))))⟩
def q3p(pre:List Bool)(rows:List (List Int)):List (List Int):=rows.map fun r=>r.filter fun b=> !pre.getD b.toNat false
def Na{pre:List Bool}{rows:List (List Int)}{x y:Int}:Dh (q3p pre rows) x y↔Dh rows x y/\pre.getD y.toNat false=false:=by
 unfold Dh q3p;simp only[x7w,x7k];cases rows[x.toNat]?with
 |none=>simp
 |some r=>simp
def q6f{n:Nat}{pre:List Bool}{rows:List (List Int)}(h:XG n rows):XG n (q3p pre rows):=by
 refine⟨by simp[q3p,h.1],fun r k b j=>?_⟩;obtain⟨l,i,rfl⟩:=x7d.1 k;exact h.2 l i b (x8d.1 j).1
structure SimW(pre:List Bool)(st st':List Bool×List Int):Prop where
 todo:st.2=st'.2
 len:st.1.length=st'.1.length
 mrk:∀k,st.1.getD k false=(pre.getD k false||st'.1.getD k false)
theorem SimW.see{pre:List Bool}{st i:List Bool×List Int}(h:SimW pre st i)(j:b.toNat<st.1.length)(m:pre.getD b.toNat false=false):SimW pre (KG st b) (KG i b):=by
 have l:=h.mrk b.toNat;rw[m,Bool.false_or]at l;unfold KG;rw[l];cases i.1.getD b.toNat false with
 |true=>exact h
 | false=>
   refine⟨by simp only[x7o];rw[h.todo],by simpa using h.len,fun k=>?_⟩;simp only[x7o];rw[ZJ j,ZJ (by rw[<-h.len];exact j)];split
   .simp
   .exact h.mrk k
theorem SimW.skip{pre:List Bool}{st i:List Bool×List Int}(h:SimW pre st i)(j:pre.getD b.toNat false=true):KG st b=st:=by
 unfold KG;rw[h.mrk,j];rfl
def q1p(st:List Bool×List Int)(b:Int):(KG st b).1.length=st.1.length:=by
 unfold KG;cases st.1.getD b.toNat false<;>simp
theorem SimW.fold{n:Nat}{pre:List Bool}:∀(l:List Int){st st':List Bool×List Int},SimW pre st st'->st.1.length=n->(∀b∈l,0<=b/\b<n)->SimW pre (l.foldl KG st) ((l.filter fun b=> !pre.getD b.toNat false).foldl KG st')/\(l.foldl KG st).1.length=n
 |[],_,_,h,hn,_=>⟨h,hn⟩
 | b::r,st,st',h,hn,hl=>by
   have o:=hl b x7v;have j:∀c∈r,0<=c/\c<n:=fun c m=>hl c (x7j _ m);rw[z0b];cases i:pre.getD b.toNat false with
   | true=>
     rw[h.skip i,z0j (by rw[i];simp)];exact SimW.fold r h hn j
   | false=>
     rw[z0x (by rw[i];simp),z0b];exact SimW.fold r (h.see (by omega) i) (by rw[q1p];exact hn) j
theorem P4{n:Nat}{pre:List Bool}{rows:List (List Int)}(l:XG n rows):∀(k i:Nat){st st':List Bool×List Int},SimW pre st st'->st.1.length=n->SimW pre (ZW rows k i st) (ZW (q3p pre rows) k i st')
 |0,_,_,_,h,_=>h
 | k+1,i,st,st',h,hn=>by
   rw[ZW,ZW,<-h.todo];cases ha:st.2[i]?with
   |none=>exact h
   | some a=>
     simp only;have j:∀b∈rows.getD a.toNat [],0<=b/\b<n:=fun b p=>DP l p;have q:(q3p pre rows).getD a.toNat []=(rows.getD a.toNat []).filter fun b=> !pre.getD b.toNat false:=by
      unfold q3p;simp only[x7w,x7k];cases rows[a.toNat]?with
      |none=>simp
      |some r=>simp
     rw[q];obtain⟨m,o⟩:=SimW.fold (n:=n) _ h hn j;exact P4 l k (i+1) m o
def IF{n:Nat}{pre:List Bool}{rows:List (List Int)}(u:XG n rows)(t:pre.length=n){r:Int}(p:0<=r/\r<n)(g:pre.getD r.toNat false=false):
  (∀x,x∈(ZW rows (n+1) 0 (pre.set r.toNat true,[r])).2↔Rch (fun a b=>Dh rows a b/\pre.getD b.toNat false=false) r x)/\
  (∀x:Int,0<=x/\x<n->((ZW rows (n+1) 0 (pre.set r.toNat true,[r])).1.getD x.toNat false=true↔pre.getD x.toNat false=true\/x∈(ZW rows (n+1) 0 (pre.set r.toNat true,[r])).2)):=by
 have v:KG (List.replicate n false,[]) r=((List.replicate n false).set r.toNat true,[r]):=by
  unfold KG;have:(List.replicate n false).getD r.toNat false=false:=by
   rw[x7w,x8g];split<;>rfl
  simp only[this,x7o,z0i]
 obtain⟨s,w,_⟩:=(WkM.start n).see p;rw[v]at s w;have j:SimW pre (pre.set r.toNat true,[r]) ((List.replicate n false).set r.toNat true,[r]):=⟨rfl,by simp[t],fun k=>by
  rw[ZJ (by omega),ZJ (by simp;omega)];split
  .simp
  .have:(List.replicate n false).getD k false=false:=by
    rw[x7w,x8g];split<;>rfl
   rw[this,Bool.or_false]⟩
 have q:=P4 u (n+1) 0 j (by simpa using t);obtain⟨z,c,d,e⟩:=Jb (q6f (pre:=pre) u) (n+1) 0 s (x7p _) (by omega) (fun m a f=>by omega);refine⟨fun x=>?_,fun x i=>?_⟩
 .rw [q.todo];constructor
  .intro i;exact e (fun x=>Rch (fun a b=>Dh rows a b/\pre.getD b.toNat false=false) r x) (fun x i=>by rw[x7y.1 i];exact .refl) (fun x b l o=>.tail l (Na.1 o)) x i
  .intro i;exact i.closed (S:=fun x=>x∈(ZW (q3p pre rows) (n+1) 0 ((List.replicate n false).set r.toNat true,[r])).2) (fun x y l o=>d x l y (Na.2 o)) (c r (by simp))
 .rw [q.mrk,q.todo,z.mem,z1y];exact⟨fun h=>h.imp id fun h=>⟨i,h⟩,fun h=>h.imp id fun h=>h.2⟩
def DW{n:Nat}{a:Int}(h:0<=a/\a<n):ZB n a=true:=by
 unfold ZB;simpa using h
structure MinP(E:Int->Int->Prop)(x v:Int):Prop where
 scc:sccP E x v
 le:∀y,sccP E x y->v<=y
theorem MinP.uniq{E:Int->Int->Prop}{x v w:Int}(h:MinP E x v)(i:MinP E x w):v=w:=Int.le_antisymm (h.le w i.scc) (i.le v h.scc)
def Xe(n:Nat)(rows:List (List Int)):List Int:=(List.range n).map fun(a:Nat)=>Bw ((HI 0 (ZN rows [(a:Int)])).filter fun b=>(HI 0 (ZN rows [b])).contains (a:Int))
def q1j{n:Nat}{rows:List (List Int)}(l:XG n rows){x y:Int}(m:0<=x):Rch (rowE rows) x y↔Rch (Dh rows) x y:=by
 refine⟨fun h=>h.mono fun _ _ h=>h.2,fun h=>?_⟩;exact(h.closed (S:=fun y:Int=>0<=y/\Rch (rowE rows) x y) (fun a b ⟨j,k⟩ i=>⟨(DP l i).1,.tail k ⟨j,i⟩⟩) ⟨m,.refl⟩).2
def TF{n:Nat}{rows:List (List Int)}(i:XG n rows){x y:Int}(j:0<=x/\x<n)(h:Rch (rowE rows) x y):0<=y/\y<n:=
 h.closed (S:=fun y:Int=>0<=y/\y<n) (fun _ _ _ h=>DP i h.2) j
def Rv{n:Nat}{rows:List (List Int)}(i:XG n rows){x:Int}(j:0<=x/\x<n)(y:Int):y∈HI 0 (ZN rows [x])↔Rch (rowE rows) x y:=by
 rw[M9 i,q1j i j.1];constructor
 .rintro ⟨a,ha,_,h⟩;rw[x7y.1 ha]at h;exact h
 .intro h;exact⟨x,by simp,DW j,h⟩
def DF(n:Nat)(rows:List (List Int)):(Xe n rows).length=n:=by simp[Xe]
def Xi{n:Nat}{rows:List (List Int)}(j:XG n rows){x:Int}(m:0<=x/\x<n):MinP (rowE rows) x ((Xe n rows).getD x.toNat 0):=by
 have e:(Xe n rows).getD x.toNat 0=Bw ((HI 0 (ZN rows [x])).filter fun b=>(HI 0 (ZN rows [b])).contains x):=by
  unfold Xe;rw[x7w,x7k,z1p (by omega)];have:((x.toNat:Nat):Int)=x:=by omega
  simp[this]
 have k:∀y,y∈(HI 0 (ZN rows [x])).filter (fun b=>(HI 0 (ZN rows [b])).contains x)↔sccP (rowE rows) x y:=fun y=>by
  rw[x8d,Rv j m,List.contains_iff_mem];constructor
  .rintro ⟨h,i⟩;exact⟨h,(Rv j (TF j m h) x).1 i⟩
  .rintro ⟨h,i⟩;exact⟨h,(Rv j (TF j m h) x).2 i⟩
 rw[e];obtain⟨h,i⟩:=Nn (l:=(HI 0 (ZN rows [x])).filter fun b=>(HI 0 (ZN rows [b])).contains x) (z3p ((k x).2 (sccP.refl x)));exact⟨(k _).1 h,fun y o=>i y ((k y).2 o)⟩
structure PartI(n:Nat)(E:Int->Int->Prop)(es:List Int)(m:Nat)(part:List Int)(seen:List Bool):Prop where
 sl:seen.length=n
 pl:part.length=n
 seen:∀x:Int,0<=x/\x<n->(seen.getD x.toNat false=true↔SeenP E es m x)
 min:∀x:Int,0<=x/\x<n->SeenP E es m x->MinP E x (part.getD x.toNat 0)
theorem PartI.start{n:Nat}{E:Int->Int->Prop}{es:List Int}:PartI n E es es.length (List.replicate n 0) (List.replicate n false):=by
 have i:∀x,¬SeenP E es es.length x:=fun x ⟨j,y,o,l,_⟩=>by
  have:=(x7h.1 l).1;omega
 refine⟨by simp,by simp,fun x _=>?_,fun x _ m=>absurd m (i x)⟩;rw[x7w,x8g];have:=i x;split<;>simp[this]
def VI(l:List Int)(v:Int)(part:List Int):List Int:=l.foldl (fun p a=>p.set a.toNat v) part
theorem NO(v:Int):∀(l part:List Int),(VI l v part).length=part.length
 |[],_=>rfl
 | a::r,part=>by
   show(VI r v (part.set a.toNat v)).length=_;rw[NO v r];simp
theorem Jx{n:Nat}(v:Int){x:Int}(s:0<=x/\x<n):∀(l:List Int){part:List Int},part.length=n->(∀a∈l,0<=a/\a<n)->(x∈l->(VI l v part).getD x.toNat 0=v)/\(x∉l->(VI l v part).getD x.toNat 0=part.getD x.toNat 0)
 |[],_,_,_=>⟨by simp,fun _=>rfl⟩
 | a::r,part,hl,ha=>by
   have o:=ha a x7v;have e:VI (a::r) v part=VI r v (part.set a.toNat v):=rfl;obtain⟨k,m⟩:=Jx v s r (part:=part.set a.toNat v) (by simpa using hl) fun b p=>ha b (x7j _ p);have q:(part.set a.toNat v).getD x.toNat 0=if a.toNat=x.toNat then v else part.getD x.toNat 0:=ZJ (by omega);rw[e];by_cases i:x∈r
   .exact ⟨fun _=>k i,fun h=>absurd (x7j _ i) h⟩
   .rw [m i,q];constructor
    .intro h;rcases x7f.1 h with rfl|h
     .rw [if_pos rfl]
     .exact absurd h i
    .intro h;have:x≠a:=fun j=>h (by rw[j];exact x7v);rw[if_neg (by omega)]
theorem PartI.part{n:Nat}{g:List (List Int)×List (List Int)}(P:XG n g.1)(t:XG n g.2)(J:∀x y,rowE g.2 x y↔rowE g.1 y x){es:List Int}(O:EndsP n (rowE g.1) es){m:Nat}{part:List Int}{seen:List Bool}(h:PartI n (rowE g.1) es (m+1) part seen){r:Int}(H:es[m]?=some r)(L:seen.getD r.toNat false=false):
  (∀x∈(ZW g.2 (n+1) 0 (seen.set r.toNat true,[r])).2,0<=x/\x<n)/\0<(ZW g.2 (n+1) 0 (seen.set r.toNat true,[r])).2.length/\wkInv n (seen.set r.toNat true,[r])/\
  PartI n (rowE g.1) es m (VI (ZW g.2 (n+1) 0 (seen.set r.toNat true,[r])).2 (Bw (ZW g.2 (n+1) 0 (seen.set r.toNat true,[r])).2) part) (ZW g.2 (n+1) 0 (seen.set r.toNat true,[r])).1:=by
 have q:=(O.mem r).1 (x7t H);have V:=h.sl;have K:¬SeenP (rowE g.1) es (m+1) r:=fun B=>by rw[(h.seen r q).2 B]at L;cases L
 obtain⟨Q,M⟩:=IF t h.sl q L;have f:∀x y,rowE g.1 x y->(0<=x/\x<n)/\0<=y/\y<n:=fun x y F=>⟨DP t ((J y x).2 F).2,DP P F.2⟩;have v:=A2 f O H K;have A:∀x,Rch (fun a b=>Dh g.2 a b/\seen.getD b.toNat false=false) r x↔Rch (fun a b=>rowE g.1 b a/\¬SeenP (rowE g.1) es (m+1) b) r x:=fun x=>by
  constructor
  .intro j;exact(j.closed (S:=fun x:Int=>(0<=x/\x<n)/\Rch (fun a b=>rowE g.1 b a/\¬SeenP (rowE g.1) es (m+1) b) r x) (fun a b ⟨z,e⟩ ⟨c,N⟩=>by
    have G:=DP t c;refine⟨G,.tail e ⟨(J a b).1 ⟨z.1,c⟩,fun B=>?_⟩⟩;rw[(h.seen b G).2 B]at N;cases N) ⟨q,.refl⟩).2
  .intro j;refine j.mono fun a b ⟨z,e⟩=>⟨((J a b).2 z).2,?_⟩;have G:=(f b a z).1;cases U:seen.getD b.toNat false with
   |true=>exact absurd ((h.seen b G).1 U) e
   |false=>rfl
 have i:∀x,x∈(ZW g.2 (n+1) 0 (seen.set r.toNat true,[r])).2↔sccP (rowE g.1) r x:=fun x=>by rw[Q,A,v]
 have o:∀x∈(ZW g.2 (n+1) 0 (seen.set r.toNat true,[r])).2,0<=x/\x<n:=fun x j=>TF P q ((i x).1 j).1;have l:0<(ZW g.2 (n+1) 0 (seen.set r.toNat true,[r])).2.length:=z3p ((i r).2 (sccP.refl r));have D:wkInv n (seen.set r.toNat true,[r]):=by
  refine⟨by simpa using h.sl,?_,fun x j=>by rw[x7y.1 j];exact q⟩;have I:r.toNat<(seen.set r.toNat true).length:=by simp;omega
  show 1<=_;exact List.count_pos_iff.2 (x9s.2 ⟨r.toNat,I,by simp⟩)
 have E:(ZW g.2 (n+1) 0 (seen.set r.toNat true,[r])).1.length=n:=(DC t _ _ D).1;generalize ZW g.2 (n+1) 0 (seen.set r.toNat true,[r])=w at i o l E M⊢;obtain⟨R,T⟩:=Nn l;refine⟨o,l,D,E,by rw[NO];exact h.pl,fun x j=>?_,fun x j B=>?_⟩
 .rw [M x j,i,h.seen x j,Mj H]
 .obtain ⟨z,e⟩:=Jx (Bw w.2) j w.2 h.pl o;by_cases u:x∈w.2
  .rw [z u];have C:=(i x).1 u;exact⟨C.symm.trans ((i _).1 R),fun y Y=>T y ((i y).2 (C.trans Y))⟩
  .rw [e u];refine h.min x j ?_;rcases(Mj H x).1 B with c|c
   .exact c
   .exact absurd ((i x).2 c) u
theorem PartI.fin{n:Nat}{rows:List (List Int)}(v:XG n rows){es:List Int}(u:EndsP n (rowE rows) es){part:List Int}{seen:List Bool}(h:PartI n (rowE rows) es 0 part seen):part=Xe n rows:=by
 refine z2g fun i=>?_;rcases x7m i n with j|j
 .have o:0<=(i:Int)/\(i:Int)<n:=by omega
  have q:=h.min i o (q1n u o);have r:=Xi v o;have t:=q.uniq r;have l:i<part.length:=by rw[h.pl];exact j
  have m:i<(Xe n rows).length:=by rw[DF];exact j
  simpa[x7w,l,m]using t
 .rw [x9z (by rw[h.pl];exact j),x9z (by rw[DF];exact j)]
def Xk(n:Nat)(O:n<=5000)(g:List (List Int)×List (List Int))(d:XG n g.1)(s:XG n g.2)(B:∀x y,rowE g.2 x y↔rowE g.1 y x):SpecP prog 287 [VW g] (fun r=>r=QB (Xe n g.1)):=by
 refine sB PR func287 rfl call287 ?_;conv=>whnf
 have N:((avI g.1).map AV.sl).length=n:=by simp[avI,d.1]
 repeat' ((first|(refine iM fun _=>?_)|refine aR ?_|refine wI ?_|refine z2b n (by rw[N]) (by show 1*n<=140737488355328;omega) (by unfold maxLen;omega) ?_|refine z2b n (by rw[N]) (by show 8*n<=140737488355328;omega) (by unfold maxLen;omega) ?_|(refine CallK.pure (Wp n O g d) (.cons (Sub.refl _) .nil) ?_;rintro _ ⟨es,rfl,z⟩));conv=>whnf)
 have M:es.length<=n:=by
  have f:=z.nd;exact Dg f fun x t=>(z.mem x).1 t
 have C:(es.map (AV.int .i64)).length=es.length:=x7z _;refine LoopK.inv QV (fun x:Nat×List Int×List Bool=>⟨[(0,.p (VW g)),(3,.hd 0 0 n),(4,.hd 1 0 n),(5,.p (QB es)),(6,.j ((x.1:Int)-1))],[(0,.own 3 1 (x.2.1.map (.int .i64))),(1,.own 4 1 (x.2.2.map bv))]⟩)
  (fun x=>x.1<=es.length/\PartI n (rowE g.1) es x.1 x.2.1 x.2.2) (fun x=>x.1) (es.length,List.replicate n 0,List.replicate n false)
  (Le.mk [] (by simp) (by simp) (by simp) (.r (.cons (.of_eq rfl) (.cons (.of_eq rfl) (.r (.cons (.of_eq (by rw[C];rfl)) .nil)))))
    (.cons rfl (.of_eq (by rw[z0n];rfl)) (.cons rfl (.of_eq (by rw[z0n];rfl)) .nil)))
  ⟨x7s _,PartI.start⟩ ?_
 rintro⟨m,part,seen⟩ ⟨f,o⟩;simp only at f o⊢;have T:=o.sl;have D:=o.pl;cases m with
 | zero=>
   conv=>whnf
   repeat' (apply bD<;>intro _<;>first|omega|conv=>whnf)
   exact⟨_,.hd rfl (by simp[D]),by rw[o.fin d z];rfl⟩
 | succ m=>
   obtain⟨r,u⟩ : ∃r,es[m]?=some r:=⟨_,x7x (by omega)⟩;have E:=(z.mem r).1 (x7t u);have Q:es[m]=r:=by rw[x7x (by omega)]at u;exact z0m u
   have a:(es.map (AV.int .i64))[m]?=some (.int .i64 r):=by rw[x7k,u];rfl
   have v:=q2l (l:=seen) (i:=r.toNat) (by omega);cases e:seen.getD r.toNat false with
   | true=>
     rw[e]at v;have c:=EA u ((o.seen r E).1 e);conv=>whnf
     repeat' (first|((first|refine x7g rfl ?_|refine wI ?_|(refine IdxK.at (k:=m) (by omega) a rfl ?_)|refine x8p r.toNat (by omega) (by omega) ?_|refine x9g r.toNat 0 .tt (by omega) v ?_);conv=>whnf)|(apply bD<;>intro _<;>first|omega|conv=>whnf))
     exact⟨(m,part,seen),⟨by simp only;omega,o.sl,o.pl,fun x t=>by rw[o.seen x t,c],fun x t R=>o.min x t ((c x).1 R)⟩,Nat.lt_succ_self m,Le.of_eq (by rw[show((m+1:Nat):Int)-1-1=(m:Int)-1 by omega])⟩
   | false=>
     rw[e]at v;obtain⟨J,K,L,A⟩:=o.part d s B z u e;conv=>whnf
     repeat' (first|((first|refine dA ?_|refine x7g rfl ?_|refine aD ?_|(refine IdxK.at (k:=m) (by omega) a rfl ?_)|refine x8p r.toNat (by omega) (by omega) ?_|refine x9g r.toNat 0 .ff (by omega) v ?_|refine z0d r.toNat 0 .ff .tt (by omega) v (x7s 1) rfl ?_|refine z3o (fun x t=>by rcases x7y.1 t with rfl;rfl) rfl ?_);conv=>whnf)|(apply bD<;>intro _<;>first|omega|conv=>whnf))
     have F:(ZW g.2 (n+1) 0 (seen.set r.toNat true,[r])).1.length=n:=A.sl;rw[show(seen.map bv).set r.toNat AV.tt=(seen.set r.toNat true).map bv by rw[x8o];rfl];refine cJ [(1000,1),(2000,2)] 0 (G9 n O g.2 s (seen.set r.toNat true,[r]) L) ?_;rintro l' H' ⟨rfl,rfl⟩;conv=>whnf
     have G:(ZW g.2 (n+1) 0 (seen.set r.toNat true,[r])).2.length<=n:=DI (DC s _ _ L);generalize ZW g.2 (n+1) 0 (seen.set r.toNat true,[r])=w at J K A F G⊢;repeat' ((first|(refine iM fun _=>?_)|(refine XH (MQ w.2 K) (.cons (.hd rfl (by simp)) .nil) (by rintro _ rfl;rfl) ?_;rintro _ rfl));conv=>whnf)
     refine LoopK.inv QV (fun x:Nat=>⟨[(0,.p (VW g)),(3,.hd 0 0 n),(4,.hd 1 0 n),(5,.p (QB es)),(6,.j (((m+1:Nat):Int)-1)),(8,.j (Bw w.2)),(60,.hd 2 0 w.2.length),(61,.j w.2.length),(62,.j x)],[(1,.own 4 1 (w.1.map bv)),(2,.own 3 1 (w.2.map (.int .i64))),(0,.own 3 1 ((VI (w.2.take x) (Bw w.2) part).map (.int .i64)))]⟩)
      (fun x=>x<=w.2.length) (fun x=>w.2.length-x) 0 (Le.of_eq rfl) (x7p _) ?_
     intro q P;rcases x7m q w.2.length with h|h
     .have U:=J _ (x7l h);have H:=Nj (l:=VI (w.2.take q) (Bw w.2) part) (i:=w.2[q].toNat) (by rw[NO];omega);have I:VI (w.2.take (q+1)) (Bw w.2) part=(VI (w.2.take q) (Bw w.2) part).set w.2[q].toNat (Bw w.2):=by
       unfold VI;rw[x7r h,z2h];rfl
      generalize VI (w.2.take q) (Bw w.2) part=pt at H I⊢;conv=>whnf
      repeat' (first|((first|refine x7g rfl ?_|refine wI ?_|refine x8p q (by omega) (by omega) ?_|refine x9g q 0 (.int .i64 w.2[q]) (by omega) (by simp[h]) ?_|refine x8p w.2[q].toNat (by omega) (by omega) ?_|refine z0d w.2[q].toNat 0 (.int .i64 (pt.getD w.2[q].toNat 0)) (.int .i64 (Bw w.2)) (by omega) H (x7s 1) rfl ?_);conv=>whnf)|(apply bD<;>intro _<;>first|omega|conv=>whnf))
      exact⟨q+1,h,by omega,Le.of_eq (by rw[I,x8o];rfl)⟩
     .rw [x7a h];conv=>whnf
      repeat' (first|(refine wI ?_;conv=>whnf)|(apply bD<;>intro _<;>first|omega|conv=>whnf))
      exact⟨(m,VI w.2 (Bw w.2) part,w.1),⟨by simp only;omega,A⟩,Nat.lt_succ_self m,Le.mk [] (by simp) (by simp) (by simp) (.r (.r (.r (.r (.cons (.of_eq (by rw[show(m:Int)=((m+1:Nat):Int)-1 by omega];rfl)) .nil))))) (.cons rfl (.refl _) (.cons rfl (.refl _) .nil))⟩
theorem OpK.frz{P:Program}{T:Tab}{N:Nat}{o:Oper}{K:St->Prop}{s:St}(hT:TabOK P T)(q:List (List Nat))(h:x1m q s fun s'=>opW P T N s' o K):OpK P N s o K:=⟨fun σ β a w v Q=>by
 obtain⟨z,r,j⟩:=Uc (N:=N) h;obtain⟨σ1,β1,m,i⟩:=j σ β a w v;exact Oper.wp_mono (fun y w' ⟨σ',β',x,t,l,u⟩=>⟨σ',β',x,t,l,i.trans u⟩) (DG hT r m Q)⟩
def TG{N:List (List Int)}{a:Nat}(ha:a<N.length){y:Int}{k:Nat}:y∈(Gs N a b).getD k []↔y∈N.getD k []\/(a=k/\y=b):=by
 unfold Gs;rw[ZJ ha];split
 .rename_i h;rw[Tz,h];simp
 .rename_i h;simp[h]
def CC{n:Nat}{g:List (List Int)×List (List Int)}(h:g.2.length=n)(e:Int×Int):(B9 n g e).2.length=n:=by
 rw[Kj];cases(ZB n e.1&&ZB n e.2 && !(g.1.getD e.1.toNat []).contains e.2)with
 |true=>rw[x7c];unfold Gs;rw[x9d];exact h
 |false=>exact h
structure MirG(n:Nat)(g:List (List Int)×List (List Int)):Prop where
 l1:g.1.length=n
 l2:g.2.length=n
 m:∀x y:Int,0<=x/\x<n->0<=y/\y<n->(y∈g.1.getD x.toNat []↔x∈g.2.getD y.toNat [])
theorem MirG.add{n:Nat}{g:List (List Int)×List (List Int)}(h:MirG n g)(e:Int×Int):MirG n (B9 n g e):=by
 refine⟨RD h.l1 e,CC h.l2 e,fun x y l o=>?_⟩;rw[U1,Kj];cases j:(ZB n e.1&&ZB n e.2 && !(g.1.getD e.1.toNat []).contains e.2)with
 | true=>
   simp only[x7i]at j;have r:=XO j.1.1;have t:=XO j.1.2;rw[x7c,x7c,TG (by rw[h.l1];omega),TG (by rw[h.l2];omega),h.m x y l o];constructor
   .rintro (i|⟨i,q⟩)
    .exact .inl i
    .exact .inr ⟨by omega,by omega⟩
   .rintro (i|⟨i,q⟩)
    .exact .inl i
    .exact .inr ⟨by omega,by omega⟩
 |false=>exact h.m x y l o
theorem MirG.fold{n:Nat}:∀(l:List (Int×Int)){g:List (List Int)×List (List Int)},MirG n g->MirG n (l.foldl (B9 n) g)
 |[],_,h=>h
 |e::r,_,h=>MirG.fold r (h.add e)
def Nw(n:Nat)(l:List (Int×Int)):MirG n (QL n l):=by
 refine MirG.fold l ⟨by simp,by simp,fun x y _ _=>?_⟩;have:∀k,(List.replicate n ([]:List Int)).getD k []=[]:=fun k=>by
  rw[x7w,x8g];split<;>rfl
 simp only[this];simp
def Rm{n:Nat}{rows:List (List Int)}(k:rows.length=n){x y:Int}(h:rowE rows x y):0<=x/\x<n:=by
 refine⟨h.1,?_⟩;have i:=h.2;unfold Dh at i;rcases x7m x.toNat rows.length with j|j
 .omega
 .rw [x7w,x9z j]at i;simp at i
def SK(n:Nat)(l:List (Int×Int))(x y:Int):rowE (QL n l).2 x y↔rowE (QL n l).1 y x:=by
 obtain⟨o,p⟩:=JD n l;have j:=Nw n l;constructor
 .intro h;have k:=Rm j.l2 h;have i:=DP p h.2;exact⟨i.1,(j.m y x i k).2 h.2⟩
 .intro h;have k:=Rm j.l1 h;have i:=DP o h.2;exact⟨i.1,(j.m y x k i).1 h.2⟩
def Xh{n:Nat}{l:List (Int×Int)}{x y:Int}:rowE (QL n l).1 x y↔(x,y)∈l/\ZB n x=true/\ZB n y=true:=by
 constructor
 .intro h;have i:=Rm (Nw n l).l1 h;have:=(BH i).1 h.2;exact⟨this.1,DW i,this.2⟩
 .rintro ⟨j,k,m⟩;have i:=XO k;exact⟨i.1,(BH i).2 ⟨j,m⟩⟩
def Xc(part:List Int)(o:List Bool)(t:Int×Int):List Bool:=if part.getD t.1.toNat 0=part.getD t.2.toNat 0 then o else o.set (part.getD t.1.toNat 0).toNat true
def K7(n:Nat)(part:List Int):List Bool:=((List.replicate n false).set (part.getD 0 0).toNat true).set (part.getD (n-1) 0).toNat true
def Dz(n:Nat)(part:List Int)(h:List (Int×Int)):List Bool:=h.foldl (Xc part) (K7 n part)
def DT(h:Int->Int)(part:List Int)(i q:Nat):List Int:=((List.range q).filter fun j=>part.getD j 0==(i:Int)).map fun(j:Nat)=>h j
def Jg(part:List Int)(op:List Bool)(i:Nat):Bool:=part.getD i 0==(i:Int) && !op.getD i false
def Z9(h:Int->Int)(part:List Int)(op:List Bool)(q:Nat):List (List Int):=((List.range q).filter (Jg part op)).map fun i=>DT h part i part.length
def prsW(w:Way)(f:Pr):List (Int×Int):=w.real.map (ixP w.p w.j f w.n)
def VC(w:Way)(f:Pr):List Int:=Xe w.n.toNat (QL w.n.toNat (prsW w f)).1
def trapsW(w:Way)(f:Pr):List (List Int):=Z9 (QT w.p w.j w.n) (VC w f) (Dz w.n.toNat (VC w f) (prsW w f)) (VC w f).length
def M4(part:List Int)(o:List Bool)(t:Int×Int):(Xc part o t).length=o.length:=by
 unfold Xc;split<;>simp
def TQ{n:Nat}{rows:List (List Int)}(h:XG n rows){k:Nat}(j:k<n):0<=(Xe n rows).getD k 0/\(Xe n rows).getD k 0<n:=by
 have i:0<=(k:Int)/\(k:Int)<n:=by omega
 have:=Xi h i;exact TF h i this.scc.1
def Cc(j:Int->Int)(part:List Int)(i q:Nat):DT j part i (q+1)=if part.getD q 0=(i:Int)then DT j part i q++[j q]else DT j part i q:=by
 unfold DT;rw[z1c,z0u,x7n];by_cases h:part.getD q 0=(i:Int)
 .rw [if_pos h,z0x (by rw[h];simp)];rfl
 .rw [if_neg h,z0j (by simpa using h)];simp
def Cs(i:Int->Int)(part:List Int)(op:List Bool)(q:Nat):Z9 i part op (q+1)=if Jg part op q=true then Z9 i part op q++[DT i part q part.length]else Z9 i part op q:=by
 unfold Z9;rw[z1c,z0u,x7n];by_cases h:Jg part op q=true
 .rw [if_pos h,z0x h];rfl
 .rw [if_neg h,z0j h];simp
def Mt(h:Int->Int)(part:List Int)(i q:Nat):(DT h part i q).length<=q:=by
 unfold DT;rw[x7z];exact x8m (x9n _ _) (by simp)
def Mr(h:Int->Int)(part:List Int)(op:List Bool)(q:Nat):(Z9 h part op q).length<=q:=by
 unfold Z9;rw[x7z];exact x8m (x9n _ _) (by simp)
theorem M3(part:List Int):∀(l:List (Int×Int))(o:List Bool),(l.foldl (Xc part) o).length=o.length
 |[],_=>rfl
 |t::r,o=>by rw[z0b,M3 part r,M4]
def Ee(n:Nat)(part:List Int)(l:List (Int×Int)):(l.foldl (Xc part) (K7 n part)).length=n:=by
 rw[M3];simp[K7]
def B4(w:Way)(f:Pr)(n:Nat)(L:w.n=n)(P:w.p.A[w.j]?=some f)(O:cntP w.p.A<=1000)(hn:n<=5000)(hn2:2<=n)(y:w.real.length<=1000000)(hr:∀t∈prsW w f,(0<=t.1/\t.1<n)/\0<=t.2/\t.2<n):SpecP prog 232 [.ip w.cells] (fun r=>r=eMat (trapsW w f)):=by
 refine sB Vo func232 rfl call232 ?_;conv=>whnf
 have d:=JD n (prsW w f);have u:VC w f=Xe n (QL n (prsW w f)).1:=by unfold VC;rw[L];rfl
 have J:trapsW w f=Z9 (QT w.p w.j w.n) (VC w f) (Dz n (VC w f) (prsW w f)) n:=by unfold trapsW;rw[u,DF,L];rfl
 have v:∀k,k<n->0<=(VC w f).getD k 0/\(VC w f).getD k 0<n:=fun k hk=>by rw[u];exact TQ d.1 hk
 have g:(VC w f).length=n:=by rw[u,DF]
 have c:=Xk n hn (QL n (prsW w f)) d.1 d.2 (SK n (prsW w f));rw[<-u]at c;rw[J];clear J u d;generalize VC w f=part at v g c⊢;have ha0:=v 0 (by omega);have ha1:=v (n-1) (by omega);have G:=Nj (l:=part) (i:=0) (by omega);have H:=Nj (l:=part) (i:=n-1) (by omega);have e0:(List.replicate n AV.ff)[(part.getD 0 0).toNat]?=some .ff:=by rw[x8g,if_pos (by omega)]
 have e1:((List.replicate n AV.ff).set (part.getD 0 0).toNat .tt)[(part.getD (n-1) 0).toNat]?=some (bv (((List.replicate n false).set (part.getD 0 0).toNat true).getD (part.getD (n-1) 0).toNat false)):=by
  have:(List.replicate n AV.ff).set (part.getD 0 0).toNat .tt=((List.replicate n false).set (part.getD 0 0).toNat true).map bv:=by
   rw[x8o,z0n];rfl
  rw[this];exact q2l (by rw[x9d,x9w];omega)
 have hplm:(part.map (AV.int .i64)).length=n:=by rw[x7z,g]
 repeat' ((first|(refine iM fun _=>?_)|refine dA ?_|refine x7g rfl ?_|refine aR ?_|refine wI ?_|refine cP (B5 w f n L P O hn w.real y) ?_|refine cP c ?_|refine z2b n L (by show 1*n<=140737488355328;omega) (by unfold maxLen;omega) ?_|(refine IdxK.at (k:=0) rfl G rfl ?_)|(refine IdxK.at (k:=n-1) (by omega) H rfl ?_)|refine x8p (part.getD 0 0).toNat (by omega) (by omega) ?_|refine x8p (part.getD (n-1) 0).toNat (by omega) (by omega) ?_|refine z0d (part.getD 0 0).toNat 0 .ff .tt (show(0+(part.getD 0 0).toNat)*1=(part.getD 0 0).toNat*1+0 by omega) e0 (x7s 1) rfl ?_|(refine CallK.pure (JU w f P O (by omega) w.real y) (.cons (Sub.refl _) (.cons (Sub.refl _) .nil)) ?_;rintro _ rfl)|(refine z0d (part.getD (n-1) 0).toNat 0 _ .tt (show(0+(part.getD (n-1) 0).toNat)*1=(part.getD (n-1) 0).toNat*1+0 by omega) e1 (x7s 1) (by cases((List.replicate n false).set (part.getD 0 0).toNat true).getD (part.getD (n-1) 0).toNat false<;>rfl) ?_));conv=>whnf)
 have hprl:(prsW w f).length<=1000000:=by unfold prsW;rw[x7z];exact y
 have hpl2:(avP (prsW w f)).length=(prsW w f).length:=by simp[avP]
 refine LoopK.inv QV (fun x:Nat×List Bool=>⟨[(0,.p (.ip w.cells)),(3,.p (QB part)),(4,.hd 0 0 n),(43,.p (.sl (avP (prsW w f)))),(44,.p (.int .i64 (avP (prsW w f)).length)),(45,.j x.1)],[(0,.own 4 1 (x.2.map bv))]⟩)
  (fun x=>x.1<=(prsW w f).length/\x.2=((prsW w f).take x.1).foldl (Xc part) (K7 n part)) (fun x=>(prsW w f).length-x.1) (0,K7 n part)
  (Le.mk [] (by simp) (by simp) (by simp) (.r (.r (.r (.r (.r (.r .nil)))))) (.cons rfl (.of_eq (by unfold K7;rw[x8o,x8o,z0n];rfl)) .nil))
  ⟨x7p _,rfl⟩ ?_
 rintro⟨m,o⟩ ⟨h1,C⟩;simp only at h1 C⊢;have hol:o.length=n:=by rw[C];exact Ee n part _
 rcases x7m m (prsW w f).length with E|E
 .obtain ⟨⟨h3,h4⟩,h5,h6⟩:=hr _ (x7l E);have h7:=v (prsW w f)[m].1.toNat (by omega);have h8:=v (prsW w f)[m].2.toNat (by omega);have e2:=Nj (l:=part) (i:=(prsW w f)[m].1.toNat) (by omega);have B:=Nj (l:=part) (i:=(prsW w f)[m].2.toNat) (by omega);have e4:=q2l (l:=o) (i:=(part.getD (prsW w f)[m].1.toNat 0).toNat) (by omega);have Q:(avP (prsW w f))[m]?=some (.agg [.int .i64 (prsW w f)[m].1,.int .i64 (prsW w f)[m].2]):=by simp[avP,E]
  have e5:((prsW w f).take (m+1)).foldl (Xc part) (K7 n part)=Xc part o (prsW w f)[m]:=by rw[x7r E,z2h,<-C];rfl
  conv=>whnf
  repeat' (first|((first|refine dA ?_|refine x7g rfl ?_|refine wI ?_|(refine IdxK.at (k:=m) rfl Q rfl ?_)|refine x8p 0 rfl (by decide) ?_|refine x8p 1 rfl (by decide) ?_|(refine IdxK.at (k:=(prsW w f)[m].1.toNat) (by omega) e2 rfl ?_)|(refine IdxK.at (k:=(prsW w f)[m].2.toNat) (by omega) B rfl ?_)|refine x8p (part.getD (prsW w f)[m].1.toNat 0).toNat (by omega) (by omega) ?_|refine z0d (part.getD (prsW w f)[m].1.toNat 0).toNat 0 _ .tt (by omega) e4 (x7s 1) (by cases o.getD (part.getD (prsW w f)[m].1.toNat 0).toNat false<;>rfl) ?_);conv=>whnf)|(apply bD<;>intro _<;>first|omega|conv=>whnf)|(apply bE<;>intro _<;>first|omega|conv=>whnf))
  all_goals first
   | (have e:part.getD (prsW w f)[m].1.toNat 0=part.getD (prsW w f)[m].2.toNat 0:=by assumption
      exact⟨(m+1,o),⟨by simp only;omega,by simp only;rw[e5];unfold Xc;rw[if_pos e]⟩,by simp only;omega,Le.of_eq rfl⟩)
   | (have e:¬part.getD (prsW w f)[m].1.toNat 0=part.getD (prsW w f)[m].2.toNat 0:=by assumption
      exact⟨(m+1,o.set (part.getD (prsW w f)[m].1.toNat 0).toNat true),⟨by simp only;omega,by simp only;rw[e5];unfold Xc;rw[if_neg e]⟩,by simp only;omega,Le.of_eq (by simp only[x8o];rfl)⟩)
 .rw [x7a E]at C;have F:Dz n part (prsW w f)=o:=C.symm;rw[F];clear F C e0 e1 G H c;conv=>whnf
  repeat' (first|(refine iM fun _=>?_;conv=>whnf)|(apply bD<;>intro _<;>first|omega|conv=>whnf))
  refine LoopK.inv QV (fun q:Nat=>⟨[(0,.p (.ip w.cells)),(3,.p (QB part)),(4,.hd 0 0 n),(7,.hd 1 0 (Z9 (QT w.p w.j w.n) part o q).length),(69,.p (.int .i64 (part.map (AV.int .i64)).length)),(70,.j q)],[(0,.own 4 1 (o.map bv)),(1,.own 54 1 ((avI (Z9 (QT w.p w.j w.n) part o q)).map AV.sl))]⟩)
   (fun q=>q<=n) (fun q=>n-q) 0
   (Le.mk [(1,.own 54 1 [])] (by simp[Chunk.new0];rfl) (by simp) (by simp) (.r (.r (.r (.cons (.nil x7v) (.r (.r .nil)))))) (.cons rfl (.refl _) (.new x7v .nil)))
   (x7p _) ?_
  intro q hqn;have M:=Mr (QT w.p w.j w.n) part o q;rcases x7m q n with e|e
  .have e2:=Nj (l:=part) (i:=q) (by omega);have B:=q2l (l:=o) (i:=q) (by omega);have s:=Cs (QT w.p w.j w.n) part o q;generalize Z9 (QT w.p w.j w.n) part o q=acc at M s⊢;have hpe:part[q]=part.getD q 0:=by rw[x7w,x7x];rfl
   cases K:o.getD q false with
   | true=>
     rw[K]at B;have I:¬Jg part o q=true:=by unfold Jg;rw[K];simp
     rw[if_neg I]at s;conv=>whnf
     repeat' (first|((first|refine x7g rfl ?_|(refine iA fun _=>?_)|refine wI ?_|refine x8p q rfl (by omega) ?_|refine x9g q 0 .tt (by omega) B ?_);conv=>whnf)|(apply bD<;>intro _<;>first|omega|conv=>whnf)|(apply bE<;>intro _<;>first|omega|conv=>whnf))
     all_goals exact⟨q+1,e,by omega,Le.of_eq (by rw[s];rfl)⟩
   | false=>
     rw[K]at B;conv=>whnf
     repeat' (first|((first|(refine iM fun _=>?_)|refine x7g rfl ?_|(refine iA fun _=>?_)|refine wI ?_|refine x8p q rfl (by omega) ?_|refine x9g q 0 .ff (by omega) B ?_);conv=>whnf)|(apply bD<;>intro _<;>first|omega|conv=>whnf)|(apply bE<;>intro _<;>first|omega|conv=>whnf))
     all_goals try
      have R:¬part.getD q 0=(q:Int):=by omega
      have I:¬Jg part o q=true:=fun h=>by
       unfold Jg at h;rw[x7i,z1e]at h;exact R h.1
      rw[if_neg I]at s;exact⟨q+1,e,by omega,Le.of_eq (by rw[s];rfl)⟩
     have T:part.getD q 0=(q:Int):=by omega
     have I:Jg part o q=true:=by unfold Jg;rw[K,T];simp
     rw[if_pos I,g]at s;refine LoopK.inv QV (fun z:Nat=>⟨[(0,.p (.ip w.cells)),(3,.p (QB part)),(4,.hd 0 0 n),(7,.hd 1 0 acc.length),(8,.j q),(9,.hd 2 0 (DT (QT w.p w.j w.n) part q z).length),(69,.p (.int .i64 (part.map (AV.int .i64)).length)),(70,.j q),(86,.p (.int .i64 (part.map (AV.int .i64)).length)),(87,.j z)],[(0,.own 4 1 (o.map bv)),(1,.own 54 1 ((avI acc).map AV.sl)),(2,.own 3 1 ((DT (QT w.p w.j w.n) part q z).map (.int .i64)))]⟩)
      (fun z=>z<=n) (fun z=>n-z) 0
      (Le.mk [(2,.own 3 1 [])] (by simp[Chunk.new0];rfl) (by simp) (by simp) (.r (.r (.r (.r (.r (.cons (.nil x7v) (.r (.r (.r (.r .nil)))))))))) (.cons rfl (.refl _) (.cons rfl (.refl _) (.new x7v .nil))))
      (x7p _) ?_
     intro z hzn;have N:=Mt (QT w.p w.j w.n) part q z;rcases x7m z n with Y|Y
     .have e4:=Nj (l:=part) (i:=z) (by omega);have a:=Cc (QT w.p w.j w.n) part q z;generalize DT (QT w.p w.j w.n) part q z=l at N a⊢;conv=>whnf
      repeat' (first|((first|refine x7g rfl ?_|refine aD ?_|refine bP ?_|(refine iA fun _=>?_)|refine wI ?_|(refine CallK.pure (UX w f P O (by omega) z (by omega)) (.cons (Sub.refl _) (.cons (Sub.refl _) .nil)) ?_;rintro _ rfl)|refine XX (by simp) (by simp;omega) ?_);conv=>whnf)|(apply bD<;>intro _<;>first|omega|conv=>whnf))
      have U:part[z]=part.getD z 0:=by rw[x7w,x7x];rfl
      .rw [if_pos (by omega)]at a;exact⟨z+1,Y,by omega,Le.of_eq (by rw[a,x7u,x7n];rfl)⟩
      .have U:part[z]=part.getD z 0:=by rw[x7w,x7x];rfl
       rw[if_neg (by omega)]at a;exact⟨z+1,Y,by omega,Le.of_eq (by rw[a];rfl)⟩
     .have Z:z=n:=by omega
      subst Z;conv=>whnf
      repeat' (apply bD<;>intro _<;>first|omega|conv=>whnf)
      have D:(DT (QT w.p w.j w.n) part q z).length=((DT (QT w.p w.j w.n) part q z).map (AV.int .i64)).length:=by simp
      refine OpK.frz QV [[9,104]] ?_;conv=>whnf
      refine LenK.mk D ?_;conv=>whnf
      refine LenK.mk D ?_;conv=>whnf
      repeat' ((first|refine x7g rfl ?_|refine aD ?_|refine bP ?_|refine wI ?_|refine z0w (by simp[avI]) rfl (by show(acc.length+1)*24<=140737488355328;omega) (by show acc.length+1<=9223372036854775807;omega) (fun x hx=>by rcases x7y.1 hx with rfl;exact⟨rfl,rfl⟩) ?_);conv=>whnf)
      exact⟨q+1,e,by omega,Le.of_eq (by rw[s];simp only[avI,x7u,x7n];rfl)⟩
  .have V:q=n:=by omega
   subst V;conv=>whnf
   repeat' (apply bD<;>intro _<;>first|omega|conv=>whnf)
   exact⟨_,.hd rfl (by simp[avI]),rfl⟩
def vOf(p:Pg)(id:Int):List Step:=match IT p id with
 |some s=>if s.kind=10 then [⟨id,-1,3⟩]else []
 |none=>[]
def YG(w:Way)(f:Pr):List Step:=(trapsW w f).flatMap fun l=>l.flatMap (vOf w.p)
def q7s(p:Pg)(id:Int):(vOf p id).length<=1:=by
 unfold vOf;split
 .split<;>simp
 .simp
theorem WI{α β:Type}{g:α->List β}{c:Nat}:∀(l:List α),(∀x∈l,(g x).length<=c)->(l.flatMap g).length<=l.length*c
 |[],_=>by simp
 | a::r,h=>by
   have j:=h a x7v;have k:=WI r fun x i=>h x (x7j _ i);rw[x9v,x7u,x8j,x9a];omega
def RG(w:Way)(f:Pr)(n:Nat)(Z:w.n=n)(O:w.p.A[w.j]?=some f)(N:cntP w.p.A<=1000)(R:n<=5000)(C:2<=n)(a:w.real.length<=1000000)(T:∀t∈prsW w f,(0<=t.1/\t.1<n)/\0<=t.2/\t.2<n)(D:(trapsW w f).length<=5000)(d:∀l∈trapsW w f,l.length<=5000/\∀id∈l,1<=id/\id<=(sheetOf w.p).l.length):
  SpecH prog 183 [.p (.ip w.cells)] [] (fun r H=>r=.hd 0 0 (YG w f).length/\H=[(0,.own 232 3 (avS (YG w f)))]):=by
 refine sH X4 func183 rfl call183 ?_;conv=>whnf
 repeat' ((first|(refine iM fun _=>?_)|refine cP (B4 w f n Z O N R C a T) ?_);conv=>whnf)
 unfold YG;generalize trapsW w f=ts at D d⊢;have Q:((avI ts).map AV.sl).length=ts.length:=by simp[avI]
 refine LoopK.inv QV (fun x:Nat×List Step=>⟨[(0,.p (.ip w.cells)),(3,.hd 0 0 x.2.length),(9,.p (eMat ts)),(10,.p (.int .i64 ((avI ts).map AV.sl).length)),(11,.j x.1)],[(0,.own 232 3 (avS x.2))]⟩)
  (fun x=>x.1<=ts.length/\x.2.length<=x.1*5000/\x.2++(ts.drop x.1).flatMap (fun l=>l.flatMap (vOf w.p))=ts.flatMap fun l=>l.flatMap (vOf w.p)) (fun x=>ts.length-x.1) (0,[])
  (Le.mk [(0,.own 232 3 [])] (by simp[Chunk.new0];rfl) (by simp) (by simp) (.r (.cons (.nil x7v) (.r (.r (.r .nil))))) (.new x7v .nil))
  ⟨x7p _,by simp,rfl⟩ ?_
 rintro⟨m,e⟩ ⟨J,K,q⟩;simp only at J K q⊢;rcases x7m m ts.length with v|v;rotate_left 1
 .rw [x7e v,z3i,x9q]at q;conv=>whnf
  repeat' (apply bD<;>intro _<;>first|omega|conv=>whnf)
  exact⟨_,x8z _,by rw[q],by rw[q]⟩
 obtain⟨B,z⟩:=d _ (x7l v);have G:((avI ts).map AV.sl)[m]?=some (.sl (ts[m].map (.int .i64))):=by simp[avI,v]
 rw[KW v]at q;conv=>whnf
 repeat' (first|((first|(refine iM fun _=>?_)|(refine iA fun _=>?_));conv=>whnf)|(apply bD<;>intro _<;>first|omega|conv=>whnf))
 have g:(avI ts)[m]'(by simp[avI];exact v)=ts[m].map (.int .i64):=by simp[avI]
 rw[g];generalize ts[m]=l at B z q⊢;have P:(l.map (AV.int .i64)).length=l.length:=x7z _;generalize I:(ts.flatMap fun l=>l.flatMap (vOf w.p))=tot at q⊢;refine LoopK.inv QV (fun x:Nat×List Step=>⟨[(0,.p (.ip w.cells)),(3,.hd 0 0 x.2.length),(9,.p (eMat ts)),(10,.p (.int .i64 ((avI ts).map AV.sl).length)),(11,.j m),(15,.p (QB l)),(16,.p (.int .i64 (l.map (AV.int .i64)).length)),(17,.j x.1)],[(0,.own 232 3 (avS x.2))]⟩)
  (fun x=>x.1<=l.length/\x.2.length<=m*5000+x.1/\x.2++((l.drop x.1).flatMap (vOf w.p)++(ts.drop (m+1)).flatMap (fun l=>l.flatMap (vOf w.p)))=tot) (fun x=>l.length-x.1) (0,e) (Le.of_eq rfl) ⟨x7p _,by simp only;omega,q⟩ ?_
 rintro⟨k,h⟩ ⟨L,M,o⟩;simp only at L M o⊢;rcases x7m k l.length with y|y;rotate_left 1
 .rw [x7e y]at o;conv=>whnf
  repeat' (first|(refine wI ?_;conv=>whnf)|(apply bD<;>intro _<;>first|omega|conv=>whnf))
  exact⟨(m+1,h),⟨v,by simp only;omega,by simpa using o⟩,by simp only;omega,Le.of_eq rfl⟩
 obtain⟨h7,h8⟩:=z _ (x7l y);obtain⟨_,_,_,U,_⟩:=QU w.p;have c:(l[k]-1).toNat<(sheetOf w.p).l.length:=by omega
 have V:∃u:Item,((sheetOf w.p).l.map fun i=>AV.agg i.cells)[(l[k]-1).toNat]?=some (.agg u.cells)/\IT w.p l[k]=some u.s:=⟨_,by rw[x7k,x7x c];rfl,by unfold IT;rw[x7x c];rfl⟩;obtain⟨u,E,F⟩:=V;rw[KW y]at o;have Y:vOf w.p l[k]=if u.s.kind=10 then [⟨l[k],-1,3⟩]else []:=by unfold vOf;rw[F]
 rw[Y]at o;conv=>whnf
 repeat' (first|((first|refine x7g rfl ?_|refine aD ?_|refine bP ?_|(refine iA fun _=>?_)|refine wI ?_|(refine IdxK.at (by omega) E rfl ?_)|refine z0w (by simp[avS]) rfl (by show(h.length+1)*24<=140737488355328;omega) (by show h.length+1<=9223372036854775807;omega) (fun x hx=>by rcases x7y.1 hx with rfl;exact⟨rfl,rfl⟩) ?_);conv=>whnf)|(apply bD<;>intro _<;>first|omega|conv=>whnf))
 .rw [if_pos (by assumption)]at o;exact⟨(k+1,h++[⟨l[k],-1,3⟩]),⟨y,by simp;omega,by simpa using o⟩,by simp only;omega,Le.of_eq (by simp only[avS,x7u,x7n];rfl)⟩
 .rw [if_neg (by assumption)]at o;exact⟨(k+1,h),⟨y,by simp only;omega,by simpa using o⟩,by simp only;omega,Le.of_eq rfl⟩
def fOf(it:Item):List Step:=if it.s.kind=7\/it.s.kind=8\/it.s.kind=9\/it.s.kind=10 then [⟨it.s.id,it.next,2⟩]else []
structure WayT(w:Way)(f:Pr)(n:Nat):Prop where
 hw:w.n=n
 hj:w.p.A[w.j]?=some f
 hc:cntP w.p.A<=1000
 hn:n<=5000
 hn2:2<=n
 hlen:w.real.length<=1000000
 hr:∀t∈prsW w f,(0<=t.1/\t.1<n)/\0<=t.2/\t.2<n
 htl:(trapsW w f).length<=5000
 hti:∀l∈trapsW w f,l.length<=5000/\∀id∈l,1<=id/\id<=(sheetOf w.p).l.length
 hok:∀s∈w.real,okSt s
 hfk:∀it∈itsOf w.p w.j f,∀s∈fOf it,okSt s
def q7c{p:Pg}{id:Int}{s:Step}(h:s∈vOf p id):s=⟨id,-1,3⟩:=by
 unfold vOf at h;split at h
 .split at h
  .simpa using h
  .simp at h
 .simp at h
theorem WayT.virt_ok{w:Way}{f:Pr}{n:Nat}(h:WayT w f n):∀s∈YG w f,okSt s:=fun s i=>by
 unfold YG at i;obtain⟨l,m,i⟩:=x8h.1 i;obtain⟨id,j,i⟩:=x8h.1 i;obtain⟨_,_,_,o,_⟩:=QU w.p;have q:=(h.hti l m).2 id j;have r:=h.hc;rw[q7c i];exact⟨by show id≠_;omega,by show(-1:Int)≠_;decide⟩
theorem WayT.virt_len{w:Way}{f:Pr}{n:Nat}(h:WayT w f n):(YG w f).length<=25000000:=by
 have m:=WI (g:=fun l=>l.flatMap (vOf w.p)) (c:=5000) (trapsW w f) fun l j=>by
  have i:=WI (g:=vOf w.p) (c:=1) l fun id _=>q7s w.p id;have o:=(h.hti l j).1;omega
 have i:=h.htl;unfold YG;omega
def LK(w:Way)(f:Pr):List Step:=WC (YG w f++w.real)
def Kd(w:Way)(f:Pr):List Step:=YG w f++w.real++[⟨0,-1,2⟩]++(itsOf w.p w.j f).flatMap fOf
def x5c(w:Way)(f:Pr):List Step:=WC (Kd w f)
def W6(w:Way)(f:Pr)(n:Nat)(h:WayT w f n):SpecP prog 111 [.ip w.cells] (fun r=>r=eSteps (LK w f)):=by
 refine sB Ja func111 rfl call111 ?_;conv=>whnf
 have o:=h.hlen;have q:=h.virt_len;have k:=h.virt_ok;repeat' (first|((first|refine dA ?_|refine aD ?_);conv=>whnf)|(refine cH [] 0 (RG w f n h.hw h.hj h.hc h.hn h.hn2 h.hlen h.hr h.htl h.hti) ?_ (hH:=z0z);conv=>whnf))
 have j:(w.real.map fun s=>AV.agg s.cells).length=w.real.length:=x7z _;have m:(avS (YG w f)).length=(YG w f).length:=by simp[avS]
 refine z0w m.symm rfl (by rw[j];show((YG w f).length+w.real.length)*24<=140737488355328;omega) (by rw[j];show(YG w f).length+w.real.length<=9223372036854775807;omega) (fun x t=>by obtain⟨s,_,rfl⟩:=x7d.1 t;exact⟨rfl,rfl⟩) ?_;conv=>whnf
 have i:avS (YG w f)++(w.real.map fun s=>AV.agg s.cells)=avS (YG w f++w.real):=by simp[avS]
 have l:(YG w f).length+(w.real.map fun s=>AV.agg s.cells).length=(YG w f++w.real).length:=by simp
 rw[i,l];repeat' (refine cH rH2 0 (Pa (YG w f++w.real) (fun s p=>(x7b.1 p).elim (k s) (h.hok s)) (by rw[x7u];omega)) ?_;conv=>whnf)
 exact⟨_,.hd rfl (by simp[avS]),rfl⟩
structure MayF(p:Pg):Prop where
 gl:p.B.length<=16
 pl:p.A.length<=16
 gn:namesB p.B=true
 pr:∀f∈p.A,f.C.length<=8/\f.F.length<=16/\isName f.name=true/\namesB f.F=true/\namesB f.fin=true/\(f.C.all fun a=>isName a.name)=true
 len:(allR p).length<=200
 its:∀(k:Nat)(x:RI),(allR p)[k]?=some x->x.s.id=(k:Int)+1/\x.deep<=12/\oneOk x.s=true
def JB{p:Pg}(h:KR p=true):MayF p:=by
 obtain⟨j,l,m,n⟩:=BD h;refine⟨j,l,m,fun f o=>YV.1 (n f o).1,?_,fun k x i=>?_⟩
 .rw [U3 h,RN];exact(WO h).2.2
 .rw [U3 h]at i;exact⟨O9 h i,q4d h x (x7t i)⟩
def Pr0:Pr:=⟨[],[],[],[],[]⟩
def XW(l:List Str)(j:l.length<=1000000):SpecP prog 83 [eStrs l] (fun r=>r=eStrs l):=by
 refine sB BA func83 rfl call83 ?_;conv=>whnf
 have h:(l.map AV.str).length=l.length:=x7z _;repeat' (refine aD ?_;conv=>whnf)
 refine z0w rfl rfl (by rw[h];show(0+l.length)*16<=140737488355328;omega) (by rw[h];show 0+l.length<=9223372036854775807;omega) (fun x i=>by obtain⟨s,_,rfl⟩:=x7d.1 i;exact⟨rfl,rfl⟩) ?_;conv=>whnf
 skip
 exact⟨_,.hd rfl (by simp),rfl⟩
def PJ:List Str->Nat
 |[]=>0
 |s::r=>1+s.length+PJ r
mutual
def gX:X->Nat
 |.mk _ _ name kids=>1+name.length+gXs kids
def gXs:List X->Nat
 |[]=>0
 |x::r=>gX x+gXs r
end
def K0:List Arg->Nat
 |[]=>0
 |a::r=>gX a.x+(1+a.name.length)+K0 r
mutual
def gS:S->Nat
 |.mk _ _ G name D x _ args L M=>gX x+PJ G+(1+name.length)+(1+D.length)+K0 args+gL L+gL M
def gL:List S->Nat
 |[]=>0
 |s::r=>gS s+gL r
end
def IB:List Param->Nat
 |[]=>0
 |a::r=>1+a.name.length+IB r
def gPr(f:Pr):Nat:=1+f.name.length+PJ f.F+PJ f.fin+IB f.C+gL f.body
def R5:List Pr->Nat
 |[]=>0
 |f::r=>gPr f+R5 r
def gPg(p:Pg):Nat:=PJ p.B+R5 p.A
def x2h(s:S):gS s=gX s.x+PJ s.G+(1+s.name.length)+(1+s.D.length)+K0 s.args+gL s.L+gL s.M:=by
 cases s;rw[gS];rfl
theorem L1:∀l:List Str,CV l<=PJ l
 |[]=>x7s _
 |s::r=>by have:=L1 r;simp only[CV,PJ];omega
mutual
theorem x5z:∀x:X,wX x<=gX x
 |.mk _ _ name kids=>by have:=x1g kids;rw[wX,gX];omega
theorem x1g:∀l:List X,wXs l<=gXs l
 |[]=>by rw[wXs];omega
 |x::r=>by have:=x5z x;have:=x1g r;rw[wXs,gXs];omega
end
theorem ID:∀l:List Arg,PV l<=K0 l
 |[]=>x7s _
 |a::r=>by have:=ID r;have:=x5z a.x;simp only[PV,K0];omega
mutual
theorem x6i:∀s:S,wS s<=gS s
 | .mk _ _ G name D x _ args L M=>by
   have:=x5z x;have:=L1 G;have:=ID args;have:=x1a L;have:=x1a M;rw[wS,gS];omega
theorem x1a:∀l:List S,wL l<=gL l
 |[]=>by rw[wL];omega
 |s::r=>by have:=x6i s;have:=x1a r;rw[wL,gL];omega
end
theorem q4v:∀l:List Param,q7e l<=IB l
 |[]=>x7s _
 |a::r=>by have:=q4v r;simp only[q7e,IB];omega
theorem q4u:∀l:List Pr,q7i l<=R5 l
 |[]=>x7s _
 | f::r=>by
   have:=q4u r;have:=L1 f.F;have:=L1 f.fin;have:=q4v f.C;have:=x1a f.body;simp only[q7i,R5,wPr,gPr];omega
def x5x(p:Pg):wPg p<=gPg p:=by
 have:=L1 p.B;have:=q4u p.A;unfold wPg gPg;omega
def XJ(x:Int):Int:=if x>20000 then 20001 else x
def ZZ{a:Int}(h:0<=b):XJ (XJ a+b)=XJ (a+b):=by
 unfold XJ;split<;>split<;>(try split)<;>omega
def XA{a:Int}(h:0<=a):0<=XJ a/\XJ a<=20001:=by
 unfold XJ;split<;>omega
def Dd{a:Int}(h:a<=20001):XJ a=a:=by
 unfold XJ;split<;>omega
def YJ{a:Int}(h:a>20000)(i:a<=20001)(j:0<=b):a=XJ (a+b):=by
 unfold XJ;split<;>omega
def QC(s:Str)(n:Int)(h:0<=n/\n<=20001):SpecP prog 46 [.str s,.int .i64 n] (fun r=>r=.int .i64 (XJ (n+(1+s.length:Nat)))):=by
 refine sB KO func46 rfl call46 ?_;conv=>whnf
 repeat' (first|((first|(refine iM fun _=>?_)|refine wI ?_);conv=>whnf)|(apply bD<;>intro _<;>first|omega|conv=>whnf))
 all_goals exact RetK.int (by unfold XJ;(repeat' split)<;>omega)
def XB(l:List Str)(n:Int)(s:0<=n/\n<=20001):SpecP prog 45 [eStrs l,.int .i64 n] (fun r=>r=.int .i64 (XJ (n+PJ l))):=by
 refine sB KB func45 rfl call45 ?_;conv=>whnf
 skip
 have t:(l.map AV.str).length=l.length:=x7z _;refine LoopK.inv QV (fun x:Nat×Int=>⟨[(0,.p (eStrs l)),(1,.j x.2),(5,.j x.1)],[]⟩) (fun x=>x.1<=l.length/\(0<=x.2/\x.2<=20001)/\XJ (x.2+PJ (l.drop x.1))=XJ (n+PJ l)) (fun x=>l.length-x.1) (0,n) (Le.of_eq rfl) ⟨x7p _,s,rfl⟩ ?_;rintro⟨j,m⟩ ⟨o,i,h⟩;simp only at o i h⊢;rcases x7m j l.length with k|k
 .rw [x8b k,PJ]at h;conv=>whnf
  repeat' (first|((first|(refine iM fun _=>?_)|refine cP (QC _ _ i) ?_|(refine iA fun _=>?_)|refine wI ?_);conv=>whnf)|(apply bD<;>intro _<;>first|omega|conv=>whnf))
  .have q:XJ (XJ (m+(1+l[j].length:Nat))+PJ (l.drop (j+1)))=XJ (n+PJ l):=by
    rw[ZZ (by omega),<-h];congr 1;omega
   exact⟨(j+1,XJ (m+(1+l[j].length:Nat))),⟨by simp only;omega,XA (by omega),q⟩,by simp only;omega,Le.of_eq rfl⟩
  .exact RetK.int (by rw[<-h];exact YJ (by omega) i.2 (by omega))
 .rw [x7e k,PJ]at h;conv=>whnf
  repeat' (first|(refine iM fun _=>?_;conv=>whnf)|(apply bD<;>intro _<;>first|omega|conv=>whnf))
  exact RetK.int (by rw[<-h,Dd (by omega)];simp)
def UY:∀(k:Nat)(x:X)(_:gX x<k)(n:Int)(_:0<=n/\n<=20001),SpecP prog 88 [.agg x.cells,.int .i64 n] (fun r=>r=.int .i64 (XJ (n+gX x))):=by
 intro k;induction k with
 |zero=>intro x h;omega
 | succ k u=>
   intro x d n c;have t:gX x=1+x.name.length+gXs x.kids:=by cases x;rw[gX];rfl
   have z:=X.avs_len x.kids;refine sB KI func88 rfl call88 ?_;conv=>whnf
   repeat' (refine cP (QC _ _ c) ?_;conv=>whnf)
   refine LoopK.inv QV (fun y:Nat×Int=>⟨[(1,.j y.2),(2,.p (.ip x.cells)),(5,.j y.1)],[]⟩) (fun y=>y.1<=x.kids.length/\(0<=y.2/\y.2<=20001)/\XJ (y.2+gXs (x.kids.drop y.1))=XJ (n+gX x)) (fun y=>x.kids.length-y.1) (0,XJ (n+(1+x.name.length:Nat))) (Le.of_eq rfl) ⟨x7p _,XA (by omega),by
    show XJ (XJ (n+(1+x.name.length:Nat))+gXs x.kids)=_;rw[ZZ (by omega),t];congr 1;omega⟩ ?_
   rintro⟨j,m⟩ ⟨v,q,i⟩;simp only at v q i⊢;rcases x7m j x.kids.length with o|o
   .rw [x8b o,gXs]at i;have s:gX x.kids[j]<k:=by
     have:∀(l:List X)(y:X),y∈l->gX y<=gXs l:=fun l=>by
      induction l with
      |nil=>intro y h;cases h
      | cons a r u=>
        intro y h;rw[gXs];rcases x7f.1 h with rfl|h
        .omega
        .have:=u y h;omega
     have:=this x.kids _ (x7l o);omega
    conv=>whnf
    repeat' (first|((first|(refine iM fun _=>?_)|refine IdxK.xs (by omega) ?_|refine wI ?_|refine cP (u (x.kids[j]'o) s m q) ?_);conv=>whnf)|(apply bD<;>intro _<;>first|omega|conv=>whnf))
    .have w:XJ (XJ (m+gX x.kids[j])+gXs (x.kids.drop (j+1)))=XJ (n+gX x):=by
      rw[ZZ (by omega),<-i];congr 1;omega
     exact⟨(j+1,XJ (m+gX x.kids[j])),⟨by simp only;omega,XA (by omega),w⟩,by simp only;omega,Le.of_eq rfl⟩
    .exact RetK.int (by rw[<-i];exact YJ (by omega) q.2 (by omega))
   .rw [x7e o,gXs]at i;conv=>whnf
    repeat' (first|(refine iM fun _=>?_;conv=>whnf)|(apply bD<;>intro _<;>first|omega|conv=>whnf))
    exact RetK.int (by rw[<-i,Dd (by omega)];simp)
theorem q2i:∀(l:List S)(y:S),y∈l->gS y<=gL l
 |[],y,h=>by cases h
 | a::r,y,h=>by
   rw[gL];rcases x7f.1 h with rfl|h
   .omega
   .have:=q2i r y h;omega
def UZ:∀(k:Nat)(l:List S)(_:gL l<k)(n:Int)(_:0<=n/\n<=20001),SpecP prog 47 [eSs l,.int .i64 n] (fun r=>r=.int .i64 (XJ (n+gL l))):=by
 intro k;induction k with
 |zero=>intro l h;omega
 | succ k v=>
   intro l O n F;have E:=S.avs_len l;refine sB KD func47 rfl call47 ?_;conv=>whnf
   skip
   refine LoopK.inv QV (fun y:Nat×Int=>⟨[(0,.p (eSs l)),(1,.j y.2),(5,.j y.1)],[]⟩) (fun y=>y.1<=l.length/\(0<=y.2/\y.2<=20001)/\XJ (y.2+gL (l.drop y.1))=XJ (n+gL l)) (fun y=>l.length-y.1) (0,n) (Le.of_eq rfl) ⟨x7p _,F,rfl⟩ ?_;rintro⟨j,m⟩ ⟨g,z,o⟩;simp only at g z o⊢;rcases x7m j l.length with u|u;rotate_left 1
   .rw [x7e u,gL]at o;conv=>whnf
    repeat' (first|(refine iM fun _=>?_;conv=>whnf)|(apply bD<;>intro _<;>first|omega|conv=>whnf))
    exact RetK.int (by rw[<-o,Dd (by omega)];simp)
   rw[x8b u,gL]at o;have H:=q2i l _ (x7l u);have c:=x2h l[j];have I:=XA (a:=m+gX l[j].x) (by omega);have J:=XA (a:=XJ (m+gX l[j].x)+PJ l[j].G) (by omega);have K:=XA (a:=XJ (XJ (m+gX l[j].x)+PJ l[j].G)+(1+l[j].name.length:Nat)) (by omega);conv=>whnf
   repeat' (first|((first|(refine iM fun _=>?_)|refine dA ?_|refine x7g rfl ?_|refine UK (by omega) ?_|(refine CallK.pure (UY (gX l[j].x+1) l[j].x (by omega) m z) (.cons (Sub.refl _) (.cons (Sub.refl _) .nil)) ?_;rintro _ rfl)|refine cP (XB l[j].G _ I) ?_|refine cP (QC l[j].name _ J) ?_|refine cP (QC l[j].D _ K) ?_);conv=>whnf)|(apply bD<;>intro _<;>first|omega|conv=>whnf))
   rotate_left 1
   .exact RetK.int (by rw[<-o];exact YJ (by omega) z.2 (by omega))
   have e:=XA (a:=XJ (XJ (XJ (m+gX l[j].x)+PJ l[j].G)+(1+l[j].name.length:Nat))+(1+l[j].D.length:Nat)) (by omega);have d:XJ (XJ (XJ (XJ (XJ (m+gX l[j].x)+PJ l[j].G)+(1+l[j].name.length:Nat))+(1+l[j].D.length:Nat))+(K0 l[j].args+(gL l[j].L+gL l[j].M+gL (l.drop (j+1))):Nat))=XJ (n+gL l):=by
    rw[ZZ (by omega),z3u,ZZ (by omega),z3u,ZZ (by omega),z3u,ZZ (by omega),<-o,c];congr 1;omega
   generalize XJ (XJ (XJ (XJ (m+gX l[j].x)+PJ l[j].G)+(1+l[j].name.length:Nat))+(1+l[j].D.length:Nat))=m0 at e d⊢;have C:(l[j].args.map fun a=>AV.agg a.cells).length=l[j].args.length:=x7z _;refine LoopK.inv QV (fun y:Nat×Int=>⟨[(0,.p (eSs l)),(1,.j y.2),(5,.j j),(6,.p (.ip l[j].cells)),(7,.j y.1)],[]⟩) (fun y=>y.1<=l[j].args.length/\(0<=y.2/\y.2<=20001)/\XJ (y.2+(K0 (l[j].args.drop y.1)+(gL l[j].L+gL l[j].M+gL (l.drop (j+1))):Nat))=XJ (n+gL l)) (fun y=>l[j].args.length-y.1) (0,m0) (Le.of_eq rfl) ⟨x7p _,e,d⟩ ?_;rintro⟨a,i⟩ ⟨A,q,s⟩;simp only at A q s⊢;have fin:XJ (i+(gL l[j].L+gL l[j].M+gL (l.drop (j+1)):Nat))=XJ (n+gL l)->(0<=XJ (XJ (i+gL l[j].L)+gL l[j].M)/\XJ (XJ (i+gL l[j].L)+gL l[j].M)<=20001)/\XJ (XJ (XJ (i+gL l[j].L)+gL l[j].M)+gL (l.drop (j+1)))=XJ (n+gL l):=fun h=>by
    have:=XA (a:=i+gL l[j].L) (by omega);refine⟨XA (by omega),?_⟩;rw[ZZ (by omega),z3u,ZZ (by omega),<-h];congr 1;omega
   have f:=XA (a:=i+gL l[j].L) (by omega);have t:i>20000->XJ (i+(gL l[j].L+gL l[j].M+gL (l.drop (j+1)):Nat))=XJ (n+gL l):=fun h=>by
    rw[<-s,<-YJ h q.2 (by omega),<-YJ h q.2 (by omega)]
   rcases x7m a l[j].args.length with ha|ha;rotate_left 1
   .have B:XJ (i+(gL l[j].L+gL l[j].M+gL (l.drop (j+1)):Nat))=XJ (n+gL l):=by
     rw[x7e ha,K0,z0q]at s;exact s
    obtain⟨f1,f2⟩:=fin B;conv=>whnf
    repeat' (first|((first|(refine iM fun _=>?_)|refine dA ?_|refine wI ?_|(refine CallK.pure (v l[j].L (by omega) i q) (.cons (Sub.refl _) (.cons (Sub.refl _) .nil)) ?_;rintro _ rfl)|(refine CallK.pure (v l[j].M (by omega) _ f) (.cons (Sub.refl _) (.cons (Sub.refl _) .nil)) ?_;rintro _ rfl));conv=>whnf)|(apply bD<;>intro _<;>first|omega|conv=>whnf))
    all_goals exact⟨(j+1,XJ (XJ (i+gL l[j].L)+gL l[j].M)),⟨by simp only;omega,f1,f2⟩,by simp only;omega,Le.of_eq rfl⟩
   rw[x8b ha,K0]at s;have N:=XA (a:=i+gX l[j].args[a].x) (by omega);conv=>whnf
   repeat' (first|((first|(refine iM fun _=>?_)|refine dA ?_|(refine iA fun _=>?_)|refine wI ?_|(refine CallK.pure (UY (gX l[j].args[a].x+1) l[j].args[a].x (by omega) i q) (.cons (Sub.refl _) (.cons (Sub.refl _) .nil)) ?_;rintro _ rfl)|refine cP (QC l[j].args[a].name _ N) ?_|(refine CallK.pure (v l[j].L (by omega) i q) (.cons (Sub.refl _) (.cons (Sub.refl _) .nil)) ?_;rintro _ rfl)|(refine CallK.pure (v l[j].M (by omega) _ f) (.cons (Sub.refl _) (.cons (Sub.refl _) .nil)) ?_;rintro _ rfl));conv=>whnf)|(apply bD<;>intro _<;>first|omega|conv=>whnf))
   .have w:XJ (XJ (XJ (i+gX l[j].args[a].x)+(1+l[j].args[a].name.length:Nat))+(K0 (l[j].args.drop (a+1))+(gL l[j].L+gL l[j].M+gL (l.drop (j+1))):Nat))=XJ (n+gL l):=by
     rw[ZZ (by omega),z3u,ZZ (by omega),<-s];congr 1;omega
    exact⟨(a+1,XJ (XJ (i+gX l[j].args[a].x)+(1+l[j].args[a].name.length:Nat))),⟨by simp only;omega,XA (by omega),w⟩,by simp only;omega,Le.of_eq rfl⟩
   .obtain ⟨f1,f2⟩:=fin (t (by omega));exact⟨(j+1,XJ (XJ (i+gL l[j].L)+gL l[j].M)),⟨by simp only;omega,f1,f2⟩,by simp only;omega,Le.of_eq rfl⟩
theorem q4z:∀{l:List X}{y:X},y∈l->wX y<=wXs l
 |[],_,h=>by cases h
 | a::r,y,h=>by
   rw[wXs];rcases x7f.1 h with rfl|h
   .omega
   .have:=q4z h;omega
def q4w(x:X):1<=wX x:=by cases x;rw[wX];omega
theorem IG:∀l:List X,l.length<=wXs l
 |[]=>by simp
 | a::r=>by
   rw[wXs,x8j];have:=IG r;have:=q4w a;omega
end Go.Ab
