/- graph: the order in which a search into the depth is done. -/
import Derived.Test.YtonbdgcjnecapaaGreatRchC9
import Derived.Test.YtonbdgcjnecapaaGreatRchC10
import Derived.Test.YtonbdgcjnecapaaGreatRchC14
import Derived.Test.YtonbdgcjnecapaaGreatRchC15
set_option linter.all false
set_option maxRecDepth 100000
set_option maxHeartbeats 16000000
namespace Go.Ab
open Go.Proofs.Tryz
open Go.Proofs
variable {b:Int}
def rowE(rows:List (List Int))(x y:Int):Prop:=0<=x/\D6 rows x y
structure EndI(n:Nat)(rows:List (List Int))(out stack:List Int)(seen:List Bool)(at_:List Int):Prop where
 dfs:DfsI n (rowE rows) out stack
 sl:seen.length=n
 al:at_.length=n
 seen:∀x:Int,0<=x/\x<n->(seen.getD x.toNat false=true↔x∈out++stack)
 arng:∀x:Int,0<=x/\x<n->0<=at_.getD x.toNat 0/\at_.getD x.toNat 0<=(rows.getD x.toNat []).length
 cur:∀x:Int,0<=x/\x<n->∀(i:Nat)(y:Int),(i:Int)<at_.getD x.toNat 0->(rows.getD x.toNat [])[i]?=some y->y∈out++stack
theorem EndI.start(n:Nat)(rows:List (List Int)):EndI n rows [] [] (List.replicate n false) (List.replicate n 0):=by
 have j:∀x:Int,(List.replicate n (0:Int)).getD x.toNat 0=0:=fun x=>by
  rw[x0y,x1b];split<;>rfl
 refine⟨DfsI.start n _,by simp,by simp,fun x l=>?_,fun x l=>by rw[j];omega,fun x l i y m=>by rw[j]at m;omega⟩;rw[x0y,x1b];split<;>simp
def ZV{α:Type}{l:List α}{i j:Nat}{a d:α}(k:i<l.length):(l.set i a).getD j d=if i=j then a else l.getD j d:=by
 simp only[x0y,x5h];split
 .rename_i h;first
   |rfl
   |(rw[if_pos k];rfl)
 .rfl
theorem EndI.push{n:Nat}{rows:List (List Int)}{out stack:List Int}{seen:List Bool}{at_:List Int}(h:EndI n rows out stack seen at_){b:Int}(m:0<=b/\b<n)(o:seen.getD b.toNat false=false)(t:chainE (rowE rows) (stack++[b])):EndI n rows out (stack++[b]) (seen.set b.toNat true) at_:=by
 have j:b∉out++stack:=fun r=>by rw[(h.seen b m).2 r]at o;cases o
 refine⟨h.dfs.push m j t,by simpa using h.sl,h.al,fun x l=>?_,h.arng,fun x l i y q u=>?_⟩
 .rw [ZV (by rw[h.sl];omega),<-x1k,x0r,x0b];split
  .have:x=b:=by omega
   simp[this]
  .have:x≠b:=by omega
   rw[h.seen x l];simp[this]
 .rw [<-x1k];exact x0r.2 (.inl (h.cur x l i y q u))
theorem EndI.pop{n:Nat}{rows:List (List Int)}{out st:List Int}{a:Int}{seen:List Bool}{at_:List Int}(h:EndI n rows out (st++[a]) seen at_)(q:at_.getD a.toNat 0=(rows.getD a.toNat []).length):EndI n rows (out++[a]) st seen at_:=by
 have r:=h.dfs.rng a (by simp);have l:∀x:Int,x∈out++[a]++st↔x∈out++(st++[a]):=fun x=>by
  simp only[x0r,x0b];constructor
  .rintro ((j|j)|j)
   .exact .inl j
   .exact .inr (.inr j)
   .exact .inr (.inl j)
  .rintro (j|j|j)
   .exact .inl (.inl j)
   .exact .inr j
   .exact .inl (.inr j)
 refine⟨h.dfs.pop fun v t=>?_,h.sl,h.al,fun x o=>by rw[h.seen x o,l],h.arng,fun x o i y m u=>(l y).2 (h.cur x o i y m u)⟩;obtain⟨i,m⟩:=x3y.1 t.2;have:=h.cur a r i v (by rw[q];have:=(x0m.1 m).1;omega) m;exact x0r.1 this
theorem EndI.step{n:Nat}{rows:List (List Int)}{out stack:List Int}{seen:List Bool}{at_:List Int}(h:EndI n rows out stack seen at_){a:Int}(u:0<=a/\a<n){k:Nat}(w:at_.getD a.toNat 0=k)(t:(rows.getD a.toNat [])[k]?=some b)(v:b∈out++stack):EndI n rows out stack seen (at_.set a.toNat ((k:Int)+1)):=by
 have j:a.toNat<at_.length:=by rw[h.al];omega
 refine⟨h.dfs,h.sl,by simpa using h.al,h.seen,fun x r=>?_,fun x r i y o l=>?_⟩
 .rw [ZV j];split
  .rename_i m;have:=(x0m.1 t).1;rw[<-m];omega
  .exact h.arng x r
 .rw [ZV j]at o;split at o
  .rename_i m;rw[<-m]at l;rcases x0t i k with q|q
   .exact h.cur a u i y (by omega) l
   .have:i=k:=by omega
    subst this;rw[t]at l;cases l;exact v
  .exact h.cur x r i y o l
def OF(m:Int)(l:List Int):Int:=l.foldl (fun m x=>if x<m then x else m) m
def Do:List Int->Int
 |[]=>0
 |a::r=>OF a r
theorem N2:∀(l:List Int)(m:Int),OF m l∈m::l/\∀x∈m::l,OF m l<=x
 |[],m=>⟨by simp[OF],by simp[OF]⟩
 | a::r,m=>by
   obtain⟨n,j⟩:=N2 r (if a<m then a else m);have e:OF m (a::r)=OF (if a<m then a else m) r:=rfl;have k:=j _ x0k;rw[e];generalize OF (if a<m then a else m) r=z at n j k⊢;refine⟨?_,fun x i=>?_⟩
   .rcases x0p.1 n with h|h
    .rw [h];split<;>simp
    .exact x0f _ (x0f _ h)
   .rcases x0p.1 i with rfl|i
    .split at k<;>omega
    .rcases x0p.1 i with rfl|i
     .split at k<;>omega
     .exact j x (x0f _ i)
def N3{l:List Int}(h:0<l.length):Do l∈l/\∀x∈l,Do l<=x:=by
 cases l with
 |nil=>simp at h
 |cons a r=>exact N2 r a
theorem OpK.min2{P:Program}{N:Nat}{s:St}{o:Oper}{K:St->Prop}{x y:Operand}{e:Array TypeId}(j:o.op=.call {callee:=.builtin .min,args:=#[x,y],argTypes:=e}){m n:Int}(z:QL s.sl x=.p (.int .i64 m))(c:QL s.sl y=.p (.int .i64 n))(h:setD N s.sl o.dst (.p (.int .i64 (if n<m then n else m))) fun sl=>K ⟨sl,s.H⟩):OpK P N s o K:=by
 refine⟨fun σ β a w l Q=>?_⟩;have r:=QZ l.E x;have t:=QZ l.E y;rw[z]at r;rw[c]at t;have u:=r.int;have e2:=t.int;have i:(execOp a.eval o).run P w=.ok (.value (.int .i64 (if n<m then n else m))) w:=by
  simp[execOp,j,resolve,invoke,builtin,u,e2,Builtin.min_,Builtin.min2]
 obtain⟨sl,v,q⟩:=l.setD (.p (.int .i64 (if n<m then n else m))) h;exact XI i ⟨σ,β,_,v,q,Later.refl _ _ _ _⟩
def MV(l:List Int)(n:0<l.length):SpecP prog 322 [QI l] (fun r=>r=.int .i64 (Do l)):=by
 refine sB FY func322 rfl call322 ?_;conv=>whnf
 have s:(l.map (AV.int .i64)).length=l.length:=x0j _;repeat' (first|(refine iM fun _=>?_;conv=>whnf)|(apply bD<;>intro _<;>first|omega|conv=>whnf))
 refine IdxK.at (k:=0) (e:=.int .i64 l[0]) rfl (by simp[n]) rfl ?_;conv=>whnf
 skip
 refine LoopK.inv QK (fun x:Nat×Int=>⟨[(0,.p (QI l)),(3,.p (.int .i64 x.2)),(4,.p (.int .i64 x.1))],[]⟩) (fun x=>1<=x.1/\x.1<=l.length/\Do (x.2::l.drop x.1)=Do l) (fun x=>l.length-x.1) (1,l[0]) (Le.of_eq rfl) ⟨x0o _,n,by
  cases l with
  |nil=>simp at n
  |cons a r=>rfl⟩ ?_
 rintro⟨j,m⟩ ⟨o,q,h⟩;simp only at o q h⊢;rcases x0t j l.length with i|i
 .rw [QB i]at h;conv=>whnf
  repeat' (first|((first|(refine iM fun _=>?_)|(refine iA fun _=>?_)|refine wI ?_|refine OpK.min2 rfl rfl rfl ?_);conv=>whnf)|(apply bD<;>intro _<;>first|omega|conv=>whnf))
  exact⟨(j+1,if l[j]<m then l[j]else m),⟨by simp only;omega,i,h⟩,by simp only;omega,Le.of_eq rfl⟩
 .rw [x1q i]at h;conv=>whnf
  repeat' (first|(refine iM fun _=>?_;conv=>whnf)|(apply bD<;>intro _<;>first|omega|conv=>whnf))
  exact RetK.int h
theorem AL{α:Type}{f g:α->Nat}:∀{l:List α},(∀x∈l,f x<=g x)->(∃x∈l,f x<g x)->(l.map f).sum<(l.map g).sum
 |[],_,h=>by obtain⟨x,i,_⟩:=h;cases i
 | a::r,h1,h2=>by
   have j:∀{l:List α},(∀x∈l,f x<=g x)->(l.map f).sum<=(l.map g).sum:=fun {l} h=>by
    induction l with
    |nil=>simp
    | cons b r n=>
      simp only[x1j,x5f];have:=n fun x i=>h x (x0f _ i);have:=h b x0k;omega
   simp only[x1j,x5f];have o:=h1 a x0k;have p:=j fun x i=>h1 x (x0f _ i);obtain⟨x,i,k⟩:=h2;rcases x0p.1 i with rfl|i
   .omega
   .have:=AL (fun y m=>h1 y (x0f _ m)) ⟨x,i,k⟩;omega
def muE(rows:List (List Int))(at_:List Int)(n:Nat):Nat:=((List.range n).map fun i=>(rows.getD i []).length-(at_.getD i 0).toNat).sum
def IY{n:Nat}{rows:List (List Int)}{at_:List Int}{a:Nat}(l:a<n)(o:at_.length=n){k:Nat}(j:at_.getD a 0=k)(m:k<(rows.getD a []).length):muE rows (at_.set a ((k:Int)+1)) n<muE rows at_ n:=by
 unfold muE;refine AL (fun i _=>?_) ⟨a,x1a.2 l,?_⟩
 .rw [ZV (by omega)];split
  .rename_i h;rw[<-h,j];omega
  .exact x0o _
 .rw [ZV (by omega),if_pos rfl,j];omega
def D4{n:Nat}{l:List Int}(h:l.Nodup)(i:∀x∈l,0<=x/\x<n):l.length<=n:=by
 have:=Yh (m:=(List.range n).map fun(k:Nat)=>(k:Int)) h fun x j=>x0n.2 ⟨x.toNat,x1a.2 (by have:=i x j;omega),by have:=i x j;omega⟩;simpa using this
def Oa{l:List Bool}{i:Nat}(h:i<l.length):(l.map bv)[i]?=some (bv (l.getD i false)):=by
 rw[x0d,x0u h,x0y,x0u h];rfl
def Pa{l:List Int}{i:Nat}(h:i<l.length):(l.map (AV.int .i64))[i]?=some (.int .i64 (l.getD i 0)):=by
 rw[x0d,x0u h,x0y,x0u h];rfl
def q4w(n:Nat)(rows:List (List Int))(r:AV):Prop:=∃es,r=QI es/\EndsP n (rowE rows) es
def Wa(n:Nat)(hn:n<=5000)(g:List (List Int)×List (List Int))(M:XK n g.1):SpecP prog 321 [VV g] (fun r=>q4w n g.1 r):=by
 refine sB MC func321 rfl call321 ?_;conv=>whnf
 have Q:((avI g.1).map AV.sl).length=n:=by simp[avI,M.1]
 repeat' ((first|(refine iM fun _=>?_)|refine aR ?_|refine x5r n (by rw[Q]) (by show 1*n<=140737488355328;omega) (by unfold maxLen;omega) ?_|refine x5r n (by rw[Q]) (by show 8*n<=140737488355328;omega) (by unfold maxLen;omega) ?_);conv=>whnf)
 refine LoopK.inv QK (fun x:Nat×List Int×List Bool×List Int=>⟨[(0,.p (VV g)),(3,.hd 2 0 x.2.1.length),(4,.hd 3 0 0),(5,.hd 0 0 n),(6,.hd 1 0 n),(26,.p (.int .i64 n)),(27,.p (.int .i64 x.1))],[(0,.own 4 1 (x.2.2.1.map bv)),(1,.own 3 1 (x.2.2.2.map (.int .i64))),(2,.own 3 1 (x.2.1.map (.int .i64))),(3,.own 3 1 [])]⟩)
  (fun x=>x.1<=n/\EndI n g.1 x.2.1 [] x.2.2.1 x.2.2.2/\∀y:Int,0<=y/\y<x.1->y∈x.2.1) (fun x=>n-x.1) (0,[],List.replicate n false,List.replicate n 0)
  (Le.mk [(2,.own 3 1 []),(3,.own 3 1 [])] (by simp[Chunk.new0];exact⟨rfl,rfl⟩) (by simp) (by simp) (.r (.cons (.nil x0k) (.cons (.nil (x0f _ x0k)) (.r (.r (.cons (.of_eq (by rw[Q];rfl)) (.r .nil)))))))
    (.cons rfl (.of_eq (by rw[x3b];rfl)) (.cons rfl (.of_eq (by rw[x3b];rfl)) (.new x0k (.new (x0f _ x0k) .nil)))))
  ⟨x0l _,EndI.start n g.1,fun y K=>by omega⟩ ?_
 rintro⟨r,out,seen,at_⟩ ⟨h1,h,j⟩;simp only at h1 h j⊢;have J:=h.sl;have c:=h.al;rcases x0t r n with hr|hr;rotate_left 1
 .conv=>whnf
  repeat' (apply bD<;>intro _<;>first|omega|conv=>whnf)
  have D:∀x:Int,0<=x/\x<n->x∈out:=fun x f=>j x (by omega);exact⟨_,.hd rfl (by simp),out,rfl,h.dfs.fin (fun x y T=>DN M T.2) D⟩
 have A:=Oa (l:=seen) (i:=r) (by omega);have w:∃st U,EndI n g.1 out st U at_/\(r:Int)∈out++st/\((seen.getD r false=true/\st=[]/\U=seen)\/(seen.getD r false=false/\st=[(r:Int)]/\U=seen.set r true)):=by
  cases m:seen.getD r false with
  |true=>exact⟨[],seen,h,(h.seen r (by omega)).1 (by simpa using m),.inl ⟨rfl,rfl,rfl⟩⟩
  |false=>exact⟨[(r:Int)],seen.set r true,h.push (stack:=[]) (b:=r) (by omega) (by simpa using m) trivial,by simp,.inr ⟨rfl,rfl,rfl⟩⟩
 obtain⟨st0,e,z,Y,h6⟩:=w;rcases h6 with⟨m,u,d⟩|⟨m,u,d⟩;all_goals
  rw[m]at A;conv=>whnf
  repeat' (first|((first|refine x0h rfl ?_|refine aD ?_|refine bP ?_|refine x1i r rfl (by omega) ?_|refine x2t r 0 .tt (by omega) A ?_|refine x2t r 0 .ff (by omega) A ?_|refine x3p r 0 .ff .tt (by omega) A (x0o 1) rfl ?_|refine XU rfl (by simp) ?_);conv=>whnf)|(apply bD<;>intro _<;>first|omega|conv=>whnf))
  refine LoopK.inv QK (fun x:List Int×List Int×List Bool×List Int=>⟨[(0,.p (VV g)),(3,.hd 2 0 x.1.length),(4,.hd 3 0 x.2.1.length),(5,.hd 0 0 n),(6,.hd 1 0 n),(26,.p (.int .i64 n)),(27,.p (.int .i64 r))],[(0,.own 4 1 (x.2.2.1.map bv)),(1,.own 3 1 (x.2.2.2.map (.int .i64))),(2,.own 3 1 (x.1.map (.int .i64))),(3,.own 3 1 (x.2.1.map (.int .i64)))]⟩)
   (fun x=>EndI n g.1 x.1 x.2.1 x.2.2.1 x.2.2.2/\(r:Int)∈x.1++x.2.1/\∀y:Int,0<=y/\y<r->y∈x.1) (fun x=>muE g.1 x.2.2.2 n+(n-x.1.length)) (out,st0,e,at_)
   (Le.mk [] (by simp) (by simp) (by simp) (.r (.r (.cons (.of_eq (by first|(rw[u];done)|(rw[u];rfl))) (.r (.r (.r (.r .nil)))))))
     (.cons rfl (.of_eq (by rw[d];first|done|rfl|(rw[x2y];rfl))) (.cons rfl (.refl _) (.cons rfl (.refl _) (.cons rfl (.of_eq (by rw[u];rfl)) .nil)))))
   ⟨z,Y,j⟩ ?_
  clear z Y u d A m J c h j;rintro⟨o,V,s,t⟩ ⟨h,j,z⟩;simp only at h j z⊢;have J:=h.sl;have c:=h.al;have hol:o.length<=n:=D4 (by have:=h.dfs.nd;rw[x2b]at this;exact this.1) fun x f=>h.dfs.rng x (x0r.2 (.inl f));rcases List.eq_nil_or_concat V with rfl|⟨st,a,rfl⟩
  .have hz:(([]:List Int).length)=0:=rfl;conv=>whnf
   repeat' (first|((first|(refine iM fun _=>?_)|refine wI ?_);conv=>whnf)|(apply bD<;>intro _<;>first|omega|conv=>whnf))
   exact⟨(r+1,o,s,t),⟨hr,h,fun y K=>by
    rcases Int.lt_or_le y r with L|L
    .exact z y ⟨K.1,L⟩
    .have:y=r:=by simp only at K;omega
     rw[this];simpa using j⟩,by simp only;omega,Le.of_eq rfl⟩
  .rw [List.concat_eq_append]at h j⊢;have C:=h.dfs.rng a (by simp);have hstl:(st++[a]).length=st.length+1:=by simp
   obtain⟨hk0,P⟩:=h.arng a C;have e2:=Pa (l:=t) (i:=a.toNat) (by omega);have N:((st++[a]).map (AV.int .i64))[st.length]?=some (.int .i64 a):=by simp
   have q:((avI g.1).map AV.sl)[a.toNat]?=some (.sl ((g.1.getD a.toNat []).map (.int .i64))):=by
    have:a.toNat<g.1.length:=by rw[M.1];omega
    rw[x0y,x0u this];simp[avI,this]
   obtain⟨k,G⟩ : ∃k:Nat,t.getD a.toNat 0=k:=⟨(t.getD a.toNat 0).toNat,by omega⟩;rw[G]at e2 P;have hrl:((g.1.getD a.toNat []).map (AV.int .i64)).length=(g.1.getD a.toNat []).length:=x0j _;have R:=h.dfs.nd;rcases x0t k (g.1.getD a.toNat []).length with v|v
   .obtain ⟨b,E⟩ : ∃b,(g.1.getD a.toNat [])[k]?=some b:=⟨_,x0u v⟩;have O:(g.1.getD a.toNat [])[k]=b:=by rw[x0u v]at E;exact x3h E
    have hE:rowE g.1 a b:=⟨C.1,x3y.2 ⟨k,E⟩⟩;have F:=DN M hE.2;have hmu:=IY (by omega) c G v;have B:=Oa (l:=s) (i:=b.toNat) (by omega);have hstk:(st++[a]).length<=n:=D4 (x2b.1 R).2.1 fun x f=>h.dfs.rng x (x0r.2 (.inr f));have I:(t.set a.toNat ((k:Int)+1)).map (AV.int .i64)=(t.map (AV.int .i64)).set a.toNat (.int .i64 ((k:Int)+1)):=x2y;have hkm:=h.arng a C;cases m:s.getD b.toNat false with
    | true=>
      rw[m]at B;conv=>whnf
      repeat' (first|((first|(refine iM fun _=>?_)|refine dA ?_|refine x0h rfl ?_|(refine iA fun _=>?_)|refine wI ?_|refine x1i st.length (by omega) (by omega) ?_|refine x2t st.length 0 (.int .i64 a) (by omega) N ?_|refine x1i a.toNat (by omega) (by omega) ?_|refine x2t a.toNat 0 (.int .i64 k) (by omega) e2 ?_|(refine IdxK.at (k:=a.toNat) (by omega) q rfl ?_)|refine x1i b.toNat (by omega) (by omega) ?_|refine x2t b.toNat 0 .tt (by omega) B ?_|refine x3p a.toNat 0 (.int .i64 k) (.int .i64 (k+1)) (by omega) e2 (x0o 1) rfl ?_);conv=>whnf)|(apply bD<;>intro _<;>first|omega|conv=>whnf))
      exact⟨(o,st++[a],s,t.set a.toNat ((k:Int)+1)),⟨h.step C G E ((h.seen b F).1 m),j,z⟩,by simp only;omega,Le.mk [] (by simp) (by simp) (by simp) (.r (.r (.r (.r (.r (.r (.r .nil))))))) (.cons rfl (.refl _) (.cons rfl (.of_eq (by rw[I])) (.cons rfl (.refl _) (.cons rfl (.refl _) .nil))))⟩
    | false=>
      rw[m]at B;conv=>whnf
      repeat' (first|((first|(refine iM fun _=>?_)|refine dA ?_|refine x0h rfl ?_|refine aD ?_|refine bP ?_|(refine iA fun _=>?_)|refine wI ?_|refine x1i st.length (by omega) (by omega) ?_|refine x2t st.length 0 (.int .i64 a) (by omega) N ?_|refine x1i a.toNat (by omega) (by omega) ?_|refine x2t a.toNat 0 (.int .i64 k) (by omega) e2 ?_|(refine IdxK.at (k:=a.toNat) (by omega) q rfl ?_)|refine x1i b.toNat (by omega) (by omega) ?_|refine x2t b.toNat 0 .ff (by omega) B ?_|refine x3p a.toNat 0 (.int .i64 k) (.int .i64 (k+1)) (by omega) e2 (x0o 1) rfl ?_|refine x3p b.toNat 0 .ff .tt (by omega) B (x0o 1) rfl ?_|refine XU (by simp) (by simp;omega) ?_);conv=>whnf)|(apply bD<;>intro _<;>first|omega|conv=>whnf))
      have h8:=h.push F m (U8 st h.dfs.path hE);exact⟨(o,st++[a]++[b],s.set b.toNat true,t.set a.toNat ((k:Int)+1)),⟨h8.step C G E (by simp),by rw[<-x1k];exact x0r.2 (.inl j),z⟩,by simp only;omega,Le.mk [] (by simp) (by simp) (by simp) (.r (.r (.cons (.of_eq (by simp;rfl)) (.r (.r (.r (.r .nil))))))) (.cons rfl (.of_eq (by rw[x2y];rfl)) (.cons rfl (.of_eq (by rw[I])) (.cons rfl (.refl _) (.cons rfl (.of_eq (by rw[O];simp;rfl)) .nil))))⟩
   .have H:k=(g.1.getD a.toNat []).length:=by omega
    have hp:=h.pop (by rw[G,H]);have hol2:o.length+1<=n:=by
     have Z:=hp.dfs;have:=D4 (x2b.1 Z.nd).1 fun x f=>Z.rng x (x0r.2 (.inl f));simpa using this
    conv=>whnf
    repeat' (first|((first|(refine iM fun _=>?_)|refine dA ?_|refine x0h rfl ?_|refine aD ?_|refine bP ?_|refine wI ?_|refine x1i st.length (by omega) (by omega) ?_|refine x2t st.length 0 (.int .i64 a) (by omega) N ?_|refine x1i a.toNat (by omega) (by omega) ?_|refine x2t a.toNat 0 (.int .i64 k) (by omega) e2 ?_|(refine IdxK.at (k:=a.toNat) (by omega) q rfl ?_)|refine XU (by simp) (by simp;omega) ?_|refine SlK.mk 0 st.length rfl (by show((st++[a]).length:Int)-1=_;omega) (by omega) (by omega) ?_);conv=>whnf)|(apply bD<;>intro _<;>first|omega|conv=>whnf))
    have h9:muE g.1 t n+(n-(o++[a]).length)<muE g.1 t n+(n-o.length):=by simp;omega
    exact⟨(o++[a],st,s,t),⟨hp,by simpa[or_assoc,or_comm,or_left_comm]using j,fun y K=>x0r.2 (.inl (z y K))⟩,h9,(Le.cut (.same (.same (.same (.cut (es':=st.map (.int .i64)) ⟨[.int .i64 a],by simp⟩ .nil))))).trans (Le.mk [] (by simp) (by simp) (by simp) (.r (.cons (.of_eq (by simp;rfl)) (.cons (.of_eq (by simp;rfl)) (.r (.r (.r (.r .nil))))))) (.cons rfl (.refl _) (.cons rfl (.refl _) (.cons rfl (.of_eq (by simp;rfl)) (.cons rfl (.refl _) .nil)))))⟩
def OP(pre:List Bool)(rows:List (List Int)):List (List Int):=rows.map fun r=>r.filter fun b=> !pre.getD b.toNat false
def N9{pre:List Bool}{rows:List (List Int)}{x y:Int}:D6 (OP pre rows) x y↔D6 rows x y/\pre.getD y.toNat false=false:=by
 unfold D6 OP;simp only[x0y,x0d];cases rows[x.toNat]?with
 |none=>simp
 |some r=>simp
def q1a{n:Nat}{pre:List Bool}{rows:List (List Int)}(h:XK n rows):XK n (OP pre rows):=by
 refine⟨by simp[OP,h.1],fun r k b j=>?_⟩;obtain⟨l,i,rfl⟩:=x0n.1 k;exact h.2 l i b (x1s.1 j).1
structure SimW(pre:List Bool)(st st':List Bool×List Int):Prop where
 todo:st.2=st'.2
 len:st.1.length=st'.1.length
 mrk:∀k,st.1.getD k false=(pre.getD k false||st'.1.getD k false)
theorem SimW.see{pre:List Bool}{st i:List Bool×List Int}(h:SimW pre st i)(j:b.toNat<st.1.length)(m:pre.getD b.toNat false=false):SimW pre (KU st b) (KU i b):=by
 have l:=h.mrk b.toNat;rw[m,Bool.false_or]at l;unfold KU;rw[l];cases i.1.getD b.toNat false with
 |true=>exact h
 | false=>
   refine⟨by simp only[x1g];rw[h.todo],by simpa using h.len,fun k=>?_⟩;simp only[x1g];rw[ZV j,ZV (by rw[<-h.len];exact j)];split
   .simp
   .exact h.mrk k
theorem SimW.skip{pre:List Bool}{st i:List Bool×List Int}(h:SimW pre st i)(j:pre.getD b.toNat false=true):KU st b=st:=by
 unfold KU;rw[h.mrk,j];rfl
def O5(st:List Bool×List Int)(b:Int):(KU st b).1.length=st.1.length:=by
 unfold KU;cases st.1.getD b.toNat false<;>simp
theorem SimW.fold{n:Nat}{pre:List Bool}:∀(l:List Int){st st':List Bool×List Int},SimW pre st st'->st.1.length=n->(∀b∈l,0<=b/\b<n)->SimW pre (l.foldl KU st) ((l.filter fun b=> !pre.getD b.toNat false).foldl KU st')/\(l.foldl KU st).1.length=n
 |[],_,_,h,hn,_=>⟨h,hn⟩
 | b::r,st,st',h,hn,hl=>by
   have o:=hl b x0k;have j:∀c∈r,0<=c/\c<n:=fun c m=>hl c (x0f _ m);rw[x3m];cases i:pre.getD b.toNat false with
   | true=>
     rw[h.skip i,x3n (by rw[i];simp)];exact SimW.fold r h hn j
   | false=>
     rw[x3d (by rw[i];simp),x3m];exact SimW.fold r (h.see (by omega) i) (by rw[O5];exact hn) j
theorem Bn{n:Nat}{pre:List Bool}{rows:List (List Int)}(l:XK n rows):∀(k i:Nat){st st':List Bool×List Int},SimW pre st st'->st.1.length=n->SimW pre (ZZ rows k i st) (ZZ (OP pre rows) k i st')
 |0,_,_,_,h,_=>h
 | k+1,i,st,st',h,hn=>by
   rw[ZZ,ZZ,<-h.todo];cases s:st.2[i]?with
   |none=>exact h
   | some a=>
     simp only;have j:∀b∈rows.getD a.toNat [],0<=b/\b<n:=fun b p=>DN l p;have q:(OP pre rows).getD a.toNat []=(rows.getD a.toNat []).filter fun b=> !pre.getD b.toNat false:=by
      unfold OP;simp only[x0y,x0d];cases rows[a.toNat]?with
      |none=>simp
      |some r=>simp
     rw[q];obtain⟨m,o⟩:=SimW.fold (n:=n) _ h hn j;exact Bn l k (i+1) m o
def Eb{n:Nat}{pre:List Bool}{rows:List (List Int)}(u:XK n rows)(t:pre.length=n){r:Int}(p:0<=r/\r<n)(g:pre.getD r.toNat false=false):
  (∀x,x∈(ZZ rows (n+1) 0 (pre.set r.toNat true,[r])).2↔Rch (fun a b=>D6 rows a b/\pre.getD b.toNat false=false) r x)/\
  (∀x:Int,0<=x/\x<n->((ZZ rows (n+1) 0 (pre.set r.toNat true,[r])).1.getD x.toNat false=true↔pre.getD x.toNat false=true\/x∈(ZZ rows (n+1) 0 (pre.set r.toNat true,[r])).2)):=by
 have v:KU (List.replicate n false,[]) r=((List.replicate n false).set r.toNat true,[r]):=by
  unfold KU;have:(List.replicate n false).getD r.toNat false=false:=by
   rw[x0y,x1b];split<;>rfl
  simp only[this,x1g,x5k]
 obtain⟨s,w,_⟩:=(WkM.start n).see p;rw[v]at s w;have j:SimW pre (pre.set r.toNat true,[r]) ((List.replicate n false).set r.toNat true,[r]):=⟨rfl,by simp[t],fun k=>by
  rw[ZV (by omega),ZV (by simp;omega)];split
  .simp
  .have:(List.replicate n false).getD k false=false:=by
    rw[x0y,x1b];split<;>rfl
   rw[this,Bool.or_false]⟩
 have q:=Bn u (n+1) 0 j (by simpa using t);obtain⟨z,c,d,e⟩:=Jv (q1a (pre:=pre) u) (n+1) 0 s (x0l _) (by omega) (fun m a f=>by omega);refine⟨fun x=>?_,fun x i=>?_⟩
 .rw [q.todo];constructor
  .intro i;exact e (fun x=>Rch (fun a b=>D6 rows a b/\pre.getD b.toNat false=false) r x) (fun x i=>by rw[x0b.1 i];exact .refl) (fun x b l o=>.tail l (N9.1 o)) x i
  .intro i;exact i.closed (S:=fun x=>x∈(ZZ (OP pre rows) (n+1) 0 ((List.replicate n false).set r.toNat true,[r])).2) (fun x y l o=>d x l y (N9.2 o)) (c r (by simp))
 .rw [q.mrk,q.todo,z.mem,x3i];exact⟨fun h=>h.imp id fun h=>⟨i,h⟩,fun h=>h.imp id fun h=>h.2⟩
def DU{n:Nat}{a:Int}(h:0<=a/\a<n):ZK n a=true:=by
 unfold ZK;simpa using h
structure MinP(E:Int->Int->Prop)(x v:Int):Prop where
 scc:sccP E x v
 le:∀y,sccP E x y->v<=y
theorem MinP.uniq{E:Int->Int->Prop}{x v w:Int}(h:MinP E x v)(i:MinP E x w):v=w:=Int.le_antisymm (h.le w i.scc) (i.le v h.scc)
def Z1(n:Nat)(rows:List (List Int)):List Int:=(List.range n).map fun(a:Nat)=>Do ((FW 0 (ZN rows [(a:Int)])).filter fun b=>(FW 0 (ZN rows [b])).contains (a:Int))
def O1{n:Nat}{rows:List (List Int)}(l:XK n rows){x y:Int}(m:0<=x):Rch (rowE rows) x y↔Rch (D6 rows) x y:=by
 refine⟨fun h=>h.mono fun _ _ h=>h.2,fun h=>?_⟩;exact(h.closed (S:=fun y:Int=>0<=y/\Rch (rowE rows) x y) (fun a b ⟨j,k⟩ i=>⟨(DN l i).1,.tail k ⟨j,i⟩⟩) ⟨m,.refl⟩).2
def T3{n:Nat}{rows:List (List Int)}(i:XK n rows){x y:Int}(j:0<=x/\x<n)(h:Rch (rowE rows) x y):0<=y/\y<n:=
 h.closed (S:=fun y:Int=>0<=y/\y<n) (fun _ _ _ h=>DN i h.2) j
def L8{n:Nat}{rows:List (List Int)}(i:XK n rows){x:Int}(j:0<=x/\x<n)(y:Int):y∈FW 0 (ZN rows [x])↔Rch (rowE rows) x y:=by
 rw[Nk i,O1 i j.1];constructor
 .rintro ⟨a,k,_,h⟩;rw[x0b.1 k]at h;exact h
 .intro h;exact⟨x,by simp,DU j,h⟩
def DD(n:Nat)(rows:List (List Int)):(Z1 n rows).length=n:=by simp[Z1]
def Z2{n:Nat}{rows:List (List Int)}(j:XK n rows){x:Int}(m:0<=x/\x<n):MinP (rowE rows) x ((Z1 n rows).getD x.toNat 0):=by
 have e:(Z1 n rows).getD x.toNat 0=Do ((FW 0 (ZN rows [x])).filter fun b=>(FW 0 (ZN rows [b])).contains x):=by
  unfold Z1;rw[x0y,x0d,x4l (by omega)];have:((x.toNat:Nat):Int)=x:=by omega
  simp[this]
 have k:∀y,y∈(FW 0 (ZN rows [x])).filter (fun b=>(FW 0 (ZN rows [b])).contains x)↔sccP (rowE rows) x y:=fun y=>by
  rw[x1s,L8 j m,List.contains_iff_mem];constructor
  .rintro ⟨h,i⟩;exact⟨h,(L8 j (T3 j m h) x).1 i⟩
  .rintro ⟨h,i⟩;exact⟨h,(L8 j (T3 j m h) x).2 i⟩
 rw[e];obtain⟨h,i⟩:=N3 (l:=(FW 0 (ZN rows [x])).filter fun b=>(FW 0 (ZN rows [b])).contains x) (x6g ((k x).2 (sccP.refl x)));exact⟨(k _).1 h,fun y o=>i y ((k y).2 o)⟩
structure PartI(n:Nat)(E:Int->Int->Prop)(es:List Int)(m:Nat)(part:List Int)(seen:List Bool):Prop where
 sl:seen.length=n
 pl:part.length=n
 seen:∀x:Int,0<=x/\x<n->(seen.getD x.toNat false=true↔SeenP E es m x)
 min:∀x:Int,0<=x/\x<n->SeenP E es m x->MinP E x (part.getD x.toNat 0)
theorem PartI.start{n:Nat}{E:Int->Int->Prop}{es:List Int}:PartI n E es es.length (List.replicate n 0) (List.replicate n false):=by
 have i:∀x,¬SeenP E es es.length x:=fun x ⟨j,y,o,l,_⟩=>by
  have:=(x0m.1 l).1;omega
 refine⟨by simp,by simp,fun x _=>?_,fun x _ m=>absurd m (i x)⟩;rw[x0y,x1b];have:=i x;split<;>simp[this]
def UQ(l:List Int)(v:Int)(part:List Int):List Int:=l.foldl (fun p a=>p.set a.toNat v) part
theorem MW(v:Int):∀(l part:List Int),(UQ l v part).length=part.length
 |[],_=>rfl
 | a::r,part=>by
   show(UQ r v (part.set a.toNat v)).length=_;rw[MW v r];simp
theorem Yi{n:Nat}(v:Int){x:Int}(s:0<=x/\x<n):∀(l:List Int){part:List Int},part.length=n->(∀a∈l,0<=a/\a<n)->(x∈l->(UQ l v part).getD x.toNat 0=v)/\(x∉l->(UQ l v part).getD x.toNat 0=part.getD x.toNat 0)
 |[],_,_,_=>⟨by simp,fun _=>rfl⟩
 | a::r,part,hl,ha=>by
   have o:=ha a x0k;have e:UQ (a::r) v part=UQ r v (part.set a.toNat v):=rfl;obtain⟨k,m⟩:=Yi v s r (part:=part.set a.toNat v) (by simpa using hl) fun b p=>ha b (x0f _ p);have q:(part.set a.toNat v).getD x.toNat 0=if a.toNat=x.toNat then v else part.getD x.toNat 0:=ZV (by omega);rw[e];by_cases i:x∈r
   .exact ⟨fun _=>k i,fun h=>absurd (x0f _ i) h⟩
   .rw [m i,q];constructor
    .intro h;rcases x0p.1 h with rfl|h
     .rw [if_pos rfl]
     .exact absurd h i
    .intro h;have:x≠a:=fun j=>h (by rw[j];exact x0k);rw[if_neg (by omega)]
theorem PartI.part{n:Nat}{g:List (List Int)×List (List Int)}(P:XK n g.1)(t:XK n g.2)(J:∀x y,rowE g.2 x y↔rowE g.1 y x){es:List Int}(O:EndsP n (rowE g.1) es){m:Nat}{part:List Int}{seen:List Bool}(h:PartI n (rowE g.1) es (m+1) part seen){r:Int}(H:es[m]?=some r)(L:seen.getD r.toNat false=false):
  (∀x∈(ZZ g.2 (n+1) 0 (seen.set r.toNat true,[r])).2,0<=x/\x<n)/\0<(ZZ g.2 (n+1) 0 (seen.set r.toNat true,[r])).2.length/\wkInv n (seen.set r.toNat true,[r])/\
  PartI n (rowE g.1) es m (UQ (ZZ g.2 (n+1) 0 (seen.set r.toNat true,[r])).2 (Do (ZZ g.2 (n+1) 0 (seen.set r.toNat true,[r])).2) part) (ZZ g.2 (n+1) 0 (seen.set r.toNat true,[r])).1:=by
 have q:=(O.mem r).1 (x0i H);have V:=h.sl;have K:¬SeenP (rowE g.1) es (m+1) r:=fun B=>by rw[(h.seen r q).2 B]at L;cases L
 obtain⟨Q,M⟩:=Eb t h.sl q L;have f:∀x y,rowE g.1 x y->(0<=x/\x<n)/\0<=y/\y<n:=fun x y F=>⟨DN t ((J y x).2 F).2,DN P F.2⟩;have v:=SA f O H K;have A:∀x,Rch (fun a b=>D6 g.2 a b/\seen.getD b.toNat false=false) r x↔Rch (fun a b=>rowE g.1 b a/\¬SeenP (rowE g.1) es (m+1) b) r x:=fun x=>by
  constructor
  .intro j;exact(j.closed (S:=fun x:Int=>(0<=x/\x<n)/\Rch (fun a b=>rowE g.1 b a/\¬SeenP (rowE g.1) es (m+1) b) r x) (fun a b ⟨z,e⟩ ⟨c,N⟩=>by
    have G:=DN t c;refine⟨G,.tail e ⟨(J a b).1 ⟨z.1,c⟩,fun B=>?_⟩⟩;rw[(h.seen b G).2 B]at N;cases N) ⟨q,.refl⟩).2
  .intro j;refine j.mono fun a b ⟨z,e⟩=>⟨((J a b).2 z).2,?_⟩;have G:=(f b a z).1;cases U:seen.getD b.toNat false with
   |true=>exact absurd ((h.seen b G).1 U) e
   |false=>rfl
 have i:∀x,x∈(ZZ g.2 (n+1) 0 (seen.set r.toNat true,[r])).2↔sccP (rowE g.1) r x:=fun x=>by rw[Q,A,v]
 have o:∀x∈(ZZ g.2 (n+1) 0 (seen.set r.toNat true,[r])).2,0<=x/\x<n:=fun x j=>T3 P q ((i x).1 j).1;have l:0<(ZZ g.2 (n+1) 0 (seen.set r.toNat true,[r])).2.length:=x6g ((i r).2 (sccP.refl r));have D:wkInv n (seen.set r.toNat true,[r]):=by
  refine⟨by simpa using h.sl,?_,fun x j=>by rw[x0b.1 j];exact q⟩;have I:r.toNat<(seen.set r.toNat true).length:=by simp;omega
  show 1<=_;exact List.count_pos_iff.2 (x2m.2 ⟨r.toNat,I,by simp⟩)
 have E:(ZZ g.2 (n+1) 0 (seen.set r.toNat true,[r])).1.length=n:=(DS t _ _ D).1;generalize ZZ g.2 (n+1) 0 (seen.set r.toNat true,[r])=w at i o l E M⊢;obtain⟨R,T⟩:=N3 l;refine⟨o,l,D,E,by rw[MW];exact h.pl,fun x j=>?_,fun x j B=>?_⟩
 .rw [M x j,i,h.seen x j,Nb H]
 .obtain ⟨z,e⟩:=Yi (Do w.2) j w.2 h.pl o;by_cases u:x∈w.2
  .rw [z u];have C:=(i x).1 u;exact⟨C.symm.trans ((i _).1 R),fun y Y=>T y ((i y).2 (C.trans Y))⟩
  .rw [e u];refine h.min x j ?_;rcases(Nb H x).1 B with c|c
   .exact c
   .exact absurd ((i x).2 c) u
theorem PartI.fin{n:Nat}{rows:List (List Int)}(v:XK n rows){es:List Int}(u:EndsP n (rowE rows) es){part:List Int}{seen:List Bool}(h:PartI n (rowE rows) es 0 part seen):part=Z1 n rows:=by
 refine x6d fun i=>?_;rcases x0t i n with j|j
 .have o:0<=(i:Int)/\(i:Int)<n:=by omega
  have q:=h.min i o (O6 u o);have r:=Z2 v o;have t:=q.uniq r;have l:i<part.length:=by rw[h.pl];exact j
  have m:i<(Z1 n rows).length:=by rw[DD];exact j
  simpa[x0y,l,m]using t
 .rw [x2f (by rw[h.pl];exact j),x2f (by rw[DD];exact j)]
def Xn(n:Nat)(O:n<=5000)(g:List (List Int)×List (List Int))(d:XK n g.1)(s:XK n g.2)(B:∀x y,rowE g.2 x y↔rowE g.1 y x):SpecP prog 287 [VV g] (fun r=>r=QI (Z1 n g.1)):=by
 refine sB PS func287 rfl call287 ?_;conv=>whnf
 have N:((avI g.1).map AV.sl).length=n:=by simp[avI,d.1]
 repeat' ((first|(refine iM fun _=>?_)|refine aR ?_|refine wI ?_|refine x5r n (by rw[N]) (by show 1*n<=140737488355328;omega) (by unfold maxLen;omega) ?_|refine x5r n (by rw[N]) (by show 8*n<=140737488355328;omega) (by unfold maxLen;omega) ?_|(refine CallK.pure (Wa n O g d) (.cons (Sub.refl _) .nil) ?_;rintro _ ⟨es,rfl,z⟩));conv=>whnf)
 have M:es.length<=n:=by
  have f:=z.nd;exact D4 f fun x t=>(z.mem x).1 t
 have C:(es.map (AV.int .i64)).length=es.length:=x0j _;refine LoopK.inv QK (fun x:Nat×List Int×List Bool=>⟨[(0,.p (VV g)),(3,.hd 0 0 n),(4,.hd 1 0 n),(5,.p (QI es)),(6,.p (.int .i64 ((x.1:Int)-1)))],[(0,.own 3 1 (x.2.1.map (.int .i64))),(1,.own 4 1 (x.2.2.map bv))]⟩)
  (fun x=>x.1<=es.length/\PartI n (rowE g.1) es x.1 x.2.1 x.2.2) (fun x=>x.1) (es.length,List.replicate n 0,List.replicate n false)
  (Le.mk [] (by simp) (by simp) (by simp) (.r (.cons (.of_eq rfl) (.cons (.of_eq rfl) (.r (.cons (.of_eq (by rw[C];rfl)) .nil)))))
    (.cons rfl (.of_eq (by rw[x3b];rfl)) (.cons rfl (.of_eq (by rw[x3b];rfl)) .nil)))
  ⟨x0o _,PartI.start⟩ ?_
 rintro⟨m,part,seen⟩ ⟨f,o⟩;simp only at f o⊢;have T:=o.sl;have D:=o.pl;cases m with
 | zero=>
   conv=>whnf
   repeat' (apply bD<;>intro _<;>first|omega|conv=>whnf)
   exact⟨_,.hd rfl (by simp[D]),by rw[o.fin d z];rfl⟩
 | succ m=>
   obtain⟨r,u⟩ : ∃r,es[m]?=some r:=⟨_,x0u (by omega)⟩;have E:=(z.mem r).1 (x0i u);have Q:es[m]=r:=by rw[x0u (by omega)]at u;exact x3h u
   have a:(es.map (AV.int .i64))[m]?=some (.int .i64 r):=by rw[x0d,u];rfl
   have v:=Oa (l:=seen) (i:=r.toNat) (by omega);cases e:seen.getD r.toNat false with
   | true=>
     rw[e]at v;have c:=Al u ((o.seen r E).1 e);conv=>whnf
     repeat' (first|((first|refine x0h rfl ?_|refine wI ?_|(refine IdxK.at (k:=m) (by omega) a rfl ?_)|refine x1i r.toNat (by omega) (by omega) ?_|refine x2t r.toNat 0 .tt (by omega) v ?_);conv=>whnf)|(apply bD<;>intro _<;>first|omega|conv=>whnf))
     exact⟨(m,part,seen),⟨by simp only;omega,o.sl,o.pl,fun x t=>by rw[o.seen x t,c],fun x t R=>o.min x t ((c x).1 R)⟩,x6e m,Le.of_eq (by rw[show((m+1:Nat):Int)-1-1=(m:Int)-1 by omega])⟩
   | false=>
     rw[e]at v;obtain⟨J,K,L,A⟩:=o.part d s B z u e;conv=>whnf
     repeat' (first|((first|refine dA ?_|refine x0h rfl ?_|refine aD ?_|(refine IdxK.at (k:=m) (by omega) a rfl ?_)|refine x1i r.toNat (by omega) (by omega) ?_|refine x2t r.toNat 0 .ff (by omega) v ?_|refine x3p r.toNat 0 .ff .tt (by omega) v (x0o 1) rfl ?_|refine x6n (fun x t=>by rcases x0b.1 t with rfl;rfl) rfl ?_);conv=>whnf)|(apply bD<;>intro _<;>first|omega|conv=>whnf))
     have F:(ZZ g.2 (n+1) 0 (seen.set r.toNat true,[r])).1.length=n:=A.sl;rw[show(seen.map bv).set r.toNat AV.tt=(seen.set r.toNat true).map bv by rw[x2y];rfl];refine CallK.heap [(1000,1),(2000,2)] 0 (x1x (x1v _) (x1x (x1v _) (x1x (x1v _) x1m))) (by refine x0e (j:=1) rfl rfl ?_ ?_;exact CSub.refl _;refine x0e (j:=2) rfl rfl ?_ ?_;exact CSub.refl _;exact x1l) (Kt n O g.2 s (seen.set r.toNat true,[r]) L) rfl rfl ?_;rintro l' H' ⟨rfl,rfl⟩;conv=>whnf
     have G:(ZZ g.2 (n+1) 0 (seen.set r.toNat true,[r])).2.length<=n:=DC (DS s _ _ L);generalize ZZ g.2 (n+1) 0 (seen.set r.toNat true,[r])=w at J K A F G⊢;repeat' ((first|(refine iM fun _=>?_)|(refine XM (MV w.2 K) (.cons (.hd rfl (by simp)) .nil) (by rintro _ rfl;rfl) ?_;rintro _ rfl));conv=>whnf)
     refine LoopK.inv QK (fun x:Nat=>⟨[(0,.p (VV g)),(3,.hd 0 0 n),(4,.hd 1 0 n),(5,.p (QI es)),(6,.p (.int .i64 (((m+1:Nat):Int)-1))),(8,.p (.int .i64 (Do w.2))),(60,.hd 2 0 w.2.length),(61,.p (.int .i64 w.2.length)),(62,.p (.int .i64 x))],[(1,.own 4 1 (w.1.map bv)),(2,.own 3 1 (w.2.map (.int .i64))),(0,.own 3 1 ((UQ (w.2.take x) (Do w.2) part).map (.int .i64)))]⟩)
      (fun x=>x<=w.2.length) (fun x=>w.2.length-x) 0 (Le.of_eq rfl) (x0l _) ?_
     intro q P;rcases x0t q w.2.length with h|h
     .have U:=J _ (x0s h);have H:=Pa (l:=UQ (w.2.take q) (Do w.2) part) (i:=w.2[q].toNat) (by rw[MW];omega);have I:UQ (w.2.take (q+1)) (Do w.2) part=(UQ (w.2.take q) (Do w.2) part).set w.2[q].toNat (Do w.2):=by
       unfold UQ;rw[x0a h,x5e];rfl
      generalize UQ (w.2.take q) (Do w.2) part=pt at H I⊢;conv=>whnf
      repeat' (first|((first|refine x0h rfl ?_|refine wI ?_|refine x1i q (by omega) (by omega) ?_|refine x2t q 0 (.int .i64 w.2[q]) (by omega) (by simp[h]) ?_|refine x1i w.2[q].toNat (by omega) (by omega) ?_|refine x3p w.2[q].toNat 0 (.int .i64 (pt.getD w.2[q].toNat 0)) (.int .i64 (Do w.2)) (by omega) H (x0o 1) rfl ?_);conv=>whnf)|(apply bD<;>intro _<;>first|omega|conv=>whnf))
      exact⟨q+1,h,by omega,Le.of_eq (by rw[I,x2y];rfl)⟩
     .rw [x1w h];conv=>whnf
      repeat' (first|(refine wI ?_;conv=>whnf)|(apply bD<;>intro _<;>first|omega|conv=>whnf))
      exact⟨(m,UQ w.2 (Do w.2) part,w.1),⟨by simp only;omega,A⟩,x6e m,Le.mk [] (by simp) (by simp) (by simp) (.r (.r (.r (.r (.cons (.of_eq (by rw[show(m:Int)=((m+1:Nat):Int)-1 by omega];rfl)) .nil))))) (.cons rfl (.refl _) (.cons rfl (.refl _) .nil))⟩
theorem OpK.frz{P:Program}{T:Tab}{N:Nat}{o:Oper}{K:St->Prop}{s:St}(hT:TabOK P T)(q:List (List Nat))(h:q5c q s fun s'=>opW P T N s' o K):OpK P N s o K:=⟨fun σ β a w v Q=>by
 obtain⟨z,r,j⟩:=Uh (N:=N) h;obtain⟨σ1,β1,m,i⟩:=j σ β a w v;exact Oper.wp_mono (fun y w' ⟨σ',β',x,t,l,u⟩=>⟨σ',β',x,t,l,i.trans u⟩) (Yd hT r m Q)⟩
def T1{N:List (List Int)}{a:Nat}(i:a<N.length){y:Int}{k:Nat}:y∈(Gk N a b).getD k []↔y∈N.getD k []\/(a=k/\y=b):=by
 unfold Gk;rw[ZV i];split
 .rename_i h;rw[Ro,h];simp
 .rename_i h;simp[h]
def SM{n:Nat}{g:List (List Int)×List (List Int)}(h:g.2.length=n)(e:Int×Int):(Dc n g e).2.length=n:=by
 rw[K4];cases(ZK n e.1&&ZK n e.2 && !(g.1.getD e.1.toNat []).contains e.2)with
 |true=>rw[x1u];unfold Gk;rw[x3g];exact h
 |false=>exact h
structure MirG(n:Nat)(g:List (List Int)×List (List Int)):Prop where
 l1:g.1.length=n
 l2:g.2.length=n
 m:∀x y:Int,0<=x/\x<n->0<=y/\y<n->(y∈g.1.getD x.toNat []↔x∈g.2.getD y.toNat [])
theorem MirG.add{n:Nat}{g:List (List Int)×List (List Int)}(h:MirG n g)(e:Int×Int):MirG n (Dc n g e):=by
 refine⟨R3 h.l1 e,SM h.l2 e,fun x y l o=>?_⟩;rw[Va,K4];cases j:(ZK n e.1&&ZK n e.2 && !(g.1.getD e.1.toNat []).contains e.2)with
 | true=>
   simp only[x1z]at j;have r:=XO j.1.1;have t:=XO j.1.2;rw[x1u,x1u,T1 (by rw[h.l1];omega),T1 (by rw[h.l2];omega),h.m x y l o];constructor
   .rintro (i|⟨i,q⟩)
    .exact .inl i
    .exact .inr ⟨by omega,by omega⟩
   .rintro (i|⟨i,q⟩)
    .exact .inl i
    .exact .inr ⟨by omega,by omega⟩
 |false=>exact h.m x y l o
theorem MirG.fold{n:Nat}:∀(l:List (Int×Int)){g:List (List Int)×List (List Int)},MirG n g->MirG n (l.foldl (Dc n) g)
 |[],_,h=>h
 |e::r,_,h=>MirG.fold r (h.add e)
def Pm(n:Nat)(l:List (Int×Int)):MirG n (QS n l):=by
 refine MirG.fold l ⟨by simp,by simp,fun x y _ _=>?_⟩;have:∀k,(List.replicate n ([]:List Int)).getD k []=[]:=fun k=>by
  rw[x0y,x1b];split<;>rfl
 simp only[this];simp
def Lk{n:Nat}{rows:List (List Int)}(k:rows.length=n){x y:Int}(h:rowE rows x y):0<=x/\x<n:=by
 refine⟨h.1,?_⟩;have i:=h.2;unfold D6 at i;rcases x0t x.toNat rows.length with j|j
 .omega
 .rw [x0y,x2f j]at i;simp at i
def TR(n:Nat)(l:List (Int×Int))(x y:Int):rowE (QS n l).2 x y↔rowE (QS n l).1 y x:=by
 obtain⟨o,p⟩:=JW n l;have j:=Pm n l;constructor
 .intro h;have k:=Lk j.l2 h;have i:=DN p h.2;exact⟨i.1,(j.m y x i k).2 h.2⟩
 .intro h;have k:=Lk j.l1 h;have i:=DN o h.2;exact⟨i.1,(j.m y x k i).1 h.2⟩
def Xl{n:Nat}{l:List (Int×Int)}{x y:Int}:rowE (QS n l).1 x y↔(x,y)∈l/\ZK n x=true/\ZK n y=true:=by
 constructor
 .intro h;have i:=Lk (Pm n l).l1 h;have:=(BJ i).1 h.2;exact⟨this.1,DU i,this.2⟩
 .rintro ⟨j,k,m⟩;have i:=XO k;exact⟨i.1,(BJ i).2 ⟨j,m⟩⟩
def Xo(part:List Int)(o:List Bool)(t:Int×Int):List Bool:=if part.getD t.1.toNat 0=part.getD t.2.toNat 0 then o else o.set (part.getD t.1.toNat 0).toNat true
def Jt(n:Nat)(part:List Int):List Bool:=((List.replicate n false).set (part.getD 0 0).toNat true).set (part.getD (n-1) 0).toNat true
def Js(n:Nat)(part:List Int)(h:List (Int×Int)):List Bool:=h.foldl (Xo part) (Jt n part)
def DR(h:Int->Int)(part:List Int)(i q:Nat):List Int:=((List.range q).filter fun j=>part.getD j 0==(i:Int)).map fun(j:Nat)=>h j
def J9(part:List Int)(op:List Bool)(i:Nat):Bool:=part.getD i 0==(i:Int) && !op.getD i false
def Zz(h:Int->Int)(part:List Int)(op:List Bool)(q:Nat):List (List Int):=((List.range q).filter (J9 part op)).map fun i=>DR h part i part.length
def prsW(w:Way)(f:Pr):List (Int×Int):=w.real.map (ixP w.p w.j f w.n)
def VP(w:Way)(f:Pr):List Int:=Z1 w.n.toNat (QS w.n.toNat (prsW w f)).1
def trapsW(w:Way)(f:Pr):List (List Int):=Zz (QH w.p w.j w.n) (VP w f) (Js w.n.toNat (VP w f) (prsW w f)) (VP w f).length
def Nz(part:List Int)(o:List Bool)(t:Int×Int):(Xo part o t).length=o.length:=by
 unfold Xo;split<;>simp
def RT{n:Nat}{rows:List (List Int)}(h:XK n rows){k:Nat}(j:k<n):0<=(Z1 n rows).getD k 0/\(Z1 n rows).getD k 0<n:=by
 have i:0<=(k:Int)/\(k:Int)<n:=by omega
 have:=Z2 h i;exact T3 h i this.scc.1
def Si(j:Int->Int)(part:List Int)(i q:Nat):DR j part i (q+1)=if part.getD q 0=(i:Int)then DR j part i q++[j q]else DR j part i q:=by
 unfold DR;rw[x4c,x3k,x0c];by_cases h:part.getD q 0=(i:Int)
 .rw [if_pos h,x3d (by rw[h];simp)];rfl
 .rw [if_neg h,x3n (by simpa using h)];simp
def Se(i:Int->Int)(part:List Int)(op:List Bool)(q:Nat):Zz i part op (q+1)=if J9 part op q=true then Zz i part op q++[DR i part q part.length]else Zz i part op q:=by
 unfold Zz;rw[x4c,x3k,x0c];by_cases h:J9 part op q=true
 .rw [if_pos h,x3d h];rfl
 .rw [if_neg h,x3n h];simp
def No(h:Int->Int)(part:List Int)(i q:Nat):(DR h part i q).length<=q:=by
 unfold DR;rw[x0j];exact x1t (x2l _ _) (by simp)
def Ni(h:Int->Int)(part:List Int)(op:List Bool)(q:Nat):(Zz h part op q).length<=q:=by
 unfold Zz;rw[x0j];exact x1t (x2l _ _) (by simp)
theorem Nx(part:List Int):∀(l:List (Int×Int))(o:List Bool),(l.foldl (Xo part) o).length=o.length
 |[],_=>rfl
 |t::r,o=>by rw[x3m,Nx part r,Nz]
def A4(n:Nat)(part:List Int)(l:List (Int×Int)):(l.foldl (Xo part) (Jt n part)).length=n:=by
 rw[Nx];simp[Jt]
def Dn(w:Way)(f:Pr)(n:Nat)(L:w.n=n)(P:w.p.A[w.j]?=some f)(O:cntP w.p.A<=1000)(hn:n<=5000)(hn2:2<=n)(y:w.real.length<=1000000)(hr:∀t∈prsW w f,(0<=t.1/\t.1<n)/\0<=t.2/\t.2<n):SpecP prog 232 [.ip w.cells] (fun r=>r=eMat (trapsW w f)):=by
 refine sB Vt func232 rfl call232 ?_;conv=>whnf
 have d:=JW n (prsW w f);have u:VP w f=Z1 n (QS n (prsW w f)).1:=by unfold VP;rw[L];rfl
 have J:trapsW w f=Zz (QH w.p w.j w.n) (VP w f) (Js n (VP w f) (prsW w f)) n:=by unfold trapsW;rw[u,DD,L];rfl
 have v:∀k,k<n->0<=(VP w f).getD k 0/\(VP w f).getD k 0<n:=fun k hk=>by rw[u];exact RT d.1 hk
 have g:(VP w f).length=n:=by rw[u,DD]
 have c:=Xn n hn (QS n (prsW w f)) d.1 d.2 (TR n (prsW w f));rw[<-u]at c;rw[J];clear J u d;generalize VP w f=part at v g c⊢;have ha0:=v 0 (by omega);have ha1:=v (n-1) (by omega);have G:=Pa (l:=part) (i:=0) (by omega);have H:=Pa (l:=part) (i:=n-1) (by omega);have e0:(List.replicate n AV.ff)[(part.getD 0 0).toNat]?=some .ff:=by rw[x1b,if_pos (by omega)]
 have e1:((List.replicate n AV.ff).set (part.getD 0 0).toNat .tt)[(part.getD (n-1) 0).toNat]?=some (bv (((List.replicate n false).set (part.getD 0 0).toNat true).getD (part.getD (n-1) 0).toNat false)):=by
  have:(List.replicate n AV.ff).set (part.getD 0 0).toNat .tt=((List.replicate n false).set (part.getD 0 0).toNat true).map bv:=by
   rw[x2y,x3b];rfl
  rw[this];exact Oa (by rw[x3g,x2d];omega)
 have hplm:(part.map (AV.int .i64)).length=n:=by rw[x0j,g]
 repeat' ((first|(refine iM fun _=>?_)|refine dA ?_|refine x0h rfl ?_|refine aR ?_|refine wI ?_|refine cP (Dm w f n L P O hn w.real y) ?_|refine cP c ?_|refine x5r n L (by show 1*n<=140737488355328;omega) (by unfold maxLen;omega) ?_|(refine IdxK.at (k:=0) rfl G rfl ?_)|(refine IdxK.at (k:=n-1) (by omega) H rfl ?_)|refine x1i (part.getD 0 0).toNat (by omega) (by omega) ?_|refine x1i (part.getD (n-1) 0).toNat (by omega) (by omega) ?_|refine x3p (part.getD 0 0).toNat 0 .ff .tt (show(0+(part.getD 0 0).toNat)*1=(part.getD 0 0).toNat*1+0 by omega) e0 (x0o 1) rfl ?_|(refine CallK.pure (YR w f P O (by omega) w.real y) (.cons (Sub.refl _) (.cons (Sub.refl _) .nil)) ?_;rintro _ rfl)|(refine x3p (part.getD (n-1) 0).toNat 0 _ .tt (show(0+(part.getD (n-1) 0).toNat)*1=(part.getD (n-1) 0).toNat*1+0 by omega) e1 (x0o 1) (by cases((List.replicate n false).set (part.getD 0 0).toNat true).getD (part.getD (n-1) 0).toNat false<;>rfl) ?_));conv=>whnf)
 have hprl:(prsW w f).length<=1000000:=by unfold prsW;rw[x0j];exact y
 have hpl2:(avP (prsW w f)).length=(prsW w f).length:=by simp[avP]
 refine LoopK.inv QK (fun x:Nat×List Bool=>⟨[(0,.p (.ip w.cells)),(3,.p (QI part)),(4,.hd 0 0 n),(43,.p (.sl (avP (prsW w f)))),(44,.p (.int .i64 (avP (prsW w f)).length)),(45,.p (.int .i64 x.1))],[(0,.own 4 1 (x.2.map bv))]⟩)
  (fun x=>x.1<=(prsW w f).length/\x.2=((prsW w f).take x.1).foldl (Xo part) (Jt n part)) (fun x=>(prsW w f).length-x.1) (0,Jt n part)
  (Le.mk [] (by simp) (by simp) (by simp) (.r (.r (.r (.r (.r (.r .nil)))))) (.cons rfl (.of_eq (by unfold Jt;rw[x2y,x2y,x3b];rfl)) .nil))
  ⟨x0l _,rfl⟩ ?_
 rintro⟨m,o⟩ ⟨h1,C⟩;simp only at h1 C⊢;have hol:o.length=n:=by rw[C];exact A4 n part _
 rcases x0t m (prsW w f).length with E|E
 .obtain ⟨⟨h3,h4⟩,h5,h6⟩:=hr _ (x0s E);have h7:=v (prsW w f)[m].1.toNat (by omega);have h8:=v (prsW w f)[m].2.toNat (by omega);have e2:=Pa (l:=part) (i:=(prsW w f)[m].1.toNat) (by omega);have B:=Pa (l:=part) (i:=(prsW w f)[m].2.toNat) (by omega);have e4:=Oa (l:=o) (i:=(part.getD (prsW w f)[m].1.toNat 0).toNat) (by omega);have Q:(avP (prsW w f))[m]?=some (.agg [.int .i64 (prsW w f)[m].1,.int .i64 (prsW w f)[m].2]):=by simp[avP,E]
  have e5:((prsW w f).take (m+1)).foldl (Xo part) (Jt n part)=Xo part o (prsW w f)[m]:=by rw[x0a E,x5e,<-C];rfl
  conv=>whnf
  repeat' (first|((first|refine dA ?_|refine x0h rfl ?_|refine wI ?_|(refine IdxK.at (k:=m) rfl Q rfl ?_)|refine x1i 0 rfl (by decide) ?_|refine x1i 1 rfl (by decide) ?_|(refine IdxK.at (k:=(prsW w f)[m].1.toNat) (by omega) e2 rfl ?_)|(refine IdxK.at (k:=(prsW w f)[m].2.toNat) (by omega) B rfl ?_)|refine x1i (part.getD (prsW w f)[m].1.toNat 0).toNat (by omega) (by omega) ?_|refine x3p (part.getD (prsW w f)[m].1.toNat 0).toNat 0 _ .tt (by omega) e4 (x0o 1) (by cases o.getD (part.getD (prsW w f)[m].1.toNat 0).toNat false<;>rfl) ?_);conv=>whnf)|(apply bD<;>intro _<;>first|omega|conv=>whnf)|(apply bE<;>intro _<;>first|omega|conv=>whnf))
  all_goals first
   | (have e:part.getD (prsW w f)[m].1.toNat 0=part.getD (prsW w f)[m].2.toNat 0:=by assumption
      exact⟨(m+1,o),⟨by simp only;omega,by simp only;rw[e5];unfold Xo;rw[if_pos e]⟩,by simp only;omega,Le.of_eq rfl⟩)
   | (have e:¬part.getD (prsW w f)[m].1.toNat 0=part.getD (prsW w f)[m].2.toNat 0:=by assumption
      exact⟨(m+1,o.set (part.getD (prsW w f)[m].1.toNat 0).toNat true),⟨by simp only;omega,by simp only;rw[e5];unfold Xo;rw[if_neg e]⟩,by simp only;omega,Le.of_eq (by simp only[x2y];rfl)⟩)
 .rw [x1w E]at C;have F:Js n part (prsW w f)=o:=C.symm;rw[F];clear F C e0 e1 G H c;conv=>whnf
  repeat' (first|(refine iM fun _=>?_;conv=>whnf)|(apply bD<;>intro _<;>first|omega|conv=>whnf))
  refine LoopK.inv QK (fun q:Nat=>⟨[(0,.p (.ip w.cells)),(3,.p (QI part)),(4,.hd 0 0 n),(7,.hd 1 0 (Zz (QH w.p w.j w.n) part o q).length),(69,.p (.int .i64 (part.map (AV.int .i64)).length)),(70,.p (.int .i64 q))],[(0,.own 4 1 (o.map bv)),(1,.own 54 1 ((avI (Zz (QH w.p w.j w.n) part o q)).map AV.sl))]⟩)
   (fun q=>q<=n) (fun q=>n-q) 0
   (Le.mk [(1,.own 54 1 [])] (by simp[Chunk.new0];rfl) (by simp) (by simp) (.r (.r (.r (.cons (.nil x0k) (.r (.r .nil)))))) (.cons rfl (.refl _) (.new x0k .nil)))
   (x0l _) ?_
  intro q hqn;have M:=Ni (QH w.p w.j w.n) part o q;rcases x0t q n with e|e
  .have e2:=Pa (l:=part) (i:=q) (by omega);have B:=Oa (l:=o) (i:=q) (by omega);have s:=Se (QH w.p w.j w.n) part o q;generalize Zz (QH w.p w.j w.n) part o q=acc at M s⊢;have hpe:part[q]=part.getD q 0:=by rw[x0y,x0u];rfl
   cases K:o.getD q false with
   | true=>
     rw[K]at B;have I:¬J9 part o q=true:=by unfold J9;rw[K];simp
     rw[if_neg I]at s;conv=>whnf
     repeat' (first|((first|refine x0h rfl ?_|(refine iA fun _=>?_)|refine wI ?_|refine x1i q rfl (by omega) ?_|refine x2t q 0 .tt (by omega) B ?_);conv=>whnf)|(apply bD<;>intro _<;>first|omega|conv=>whnf)|(apply bE<;>intro _<;>first|omega|conv=>whnf))
     all_goals exact⟨q+1,e,by omega,Le.of_eq (by rw[s];rfl)⟩
   | false=>
     rw[K]at B;conv=>whnf
     repeat' (first|((first|(refine iM fun _=>?_)|refine x0h rfl ?_|(refine iA fun _=>?_)|refine wI ?_|refine x1i q rfl (by omega) ?_|refine x2t q 0 .ff (by omega) B ?_);conv=>whnf)|(apply bD<;>intro _<;>first|omega|conv=>whnf)|(apply bE<;>intro _<;>first|omega|conv=>whnf))
     all_goals try
      have R:¬part.getD q 0=(q:Int):=by omega
      have I:¬J9 part o q=true:=fun h=>by
       unfold J9 at h;rw[x1z,x3s]at h;exact R h.1
      rw[if_neg I]at s;exact⟨q+1,e,by omega,Le.of_eq (by rw[s];rfl)⟩
     have T:part.getD q 0=(q:Int):=by omega
     have I:J9 part o q=true:=by unfold J9;rw[K,T];simp
     rw[if_pos I,g]at s;refine LoopK.inv QK (fun z:Nat=>⟨[(0,.p (.ip w.cells)),(3,.p (QI part)),(4,.hd 0 0 n),(7,.hd 1 0 acc.length),(8,.p (.int .i64 q)),(9,.hd 2 0 (DR (QH w.p w.j w.n) part q z).length),(69,.p (.int .i64 (part.map (AV.int .i64)).length)),(70,.p (.int .i64 q)),(86,.p (.int .i64 (part.map (AV.int .i64)).length)),(87,.p (.int .i64 z))],[(0,.own 4 1 (o.map bv)),(1,.own 54 1 ((avI acc).map AV.sl)),(2,.own 3 1 ((DR (QH w.p w.j w.n) part q z).map (.int .i64)))]⟩)
      (fun z=>z<=n) (fun z=>n-z) 0
      (Le.mk [(2,.own 3 1 [])] (by simp[Chunk.new0];rfl) (by simp) (by simp) (.r (.r (.r (.r (.r (.cons (.nil x0k) (.r (.r (.r (.r .nil)))))))))) (.cons rfl (.refl _) (.cons rfl (.refl _) (.new x0k .nil))))
      (x0l _) ?_
     intro z hzn;have N:=No (QH w.p w.j w.n) part q z;rcases x0t z n with Y|Y
     .have e4:=Pa (l:=part) (i:=z) (by omega);have a:=Si (QH w.p w.j w.n) part q z;generalize DR (QH w.p w.j w.n) part q z=l at N a⊢;conv=>whnf
      repeat' (first|((first|refine x0h rfl ?_|refine aD ?_|refine bP ?_|(refine iA fun _=>?_)|refine wI ?_|(refine CallK.pure (WG w f P O (by omega) z (by omega)) (.cons (Sub.refl _) (.cons (Sub.refl _) .nil)) ?_;rintro _ rfl)|refine XU (by simp) (by simp;omega) ?_);conv=>whnf)|(apply bD<;>intro _<;>first|omega|conv=>whnf))
      have U:part[z]=part.getD z 0:=by rw[x0y,x0u];rfl
      .rw [if_pos (by omega)]at a;exact⟨z+1,Y,by omega,Le.of_eq (by rw[a,x0g,x0c];rfl)⟩
      .have U:part[z]=part.getD z 0:=by rw[x0y,x0u];rfl
       rw[if_neg (by omega)]at a;exact⟨z+1,Y,by omega,Le.of_eq (by rw[a];rfl)⟩
     .have Z:z=n:=by omega
      subst Z;conv=>whnf
      repeat' (apply bD<;>intro _<;>first|omega|conv=>whnf)
      have D:(DR (QH w.p w.j w.n) part q z).length=((DR (QH w.p w.j w.n) part q z).map (AV.int .i64)).length:=by simp
      refine OpK.frz QK [[9,104]] ?_;conv=>whnf
      refine LenK.mk D ?_;conv=>whnf
      refine LenK.mk D ?_;conv=>whnf
      repeat' ((first|refine x0h rfl ?_|refine aD ?_|refine bP ?_|refine wI ?_|refine x4n (by simp[avI]) rfl (by show(acc.length+1)*24<=140737488355328;omega) (by show acc.length+1<=9223372036854775807;omega) (fun x hx=>by rcases x0b.1 hx with rfl;exact⟨rfl,rfl⟩) ?_);conv=>whnf)
      exact⟨q+1,e,by omega,Le.of_eq (by rw[s];simp only[avI,x0g,x0c];rfl)⟩
  .have V:q=n:=by omega
   subst V;conv=>whnf
   repeat' (apply bD<;>intro _<;>first|omega|conv=>whnf)
   exact⟨_,.hd rfl (by simp[avI]),rfl⟩
def vOf(p:Pg)(id:Int):List Step:=match OE p id with
 |some s=>if s.kind=10 then [⟨id,-1,3⟩]else []
 |none=>[]
def UM(w:Way)(f:Pr):List Step:=(trapsW w f).flatMap fun l=>l.flatMap (vOf w.p)
def q3x(p:Pg)(id:Int):(vOf p id).length<=1:=by
 unfold vOf;split
 .split<;>simp
 .simp
theorem WI{α β:Type}{g:α->List β}{c:Nat}:∀(l:List α),(∀x∈l,(g x).length<=c)->(l.flatMap g).length<=l.length*c
 |[],_=>by simp
 | a::r,h=>by
   have j:=h a x0k;have k:=WI r fun x i=>h x (x0f _ i);rw[x1o,x0g,x1r,x3q];omega
def R1(w:Way)(f:Pr)(n:Nat)(Z:w.n=n)(O:w.p.A[w.j]?=some f)(N:cntP w.p.A<=1000)(R:n<=5000)(C:2<=n)(a:w.real.length<=1000000)(T:∀t∈prsW w f,(0<=t.1/\t.1<n)/\0<=t.2/\t.2<n)(D:(trapsW w f).length<=5000)(d:∀l∈trapsW w f,l.length<=5000/\∀id∈l,1<=id/\id<=(sheetOf w.p).l.length):
  SpecH prog 183 [.p (.ip w.cells)] [] (fun r H=>r=.hd 0 0 (UM w f).length/\H=[(0,.own 232 3 (avS (UM w f)))]):=by
 refine sH Xv func183 rfl call183 ?_;conv=>whnf
 repeat' ((first|(refine iM fun _=>?_)|refine cP (Dn w f n Z O N R C a T) ?_);conv=>whnf)
 unfold UM;generalize trapsW w f=ts at D d⊢;have Q:((avI ts).map AV.sl).length=ts.length:=by simp[avI]
 refine LoopK.inv QK (fun x:Nat×List Step=>⟨[(0,.p (.ip w.cells)),(3,.hd 0 0 x.2.length),(9,.p (eMat ts)),(10,.p (.int .i64 ((avI ts).map AV.sl).length)),(11,.p (.int .i64 x.1))],[(0,.own 232 3 (avS x.2))]⟩)
  (fun x=>x.1<=ts.length/\x.2.length<=x.1*5000/\x.2++(ts.drop x.1).flatMap (fun l=>l.flatMap (vOf w.p))=ts.flatMap fun l=>l.flatMap (vOf w.p)) (fun x=>ts.length-x.1) (0,[])
  (Le.mk [(0,.own 232 3 [])] (by simp[Chunk.new0];rfl) (by simp) (by simp) (.r (.cons (.nil x0k) (.r (.r (.r .nil))))) (.new x0k .nil))
  ⟨x0l _,by simp,rfl⟩ ?_
 rintro⟨m,e⟩ ⟨J,K,q⟩;simp only at J K q⊢;rcases x0t m ts.length with v|v;rotate_left 1
 .rw [x1q v,List.flatMap_nil,x2v]at q;conv=>whnf
  repeat' (apply bD<;>intro _<;>first|omega|conv=>whnf)
  exact⟨_,x1v _,by rw[q],by rw[q]⟩
 obtain⟨B,z⟩:=d _ (x0s v);have G:((avI ts).map AV.sl)[m]?=some (.sl (ts[m].map (.int .i64))):=by simp[avI,v]
 rw[JE v]at q;conv=>whnf
 repeat' (first|((first|(refine iM fun _=>?_)|(refine iA fun _=>?_));conv=>whnf)|(apply bD<;>intro _<;>first|omega|conv=>whnf))
 have g:(avI ts)[m]'(by simp[avI];exact v)=ts[m].map (.int .i64):=by simp[avI]
 rw[g];generalize ts[m]=l at B z q⊢;have P:(l.map (AV.int .i64)).length=l.length:=x0j _;generalize I:(ts.flatMap fun l=>l.flatMap (vOf w.p))=tot at q⊢;refine LoopK.inv QK (fun x:Nat×List Step=>⟨[(0,.p (.ip w.cells)),(3,.hd 0 0 x.2.length),(9,.p (eMat ts)),(10,.p (.int .i64 ((avI ts).map AV.sl).length)),(11,.p (.int .i64 m)),(15,.p (QI l)),(16,.p (.int .i64 (l.map (AV.int .i64)).length)),(17,.p (.int .i64 x.1))],[(0,.own 232 3 (avS x.2))]⟩)
  (fun x=>x.1<=l.length/\x.2.length<=m*5000+x.1/\x.2++((l.drop x.1).flatMap (vOf w.p)++(ts.drop (m+1)).flatMap (fun l=>l.flatMap (vOf w.p)))=tot) (fun x=>l.length-x.1) (0,e) (Le.of_eq rfl) ⟨x0l _,by simp only;omega,q⟩ ?_
 rintro⟨k,h⟩ ⟨L,M,o⟩;simp only at L M o⊢;rcases x0t k l.length with y|y;rotate_left 1
 .rw [x1q y]at o;conv=>whnf
  repeat' (first|(refine wI ?_;conv=>whnf)|(apply bD<;>intro _<;>first|omega|conv=>whnf))
  exact⟨(m+1,h),⟨v,by simp only;omega,by simpa using o⟩,by simp only;omega,Le.of_eq rfl⟩
 obtain⟨h7,h8⟩:=z _ (x0s y);obtain⟨_,_,_,U,_⟩:=QJ w.p;have c:(l[k]-1).toNat<(sheetOf w.p).l.length:=by omega
 have V:∃u:Item,((sheetOf w.p).l.map fun i=>AV.agg i.cells)[(l[k]-1).toNat]?=some (.agg u.cells)/\OE w.p l[k]=some u.s:=⟨_,by rw[x0d,x0u c];rfl,by unfold OE;rw[x0u c];rfl⟩;obtain⟨u,E,F⟩:=V;rw[JE y]at o;have Y:vOf w.p l[k]=if u.s.kind=10 then [⟨l[k],-1,3⟩]else []:=by unfold vOf;rw[F]
 rw[Y]at o;conv=>whnf
 repeat' (first|((first|refine x0h rfl ?_|refine aD ?_|refine bP ?_|(refine iA fun _=>?_)|refine wI ?_|(refine IdxK.at (by omega) E rfl ?_)|refine x4n (by simp[avS]) rfl (by show(h.length+1)*24<=140737488355328;omega) (by show h.length+1<=9223372036854775807;omega) (fun x hx=>by rcases x0b.1 hx with rfl;exact⟨rfl,rfl⟩) ?_);conv=>whnf)|(apply bD<;>intro _<;>first|omega|conv=>whnf))
 .rw [if_pos (by assumption)]at o;exact⟨(k+1,h++[⟨l[k],-1,3⟩]),⟨y,by simp;omega,by simpa using o⟩,by simp only;omega,Le.of_eq (by simp only[avS,x0g,x0c];rfl)⟩
 .rw [if_neg (by assumption)]at o;exact⟨(k+1,h),⟨y,by simp only;omega,by simpa using o⟩,by simp only;omega,Le.of_eq rfl⟩
def fOf(h:Item):List Step:=if h.s.kind=7\/h.s.kind=8\/h.s.kind=9\/h.s.kind=10 then [⟨h.s.id,h.next,2⟩]else []
structure WayT(w:Way)(f:Pr)(n:Nat):Prop where
 hw:w.n=n
 hj:w.p.A[w.j]?=some f
 hc:cntP w.p.A<=1000
 hn:n<=5000
 hn2:2<=n
 hlen:w.real.length<=1000000
 hr:∀t∈prsW w f,(0<=t.1/\t.1<n)/\0<=t.2/\t.2<n
 htl:(trapsW w f).length<=5000
 hti:∀l∈trapsW w f,l.length<=5000/\∀id∈l,1<=id/\id<=(sheetOf w.p).l.length
 hok:∀s∈w.real,okSt s
 hfk:∀it∈itsOf w.p w.j f,∀s∈fOf it,okSt s
def q3z{p:Pg}{id:Int}{s:Step}(h:s∈vOf p id):s=⟨id,-1,3⟩:=by
 unfold vOf at h;split at h
 .split at h
  .simpa using h
  .simp at h
 .simp at h
theorem WayT.virt_ok{w:Way}{f:Pr}{n:Nat}(h:WayT w f n):∀s∈UM w f,okSt s:=fun s i=>by
 unfold UM at i;obtain⟨l,m,i⟩:=x1p.1 i;obtain⟨id,j,i⟩:=x1p.1 i;obtain⟨_,_,_,o,_⟩:=QJ w.p;have q:=(h.hti l m).2 id j;have r:=h.hc;rw[q3z i];exact⟨by show id≠_;omega,by show(-1:Int)≠_;decide⟩
theorem WayT.virt_len{w:Way}{f:Pr}{n:Nat}(h:WayT w f n):(UM w f).length<=25000000:=by
 have m:=WI (g:=fun l=>l.flatMap (vOf w.p)) (c:=5000) (trapsW w f) fun l j=>by
  have i:=WI (g:=vOf w.p) (c:=1) l fun id _=>q3x w.p id;have o:=(h.hti l j).1;omega
 have i:=h.htl;unfold UM;omega
def PQ(w:Way)(f:Pr):List Step:=WC (UM w f++w.real)
def K8(w:Way)(f:Pr):List Step:=UM w f++w.real++[⟨0,-1,2⟩]++(itsOf w.p w.j f).flatMap fOf
def q9k(w:Way)(f:Pr):List Step:=WC (K8 w f)
def Wu(w:Way)(f:Pr)(n:Nat)(h:WayT w f n):SpecP prog 111 [.ip w.cells] (fun r=>r=eSteps (PQ w f)):=by
 refine sB Jf func111 rfl call111 ?_;conv=>whnf
 have p:=h.hlen;have t:=h.virt_len;have l:=h.virt_ok;repeat' (first|((first|refine dA ?_|refine aD ?_);conv=>whnf)|(refine CallK.heap [] 0 (x1x (x1v _) x1m) x1l (R1 w f n h.hw h.hj h.hc h.hn h.hn2 h.hlen h.hr h.htl h.hti) rfl rfl ?_;rintro l' H' ⟨rfl,rfl⟩;conv=>whnf))
 have k:(w.real.map fun s=>AV.agg s.cells).length=w.real.length:=x0j _;have o:(avS (UM w f)).length=(UM w f).length:=by simp[avS]
 refine x4n o.symm rfl (by rw[k];show((UM w f).length+w.real.length)*24<=140737488355328;omega) (by rw[k];show(UM w f).length+w.real.length<=9223372036854775807;omega) (fun x u=>by obtain⟨s,_,rfl⟩:=x0n.1 u;exact⟨rfl,rfl⟩) ?_;conv=>whnf
 have i:avS (UM w f)++(w.real.map fun s=>AV.agg s.cells)=avS (UM w f++w.real):=by simp[avS]
 have m:(UM w f).length+(w.real.map fun s=>AV.agg s.cells).length=(UM w f++w.real).length:=by simp
 rw[i,m];repeat' (refine CallK.heap [(1000,0)] 0 (by repeat' (first|exact x1m|refine x1x ?_ ?_|exact x1v _|exact x1d Sub.nils|exact x1d (Sub.tt rfl)|exact x1d (Sub.ff rfl)|exact x1d (Sub.int (by omega)))) (by refine x0e (j:=0) rfl rfl ?_ ?_;exact CSub.refl _;exact x1l) (Pq (UM w f++w.real) (fun s q=>(x0r.1 q).elim (l s) (h.hok s)) (by rw[x0g];omega)) rfl rfl ?_;rintro l' H' ⟨rfl,rfl⟩;conv=>whnf)
 exact⟨_,.hd rfl (by simp[avS]),rfl⟩
structure MayF(p:Pg):Prop where
 gl:p.D.length<=16
 pl:p.A.length<=16
 gn:namesB p.D=true
 pr:∀f∈p.A,f.B.length<=8/\f.Q.length<=16/\isName f.name=true/\namesB f.Q=true/\namesB f.fin=true/\(f.B.all fun a=>isName a.name)=true
 len:(allR p).length<=200
 its:∀(k:Nat)(x:RI),(allR p)[k]?=some x->x.s.id=(k:Int)+1/\x.deep<=12/\oneOk x.s=true
def WS{p:Pg}(h:JJ p=true):MayF p:=by
 obtain⟨j,l,m,n⟩:=Xe h;refine⟨j,l,m,fun f o=>JK.1 (n f o).1,?_,fun k x i=>?_⟩
 .rw [Hl h,LG];exact(WO h).2.2
 .rw [Hl h]at i;exact⟨EF h i,q0k h x (x0i i)⟩
def Pr0:Pr:=⟨[],[],[],[],[]⟩
def Ly(p:Pg)(n:Str):Pr×Bool:=match p.A.find? (fun f=>f.name==n)with
 |some f=>(f,true)
 |none=>(Pr0,false)
def AM:Sub (.agg [.str [],.nils,.nils,.nils,.nils]) (.agg Pr0.cells):=Sub.agg (SubL.cons (Sub.refl _) (SubL.cons Sub.nils (SubL.cons Sub.nils (SubL.cons Sub.nils (SubL.cons Sub.nils SubL.nil)))))
def PF:List Str->Nat
 |[]=>0
 |s::r=>1+s.length+PF r
mutual
def gX:X->Nat
 |.mk _ _ name kids=>1+name.length+gXs kids
def gXs:List X->Nat
 |[]=>0
 |x::r=>gX x+gXs r
end
def Jb:List Arg->Nat
 |[]=>0
 |a::r=>gX a.x+(1+a.name.length)+Jb r
mutual
def gS:S->Nat
 |.mk _ _ M name C x _ args F L=>gX x+PF M+(1+name.length)+(1+C.length)+Jb args+gL F+gL L
def gL:List S->Nat
 |[]=>0
 |s::r=>gS s+gL r
end
def El:List Param->Nat
 |[]=>0
 |a::r=>1+a.name.length+El r
def gPr(f:Pr):Nat:=1+f.name.length+PF f.Q+PF f.fin+El f.B+gL f.body
def Mc:List Pr->Nat
 |[]=>0
 |f::r=>gPr f+Mc r
def gPg(p:Pg):Nat:=PF p.D+Mc p.A
def q6d(s:S):gS s=gX s.x+PF s.M+(1+s.name.length)+(1+s.C.length)+Jb s.args+gL s.F+gL s.L:=by
 cases s;rw[gS];rfl
theorem M2:∀l:List Str,Ee l<=PF l
 |[]=>x0o _
 |s::r=>by have:=M2 r;simp only[Ee,PF];omega
mutual
theorem q8l:∀x:X,wX x<=gX x
 |.mk _ _ name kids=>by have:=q5l kids;rw[wX,gX];omega
theorem q5l:∀l:List X,wXs l<=gXs l
 |[]=>by rw[wXs];omega
 |x::r=>by have:=q8l x;have:=q5l r;rw[wXs,gXs];omega
end
theorem Em:∀l:List Arg,Zu l<=Jb l
 |[]=>x0o _
 |a::r=>by have:=Em r;have:=q8l a.x;simp only[Zu,Jb];omega
mutual
theorem x0v:∀s:S,wS s<=gS s
 | .mk _ _ M name C x _ args F L=>by
   have:=q8l x;have:=M2 M;have:=Em args;have:=q6z F;have:=q6z L;rw[wS,gS];omega
theorem q6z:∀l:List S,wL l<=gL l
 |[]=>by rw[wL];omega
 |s::r=>by have:=x0v s;have:=q6z r;rw[wL,gL];omega
end
theorem q0x:∀l:List Param,q6x l<=El l
 |[]=>x0o _
 |a::r=>by have:=q0x r;simp only[q6x,El];omega
theorem q0z:∀l:List Pr,q3b l<=Mc l
 |[]=>x0o _
 | f::r=>by
   have:=q0z r;have:=M2 f.Q;have:=M2 f.fin;have:=q0x f.B;have:=q6z f.body;simp only[q3b,Mc,wPr,gPr];omega
def q8m(p:Pg):wPg p<=gPg p:=by
 have:=M2 p.D;have:=q0z p.A;unfold wPg gPg;omega
def XJ(x:Int):Int:=if x>20000 then 20001 else x
def ZX{a:Int}(h:0<=b):XJ (XJ a+b)=XJ (a+b):=by
 unfold XJ;split<;>split<;>(try split)<;>omega
def XE{a:Int}(h:0<=a):0<=XJ a/\XJ a<=20001:=by
 unfold XJ;split<;>omega
def D9{a:Int}(h:a<=20001):XJ a=a:=by
 unfold XJ;split<;>omega
def UO{a:Int}(h:a>20000)(i:a<=20001)(j:0<=b):a=XJ (a+b):=by
 unfold XJ;split<;>omega
def QA(s:Str)(n:Int)(h:0<=n/\n<=20001):SpecP prog 46 [.str s,.int .i64 n] (fun r=>r=.int .i64 (XJ (n+(1+s.length:Nat)))):=by
 refine sB KO func46 rfl call46 ?_;conv=>whnf
 repeat' (first|((first|(refine iM fun _=>?_)|refine wI ?_);conv=>whnf)|(apply bD<;>intro _<;>first|omega|conv=>whnf))
 all_goals exact RetK.int (by unfold XJ;(repeat' split)<;>omega)
def XN(l:List Str)(n:Int)(s:0<=n/\n<=20001):SpecP prog 45 [eStrs l,.int .i64 n] (fun r=>r=.int .i64 (XJ (n+PF l))):=by
 refine sB KF func45 rfl call45 ?_;conv=>whnf
 skip
 have t:(l.map AV.str).length=l.length:=x0j _;refine LoopK.inv QK (fun x:Nat×Int=>⟨[(0,.p (eStrs l)),(1,.p (.int .i64 x.2)),(5,.p (.int .i64 x.1))],[]⟩) (fun x=>x.1<=l.length/\(0<=x.2/\x.2<=20001)/\XJ (x.2+PF (l.drop x.1))=XJ (n+PF l)) (fun x=>l.length-x.1) (0,n) (Le.of_eq rfl) ⟨x0l _,s,rfl⟩ ?_;rintro⟨j,m⟩ ⟨o,i,h⟩;simp only at o i h⊢;rcases x0t j l.length with k|k
 .rw [x1c k,PF]at h;conv=>whnf
  repeat' (first|((first|(refine iM fun _=>?_)|refine cP (QA _ _ i) ?_|(refine iA fun _=>?_)|refine wI ?_);conv=>whnf)|(apply bD<;>intro _<;>first|omega|conv=>whnf))
  .have q:XJ (XJ (m+(1+l[j].length:Nat))+PF (l.drop (j+1)))=XJ (n+PF l):=by
    rw[ZX (by omega),<-h];congr 1;omega
   exact⟨(j+1,XJ (m+(1+l[j].length:Nat))),⟨by simp only;omega,XE (by omega),q⟩,by simp only;omega,Le.of_eq rfl⟩
  .exact RetK.int (by rw[<-h];exact UO (by omega) i.2 (by omega))
 .rw [x1q k,PF]at h;conv=>whnf
  repeat' (first|(refine iM fun _=>?_;conv=>whnf)|(apply bD<;>intro _<;>first|omega|conv=>whnf))
  exact RetK.int (by rw[<-h,D9 (by omega)];simp)
def UK:∀(k:Nat)(x:X)(_:gX x<k)(n:Int)(_:0<=n/\n<=20001),SpecP prog 88 [.agg x.cells,.int .i64 n] (fun r=>r=.int .i64 (XJ (n+gX x))):=by
 intro k;induction k with
 |zero=>intro x h;omega
 | succ k u=>
   intro x d n c;have t:gX x=1+x.name.length+gXs x.kids:=by cases x;rw[gX];rfl
   have z:=X.avs_len x.kids;refine sB KI func88 rfl call88 ?_;conv=>whnf
   repeat' (refine cP (QA _ _ c) ?_;conv=>whnf)
   refine LoopK.inv QK (fun y:Nat×Int=>⟨[(1,.p (.int .i64 y.2)),(2,.p (.ip x.cells)),(5,.p (.int .i64 y.1))],[]⟩) (fun y=>y.1<=x.kids.length/\(0<=y.2/\y.2<=20001)/\XJ (y.2+gXs (x.kids.drop y.1))=XJ (n+gX x)) (fun y=>x.kids.length-y.1) (0,XJ (n+(1+x.name.length:Nat))) (Le.of_eq rfl) ⟨x0l _,XE (by omega),by
    show XJ (XJ (n+(1+x.name.length:Nat))+gXs x.kids)=_;rw[ZX (by omega),t];congr 1;omega⟩ ?_
   rintro⟨j,m⟩ ⟨v,q,i⟩;simp only at v q i⊢;rcases x0t j x.kids.length with o|o
   .rw [x1c o,gXs]at i;have s:gX x.kids[j]<k:=by
     have:∀(l:List X)(y:X),y∈l->gX y<=gXs l:=fun l=>by
      induction l with
      |nil=>intro y h;cases h
      | cons a r u=>
        intro y h;rw[gXs];rcases x0p.1 h with rfl|h
        .omega
        .have:=u y h;omega
     have:=this x.kids _ (x0s o);omega
    conv=>whnf
    repeat' (first|((first|(refine iM fun _=>?_)|refine IdxK.xs (by omega) ?_|refine wI ?_|refine cP (u (x.kids[j]'o) s m q) ?_);conv=>whnf)|(apply bD<;>intro _<;>first|omega|conv=>whnf))
    .have w:XJ (XJ (m+gX x.kids[j])+gXs (x.kids.drop (j+1)))=XJ (n+gX x):=by
      rw[ZX (by omega),<-i];congr 1;omega
     exact⟨(j+1,XJ (m+gX x.kids[j])),⟨by simp only;omega,XE (by omega),w⟩,by simp only;omega,Le.of_eq rfl⟩
    .exact RetK.int (by rw[<-i];exact UO (by omega) q.2 (by omega))
   .rw [x1q o,gXs]at i;conv=>whnf
    repeat' (first|(refine iM fun _=>?_;conv=>whnf)|(apply bD<;>intro _<;>first|omega|conv=>whnf))
    exact RetK.int (by rw[<-i,D9 (by omega)];simp)
theorem Oo:∀(l:List S)(y:S),y∈l->gS y<=gL l
 |[],y,h=>by cases h
 | a::r,y,h=>by
   rw[gL];rcases x0p.1 h with rfl|h
   .omega
   .have:=Oo r y h;omega
def UV:∀(k:Nat)(l:List S)(_:gL l<k)(n:Int)(_:0<=n/\n<=20001),SpecP prog 47 [eSs l,.int .i64 n] (fun r=>r=.int .i64 (XJ (n+gL l))):=by
 intro k;induction k with
 |zero=>intro l h;omega
 | succ k v=>
   intro l P n H;have G:=S.avs_len l;refine sB KH func47 rfl call47 ?_;conv=>whnf
   skip
   refine LoopK.inv QK (fun y:Nat×Int=>⟨[(0,.p (eSs l)),(1,.p (.int .i64 y.2)),(5,.p (.int .i64 y.1))],[]⟩) (fun y=>y.1<=l.length/\(0<=y.2/\y.2<=20001)/\XJ (y.2+gL (l.drop y.1))=XJ (n+gL l)) (fun y=>l.length-y.1) (0,n) (Le.of_eq rfl) ⟨x0l _,H,rfl⟩ ?_;rintro⟨j,m⟩ ⟨A,z,o⟩;simp only at A z o⊢;rcases x0t j l.length with u|u;rotate_left 1
   .rw [x1q u,gL]at o;conv=>whnf
    repeat' (first|(refine iM fun _=>?_;conv=>whnf)|(apply bD<;>intro _<;>first|omega|conv=>whnf))
    exact RetK.int (by rw[<-o,D9 (by omega)];simp)
   rw[x1c u,gL]at o;have I:=Oo l _ (x0s u);have d:=q6d l[j];have J:=XE (a:=m+gX l[j].x) (by omega);have K:=XE (a:=XJ (m+gX l[j].x)+PF l[j].M) (by omega);have N:=XE (a:=XJ (XJ (m+gX l[j].x)+PF l[j].M)+(1+l[j].name.length:Nat)) (by omega);conv=>whnf
   repeat' (first|((first|(refine iM fun _=>?_)|refine dA ?_|refine x0h rfl ?_|refine QX (by omega) ?_|(refine CallK.pure (UK (gX l[j].x+1) l[j].x (by omega) m z) (.cons (Sub.refl _) (.cons (Sub.refl _) .nil)) ?_;rintro _ rfl)|refine cP (XN l[j].M _ J) ?_|refine cP (QA l[j].name _ K) ?_|refine cP (QA l[j].C _ N) ?_);conv=>whnf)|(apply bD<;>intro _<;>first|omega|conv=>whnf))
   rotate_left 1
   .exact RetK.int (by rw[<-o];exact UO (by omega) z.2 (by omega))
   have f:=XE (a:=XJ (XJ (XJ (m+gX l[j].x)+PF l[j].M)+(1+l[j].name.length:Nat))+(1+l[j].C.length:Nat)) (by omega);have e:XJ (XJ (XJ (XJ (XJ (m+gX l[j].x)+PF l[j].M)+(1+l[j].name.length:Nat))+(1+l[j].C.length:Nat))+(Jb l[j].args+(gL l[j].F+gL l[j].L+gL (l.drop (j+1))):Nat))=XJ (n+gL l):=by
    rw[ZX (by omega),x6u,ZX (by omega),x6u,ZX (by omega),x6u,ZX (by omega),<-o,d];congr 1;omega
   generalize XJ (XJ (XJ (XJ (m+gX l[j].x)+PF l[j].M)+(1+l[j].name.length:Nat))+(1+l[j].C.length:Nat))=m0 at f e⊢;have E:(l[j].args.map fun a=>AV.agg a.cells).length=l[j].args.length:=x0j _;refine LoopK.inv QK (fun y:Nat×Int=>⟨[(0,.p (eSs l)),(1,.p (.int .i64 y.2)),(5,.p (.int .i64 j)),(6,.p (.ip l[j].cells)),(7,.p (.int .i64 y.1))],[]⟩) (fun y=>y.1<=l[j].args.length/\(0<=y.2/\y.2<=20001)/\XJ (y.2+(Jb (l[j].args.drop y.1)+(gL l[j].F+gL l[j].L+gL (l.drop (j+1))):Nat))=XJ (n+gL l)) (fun y=>l[j].args.length-y.1) (0,m0) (Le.of_eq rfl) ⟨x0l _,f,e⟩ ?_;rintro⟨a,i⟩ ⟨B,q,s⟩;simp only at B q s⊢;have fin:XJ (i+(gL l[j].F+gL l[j].L+gL (l.drop (j+1)):Nat))=XJ (n+gL l)->(0<=XJ (XJ (i+gL l[j].F)+gL l[j].L)/\XJ (XJ (i+gL l[j].F)+gL l[j].L)<=20001)/\XJ (XJ (XJ (i+gL l[j].F)+gL l[j].L)+gL (l.drop (j+1)))=XJ (n+gL l):=fun h=>by
    have:=XE (a:=i+gL l[j].F) (by omega);refine⟨XE (by omega),?_⟩;rw[ZX (by omega),x6u,ZX (by omega),<-h];congr 1;omega
   have g:=XE (a:=i+gL l[j].F) (by omega);have t:i>20000->XJ (i+(gL l[j].F+gL l[j].L+gL (l.drop (j+1)):Nat))=XJ (n+gL l):=fun h=>by
    rw[<-s,<-UO h q.2 (by omega),<-UO h q.2 (by omega)]
   rcases x0t a l[j].args.length with c|c;rotate_left 1
   .have D:XJ (i+(gL l[j].F+gL l[j].L+gL (l.drop (j+1)):Nat))=XJ (n+gL l):=by
     rw[x1q c,Jb,x3v]at s;exact s
    obtain⟨f1,f2⟩:=fin D;conv=>whnf
    repeat' (first|((first|(refine iM fun _=>?_)|refine dA ?_|refine wI ?_|(refine CallK.pure (v l[j].F (by omega) i q) (.cons (Sub.refl _) (.cons (Sub.refl _) .nil)) ?_;rintro _ rfl)|(refine CallK.pure (v l[j].L (by omega) _ g) (.cons (Sub.refl _) (.cons (Sub.refl _) .nil)) ?_;rintro _ rfl));conv=>whnf)|(apply bD<;>intro _<;>first|omega|conv=>whnf))
    all_goals exact⟨(j+1,XJ (XJ (i+gL l[j].F)+gL l[j].L)),⟨by simp only;omega,f1,f2⟩,by simp only;omega,Le.of_eq rfl⟩
   rw[x1c c,Jb]at s;have O:=XE (a:=i+gX l[j].args[a].x) (by omega);conv=>whnf
   repeat' (first|((first|(refine iM fun _=>?_)|refine dA ?_|(refine iA fun _=>?_)|refine wI ?_|(refine CallK.pure (UK (gX l[j].args[a].x+1) l[j].args[a].x (by omega) i q) (.cons (Sub.refl _) (.cons (Sub.refl _) .nil)) ?_;rintro _ rfl)|refine cP (QA l[j].args[a].name _ O) ?_|(refine CallK.pure (v l[j].F (by omega) i q) (.cons (Sub.refl _) (.cons (Sub.refl _) .nil)) ?_;rintro _ rfl)|(refine CallK.pure (v l[j].L (by omega) _ g) (.cons (Sub.refl _) (.cons (Sub.refl _) .nil)) ?_;rintro _ rfl));conv=>whnf)|(apply bD<;>intro _<;>first|omega|conv=>whnf))
   .have w:XJ (XJ (XJ (i+gX l[j].args[a].x)+(1+l[j].args[a].name.length:Nat))+(Jb (l[j].args.drop (a+1))+(gL l[j].F+gL l[j].L+gL (l.drop (j+1))):Nat))=XJ (n+gL l):=by
     rw[ZX (by omega),x6u,ZX (by omega),<-s];congr 1;omega
    exact⟨(a+1,XJ (XJ (i+gX l[j].args[a].x)+(1+l[j].args[a].name.length:Nat))),⟨by simp only;omega,XE (by omega),w⟩,by simp only;omega,Le.of_eq rfl⟩
   .obtain ⟨f1,f2⟩:=fin (t (by omega));exact⟨(j+1,XJ (XJ (i+gL l[j].F)+gL l[j].L)),⟨by simp only;omega,f1,f2⟩,by simp only;omega,Le.of_eq rfl⟩
end Go.Ab
