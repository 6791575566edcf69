/- graph: the order in which a search into the depth is done. -/
import Derived.Test.YtgpjfppgphaobaaGreatEndA14
set_option linter.all false
set_option maxRecDepth 100000
set_option maxHeartbeats 16000000
namespace Go.Ab
open Go.Proofs.Tryz
open Go.Proofs
variable {N:Nat}{b:Int}
def rowE(rows:List (List Int))(x y:Int):Prop:=0<=x/\Fo rows x y
structure EndI(n:Nat)(rows:List (List Int))(out stack:List Int)(seen:List Bool)(at_:List Int):Prop where
 dfs:DfsI n (rowE rows) out stack
 sl:seen.length=n
 al:at_.length=n
 seen:∀x:Int,0<=x/\x<n->(seen.getD x.toNat false=true↔x∈out++stack)
 arng:∀x:Int,0<=x/\x<n->0<=at_.getD x.toNat 0/\at_.getD x.toNat 0<=(rows.getD x.toNat []).length
 cur:∀x:Int,0<=x/\x<n->∀(i:Nat)(y:Int),(i:Int)<at_.getD x.toNat 0->(rows.getD x.toNat [])[i]?=some y->y∈out++stack
theorem EndI.start(n:Nat)(rows:List (List Int)):EndI n rows [] [] (List.replicate n false) (List.replicate n 0):=by
 have j:∀x:Int,(List.replicate n (0:Int)).getD x.toNat 0=0:=fun x=>by
  rw[x3i,x5v];split<;>rfl
 refine⟨DfsI.start n _,by simp,by simp,fun x l=>?_,fun x l=>by rw[j];omega,fun x l i y m=>by rw[j]at m;omega⟩;rw[x3i,x5v];split<;>simp
def WV{α:Type}{l:List α}{i j:Nat}{a d:α}(k:i<l.length):(l.set i a).getD j d=if i=j then a else l.getD j d:=by
 simp only[x3i,z0j];split
 .rename_i h;first
   |rfl
   |(rw[if_pos k];rfl)
 .rfl
theorem EndI.push{n:Nat}{rows:List (List Int)}{out stack:List Int}{seen:List Bool}{at_:List Int}(h:EndI n rows out stack seen at_){b:Int}(m:0<=b/\b<n)(o:seen.getD b.toNat false=false)(t:chainE (rowE rows) (stack++[b])):EndI n rows out (stack++[b]) (seen.set b.toNat true) at_:=by
 have j:b∉out++stack:=fun r=>by rw[(h.seen b m).2 r]at o;cases o
 refine⟨h.dfs.push m j t,by simpa using h.sl,h.al,fun x l=>?_,h.arng,fun x l i y q u=>?_⟩
 .rw [WV (by rw[h.sl];omega),<-x4r,x4g,x4w];split
  .have:x=b:=by omega
   simp[this]
  .have:x≠b:=by omega
   rw[h.seen x l];simp[this]
 .rw [<-x4r];exact x4g.2 (.inl (h.cur x l i y q u))
theorem EndI.pop{n:Nat}{rows:List (List Int)}{out st:List Int}{a:Int}{seen:List Bool}{at_:List Int}(h:EndI n rows out (st++[a]) seen at_)(ha:at_.getD a.toNat 0=(rows.getD a.toNat []).length):EndI n rows (out++[a]) st seen at_:=by
 have q:=h.dfs.rng a (by simp);have l:∀x:Int,x∈out++[a]++st↔x∈out++(st++[a]):=fun x=>by
  simp only[x4g,x4w];constructor
  .rintro ((j|j)|j)
   .exact .inl j
   .exact .inr (.inr j)
   .exact .inr (.inl j)
  .rintro (j|j|j)
   .exact .inl (.inl j)
   .exact .inr j
   .exact .inl (.inr j)
 refine⟨h.dfs.pop fun v r=>?_,h.sl,h.al,fun x o=>by rw[h.seen x o,l],h.arng,fun x o i y m t=>(l y).2 (h.cur x o i y m t)⟩;obtain⟨i,m⟩:=x7x.1 r.2;have:=h.cur a q i v (by rw[ha];have:=(x4u.1 m).1;omega) m;exact x4g.1 this
theorem EndI.step{n:Nat}{rows:List (List Int)}{out stack:List Int}{seen:List Bool}{at_:List Int}(h:EndI n rows out stack seen at_){a b:Int}(ha:0<=a/\a<n){k:Nat}(v:at_.getD a.toNat 0=k)(t:(rows.getD a.toNat [])[k]?=some b)(u:b∈out++stack):EndI n rows out stack seen (at_.set a.toNat ((k:Int)+1)):=by
 have j:a.toNat<at_.length:=by rw[h.al];omega
 refine⟨h.dfs,h.sl,by simpa using h.al,h.seen,fun x r=>?_,fun x r i y o l=>?_⟩
 .rw [WV j];split
  .rename_i m;have:=(x4u.1 t).1;rw[<-m];omega
  .exact h.arng x r
 .rw [WV j]at o;split at o
  .rename_i m;rw[<-m]at l;rcases x4f i k with q|q
   .exact h.cur a ha i y (by omega) l
   .have:i=k:=by omega
    subst this;rw[t]at l;cases l;exact u
  .exact h.cur x r i y o l
def q2j(m:Int)(l:List Int):Int:=l.foldl (fun m x=>if x<m then x else m) m
def Df:List Int->Int
 |[]=>0
 |a::r=>q2j a r
theorem Py:∀(l:List Int)(m:Int),q2j m l∈m::l/\∀x∈m::l,q2j m l<=x
 |[],m=>⟨by simp[q2j],by simp[q2j]⟩
 | a::r,m=>by
   obtain⟨n,j⟩:=Py r (if a<m then a else m);have e:q2j m (a::r)=q2j (if a<m then a else m) r:=rfl;have k:=j _ x4z;rw[e];generalize q2j (if a<m then a else m) r=z at n j k⊢;refine⟨?_,fun x i=>?_⟩
   .rcases x4v.1 n with h|h
    .rw [h];split<;>simp
    .exact x4x _ (x4x _ h)
   .rcases x4v.1 i with rfl|i
    .split at k<;>omega
    .rcases x4v.1 i with rfl|i
     .split at k<;>omega
     .exact j x (x4x _ i)
def Pj{l:List Int}(h:0<l.length):Df l∈l/\∀x∈l,Df l<=x:=by
 cases l with
 |nil=>simp at h
 |cons a r=>exact Py r a
theorem OpK.min2{P:Program}{N:Nat}{s:St}{o:Oper}{K:St->Prop}{x y:Operand}{e:Array TypeId}(j:o.op=.call {callee:=.builtin .min,args:=#[x,y],argTypes:=e}){m n:Int}(z:QD s.sl x=.p (.int .i64 m))(c:QD s.sl y=.p (.int .i64 n))(h:setD N s.sl o.dst (.p (.int .i64 (if n<m then n else m))) fun sl=>K ⟨sl,s.H⟩):OpK P N s o K:=by
 refine⟨fun σ β a w l Q=>?_⟩;have r:=QX l.E x;have t:=QX l.E y;rw[z]at r;rw[c]at t;have u:=r.int;have e2:=t.int;have i:(execOp a.eval o).run P w=.ok (.value (.int .i64 (if n<m then n else m))) w:=by
  simp[execOp,j,resolve,invoke,builtin,u,e2,Builtin.min_,Builtin.min2]
 obtain⟨sl,v,q⟩:=l.setD (.p (.int .i64 (if n<m then n else m))) h;exact XT i ⟨σ,β,_,v,q,Later.refl _ _ _ _⟩
def NR(l:List Int)(n:0<l.length):aP 274 [XQ l] (.int .i64 (Df l)):=by
 refine sC FG func274 ?_;conv=>whnf
 have s:(l.map (AV.int .i64)).length=l.length:=x3a _;repeat' ((first|(refine iM fun _=>?_)|(apply bD<;>intro _<;>try omega))<;>conv=>whnf)
 refine IdxK.at (k:=0) (e:=.int .i64 l[0]) rfl (by simp[n]) rfl ?_;conv=>whnf
 skip
 refine lI (fun x:Nat×Int=>⟨[(0,.p (XQ l)),(3,.j x.2),(4,.j x.1)],[]⟩) (fun x=>1<=x.1/\x.1<=l.length/\Df (x.2::l.drop x.1)=Df l) (fun x=>l.length-x.1) (1,l[0]) ⟨x4m _,n,by
  cases l with
  |nil=>simp at n
  |cons a r=>rfl⟩ ?_
 rintro⟨j,m⟩ ⟨o,q,h⟩;simp only at o q h⊢;rcases x4f j l.length with i|i
 .rw [QM i]at h;conv=>whnf
  repeat' ((first|(refine gX ?_;intros)|refine OpK.min2 rfl rfl rfl ?_|(apply bD<;>intro _<;>try omega))<;>conv=>whnf)
  exact nX (j+1,if l[j]<m then l[j]else m) ⟨by simp only;omega,i,h⟩
 .rw [x4l i]at h;conv=>whnf
  repeat' ((first|(refine iM fun _=>?_)|(apply bD<;>intro _<;>try omega))<;>conv=>whnf)
  exact RetK.int h
theorem q2r{α:Type}{f g:α->Nat}:∀{l:List α},(∀x∈l,f x<=g x)->(∃x∈l,f x<g x)->(l.map f).sum<(l.map g).sum
 |[],_,h=>by obtain⟨x,i,_⟩:=h;cases i
 | a::r,h1,h2=>by
   have j:∀{l:List α},(∀x∈l,f x<=g x)->(l.map f).sum<=(l.map g).sum:=fun {l} h=>by
    induction l with
    |nil=>simp
    | cons b r n=>
      simp only[x4o,x9l];have:=n fun x i=>h x (x4x _ i);have:=h b x4z;omega
   simp only[x4o,x9l];have o:=h1 a x4z;have p:=j fun x i=>h1 x (x4x _ i);obtain⟨x,i,k⟩:=h2;rcases x4v.1 i with rfl|i
   .omega
   .have:=q2r (fun y m=>h1 y (x4x _ m)) ⟨x,i,k⟩;omega
def muE(rows:List (List Int))(at_:List Int)(n:Nat):Nat:=((List.range n).map fun i=>(rows.getD i []).length-(at_.getD i 0).toNat).sum
def OZ{n:Nat}{rows:List (List Int)}{at_:List Int}{a:Nat}(ha:a<n)(m:at_.length=n){k:Nat}(j:at_.getD a 0=k)(l:k<(rows.getD a []).length):muE rows (at_.set a ((k:Int)+1)) n<muE rows at_ n:=by
 unfold muE;refine q2r (fun i _=>?_) ⟨a,x5a.2 ha,?_⟩
 .rw [WV (by omega)];split
  .rename_i h;rw[<-h,j];omega
  .exact x4m _
 .rw [WV (by omega),if_pos rfl,j];omega
def Fi{n:Nat}{l:List Int}(h:l.Nodup)(i:∀x∈l,0<=x/\x<n):l.length<=n:=by
 have:=LE (m:=(List.range n).map fun(k:Nat)=>(k:Int)) h fun x j=>x4y.2 ⟨x.toNat,x5a.2 (by have:=i x j;omega),by have:=i x j;omega⟩;simpa using this
def q1r{l:List Bool}{i:Nat}(h:i<l.length):(l.map bv)[i]?=some (bv (l.getD i false)):=by
 rw[x4q,x3e h,x3i,x3e h];rfl
def P7{l:List Int}{i:Nat}(h:i<l.length):(l.map (AV.int .i64))[i]?=some (.int .i64 (l.getD i 0)):=by
 rw[x4q,x3e h,x3i,x3e h];rfl
def q6a(n:Nat)(rows:List (List Int))(r:AV):Prop:=∃es,r=XQ es/\EndsP n (rowE rows) es
def Wz(n:Nat)(hn:n<=5000)(g:List (List Int)×List (List Int))(L:XG n g.1):SpecP prog 273 [VS g] (fun r=>q6a n g.1 r):=by
 refine sC MH func273 ?_;conv=>whnf
 have Q:((avI g.1).map AV.sl).length=n:=by simp[avI,L.1]
 repeat' ((first|(refine gX ?_;intros)|refine x8a n (by rw[Q]) (by show 1*n<=140737488355328;omega) (by unfold maxLen;omega) ?_|refine x8a n (by rw[Q]) (by show 8*n<=140737488355328;omega) (by unfold maxLen;omega) ?_)<;>conv=>whnf)
 refine lJ (fun x:Nat×List Int×List Bool×List Int=>⟨[(0,.p (VS g)),(3,.hd 2 0 x.2.1.length),(4,.hd 3 0 0),(5,.hd 0 0 n),(6,.hd 1 0 n),(26,.j n),(27,.j x.1)],[(0,.own 4 1 (x.2.2.1.map bv)),(1,.own 3 1 (x.2.2.2.map (.int .i64))),(2,.own 3 1 (x.2.1.map (.int .i64))),(3,.own 3 1 [])]⟩) (fun x=>x.1<=n/\EndI n g.1 x.2.1 [] x.2.2.1 x.2.2.2/\∀y:Int,0<=y/\y<x.1->y∈x.2.1) (fun x=>n-x.1) (0,[],List.replicate n false,List.replicate n 0) (lM [(2,.own 3 1 []),(3,.own 3 1 [])] (hsl:=.r (.cons (.nil x4z) (.cons (.nil (x4x _ x4z)) (.r (.r (.cons (.of_eq (by rw[Q];rfl)) (.r .nil))))))) (hH:=.cons rfl (.of_eq (by rw[x7h];rfl)) (.cons rfl (.of_eq (by rw[x7h];rfl)) (.new x4z (.new (x4x _ x4z) .nil))))) ⟨x4j _,EndI.start n g.1,fun y J=>by omega⟩ ?_;rintro⟨r,out,seen,at_⟩ ⟨h1,h,m⟩;simp only at h1 h m⊢;have hsl:=h.sl;have d:=h.al;rcases x4f r n with hr|hr;rotate_left 1
 .conv=>whnf
  repeat' (apply bD<;>intro _<;>first|omega|conv=>whnf)
  have D:∀x:Int,0<=x/\x<n->x∈out:=fun x A=>m x (by omega);exact⟨_,.hd rfl (by simp),out,rfl,h.dfs.fin (fun x y R=>DT L R.2) D⟩
 have B:=q1r (l:=seen) (i:=r) (by omega);have z:∃st T,EndI n g.1 out st T at_/\(r:Int)∈out++st/\((seen.getD r false=true/\st=[]/\T=seen)\/(seen.getD r false=false/\st=[(r:Int)]/\T=seen.set r true)):=by
  cases q:seen.getD r false with
  |true=>exact⟨[],seen,h,(h.seen r (by omega)).1 (by simpa using q),.inl ⟨rfl,rfl,rfl⟩⟩
  |false=>exact⟨[(r:Int)],seen.set r true,h.push (stack:=[]) (b:=r) (by omega) (by simpa using q) trivial,by simp,.inr ⟨rfl,rfl,rfl⟩⟩
 obtain⟨st0,f,c,V,h6⟩:=z;rcases h6 with⟨q,v,e⟩|⟨q,v,e⟩;all_goals
  rw[q]at B;conv=>whnf
  repeat' ((first|refine gX ?_|refine iO r ?_|refine lO B ?_|refine lO B ?_|refine sO .tt B ?_|refine MQ rfl (by simp) ?_|(apply bD<;>intro _<;>try omega))<;>conv=>whnf)
  refine lJ (fun x:List Int×List Int×List Bool×List Int=>⟨[(0,.p (VS g)),(3,.hd 2 0 x.1.length),(4,.hd 3 0 x.2.1.length),(5,.hd 0 0 n),(6,.hd 1 0 n),(26,.j n),(27,.j r)],[(0,.own 4 1 (x.2.2.1.map bv)),(1,.own 3 1 (x.2.2.2.map (.int .i64))),(2,.own 3 1 (x.1.map (.int .i64))),(3,.own 3 1 (x.2.1.map (.int .i64)))]⟩) (fun x=>EndI n g.1 x.1 x.2.1 x.2.2.1 x.2.2.2/\(r:Int)∈x.1++x.2.1/\∀y:Int,0<=y/\y<r->y∈x.1) (fun x=>muE g.1 x.2.2.2 n+(n-x.1.length)) (out,st0,f,at_) (lE (hsl:=.r (.r (.cons (.of_eq (by first|(rw[v];done)|(rw[v];rfl))) (.r (.r (.r (.r .nil))))))) (hH:=.cons rfl (.of_eq (by rw[e];first|done|rfl|(rw[x5d];rfl))) (.cons rfl (.refl _) (.cons rfl (.refl _) (.cons rfl (.of_eq (by rw[v];rfl)) .nil))))) ⟨c,V,m⟩ ?_;clear c V v e B q hsl d h m;rintro⟨o,U,s,t⟩ ⟨h,m,c⟩;simp only at h m c⊢;have hsl:=h.sl;have d:=h.al;have hol:o.length<=n:=Fi (by have:=h.dfs.nd;rw[x7u]at this;exact this.1) fun x A=>h.dfs.rng x (x4g.2 (.inl A));rcases List.eq_nil_or_concat U with rfl|⟨st,a,rfl⟩
  .have hz:(([]:List Int).length)=0:=rfl;conv=>whnf
   repeat' ((first|(refine gX ?_;intros)|(apply bD<;>intro _<;>try omega))<;>conv=>whnf)
   exact nX (r+1,o,s,t) ⟨hr,h,fun y J=>by
    rcases Int.lt_or_le y r with K|K
    .exact c y ⟨J.1,K⟩
    .have:y=r:=by simp only at J;omega
     rw[this];simpa using m⟩
  .rw [List.concat_eq_append]at h m⊢;have ha:=h.dfs.rng a (by simp);have hstl:(st++[a]).length=st.length+1:=by simp
   obtain⟨hk0,P⟩:=h.arng a ha;have e2:=P7 (l:=t) (i:=a.toNat) (by omega);have M:((st++[a]).map (AV.int .i64))[st.length]?=some (.int .i64 a):=by simp
   have u:((avI g.1).map AV.sl)[a.toNat]?=some (.sl ((g.1.getD a.toNat []).map (.int .i64))):=by
    have:a.toNat<g.1.length:=by rw[L.1];omega
    rw[x3i,x3e this];simp[avI,this]
   obtain⟨k,G⟩ : ∃k:Nat,t.getD a.toNat 0=k:=⟨(t.getD a.toNat 0).toNat,by omega⟩;rw[G]at e2 P;have hrl:((g.1.getD a.toNat []).map (AV.int .i64)).length=(g.1.getD a.toNat []).length:=x3a _;have hnd:=h.dfs.nd;rcases x4f k (g.1.getD a.toNat []).length with w|w
   .obtain ⟨b,E⟩ : ∃b,(g.1.getD a.toNat [])[k]?=some b:=⟨_,x3e w⟩;have O:(g.1.getD a.toNat [])[k]=b:=by rw[x3e w]at E;exact x8z E
    have Z:rowE g.1 a b:=⟨ha.1,x7x.2 ⟨k,E⟩⟩;have F:=DT L Z.2;have hmu:=OZ (by omega) d G w;have C:=q1r (l:=s) (i:=b.toNat) (by omega);have hstk:(st++[a]).length<=n:=Fi (x7u.1 hnd).2.1 fun x A=>h.dfs.rng x (x4g.2 (.inr A));have I:(t.set a.toNat ((k:Int)+1)).map (AV.int .i64)=(t.map (AV.int .i64)).set a.toNat (.int .i64 ((k:Int)+1)):=x5d;have hkm:=h.arng a ha;cases q:s.getD b.toNat false with
    | true=>
      rw[q]at C;conv=>whnf
      repeat' ((first|(refine gX ?_;intros)|refine dA ?_|refine iO st.length ?_|refine lO M ?_|refine iO a.toNat ?_|refine lO e2 ?_|refine iT u ?_|refine iO b.toNat ?_|refine lO C ?_|refine sO (.int .i64 (k+1)) e2 ?_|(apply bD<;>intro _<;>try omega))<;>conv=>whnf)
      exact⟨(o,st++[a],s,t.set a.toNat ((k:Int)+1)),⟨h.step ha G E ((h.seen b F).1 q),m,c⟩,by simp only;omega,lE (hH:=.cons rfl (.refl _) (.cons rfl (.of_eq (by rw[I])) (.cons rfl (.refl _) (.cons rfl (.refl _) .nil))))⟩
    | false=>
      rw[q]at C;conv=>whnf
      repeat' ((first|(refine gX ?_;intros)|refine dA ?_|refine iO st.length ?_|refine lO M ?_|refine iO a.toNat ?_|refine lO e2 ?_|refine iT u ?_|refine iO b.toNat ?_|refine lO C ?_|refine sO (.int .i64 (k+1)) e2 ?_|refine sO .tt C ?_|refine pI ?_|(apply bD<;>intro _<;>try omega))<;>conv=>whnf)
      have h8:=h.push F q (U0 st h.dfs.path Z);exact⟨(o,st++[a]++[b],s.set b.toNat true,t.set a.toNat ((k:Int)+1)),⟨h8.step ha G E (by simp),by rw[<-x4r];exact x4g.2 (.inl m),c⟩,by simp only;omega,lE (hsl:=.r (.r (.cons (.of_eq (by simp;rfl)) (.r (.r (.r (.r .nil))))))) (hH:=.cons rfl (.of_eq (by rw[x5d];rfl)) (.cons rfl (.of_eq (by rw[I])) (.cons rfl (.refl _) (.cons rfl (.of_eq (by rw[O];simp;rfl)) .nil))))⟩
   .have H:k=(g.1.getD a.toNat []).length:=by omega
    have hp:=h.pop (by rw[G,H]);have hol2:o.length+1<=n:=by
     have Y:=hp.dfs;have:=Fi (x7u.1 Y.nd).1 fun x A=>Y.rng x (x4g.2 (.inl A));simpa using this
    conv=>whnf
    repeat' ((first|(refine iM fun _=>?_)|refine dA ?_|refine x4e rfl ?_|refine aD ?_|refine bP ?_|refine wI ?_|refine iO st.length ?_|refine lO M ?_|refine iO a.toNat ?_|refine lO e2 ?_|refine iT u ?_|refine pI ?_|refine x9r 0 st.length rfl (by show((st++[a]).length:Int)-1=_;omega) (by omega) (by omega) ?_|(apply bD<;>intro _<;>try omega))<;>conv=>whnf)
    have h9:muE g.1 t n+(n-(o++[a]).length)<muE g.1 t n+(n-o.length):=by simp;omega
    exact⟨(o++[a],st,s,t),⟨hp,by simpa[or_assoc,or_comm,or_left_comm]using m,fun y J=>x4g.2 (.inl (c y J))⟩,h9,(Le.cut (.same (.same (.same (.cut (es':=st.map (.int .i64)) ⟨[.int .i64 a],by simp⟩ .nil))))).trans (lE (hsl:=.r (.cons (.of_eq (by simp;rfl)) (.cons (.of_eq (by simp;rfl)) (.r (.r (.r (.r .nil))))))) (hH:=.cons rfl (.refl _) (.cons rfl (.refl _) (.cons rfl (.of_eq (by simp;rfl)) (.cons rfl (.refl _) .nil)))))⟩
def q2f(pre:List Bool)(rows:List (List Int)):List (List Int):=rows.map fun r=>r.filter fun b=> !pre.getD b.toNat false
def Pm{pre:List Bool}{rows:List (List Int)}{x y:Int}:Fo (q2f pre rows) x y↔Fo rows x y/\pre.getD y.toNat false=false:=by
 unfold Fo q2f;simp only[x3i,x4q];cases rows[x.toNat]?with
 |none=>simp
 |some r=>simp
def q4r{n:Nat}{pre:List Bool}{rows:List (List Int)}(h:XG n rows):XG n (q2f pre rows):=by
 refine⟨by simp[q2f,h.1],fun r k b j=>?_⟩;obtain⟨l,i,rfl⟩:=x4y.1 k;exact h.2 l i b (x5h.1 j).1
structure SimW(pre:List Bool)(st st':List Bool×List Int):Prop where
 todo:st.2=st'.2
 len:st.1.length=st'.1.length
 mrk:∀k,st.1.getD k false=(pre.getD k false||st'.1.getD k false)
theorem SimW.see{pre:List Bool}{st i:List Bool×List Int}(h:SimW pre st i)(j:b.toNat<st.1.length)(m:pre.getD b.toNat false=false):SimW pre (KH st b) (KH i b):=by
 have l:=h.mrk b.toNat;rw[m,Bool.false_or]at l;unfold KH;rw[l];cases i.1.getD b.toNat false with
 |true=>exact h
 | false=>
   refine⟨by simp only[x5q];rw[h.todo],by simpa using h.len,fun k=>?_⟩;simp only[x5q];rw[WV j,WV (by rw[<-h.len];exact j)];split
   .simp
   .exact h.mrk k
theorem SimW.skip{pre:List Bool}{st i:List Bool×List Int}(h:SimW pre st i)(j:pre.getD b.toNat false=true):KH st b=st:=by
 unfold KH;rw[h.mrk,j];rfl
def q0h(st:List Bool×List Int)(b:Int):(KH st b).1.length=st.1.length:=by
 unfold KH;cases st.1.getD b.toNat false<;>simp
theorem SimW.fold{n:Nat}{pre:List Bool}:∀(l:List Int){st st':List Bool×List Int},SimW pre st st'->st.1.length=n->(∀b∈l,0<=b/\b<n)->SimW pre (l.foldl KH st) ((l.filter fun b=> !pre.getD b.toNat false).foldl KH st')/\(l.foldl KH st).1.length=n
 |[],_,_,h,hn,_=>⟨h,hn⟩
 | b::r,st,st',h,hn,hl=>by
   have o:=hl b x4z;have j:∀c∈r,0<=c/\c<n:=fun c m=>hl c (x4x _ m);rw[x7v];cases i:pre.getD b.toNat false with
   | true=>
     rw[h.skip i,x7b (by rw[i];simp)];exact SimW.fold r h hn j
   | false=>
     rw[x7y (by rw[i];simp),x7v];exact SimW.fold r (h.see (by omega) i) (by rw[q0h];exact hn) j
theorem B7{n:Nat}{pre:List Bool}{rows:List (List Int)}(l:XG n rows):∀(k i:Nat){st st':List Bool×List Int},SimW pre st st'->st.1.length=n->SimW pre (ZJ rows k i st) (ZJ (q2f pre rows) k i st')
 |0,_,_,_,h,_=>h
 | k+1,i,st,st',h,hn=>by
   rw[ZJ,ZJ,<-h.todo];cases ha:st.2[i]?with
   |none=>exact h
   | some a=>
     simp only;have j:∀b∈rows.getD a.toNat [],0<=b/\b<n:=fun b p=>DT l p;have q:(q2f pre rows).getD a.toNat []=(rows.getD a.toNat []).filter fun b=> !pre.getD b.toNat false:=by
      unfold q2f;simp only[x3i,x4q];cases rows[a.toNat]?with
      |none=>simp
      |some r=>simp
     rw[q];obtain⟨m,o⟩:=SimW.fold (n:=n) _ h hn j;exact B7 l k (i+1) m o
def I8{n:Nat}{pre:List Bool}{rows:List (List Int)}(u:XG n rows)(t:pre.length=n){r:Int}(p:0<=r/\r<n)(g:pre.getD r.toNat false=false):
  (∀x,x∈(ZJ rows (n+1) 0 (pre.set r.toNat true,[r])).2↔Rch (fun a b=>Fo rows a b/\pre.getD b.toNat false=false) r x)/\
  (∀x:Int,0<=x/\x<n->((ZJ rows (n+1) 0 (pre.set r.toNat true,[r])).1.getD x.toNat false=true↔pre.getD x.toNat false=true\/x∈(ZJ rows (n+1) 0 (pre.set r.toNat true,[r])).2)):=by
 have v:KH (List.replicate n false,[]) r=((List.replicate n false).set r.toNat true,[r]):=by
  unfold KH;have:(List.replicate n false).getD r.toNat false=false:=by
   rw[x3i,x5v];split<;>rfl
  simp only[this,x5q,x9k]
 obtain⟨s,w,_⟩:=(WkM.start n).see p;rw[v]at s w;have j:SimW pre (pre.set r.toNat true,[r]) ((List.replicate n false).set r.toNat true,[r]):=⟨rfl,by simp[t],fun k=>by
  rw[WV (by omega),WV (by simp;omega)];split
  .simp
  .have:(List.replicate n false).getD k false=false:=by
    rw[x3i,x5v];split<;>rfl
   rw[this,Bool.or_false]⟩
 have q:=B7 u (n+1) 0 j (by simpa using t);obtain⟨z,c,d,e⟩:=Jq (q4r (pre:=pre) u) (n+1) 0 s (x4j _) (by omega) (fun m a f=>by omega);refine⟨fun x=>?_,fun x i=>?_⟩
 .rw [q.todo];constructor
  .intro i;exact e (fun x=>Rch (fun a b=>Fo rows a b/\pre.getD b.toNat false=false) r x) (fun x i=>by rw[x4w.1 i];exact .refl) (fun x b l o=>.tail l (Pm.1 o)) x i
  .intro i;exact i.closed (S:=fun x=>x∈(ZJ (q2f pre rows) (n+1) 0 ((List.replicate n false).set r.toNat true,[r])).2) (fun x y l o=>d x l y (Pm.2 o)) (c r (by simp))
 .rw [q.mrk,q.todo,z.mem,x7r];exact⟨fun h=>h.imp id fun h=>⟨i,h⟩,fun h=>h.imp id fun h=>h.2⟩
def Fq{n:Nat}{a:Int}(h:0<=a/\a<n):ZT n a=true:=by
 unfold ZT;simpa using h
structure MinP(E:Int->Int->Prop)(x v:Int):Prop where
 scc:sccP E x v
 le:∀y,sccP E x y->v<=y
theorem MinP.uniq{E:Int->Int->Prop}{x v w:Int}(h:MinP E x v)(i:MinP E x w):v=w:=Int.le_antisymm (h.le w i.scc) (i.le v h.scc)
def Xp(n:Nat)(rows:List (List Int)):List Int:=(List.range n).map fun(a:Nat)=>Df ((DG 0 (WB rows [(a:Int)])).filter fun b=>(DG 0 (WB rows [b])).contains (a:Int))
def q0w{n:Nat}{rows:List (List Int)}(l:XG n rows){x y:Int}(m:0<=x):Rch (rowE rows) x y↔Rch (Fo rows) x y:=by
 refine⟨fun h=>h.mono fun _ _ h=>h.2,fun h=>?_⟩;exact(h.closed (S:=fun y:Int=>0<=y/\Rch (rowE rows) x y) (fun a b ⟨j,k⟩ i=>⟨(DT l i).1,.tail k ⟨j,i⟩⟩) ⟨m,.refl⟩).2
def Tf{n:Nat}{rows:List (List Int)}(i:XG n rows){x y:Int}(j:0<=x/\x<n)(h:Rch (rowE rows) x y):0<=y/\y<n:=
 h.closed (S:=fun y:Int=>0<=y/\y<n) (fun _ _ _ h=>DT i h.2) j
def Lx{n:Nat}{rows:List (List Int)}(i:XG n rows){x:Int}(j:0<=x/\x<n)(y:Int):y∈DG 0 (WB rows [x])↔Rch (rowE rows) x y:=by
 rw[N6 i,q0w i j.1];constructor
 .rintro ⟨a,ha,_,h⟩;rw[x4w.1 ha]at h;exact h
 .intro h;exact⟨x,by simp,Fq j,h⟩
def DN(n:Nat)(rows:List (List Int)):(Xp n rows).length=n:=by simp[Xp]
def Xn{n:Nat}{rows:List (List Int)}(j:XG n rows){x:Int}(m:0<=x/\x<n):MinP (rowE rows) x ((Xp n rows).getD x.toNat 0):=by
 have e:(Xp n rows).getD x.toNat 0=Df ((DG 0 (WB rows [x])).filter fun b=>(DG 0 (WB rows [b])).contains x):=by
  unfold Xp;rw[x3i,x4q,x7z (by omega)];have:((x.toNat:Nat):Int)=x:=by omega
  simp[this]
 have k:∀y,y∈(DG 0 (WB rows [x])).filter (fun b=>(DG 0 (WB rows [b])).contains x)↔sccP (rowE rows) x y:=fun y=>by
  rw[x5h,Lx j m,List.contains_iff_mem];constructor
  .rintro ⟨h,i⟩;exact⟨h,(Lx j (Tf j m h) x).1 i⟩
  .rintro ⟨h,i⟩;exact⟨h,(Lx j (Tf j m h) x).2 i⟩
 rw[e];obtain⟨h,i⟩:=Pj (l:=(DG 0 (WB rows [x])).filter fun b=>(DG 0 (WB rows [b])).contains x) (x9h ((k x).2 (sccP.refl x)));exact⟨(k _).1 h,fun y o=>i y ((k y).2 o)⟩
structure PartI(n:Nat)(E:Int->Int->Prop)(es:List Int)(m:Nat)(part:List Int)(seen:List Bool):Prop where
 sl:seen.length=n
 pl:part.length=n
 seen:∀x:Int,0<=x/\x<n->(seen.getD x.toNat false=true↔SeenP E es m x)
 min:∀x:Int,0<=x/\x<n->SeenP E es m x->MinP E x (part.getD x.toNat 0)
theorem PartI.start{n:Nat}{E:Int->Int->Prop}{es:List Int}:PartI n E es es.length (List.replicate n 0) (List.replicate n false):=by
 have i:∀x,¬SeenP E es es.length x:=fun x ⟨j,y,o,l,_⟩=>by
  have:=(x4u.1 l).1;omega
 refine⟨by simp,by simp,fun x _=>?_,fun x _ m=>absurd m (i x)⟩;rw[x3i,x5v];have:=i x;split<;>simp[this]
def UN(l:List Int)(v:Int)(part:List Int):List Int:=l.foldl (fun p a=>p.set a.toNat v) part
theorem NM(v:Int):∀(l part:List Int),(UN l v part).length=part.length
 |[],_=>rfl
 | a::r,part=>by
   show(UN r v (part.set a.toNat v)).length=_;rw[NM v r];simp
theorem Yr{n:Nat}(v:Int){x:Int}(s:0<=x/\x<n):∀(l:List Int){part:List Int},part.length=n->(∀a∈l,0<=a/\a<n)->(x∈l->(UN l v part).getD x.toNat 0=v)/\(x∉l->(UN l v part).getD x.toNat 0=part.getD x.toNat 0)
 |[],_,_,_=>⟨by simp,fun _=>rfl⟩
 | a::r,part,hl,ha=>by
   have o:=ha a x4z;have e:UN (a::r) v part=UN r v (part.set a.toNat v):=rfl;obtain⟨k,m⟩:=Yr v s r (part:=part.set a.toNat v) (by simpa using hl) fun b p=>ha b (x4x _ p);have q:(part.set a.toNat v).getD x.toNat 0=if a.toNat=x.toNat then v else part.getD x.toNat 0:=WV (by omega);rw[e];by_cases i:x∈r
   .exact ⟨fun _=>k i,fun h=>absurd (x4x _ i) h⟩
   .rw [m i,q];constructor
    .intro h;rcases x4v.1 h with rfl|h
     .rw [if_pos rfl]
     .exact absurd h i
    .intro h;have:x≠a:=fun j=>h (by rw[j];exact x4z);rw[if_neg (by omega)]
theorem PartI.part{n:Nat}{g:List (List Int)×List (List Int)}(Q:XG n g.1)(t:XG n g.2)(J:∀x y,rowE g.2 x y↔rowE g.1 y x){es:List Int}(P:EndsP n (rowE g.1) es){m:Nat}{part:List Int}{seen:List Bool}(h:PartI n (rowE g.1) es (m+1) part seen){r:Int}(H:es[m]?=some r)(L:seen.getD r.toNat false=false):
  (∀x∈(ZJ g.2 (n+1) 0 (seen.set r.toNat true,[r])).2,0<=x/\x<n)/\0<(ZJ g.2 (n+1) 0 (seen.set r.toNat true,[r])).2.length/\wkInv n (seen.set r.toNat true,[r])/\
  PartI n (rowE g.1) es m (UN (ZJ g.2 (n+1) 0 (seen.set r.toNat true,[r])).2 (Df (ZJ g.2 (n+1) 0 (seen.set r.toNat true,[r])).2) part) (ZJ g.2 (n+1) 0 (seen.set r.toNat true,[r])).1:=by
 have q:=(P.mem r).1 (x4p H);have hsl:=h.sl;have K:¬SeenP (rowE g.1) es (m+1) r:=fun B=>by rw[(h.seen r q).2 B]at L;cases L
 obtain⟨R,M⟩:=I8 t h.sl q L;have f:∀x y,rowE g.1 x y->(0<=x/\x<n)/\0<=y/\y<n:=fun x y F=>⟨DT t ((J y x).2 F).2,DT Q F.2⟩;have v:=CX f P H K;have A:∀x,Rch (fun a b=>Fo g.2 a b/\seen.getD b.toNat false=false) r x↔Rch (fun a b=>rowE g.1 b a/\¬SeenP (rowE g.1) es (m+1) b) r x:=fun x=>by
  constructor
  .intro j;exact(j.closed (S:=fun x:Int=>(0<=x/\x<n)/\Rch (fun a b=>rowE g.1 b a/\¬SeenP (rowE g.1) es (m+1) b) r x) (fun a b ⟨z,e⟩ ⟨c,O⟩=>by
    have G:=DT t c;refine⟨G,.tail e ⟨(J a b).1 ⟨z.1,c⟩,fun B=>?_⟩⟩;rw[(h.seen b G).2 B]at O;cases O) ⟨q,.refl⟩).2
  .intro j;refine j.mono fun a b ⟨z,e⟩=>⟨((J a b).2 z).2,?_⟩;have G:=(f b a z).1;cases V:seen.getD b.toNat false with
   |true=>exact absurd ((h.seen b G).1 V) e
   |false=>rfl
 have i:∀x,x∈(ZJ g.2 (n+1) 0 (seen.set r.toNat true,[r])).2↔sccP (rowE g.1) r x:=fun x=>by rw[R,A,v]
 have o:∀x∈(ZJ g.2 (n+1) 0 (seen.set r.toNat true,[r])).2,0<=x/\x<n:=fun x j=>Tf Q q ((i x).1 j).1;have l:0<(ZJ g.2 (n+1) 0 (seen.set r.toNat true,[r])).2.length:=x9h ((i r).2 (sccP.refl r));have D:wkInv n (seen.set r.toNat true,[r]):=by
  refine⟨by simpa using h.sl,?_,fun x j=>by rw[x4w.1 j];exact q⟩;have I:r.toNat<(seen.set r.toNat true).length:=by simp;omega
  show 1<=_;exact List.count_pos_iff.2 (x6u.2 ⟨r.toNat,I,by simp⟩)
 have E:(ZJ g.2 (n+1) 0 (seen.set r.toNat true,[r])).1.length=n:=(BV t _ _ D).1;generalize ZJ g.2 (n+1) 0 (seen.set r.toNat true,[r])=w at i o l E M⊢;obtain⟨T,U⟩:=Pj l;refine⟨o,l,D,E,by rw[NM];exact h.pl,fun x j=>?_,fun x j B=>?_⟩
 .rw [M x j,i,h.seen x j,Nw H]
 .obtain ⟨z,e⟩:=Yr (Df w.2) j w.2 h.pl o;by_cases u:x∈w.2
  .rw [z u];have C:=(i x).1 u;exact⟨C.symm.trans ((i _).1 T),fun y Y=>U y ((i y).2 (C.trans Y))⟩
  .rw [e u];refine h.min x j ?_;rcases(Nw H x).1 B with c|c
   .exact c
   .exact absurd ((i x).2 c) u
theorem PartI.fin{n:Nat}{rows:List (List Int)}(v:XG n rows){es:List Int}(u:EndsP n (rowE rows) es){part:List Int}{seen:List Bool}(h:PartI n (rowE rows) es 0 part seen):part=Xp n rows:=by
 refine z0u fun i=>?_;rcases x4f i n with j|j
 .have o:0<=(i:Int)/\(i:Int)<n:=by omega
  have q:=h.min i o (q0f u o);have r:=Xn v o;have t:=q.uniq r;have l:i<part.length:=by rw[h.pl];exact j
  have m:i<(Xp n rows).length:=by rw[DN];exact j
  simpa[x3i,l,m]using t
 .rw [x6j (by rw[h.pl];exact j),x6j (by rw[DN];exact j)]
def Xu(n:Nat)(O:n<=5000)(g:List (List Int)×List (List Int))(c:XG n g.1)(o:XG n g.2)(A:∀x y,rowE g.2 x y↔rowE g.1 y x):aP 257 [VS g] (XQ (Xp n g.1)):=by
 refine sC PS func257 ?_;conv=>whnf
 have M:((avI g.1).map AV.sl).length=n:=by simp[avI,c.1]
 repeat' ((first|(refine gX ?_;intros)|refine x8a n (by rw[M]) (by show 1*n<=140737488355328;omega) (by unfold maxLen;omega) ?_|refine x8a n (by rw[M]) (by show 8*n<=140737488355328;omega) (by unfold maxLen;omega) ?_|(refine CallK.pure (Wz n O g c) (.cons (Sub.refl _) .nil) ?_;rintro _ ⟨es,rfl,v⟩))<;>conv=>whnf)
 have L:es.length<=n:=by
  have e:=v.nd;exact Fi e fun x s=>(v.mem x).1 s
 have B:(es.map (AV.int .i64)).length=es.length:=x3a _;refine lJ (fun x:Nat×List Int×List Bool=>⟨[(0,.p (VS g)),(3,.hd 0 0 n),(4,.hd 1 0 n),(5,.p (XQ es)),(6,.j ((x.1:Int)-1))],[(0,.own 3 1 (x.2.1.map (.int .i64))),(1,.own 4 1 (x.2.2.map bv))]⟩) (fun x=>x.1<=es.length/\PartI n (rowE g.1) es x.1 x.2.1 x.2.2) (fun x=>x.1) (es.length,List.replicate n 0,List.replicate n false) (lE (hsl:=.r (.cons (.of_eq rfl) (.cons (.of_eq rfl) (.r (.cons (.of_eq (by rw[B];rfl)) .nil))))) (hH:=.cons rfl (.of_eq (by rw[x7h];rfl)) (.cons rfl (.of_eq (by rw[x7h];rfl)) .nil))) ⟨x4m _,PartI.start⟩ ?_;rintro⟨m,part,seen⟩ ⟨e,k⟩;simp only at e k⊢;have hsl:=k.sl;have C:=k.pl;cases m with
 | zero=>
   conv=>whnf
   repeat' (apply bD<;>intro _<;>first|omega|conv=>whnf)
   exact⟨_,.hd rfl (by simp[C]),by rw[k.fin c v];rfl⟩
 | succ m=>
   obtain⟨r,t⟩ : ∃r,es[m]?=some r:=⟨_,x3e (by omega)⟩;have D:=(v.mem r).1 (x4p t);have Q:es[m]=r:=by rw[x3e (by omega)]at t;exact x8z t
   have z:(es.map (AV.int .i64))[m]?=some (.int .i64 r):=by rw[x4q,t];rfl
   have u:=q1r (l:=seen) (i:=r.toNat) (by omega);cases d:seen.getD r.toNat false with
   | true=>
     rw[d]at u;have a:=Ey t ((k.seen r D).1 d);conv=>whnf
     repeat' ((first|refine x4e rfl ?_|refine wI ?_|refine iT z ?_|refine iO r.toNat ?_|refine lO u ?_|(apply bD<;>intro _<;>try omega))<;>conv=>whnf)
     exact⟨(m,part,seen),⟨by simp only;omega,k.sl,k.pl,fun x s=>by rw[k.seen x s,a],fun x s R=>k.min x s ((a x).1 R)⟩,Nat.lt_succ_self m,Le.of_eq (by rw[show((m+1:Nat):Int)-1-1=(m:Int)-1 by omega])⟩
   | false=>
     rw[d]at u;obtain⟨I,J,K,f⟩:=k.part c o A v t d;conv=>whnf
     repeat' ((first|refine dA ?_|refine x4e rfl ?_|refine aD ?_|refine iT z ?_|refine iO r.toNat ?_|refine lO u ?_|refine sO .tt u ?_|refine x9p (fun x s=>by rcases x4w.1 s with rfl;rfl) rfl ?_|(apply bD<;>intro _<;>try omega))<;>conv=>whnf)
     have E:(ZJ g.2 (n+1) 0 (seen.set r.toNat true,[r])).1.length=n:=f.sl;rw[show(seen.map bv).set r.toNat AV.tt=(seen.set r.toNat true).map bv by rw[x5d];rfl];refine cJ [(1000,1),(2000,2)] 0 (Ki n O g.2 o (seen.set r.toNat true,[r]) K) ?_;rintro l' H' ⟨rfl,rfl⟩;conv=>whnf
     have F:(ZJ g.2 (n+1) 0 (seen.set r.toNat true,[r])).2.length<=n:=BJ (BV o _ _ K);generalize ZJ g.2 (n+1) 0 (seen.set r.toNat true,[r])=w at I J f E F⊢;repeat' ((first|(refine iM fun _=>?_)|(refine QC (NR w.2 J) (.cons (.hd rfl (by simp)) .nil) (by rintro _ rfl;rfl) ?_;rintro _ rfl))<;>conv=>whnf)
     refine lI (fun x:Nat=>⟨[(0,.p (VS g)),(3,.hd 0 0 n),(4,.hd 1 0 n),(5,.p (XQ es)),(6,.j (((m+1:Nat):Int)-1)),(8,.j (Df w.2)),(60,.hd 2 0 w.2.length),(61,.j w.2.length),(62,.j x)],[(1,.own 4 1 (w.1.map bv)),(2,.own 3 1 (w.2.map (.int .i64))),(0,.own 3 1 ((UN (w.2.take x) (Df w.2) part).map (.int .i64)))]⟩) (fun x=>x<=w.2.length) (fun x=>w.2.length-x) 0 (x4j _) ?_;intro q P;rcases x4f q w.2.length with h|h
     .have T:=I _ (x4h h);have G:=P7 (l:=UN (w.2.take q) (Df w.2) part) (i:=w.2[q].toNat) (by rw[NM];omega);have H:UN (w.2.take (q+1)) (Df w.2) part=(UN (w.2.take q) (Df w.2) part).set w.2[q].toNat (Df w.2):=by
       unfold UN;rw[x4k h,x7s];rfl
      generalize UN (w.2.take q) (Df w.2) part=pt at G H⊢;conv=>whnf
      repeat' ((first|refine gX ?_|refine iO q ?_|refine z1q q 0 (.int .i64 w.2[q]) (by omega) (by simp[h]) ?_|refine x6b w.2[q].toNat (by omega) (by omega) ?_|refine x8l w.2[q].toNat 0 (.int .i64 (pt.getD w.2[q].toNat 0)) (.int .i64 (Df w.2)) (by omega) G (x4m 1) rfl ?_|(apply bD<;>intro _<;>try omega))<;>conv=>whnf)
      exact⟨q+1,h,by omega,Le.of_eq (by rw[H,x5d];rfl)⟩
     .rw [x4b h];conv=>whnf
      repeat' ((first|refine wI ?_|(apply bD<;>intro _<;>try omega))<;>conv=>whnf)
      exact⟨(m,UN w.2 (Df w.2) part,w.1),⟨by simp only;omega,f⟩,Nat.lt_succ_self m,lE (hsl:=.r (.r (.r (.r (.cons (.of_eq (by rw[show(m:Int)=((m+1:Nat):Int)-1 by omega];rfl)) .nil)))))⟩
theorem OpK.frz{P:Program}{T:Tab}{o:Oper}{K:St->Prop}{s:St}(hT:TabOK P T)(q:List (List Nat))(h:q8t q s fun s'=>opW P T N s' o K):OpK P N s o K:=⟨fun σ β a w v Q=>by
 obtain⟨z,r,j⟩:=Uy (N:=N) h;obtain⟨σ1,β1,m,i⟩:=j σ β a w v;exact Oper.wp_mono (fun y w' ⟨σ',β',x,t,l,u⟩=>⟨σ',β',x,t,l,i.trans u⟩) (Yy hT r m Q)⟩
def Tg{N:List (List Int)}{a:Nat}(ha:a<N.length){y:Int}{k:Nat}:y∈(Gv N a b).getD k []↔y∈N.getD k []\/(a=k/\y=b):=by
 unfold Gv;rw[WV ha];split
 .rename_i h;rw[RF,h];simp
 .rename_i h;simp[h]
def Cr{n:Nat}{g:List (List Int)×List (List Int)}(h:g.2.length=n)(e:Int×Int):(Dh n g e).2.length=n:=by
 rw[Kq];cases(ZT n e.1&&ZT n e.2 && !(g.1.getD e.1.toNat []).contains e.2)with
 |true=>rw[x4s];unfold Gv;rw[x6x];exact h
 |false=>exact h
structure MirG(n:Nat)(g:List (List Int)×List (List Int)):Prop where
 l1:g.1.length=n
 l2:g.2.length=n
 m:∀x y:Int,0<=x/\x<n->0<=y/\y<n->(y∈g.1.getD x.toNat []↔x∈g.2.getD y.toNat [])
theorem MirG.add{n:Nat}{g:List (List Int)×List (List Int)}(h:MirG n g)(e:Int×Int):MirG n (Dh n g e):=by
 refine⟨Rw h.l1 e,Cr h.l2 e,fun x y l o=>?_⟩;rw[Vp,Kq];cases j:(ZT n e.1&&ZT n e.2 && !(g.1.getD e.1.toNat []).contains e.2)with
 | true=>
   simp only[x4n]at j;have r:=ZZ j.1.1;have t:=ZZ j.1.2;rw[x4s,x4s,Tg (by rw[h.l1];omega),Tg (by rw[h.l2];omega),h.m x y l o];constructor
   .rintro (i|⟨i,q⟩)
    .exact .inl i
    .exact .inr ⟨by omega,by omega⟩
   .rintro (i|⟨i,q⟩)
    .exact .inl i
    .exact .inr ⟨by omega,by omega⟩
 |false=>exact h.m x y l o
theorem MirG.fold{n:Nat}:∀(l:List (Int×Int)){g:List (List Int)×List (List Int)},MirG n g->MirG n (l.foldl (Dh n) g)
 |[],_,h=>h
 |e::r,_,h=>MirG.fold r (h.add e)
def P3(n:Nat)(l:List (Int×Int)):MirG n (QA n l):=by
 refine MirG.fold l ⟨by simp,by simp,fun x y _ _=>?_⟩;have:∀k,(List.replicate n ([]:List Int)).getD k []=[]:=fun k=>by
  rw[x3i,x5v];split<;>rfl
 simp only[this];simp
def Lb{n:Nat}{rows:List (List Int)}(k:rows.length=n){x y:Int}(h:rowE rows x y):0<=x/\x<n:=by
 refine⟨h.1,?_⟩;have i:=h.2;unfold Fo at i;rcases x4f x.toNat rows.length with j|j
 .omega
 .rw [x3i,x6j j]at i;simp at i
def Su(n:Nat)(l:List (Int×Int))(x y:Int):rowE (QA n l).2 x y↔rowE (QA n l).1 y x:=by
 obtain⟨o,p⟩:=JP n l;have j:=P3 n l;constructor
 .intro h;have k:=Lb j.l2 h;have i:=DT p h.2;exact⟨i.1,(j.m y x i k).2 h.2⟩
 .intro h;have k:=Lb j.l1 h;have i:=DT o h.2;exact⟨i.1,(j.m y x k i).1 h.2⟩
def Sy{n:Nat}{l:List (Int×Int)}{x y:Int}:rowE (QA n l).1 x y↔(x,y)∈l/\ZT n x=true/\ZT n y=true:=by
 constructor
 .intro h;have i:=Lb (P3 n l).l1 h;have:=(BT i).1 h.2;exact⟨this.1,Fq i,this.2⟩
 .rintro ⟨j,k,m⟩;have i:=ZZ k;exact⟨i.1,(BT i).2 ⟨j,m⟩⟩
def Xb(part:List Int)(o:List Bool)(t:Int×Int):List Bool:=if part.getD t.1.toNat 0=part.getD t.2.toNat 0 then o else o.set (part.getD t.1.toNat 0).toNat true
def K2(n:Nat)(part:List Int):List Bool:=((List.replicate n false).set (part.getD 0 0).toNat true).set (part.getD (n-1) 0).toNat true
def Ff(n:Nat)(part:List Int)(h:List (Int×Int)):List Bool:=h.foldl (Xb part) (K2 n part)
def BQ(h:Int->Int)(part:List Int)(i q:Nat):List Int:=((List.range q).filter fun j=>part.getD j 0==(i:Int)).map fun(j:Nat)=>h j
def J2(part:List Int)(op:List Bool)(i:Nat):Bool:=part.getD i 0==(i:Int) && !op.getD i false
def Z2(h:Int->Int)(part:List Int)(op:List Bool)(q:Nat):List (List Int):=((List.range q).filter (J2 part op)).map fun i=>BQ h part i part.length
def prsW(w:Way)(f:Pr):List (Int×Int):=w.real.map (ixP w.p w.j f w.n)
def UB(w:Way)(f:Pr):List Int:=Xp w.n.toNat (QA w.n.toNat (prsW w f)).1
def trapsW(w:Way)(f:Pr):List (List Int):=Z2 (QF w.p w.j w.n) (UB w f) (Ff w.n.toNat (UB w f) (prsW w f)) (UB w f).length
def Pa(part:List Int)(o:List Bool)(t:Int×Int):(Xb part o t).length=o.length:=by
 unfold Xb;split<;>simp
def Tz{n:Nat}{rows:List (List Int)}(h:XG n rows){k:Nat}(j:k<n):0<=(Xp n rows).getD k 0/\(Xp n rows).getD k 0<n:=by
 have i:0<=(k:Int)/\(k:Int)<n:=by omega
 have:=Xn h i;exact Tf h i this.scc.1
def C0(j:Int->Int)(part:List Int)(i q:Nat):BQ j part i (q+1)=if part.getD q 0=(i:Int)then BQ j part i q++[j q]else BQ j part i q:=by
 unfold BQ;rw[x8x,x6y,x4d];by_cases h:part.getD q 0=(i:Int)
 .rw [if_pos h,x7y (by rw[h];simp)];rfl
 .rw [if_neg h,x7b (by simpa using h)];simp
def SO(i:Int->Int)(part:List Int)(op:List Bool)(q:Nat):Z2 i part op (q+1)=if J2 part op q=true then Z2 i part op q++[BQ i part q part.length]else Z2 i part op q:=by
 unfold Z2;rw[x8x,x6y,x4d];by_cases h:J2 part op q=true
 .rw [if_pos h,x7y h];rfl
 .rw [if_neg h,x7b h];simp
def Nr(h:Int->Int)(part:List Int)(i q:Nat):(BQ h part i q).length<=q:=by
 unfold BQ;rw[x3a];exact x5y (x6p _ _) (by simp)
def Nl(h:Int->Int)(part:List Int)(op:List Bool)(q:Nat):(Z2 h part op q).length<=q:=by
 unfold Z2;rw[x3a];exact x5y (x6p _ _) (by simp)
theorem Pc(part:List Int):∀(l:List (Int×Int))(o:List Bool),(l.foldl (Xb part) o).length=o.length
 |[],_=>rfl
 |t::r,o=>by rw[x7v,Pc part r,Pa]
def AL(n:Nat)(part:List Int)(l:List (Int×Int)):(l.foldl (Xb part) (K2 n part)).length=n:=by
 rw[Pc];simp[K2]
def Du(w:Way)(f:Pr)(n:Nat)(K:w.n=n)(P:w.p.A[w.j]?=some f)(O:cntP w.p.A<=1000)(hn:n<=5000)(hn2:2<=n)(v:w.real.length<=1000000)(hr:∀t∈prsW w f,(0<=t.1/\t.1<n)/\0<=t.2/\t.2<n):aP 225 [.ip w.cells] (eMat (trapsW w f)):=by
 refine sC Vj func225 ?_;conv=>whnf
 have c:=JP n (prsW w f);have s:UB w f=Xp n (QA n (prsW w f)).1:=by unfold UB;rw[K];rfl
 have I:trapsW w f=Z2 (QF w.p w.j w.n) (UB w f) (Ff n (UB w f) (prsW w f)) n:=by unfold trapsW;rw[s,DN,K];rfl
 have u:∀k,k<n->0<=(UB w f).getD k 0/\(UB w f).getD k 0<n:=fun k hk=>by rw[s];exact Tz c.1 hk
 have e:(UB w f).length=n:=by rw[s,DN]
 have a:=Xu n hn (QA n (prsW w f)) c.1 c.2 (Su n (prsW w f));rw[<-s]at a;rw[I];clear I s c;generalize UB w f=part at u e a⊢;have ha0:=u 0 (by omega);have ha1:=u (n-1) (by omega);have F:=P7 (l:=part) (i:=0) (by omega);have G:=P7 (l:=part) (i:=n-1) (by omega);have e0:(List.replicate n AV.ff)[(part.getD 0 0).toNat]?=some .ff:=by rw[x5v,if_pos (by omega)]
 have e1:((List.replicate n AV.ff).set (part.getD 0 0).toNat .tt)[(part.getD (n-1) 0).toNat]?=some (bv (((List.replicate n false).set (part.getD 0 0).toNat true).getD (part.getD (n-1) 0).toNat false)):=by
  have:(List.replicate n AV.ff).set (part.getD 0 0).toNat .tt=((List.replicate n false).set (part.getD 0 0).toNat true).map bv:=by
   rw[x5d,x7h];rfl
  rw[this];exact q1r (by rw[x6x,x5e];omega)
 have hplm:(part.map (AV.int .i64)).length=n:=by rw[x3a,e]
 repeat' ((first|(refine iM fun _=>?_)|refine dA ?_|refine x4e rfl ?_|refine aR ?_|refine wI ?_|refine cP (Dy w f n K P O hn w.real v) ?_|refine cP a ?_|refine x8a n K (by show 1*n<=140737488355328;omega) (by unfold maxLen;omega) ?_|refine iT F ?_|refine iT G ?_|refine x6b (part.getD 0 0).toNat (by omega) (by omega) ?_|refine x6b (part.getD (n-1) 0).toNat (by omega) (by omega) ?_|refine x8l (part.getD 0 0).toNat 0 .ff .tt (show(0+(part.getD 0 0).toNat)*1=(part.getD 0 0).toNat*1+0 by omega) e0 (x4m 1) rfl ?_|refine cP (WC w f P O (by omega) w.real v) ?_ (ha:=.cons (Sub.refl _) (.cons (Sub.refl _) .nil))|(refine x8l (part.getD (n-1) 0).toNat 0 _ .tt (show(0+(part.getD (n-1) 0).toNat)*1=(part.getD (n-1) 0).toNat*1+0 by omega) e1 (x4m 1) (by cases((List.replicate n false).set (part.getD 0 0).toNat true).getD (part.getD (n-1) 0).toNat false<;>rfl) ?_))<;>conv=>whnf)
 have hprl:(prsW w f).length<=1000000:=by unfold prsW;rw[x3a];exact v
 have hpl2:(avP (prsW w f)).length=(prsW w f).length:=by simp[avP]
 refine lJ (fun x:Nat×List Bool=>⟨[(0,.p (.ip w.cells)),(3,.p (XQ part)),(4,.hd 0 0 n),(43,.p (.sl (avP (prsW w f)))),(44,.p (.int .i64 (avP (prsW w f)).length)),(45,.j x.1)],[(0,.own 4 1 (x.2.map bv))]⟩) (fun x=>x.1<=(prsW w f).length/\x.2=((prsW w f).take x.1).foldl (Xb part) (K2 n part)) (fun x=>(prsW w f).length-x.1) (0,K2 n part) (lE (hH:=.cons rfl (.of_eq (by unfold K2;rw[x5d,x5d,x7h];rfl)) .nil)) ⟨x4j _,rfl⟩ ?_;rintro⟨m,o⟩ ⟨h1,B⟩;simp only at h1 B⊢;have hol:o.length=n:=by rw[B];exact AL n part _
 rcases x4f m (prsW w f).length with D|D
 .obtain ⟨⟨h3,h4⟩,h5,h6⟩:=hr _ (x4h D);have h7:=u (prsW w f)[m].1.toNat (by omega);have h8:=u (prsW w f)[m].2.toNat (by omega);have e2:=P7 (l:=part) (i:=(prsW w f)[m].1.toNat) (by omega);have g:=P7 (l:=part) (i:=(prsW w f)[m].2.toNat) (by omega);have e4:=q1r (l:=o) (i:=(part.getD (prsW w f)[m].1.toNat 0).toNat) (by omega);have Q:(avP (prsW w f))[m]?=some (.agg [.int .i64 (prsW w f)[m].1,.int .i64 (prsW w f)[m].2]):=by simp[avP,D]
  have e5:((prsW w f).take (m+1)).foldl (Xb part) (K2 n part)=Xb part o (prsW w f)[m]:=by rw[x4k D,x7s,<-B];rfl
  conv=>whnf
  repeat' ((first|refine dA ?_|refine x4e rfl ?_|refine wI ?_|refine iT Q ?_|refine x6b 0 rfl (by decide) ?_|refine x6b 1 rfl (by decide) ?_|refine iT e2 ?_|refine iT g ?_|refine x6b (part.getD (prsW w f)[m].1.toNat 0).toNat (by omega) (by omega) ?_|refine x8l (part.getD (prsW w f)[m].1.toNat 0).toNat 0 _ .tt (by omega) e4 (x4m 1) (by cases o.getD (part.getD (prsW w f)[m].1.toNat 0).toNat false<;>rfl) ?_|((first|apply bD|apply bE)<;>intro _<;>try omega))<;>conv=>whnf)
  all_goals first
   | (have d:part.getD (prsW w f)[m].1.toNat 0=part.getD (prsW w f)[m].2.toNat 0:=by assumption
      exact nX (m+1,o) ⟨by simp only;omega,by simp only;rw[e5];unfold Xb;rw[if_pos d]⟩)
   | (have d:¬part.getD (prsW w f)[m].1.toNat 0=part.getD (prsW w f)[m].2.toNat 0:=by assumption
      exact⟨(m+1,o.set (part.getD (prsW w f)[m].1.toNat 0).toNat true),⟨by simp only;omega,by simp only;rw[e5];unfold Xb;rw[if_neg d]⟩,by simp only;omega,Le.of_eq (by simp only[x5d];rfl)⟩)
 .rw [x4b D]at B;have E:Ff n part (prsW w f)=o:=B.symm;rw[E];clear E B e0 e1 F G a;conv=>whnf
  repeat' ((first|(refine iM fun _=>?_)|(apply bD<;>intro _<;>try omega))<;>conv=>whnf)
  refine lJ (fun q:Nat=>⟨[(0,.p (.ip w.cells)),(3,.p (XQ part)),(4,.hd 0 0 n),(7,.hd 1 0 (Z2 (QF w.p w.j w.n) part o q).length),(69,.p (.int .i64 (part.map (AV.int .i64)).length)),(70,.j q)],[(0,.own 4 1 (o.map bv)),(1,.own 56 1 ((avI (Z2 (QF w.p w.j w.n) part o q)).map AV.sl))]⟩) (fun q=>q<=n) (fun q=>n-q) 0 (lM [(1,.own 56 1 [])]) (x4j _) ?_;intro q hqn;have L:=Nl (QF w.p w.j w.n) part o q;rcases x4f q n with d|d
  .have e2:=P7 (l:=part) (i:=q) (by omega);have g:=q1r (l:=o) (i:=q) (by omega);have r:=SO (QF w.p w.j w.n) part o q;generalize Z2 (QF w.p w.j w.n) part o q=acc at L r⊢;have hpe:part[q]=part.getD q 0:=by rw[x3i,x3e];rfl
   cases J:o.getD q false with
   | true=>
     rw[J]at g;have H:¬J2 part o q=true:=by unfold J2;rw[J];simp
     rw[if_neg H]at r;conv=>whnf
     repeat' ((first|(refine gX ?_;intros)|refine iO q ?_|refine lO g ?_|((first|apply bD|apply bE)<;>intro _<;>try omega))<;>conv=>whnf)
     all_goals exact⟨q+1,d,by omega,Le.of_eq (by rw[r];rfl)⟩
   | false=>
     rw[J]at g;conv=>whnf
     repeat' ((first|(refine gX ?_;intros)|refine iO q ?_|refine lO g ?_|((first|apply bD|apply bE)<;>intro _<;>try omega))<;>conv=>whnf)
     all_goals try
      have R:¬part.getD q 0=(q:Int):=by omega
      have H:¬J2 part o q=true:=fun h=>by
       unfold J2 at h;rw[x4n,x8u]at h;exact R h.1
      rw[if_neg H]at r;exact⟨q+1,d,by omega,Le.of_eq (by rw[r];rfl)⟩
     have T:part.getD q 0=(q:Int):=by omega
     have H:J2 part o q=true:=by unfold J2;rw[J,T];simp
     rw[if_pos H,e]at r;refine lJ (fun z:Nat=>⟨[(0,.p (.ip w.cells)),(3,.p (XQ part)),(4,.hd 0 0 n),(7,.hd 1 0 acc.length),(8,.j q),(9,.hd 2 0 (BQ (QF w.p w.j w.n) part q z).length),(69,.p (.int .i64 (part.map (AV.int .i64)).length)),(70,.j q),(86,.p (.int .i64 (part.map (AV.int .i64)).length)),(87,.j z)],[(0,.own 4 1 (o.map bv)),(1,.own 56 1 ((avI acc).map AV.sl)),(2,.own 3 1 ((BQ (QF w.p w.j w.n) part q z).map (.int .i64)))]⟩) (fun z=>z<=n) (fun z=>n-z) 0 (lM [(2,.own 3 1 [])]) (x4j _) ?_;intro z hzn;have M:=Nr (QF w.p w.j w.n) part q z;rcases x4f z n with Y|Y
     .have e4:=P7 (l:=part) (i:=z) (by omega);have y:=C0 (QF w.p w.j w.n) part q z;generalize BQ (QF w.p w.j w.n) part q z=l at M y⊢;conv=>whnf
      repeat' ((first|(refine gX ?_;intros)|refine cP (ZC w f P O (by omega) z (by omega)) ?_ (ha:=.cons (Sub.refl _) (.cons (Sub.refl _) .nil))|refine pI ?_|(apply bD<;>intro _<;>try omega))<;>conv=>whnf)
      have U:part[z]=part.getD z 0:=by rw[x3i,x3e];rfl
      .rw [if_pos (by omega)]at y;exact⟨z+1,Y,by omega,Le.of_eq (by rw[y,x3o,x4d];rfl)⟩
      .have U:part[z]=part.getD z 0:=by rw[x3i,x3e];rfl
       rw[if_neg (by omega)]at y;exact⟨z+1,Y,by omega,Le.of_eq (by rw[y];rfl)⟩
     .have Z:z=n:=by omega
      subst Z;conv=>whnf
      repeat' (apply bD<;>intro _<;>first|omega|conv=>whnf)
      have C:(BQ (QF w.p w.j w.n) part q z).length=((BQ (QF w.p w.j w.n) part q z).map (AV.int .i64)).length:=by simp
      refine OpK.frz XM [[9,104]] ?_;conv=>whnf
      refine LenK.mk C ?_;conv=>whnf
      refine LenK.mk C ?_;conv=>whnf
      repeat' ((first|refine gX ?_|refine pA 1 24 (by simp[avI]) ?_)<;>conv=>whnf)
      exact⟨q+1,d,by omega,Le.of_eq (by rw[r];simp only[avI,x3o,x4d];rfl)⟩
  .have V:q=n:=by omega
   subst V;conv=>whnf
   repeat' (apply bD<;>intro _<;>first|omega|conv=>whnf)
   exact⟨_,.hd rfl (by simp[avI]),rfl⟩
def vOf(p:Pg)(id:Int):List Step:=match Li p id with
 |some s=>if s.kind=10 then [⟨id,-1,3⟩]else []
 |none=>[]
def WQ(w:Way)(f:Pr):List Step:=(trapsW w f).flatMap fun l=>l.flatMap (vOf w.p)
def q5s(p:Pg)(id:Int):(vOf p id).length<=1:=by
 unfold vOf;split
 .split<;>simp
 .simp
theorem ZQ{α β:Type}{g:α->List β}{c:Nat}:∀(l:List α),(∀x∈l,(g x).length<=c)->(l.flatMap g).length<=l.length*c
 |[],_=>by simp
 | a::r,h=>by
   have j:=h a x4z;have k:=ZQ r fun x i=>h x (x4x _ i);rw[x6d,x3o,x5g,x6r];omega
def Jw(w:Way)(f:Pr)(n:Nat)(V:w.n=n)(M:w.p.A[w.j]?=some f)(L:cntP w.p.A<=1000)(Q:n<=5000)(B:2<=n)(z:w.real.length<=1000000)(R:∀t∈prsW w f,(0<=t.1/\t.1<n)/\0<=t.2/\t.2<n)(C:(trapsW w f).length<=5000)(c:∀l∈trapsW w f,l.length<=5000/\∀id∈l,1<=id/\id<=(sheetOf w.p).l.length):
  aH 175 [.p (.ip w.cells)] [] (.hd 0 0 (WQ w f).length) [(0,.own 225 3 (avS (WQ w f)))]:=by
 refine sK X4 func175 ?_;conv=>whnf
 repeat' ((first|(refine iM fun _=>?_)|refine cP (Du w f n V M L Q B z R) ?_)<;>conv=>whnf)
 unfold WQ;generalize trapsW w f=ts at C c⊢;have P:((avI ts).map AV.sl).length=ts.length:=by simp[avI]
 refine lJ (fun x:Nat×List Step=>⟨[(0,.p (.ip w.cells)),(3,.hd 0 0 x.2.length),(9,.p (eMat ts)),(10,.p (.int .i64 ((avI ts).map AV.sl).length)),(11,.j x.1)],[(0,.own 225 3 (avS x.2))]⟩) (fun x=>x.1<=ts.length/\x.2.length<=x.1*5000/\x.2++(ts.drop x.1).flatMap (fun l=>l.flatMap (vOf w.p))=ts.flatMap fun l=>l.flatMap (vOf w.p)) (fun x=>ts.length-x.1) (0,[]) (lM [(0,.own 225 3 [])]) ⟨x4j _,by simp,rfl⟩ ?_;rintro⟨m,d⟩ ⟨H,I,q⟩;simp only at H I q⊢;rcases x4f m ts.length with r|r;rotate_left 1
 .rw [x4l r,List.flatMap_nil,x5m]at q;conv=>whnf
  repeat' (apply bD<;>intro _<;>first|omega|conv=>whnf)
  exact⟨_,x4c _,by rw[q],by rw[q]⟩
 obtain⟨g,y⟩:=c _ (x4h r);have F:((avI ts).map AV.sl)[m]?=some (.sl (ts[m].map (.int .i64))):=by simp[avI,r]
 rw[YB r]at q;conv=>whnf
 repeat' ((first|(refine gX ?_;intros)|(apply bD<;>intro _<;>try omega))<;>conv=>whnf)
 have e:(avI ts)[m]'(by simp[avI];exact r)=ts[m].map (.int .i64):=by simp[avI]
 rw[e];generalize ts[m]=l at g y q⊢;have O:(l.map (AV.int .i64)).length=l.length:=x3a _;generalize G:(ts.flatMap fun l=>l.flatMap (vOf w.p))=tot at q⊢;refine lI (fun x:Nat×List Step=>⟨[(0,.p (.ip w.cells)),(3,.hd 0 0 x.2.length),(9,.p (eMat ts)),(10,.p (.int .i64 ((avI ts).map AV.sl).length)),(11,.j m),(15,.p (XQ l)),(16,.p (.int .i64 (l.map (AV.int .i64)).length)),(17,.j x.1)],[(0,.own 225 3 (avS x.2))]⟩) (fun x=>x.1<=l.length/\x.2.length<=m*5000+x.1/\x.2++((l.drop x.1).flatMap (vOf w.p)++(ts.drop (m+1)).flatMap (fun l=>l.flatMap (vOf w.p)))=tot) (fun x=>l.length-x.1) (0,d) ⟨x4j _,by simp only;omega,q⟩ ?_;rintro⟨k,h⟩ ⟨J,K,o⟩;simp only at J K o⊢;rcases x4f k l.length with v|v;rotate_left 1
 .rw [x4l v]at o;conv=>whnf
  repeat' ((first|refine wI ?_|(apply bD<;>intro _<;>try omega))<;>conv=>whnf)
  exact nX (m+1,h) ⟨r,by simp only;omega,by simpa using o⟩
 obtain⟨Y,Z⟩:=y _ (x4h v);obtain⟨_,_,_,hsl,_⟩:=QU w.p;have a:(l[k]-1).toNat<(sheetOf w.p).l.length:=by omega
 have T:∃u:Item,((sheetOf w.p).l.map fun i=>AV.agg i.cells)[(l[k]-1).toNat]?=some (.agg u.cells)/\Li w.p l[k]=some u.s:=⟨_,by rw[x4q,x3e a];rfl,by unfold Li;rw[x3e a];rfl⟩;obtain⟨u,D,E⟩:=T;rw[YB v]at o;have U:vOf w.p l[k]=if u.s.kind=10 then [⟨l[k],-1,3⟩]else []:=by unfold vOf;rw[E]
 rw[U]at o;conv=>whnf
 repeat' ((first|(refine gX ?_;intros)|refine iT D ?_|refine pA 1 24 (by simp[avS]) ?_|(apply bD<;>intro _<;>try omega))<;>conv=>whnf)
 .rw [if_pos (by assumption)]at o;exact⟨(k+1,h++[⟨l[k],-1,3⟩]),⟨v,by simp;omega,by simpa using o⟩,by simp only;omega,Le.of_eq (by simp only[avS,x3o,x4d];rfl)⟩
 .rw [if_neg (by assumption)]at o;exact nX (k+1,h) ⟨v,by simp only;omega,by simpa using o⟩
def fOf(h:Item):List Step:=if h.s.kind=7\/h.s.kind=8\/h.s.kind=9\/h.s.kind=10 then [⟨h.s.id,h.next,2⟩]else []
structure WayT(w:Way)(f:Pr)(n:Nat):Prop where
 hw:w.n=n
 hj:w.p.A[w.j]?=some f
 hc:cntP w.p.A<=1000
 hn:n<=5000
 hn2:2<=n
 hlen:w.real.length<=1000000
 hr:∀t∈prsW w f,(0<=t.1/\t.1<n)/\0<=t.2/\t.2<n
 htl:(trapsW w f).length<=5000
 hti:∀l∈trapsW w f,l.length<=5000/\∀id∈l,1<=id/\id<=(sheetOf w.p).l.length
 hok:∀s∈w.real,okSt s
 hfk:∀it∈itsOf w.p w.j f,∀s∈fOf it,okSt s
def q5c{p:Pg}{id:Int}{s:Step}(h:s∈vOf p id):s=⟨id,-1,3⟩:=by
 unfold vOf at h;split at h
 .split at h
  .simpa using h
  .simp at h
 .simp at h
theorem WayT.virt_ok{w:Way}{f:Pr}{n:Nat}(h:WayT w f n):∀s∈WQ w f,okSt s:=fun s i=>by
 unfold WQ at i;obtain⟨l,m,i⟩:=x4a.1 i;obtain⟨id,j,i⟩:=x4a.1 i;obtain⟨_,_,_,hsl,_⟩:=QU w.p;have o:=(h.hti l m).2 id j;have q:=h.hc;rw[q5c i];exact⟨by show id≠_;omega,by show(-1:Int)≠_;decide⟩
theorem WayT.virt_len{w:Way}{f:Pr}{n:Nat}(h:WayT w f n):(WQ w f).length<=25000000:=by
 have m:=ZQ (g:=fun l=>l.flatMap (vOf w.p)) (c:=5000) (trapsW w f) fun l j=>by
  have i:=ZQ (g:=vOf w.p) (c:=1) l fun id _=>q5s w.p id;have o:=(h.hti l j).1;omega
 have i:=h.htl;unfold WQ;omega
def LX(w:Way)(f:Pr):List Step:=VY (WQ w f++w.real)
def Ve(w:Way)(f:Pr):List Step:=WQ w f++w.real++[⟨0,-1,2⟩]++(itsOf w.p w.j f).flatMap fOf
def S7(w:Way)(f:Pr):List Step:=VY (Ve w f)
def q3t(h:Item):(fOf h).length<=1:=by
 unfold fOf;split<;>simp
def Ze(w:Way)(f:Pr)(n:Nat)(h:WayT w f n):aP 127 [.ip w.cells] (eSteps (LX w f)):=by
 refine sC Jp func127 ?_;conv=>whnf
 have o:=h.hlen;have q:=h.virt_len;have k:=h.virt_ok;repeat' ((first|refine dA ?_|refine aD ?_|(refine cH [] 0 (Jw w f n h.hw h.hj h.hc h.hn h.hn2 h.hlen h.hr h.htl h.hti) ?_ (hH:=x6z)))<;>conv=>whnf)
 have j:(w.real.map fun s=>AV.agg s.cells).length=w.real.length:=x3a _;have m:(avS (WQ w f)).length=(WQ w f).length:=by simp[avS]
 refine AppK.mk m.symm rfl (by rw[j];show((WQ w f).length+w.real.length)*24<=140737488355328;omega) (by rw[j];show(WQ w f).length+w.real.length<=9223372036854775807;omega) (fun x r=>by obtain⟨s,_,rfl⟩:=x4y.1 r;exact⟨rfl,rfl⟩) ?_;conv=>whnf
 have i:avS (WQ w f)++(w.real.map fun s=>AV.agg s.cells)=avS (WQ w f++w.real):=by simp[avS]
 have l:(WQ w f).length+(w.real.map fun s=>AV.agg s.cells).length=(WQ w f++w.real).length:=by simp
 rw[i,l];repeat' ((refine cH rH1 0 (Ux (WQ w f++w.real) (fun s p=>(x4g.1 p).elim (k s) (h.hok s)) (by rw[x3o];omega)) ?_)<;>conv=>whnf)
 exact⟨_,.hd rfl (by simp[avS]),rfl⟩
def Jx(w:Way)(f:Pr)(n:Nat)(h:WayT w f n):aP 126 [.ip w.cells] (eSteps (S7 w f)):=by
 refine sC Hv func126 ?_;conv=>whnf
 have a:=h.hlen;have G:=h.virt_len;have y:=h.virt_ok;have C:=h.hc;have u:itL w.j 0 (-1) 0 (QS w.p.A w.j) f.body=itsOf w.p w.j f:=rfl;repeat' ((first|refine dA ?_|refine aD ?_|(refine cH [] 0 (Jw w f n h.hw h.hj h.hc h.hn h.hn2 h.hlen h.hr h.htl h.hti) ?_ (hH:=x6z)))<;>conv=>whnf)
 have z:(w.real.map fun s=>AV.agg s.cells).length=w.real.length:=x3a _;have e:(avS (WQ w f)).length=(WQ w f).length:=by simp[avS]
 refine AppK.mk e.symm rfl (by rw[z];show((WQ w f).length+w.real.length)*24<=140737488355328;omega) (by rw[z];show(WQ w f).length+w.real.length<=9223372036854775807;omega) (fun x M=>by obtain⟨s,_,rfl⟩:=x4y.1 M;exact⟨rfl,rfl⟩) ?_;conv=>whnf
 have q:avS (WQ w f)++(w.real.map fun s=>AV.agg s.cells)=avS (WQ w f++w.real):=by simp[avS]
 have c:(WQ w f).length+(w.real.map fun s=>AV.agg s.cells).length=(WQ w f++w.real).length:=by simp
 rw[q,c];have B:(WQ w f++w.real).length<=26000000:=by rw[x3o];omega
 have r:∀s∈WQ w f++w.real++[⟨0,-1,2⟩],okSt s:=fun s k=>by
  rcases x4g.1 k with k|k
  .exact (x4g.1 k).elim (y s) (h.hok s)
  .rw [x4w.1 k];exact⟨by decide,by decide⟩
 have v:Ve w f=WQ w f++w.real++[⟨0,-1,2⟩]++(itsOf w.p w.j f).flatMap fOf:=rfl;unfold S7;rw[v];clear v q c z e y G a;generalize WQ w f++w.real=base at B r⊢;repeat' ((first|(refine gX ?_;intros)|refine dA ?_|refine cP (Hh w.p h.hj C) ?_|refine pA 1 24 (by simp[avS]) ?_)<;>conv=>whnf)
 rw[u];have D:(itsOf w.p w.j f).length<=1000:=by
  obtain⟨_,_,_,hsl,F⟩:=QU w.p;obtain⟨_,_,L,_⟩:=F w.j f h.hj;rw[<-u,XS];omega
 have t:=h.hfk;generalize itsOf w.p w.j f=its at D t⊢;have K:=WZ its;refine lJ (fun x:Nat×List Step=>⟨[(3,.hd 0 0 x.2.length),(25,.p (ZE its)),(26,.p (.int .i64 (its.map fun i=>AV.agg i.cells).length)),(27,.j x.1)],[(0,.own 225 3 (avS x.2))]⟩) (fun x=>x.1<=its.length/\x.2.length<=base.length+1+x.1/\x.2++(its.drop x.1).flatMap fOf=base++[⟨0,-1,2⟩]++its.flatMap fOf) (fun x=>its.length-x.1) (0,base++[⟨0,-1,2⟩]) (Le.of_eq (by simp only[avS,x3o,x4d];rfl)) ⟨x4j _,by simp,rfl⟩ ?_;rintro⟨m,l⟩ ⟨H,I,o⟩;simp only at H I o⊢;rcases x4f m its.length with d|d;rotate_left 1
 .rw [x4l d,List.flatMap_nil,x5m]at o;have E:∀s∈l,okSt s:=fun s k=>by
   rw[o]at k;rcases x4g.1 k with k|k
   .exact r s k
   .obtain ⟨O,J,k⟩:=x4a.1 k;exact t O J s k
  rw[<-o];conv=>whnf
  repeat' ((first|(apply bD<;>intro _<;>try omega)|(refine cH rH1 0 (Ux l E (by omega)) ?_))<;>conv=>whnf)
  exact⟨_,.hd rfl (by simp[avS]),rfl⟩
 rw[YB d]at o;have g:fOf its[m]=if its[m].s.kind=7\/its[m].s.kind=8\/its[m].s.kind=9\/its[m].s.kind=10 then [⟨its[m].s.id,its[m].next,2⟩]else []:=rfl;conv=>whnf
 repeat' ((first|(refine gX ?_;intros)|refine pA 1 24 (by simp[avS]) ?_|(apply bD<;>intro _<;>try omega))<;>conv=>whnf)
 all_goals first
  | (rw[if_pos (by omega)]at g
     rw[g]at o;exact⟨(m+1,l++[⟨its[m].s.id,its[m].next,2⟩]),⟨d,by simp;omega,by simpa using o⟩,by simp only;omega,Le.of_eq (by simp only[avS,x3o,x4d];rfl)⟩)
  | (rw[if_neg (by omega)]at g
     rw[g]at o;exact nX (m+1,l) ⟨d,by simp only;omega,by simpa using o⟩)
def ElS(es es':List AV):Prop:=es'.length=es.length/\∀(m:Nat)(x':AV),es'[m]?=some x'->∃x,es[m]?=some x/\x'.cells.length=x.cells.length/\∀(j:Nat)(c':AV),x'.cells[j]?=some c'->∃c,x.cells[j]?=some c/\Sub c c'
theorem ElS.refl(es:List AV):ElS es es:=⟨rfl,fun _ j h=>⟨j,h,rfl,fun _ c' i=>⟨c',i,Sub.refl _⟩⟩⟩
inductive SubH:Heap->Heap->Prop
 |nil:SubH [] []
 |same {c:Nat×Chunk} {H H':Heap} (h:SubH H H'):SubH (c::H) (c::H')
 |Z {k:Nat} {e:TypeId} {sz:Nat} {es es':List AV} {H H':Heap} (hp:ElS es es') (h:SubH H H'):SubH ((k,.own e sz es)::H) ((k,.own e sz es')::H')
theorem SubH.get{H H':Heap}(h:SubH H H'):H'.map (·.1)=H.map (·.1)/\∀j c',(j,c')∈H'->(j,c')∈H\/∃e sz es es',(j,Chunk.own e sz es)∈H/\c'=.own e sz es'/\ElS es es':=by
 induction h with
 |nil=>exact⟨rfl,by simp⟩
 | same h m=>
   refine⟨by simp[m.1],fun j c' i=>?_⟩;rcases x4v.1 i with rfl|i
   .exact .inl x4z
   .rcases m.2 j c' i with l|⟨e,sz,es,es',l,o⟩
    .exact .inl (x4x _ l)
    .exact .inr ⟨e,sz,es,es',x4x _ l,o⟩
 | @Z k e sz es es' H H' q h m=>
   refine⟨by simp[m.1],fun j c' i=>?_⟩;rcases x4v.1 i with i|i
   .cases i;exact .inr ⟨e,sz,es,es',x4z,rfl,q⟩
   .rcases m.2 j c' i with l|⟨e,sz,es,es',l,o⟩
    .exact .inl (x4x _ l)
    .exact .inr ⟨e,sz,es,es',x4x _ l,o⟩
theorem Le.Z{N:Nat}{sl:List (Nat×LV)}{H H':Heap}(h:SubH H H'):Le N ⟨sl,H⟩ ⟨sl,H'⟩:=fun σ β a w l=>by
 obtain⟨t,f⟩:=h.get;refine⟨σ,β,⟨l.size,l.defers,l.E,⟨l.heap.mem,fun j c' o=>?_,by show(H'.map (·.1)).Nodup;rw[t];exact l.heap.nodup,fun j o=>l.heap.apart j (by rw[<-t];exact o),fun j o Q g=>l.heap.inj j (by rw[<-t];exact o) Q (by rw[<-t];exact g)⟩⟩,Mem.le_refl σ,Frm.refl _ w,fun b J q=>absurd J q,fun b ⟨j,o,r⟩=>.inl ⟨j,by rw[<-t];exact o,r⟩,fun _ _ _=>rfl⟩;rcases f j c' o with q|⟨e,sz,es,es',q,rfl,v⟩
 .exact l.heap.chunks j c' q
 .rcases l.heap.chunks j _ q with⟨y,z⟩|⟨i,vs,y,z,K,L,M,O,A⟩
  .refine .inl ⟨y,?_⟩;have:=v.1;rw[z]at this;exact x6k this
  .refine .inr ⟨i,vs,y,z,K,L,by rw[v.1];exact M,O,fun m R P=>?_⟩;obtain⟨x,g1,B,C⟩:=v.2 m R P;refine⟨by rw[B];exact(A m x g1).1,fun j c' f=>?_⟩;obtain⟨c,D,F⟩:=C j c' f;obtain⟨u,G,I⟩:=(A m x g1).2 j c D;exact⟨u,G,F _ _ I⟩
theorem Rel.layI{σ:Mem}{β:Lab}{s s':St}{a:Act}{w:World}(t:Rel N σ β s a w){k:Nat}{i:BInfo}(G:β k=some i)(L:k∈s.H.map (·.1))(y:∀b,i.has b->∃c e u,w.heap[b]?=some (.cells c e u))(hsl:∀τ:Mem,σ.le τ->(∀b c e u,i.has b->w.heap[b]?=some (.cells c e u)->τ b=some c)->∀j v,RepL σ β (getS s.sl j) v->RepL τ β (getS s'.sl j) v)(B:∀τ:Mem,σ.le τ->∀j c',(j,c')∈s'.H->j≠k/\∃c,(j,c)∈s.H/\(c.holds σ β w j->c'.holds τ β w j))(hnd:(s'.H.map (·.1)).Nodup):
  ∃σ' β',Rel N σ' β' s' a w/\Later σ β s.H w σ' β' s'.H w:=by
 let τ:Mem:=fun b=>@ite _ (i.has b) (Classical.propDecidable _) (match w.heap[b]?with
  |some (.cells c _ _)=>some c
  |_=>none) (σ b)
 have x:∀b c e u,i.has b->w.heap[b]?=some (.cells c e u)->τ b=some c:=fun b c e u l D=>by
  show @ite _ (i.has b) (Classical.propDecidable _) _ _=_;rw[if_pos l,D]
 have o:∀b,¬i.has b->τ b=σ b:=fun b l=>by
  show @ite _ (i.has b) (Classical.propDecidable _) _ _=_;rw[if_neg l]
 have r:σ.le τ:=fun b c l=>by
  rw[o b]
  .exact l
  .intro I;rw[(t.heap.apart k L i G b I).1]at l;cases l
 have m:∀j∈s'.H.map (·.1),j≠k/\j∈s.H.map (·.1):=fun j q=>by
  obtain⟨⟨F,c'⟩,R,rfl⟩:=x4y.1 q;obtain⟨g,c,z,_⟩:=B τ r F c' R;exact⟨g,x4y.2 ⟨_,z,rfl⟩⟩
 refine⟨τ,β,⟨t.size,t.defers,fun j=>hsl τ r x j _ (t.E j),⟨fun b c l=>?_,fun j c' q=>?_,hnd,fun j q M C b l=>?_,fun j q F J=>t.heap.inj j (m j q).2 F (m F J).2⟩⟩,r,Frm.refl _ _,fun b l A=>.inl ?_,fun b ⟨j,q,K⟩=>.inl ⟨j,(m j q).2,K⟩,fun _ _ _=>rfl⟩
 .by_cases f:i.has b
  .obtain ⟨O,e,u,D⟩:=y b f;rw[x b O e u f D]at l;cases l;exact⟨_,_,D⟩
  .rw [o b f]at l;exact t.heap.mem b c l
 .obtain ⟨_,c,z,P⟩:=B τ r j c' q;exact P (t.heap.chunks j c z)
 .have g:=m j q;have z:=t.heap.apart j g.2 M C b l;refine⟨?_,z.2⟩;rw[o b fun Q=>g.1 (t.heap.inj j g.2 k L M i C G b l Q)];exact z.1
 .by_cases f:i.has b
  .exact ⟨k,L,i,G,f⟩
  .rw [o b f]at A;exact absurd l A
def Rx{sl y:List (Nat×LV)}{H H':Heap}{k:Nat}{e e2:TypeId}{sz:Nat}{rows:List (List AV)}(hg:getH H k=some (.ext (.mat e e2 sz rows [])))(hsl:∀i,getS y i=(getS sl i).kill k\/(getS sl i=.hd k 0 rows.length/\getS y i=.p (.sl (rows.map .sl))))(h:(H'.map (·.1)).Sublist (H.map (·.1)))(hH:∀j c',(j,c')∈H'->j≠k/\(j,c')∈H/\c'.kill k=c'):Le N ⟨sl,H⟩ ⟨y,H'⟩:=fun σ β a w s=>by
 have L:=QP hg;rcases s.heap.chunks k _ (QG hg)with⟨R,Y⟩|⟨i,vs,T,h1,h2,h3,h4,h5,h6,h7,h8⟩
 .refine ⟨σ,β,⟨s.size,s.defers,fun j=>?_,⟨s.heap.mem,fun j c' l=>?_,h.nodup s.heap.nodup,fun j l=>s.heap.apart j (h.subset l),fun j l j' U=>s.heap.inj j (h.subset l) j' (h.subset U)⟩⟩,Mem.le_refl σ,Frm.refl _ _,fun _ h0 h1=>absurd h0 h1,fun b ⟨j,l,r⟩=>.inl ⟨j,h.subset l,r⟩,fun _ _ _=>rfl⟩
  .show RepL σ β (getS y j) _;have t:=s.E j;rcases hsl j with D|⟨g1,B⟩
   .rw [D];exact t.kill k
   .rw [B];have t:RepL σ β (getS sl j) _:=t;rw[g1]at t;rcases t.hdI with⟨_,_,_,D⟩|⟨i,_,L,_⟩
    .rw [D,Y];exact .p .nilsl
    .rw [R]at L;cases L
  .exact s.heap.chunks j c' (hH j c' l).2.1
 .have I:∀(b c A:Nat),i.subs[A]?=some (some (b,c))->∃ws,w.heap[b]?=some (.cells ws e2 (0,0)):=fun b c A J=>by
   have ha:A<rows.length:=by rw[<-h6];exact(x4u.1 J).1
   rcases(h8 A _ (x3e ha)).2 (by simp)with⟨d,_⟩|⟨b',c',ws,d,_,K,_⟩
   .rw [J]at d;cases d
   .rw [J]at d;cases d;exact⟨ws,K⟩
  refine s.layI T L (fun b Q=>?_) (fun τ z hτ j v t=>?_) (fun τ z j c' l=>?_) (h.nodup s.heap.nodup)
  .rcases Q with rfl|⟨c,Q⟩
   .exact ⟨_,_,_,h2⟩
   .obtain ⟨A,P,J⟩:=x6u.1 Q;obtain⟨ws,hw⟩:=I b c A (by rw[x3e P,J]);exact⟨_,_,_,hw⟩
  .show RepL τ β (getS y j) v;have t:RepL σ β (getS sl j) v:=t;rcases hsl j with D|⟨g1,B⟩
   .rw [D];exact(t.kill k).mono z
   .rw [B];rw[g1]at t;rcases t.hdI with⟨q,_⟩|⟨i',oo,q,hl,M,rfl⟩
    .rw [T]at q;cases q
    .rw [T]at q;cases q;have V:oo=0:=by
      rcases M with M|M
      .simpa using M
      .omega
     subst V;have g:∀(m:Nat)(x:AV),(rows.map AV.sl)[m]?=some x->∃row,rows[m]?=some row/\x=.sl row:=fun m x n=>by
      rw[x4q]at n;cases hq:rows[m]?with
      |none=>rw[hq]at n;cases n
      |some row=>rw[hq]at n;cases n;exact⟨row,rfl,rfl⟩
     have o:∀(m:Nat)(row:List AV),rows[m]?=some row->∃u,vs[m]?=some u/\Rep τ (.sl row) u:=fun m row hm=>by
      rcases(h8 m row hm).2 (by simp)with⟨d,rfl,K⟩|⟨b,c,ws,d,q2,K,q4,q5,q6,Z⟩
      .exact ⟨_,K,.nilsl⟩
      .refine ⟨_,q2,.sl row b 0 c sz ws (fun m j=>(ws[m*sz+j]?).getD undef) (hτ b ws _ _ (.inr ⟨c,x4p d⟩) K) q5 q6 (fun m x n=>(Z m x n).1) (fun m x j c' n l=>?_) fun m x j c' n l=>?_⟩
       .obtain ⟨u,r4,_⟩:=(Z m x n).2 j c' l;simp[r4]
       .obtain ⟨u,r4,r5⟩:=(Z m x n).2 j c' l;simpa[r4]using r5.mono z
     have F:Rep τ (.sl (rows.map .sl)) (.slice (some ⟨i.blk,0,none⟩) (rows.map AV.sl).length i.cap):=by
      refine .sl (rows.map .sl) i.blk 0 i.cap 1 vs (fun m j=>(vs[m*1+j]?).getD undef) (hτ _ _ _ _ i.has_blk h2) (by simpa using h4) h5 (fun m x n=>?_) (fun m x j c' n l=>?_) fun m x j c' n l=>?_
      .obtain ⟨row,_,rfl⟩:=g m x n;rfl
      .obtain ⟨row,C,rfl⟩:=g m x n;obtain⟨u,O,g5⟩:=o m row C;have f:j=0:=by
        have:=(x4u.1 l).1;simpa[AV.cells]using this
       subst f;simp[O]
      .obtain ⟨row,C,rfl⟩:=g m x n;obtain⟨u,O,g5⟩:=o m row C;have f:j=0:=by
        have:=(x4u.1 l).1;simpa[AV.cells]using this
       subst f;cases l;simpa[O]using g5
     have:RepL τ β (.p (.sl (rows.map .sl))) (.slice (some ⟨i.blk,0,none⟩) (rows.map AV.sl).length i.cap):=.p F;simpa using this
  .obtain ⟨g1,B,C⟩:=hH j c' l;refine⟨g1,c',B,fun G=>?_⟩;have:=(G.kill k).mono z fun _ _ _ _=>rfl
   rwa[C]at this
end Go.Ab
