/- graph: the order in which a search into the depth is done. -/
import Derived.Test.YtmfnbgbblkhneaaGreatRchL9
import Derived.Test.YtmfnbgbblkhneaaGreatRchL10
import Derived.Test.YtmfnbgbblkhneaaGreatRchL15
set_option linter.unusedSimpArgs false
set_option linter.unusedVariables false
set_option maxRecDepth 100000
set_option maxHeartbeats 16000000
namespace Go.Ab
open Go.Proofs.Tryz
open Go.Proofs
variable {b:Int}
def rowE(rows:List (List Int))(x y:Int):Prop:=0<=x/\Db rows x y
structure EndI(n:Nat)(rows:List (List Int))(out stack:List Int)(seen:List Bool)(at_:List Int):Prop where
 dfs:DfsI n (rowE rows) out stack
 sl:seen.length=n
 al:at_.length=n
 seen:∀x:Int,0<=x/\x<n->(seen.getD x.toNat false=true↔x∈out++stack)
 arng:∀x:Int,0<=x/\x<n->0<=at_.getD x.toNat 0/\at_.getD x.toNat 0<=(rows.getD x.toNat []).length
 cur:∀x:Int,0<=x/\x<n->∀(i:Nat)(y:Int),(i:Int)<at_.getD x.toNat 0->(rows.getD x.toNat [])[i]?=some y->y∈out++stack
theorem EndI.start(n:Nat)(rows:List (List Int)):EndI n rows [] [] (List.replicate n false) (List.replicate n 0):=by
 have h0:∀x:Int,(List.replicate n (0:Int)).getD x.toNat 0=0:=fun x=>by
  rw[x2l,x3o];split<;>rfl
 refine⟨DfsI.start n _,by simp,by simp,fun x hx=>?_,fun x hx=>by rw[h0];omega,fun x hx i y hi=>by rw[h0]at hi;omega⟩;rw[x2l,x3o];split<;>simp
theorem ZG{α:Type}{l:List α}{i j:Nat}{a d:α}(hi:i<l.length):(l.set i a).getD j d=if i=j then a else l.getD j d:=by
 simp only[x2l,x7x];split
 ·rename_i h;first
   |rfl
   |(rw[if_pos hi];rfl)
 ·rfl
theorem EndI.push{n:Nat}{rows:List (List Int)}{out stack:List Int}{seen:List Bool}{at_:List Int}(h:EndI n rows out stack seen at_){b:Int}(hb:0<=b/\b<n)(hn:seen.getD b.toNat false=false)(hp:chainE (rowE rows) (stack++[b])):EndI n rows out (stack++[b]) (seen.set b.toNat true) at_:=by
 have hno:b∉out++stack:=fun hm=>by rw[(h.seen b hb).2 hm]at hn;cases hn
 refine⟨h.dfs.push hb hno hp,by simpa using h.sl,h.al,fun x hx=>?_,h.arng,fun x hx i y hi hy=>?_⟩
 ·rw[ZG (by rw[h.sl];omega),<-x3s,x3x,x2a];split
  ·have:x=b:=by omega
   simp[this]
  ·have:x≠b:=by omega
   rw[h.seen x hx];simp[this]
 ·rw[<-x3s];exact x3x.2 (.inl (h.cur x hx i y hi hy))
theorem EndI.pop{n:Nat}{rows:List (List Int)}{out st:List Int}{a:Int}{seen:List Bool}{at_:List Int}(h:EndI n rows out (st++[a]) seen at_)(ha:at_.getD a.toNat 0=(rows.getD a.toNat []).length):EndI n rows (out++[a]) st seen at_:=by
 have hr:=h.dfs.rng a (by simp);have hsw:∀x:Int,x∈out++[a]++st↔x∈out++(st++[a]):=fun x=>by
  simp only[x3x,x2a];constructor
  ·rintro((h1|h1)|h1)
   ·exact .inl h1
   ·exact .inr (.inr h1)
   ·exact .inr (.inl h1)
  ·rintro(h1|h1|h1)
   ·exact .inl (.inl h1)
   ·exact .inr h1
   ·exact .inl (.inr h1)
 refine⟨h.dfs.pop fun v hv=>?_,h.sl,h.al,fun x hx=>by rw[h.seen x hx,hsw],h.arng,fun x hx i y hi hy=>(hsw y).2 (h.cur x hx i y hi hy)⟩;obtain⟨i,hi⟩:=x5s.1 hv.2;have:=h.cur a hr i v (by rw[ha];have:=(x2o.1 hi).1;omega) hi;exact x3x.1 this
theorem EndI.step{n:Nat}{rows:List (List Int)}{out stack:List Int}{seen:List Bool}{at_:List Int}(h:EndI n rows out stack seen at_){a:Int}(ha:0<=a/\a<n){k:Nat}(hk:at_.getD a.toNat 0=k)(hb:(rows.getD a.toNat [])[k]?=some b)(hs:b∈out++stack):EndI n rows out stack seen (at_.set a.toNat ((k:Int)+1)):=by
 have hlt:a.toNat<at_.length:=by rw[h.al];omega
 refine⟨h.dfs,h.sl,by simpa using h.al,h.seen,fun x hx=>?_,fun x hx i y hi hy=>?_⟩
 ·rw[ZG hlt];split
  ·rename_i he;have:=(x2o.1 hb).1;rw[<-he];omega
  ·exact h.arng x hx
 ·rw[ZG hlt]at hi;split at hi
  ·rename_i he;rw[<-he]at hy;rcases x3v i k with hik|hik
   ·exact h.cur a ha i y (by omega) hy
   ·have:i=k:=by omega
    subst this;rw[hb]at hy;cases hy;exact hs
  ·exact h.cur x hx i y hi hy
def q1j(m:Int)(l:List Int):Int:=l.foldl (fun m x=>if x<m then x else m) m
def Bv:List Int->Int
 |[]=>0
 |a::r=>q1j a r
theorem Nd:∀(l:List Int)(m:Int),q1j m l∈m::l/\∀x∈m::l,q1j m l<=x
 |[],m=>⟨by simp[q1j],by simp[q1j]⟩
 | a::r,m=>by
   obtain⟨h1,h2⟩:=Nd r (if a<m then a else m);have e:q1j m (a::r)=q1j (if a<m then a else m) r:=rfl;have h3:=h2 _ x2r;rw[e];generalize q1j (if a<m then a else m) r=z at h1 h2 h3⊢;refine⟨?_,fun x hx=>?_⟩
   ·rcases x2i.1 h1 with h|h
    ·rw[h];split<;>simp
    ·exact x2c _ (x2c _ h)
   ·rcases x2i.1 hx with rfl|hx
    ·split at h3<;>omega
    ·rcases x2i.1 hx with rfl|hx
     ·split at h3<;>omega
     ·exact h2 x (x2c _ hx)
theorem Nb{l:List Int}(h:0<l.length):Bv l∈l/\∀x∈l,Bv l<=x:=by
 cases l with
 |nil=>simp at h
 |cons a r=>exact Nd r a
theorem OpK.min2{P:Program}{N:Nat}{s:St}{o:Oper}{K:St->Prop}{x y:Operand}{ts:Array TypeId}(hop:o.op=.call {callee:=.builtin .min,args:=#[x,y],argTypes:=ts}){m n:Int}(hx:QM s.sl x=.p (.int .i64 m))(hy:QM s.sl y=.p (.int .i64 n))(h:setD N s.sl o.dst (.p (.int .i64 (if n<m then n else m))) fun sl=>K ⟨sl,s.H⟩):OpK P N s o K:=by
 refine⟨fun σ β a w hr Q=>?_⟩;have h1:=QZ hr.slots x;have h2:=QZ hr.slots y;rw[hx]at h1;rw[hy]at h2;have e1:=h1.int;have e2:=h2.int;have hrun:(execOp a.eval o).run P w=.ok (.value (.int .i64 (if n<m then n else m))) w:=by
  simp[execOp,hop,resolve,invoke,builtin,e1,e2,Builtin.min_,Builtin.min2]
 obtain⟨sl,hK,hr2⟩:=hr.setD (.p (.int .i64 (if n<m then n else m))) h;exact XS hrun ⟨σ,β,_,hK,hr2,Later.refl _ _ _ _⟩
theorem MJ(l:List Int)(hl:0<l.length):SpecP prog 266 [QO l] (fun r=>r=.int .i64 (Bv l)):=by
 refine sB FM func266 rfl call266 ?_;conv=>whnf
 have hlm:(l.map (AV.int .i64)).length=l.length:=x2m _;repeat' (first|(refine iM fun _=>?_;conv=>whnf)|(apply bD<;>intro _<;>first|omega|conv=>whnf))
 refine IdxK.at (k:=0) (e:=.int .i64 l[0]) rfl (by simp[hl]) rfl ?_;conv=>whnf
 skip
 refine LoopK.inv QY (fun x:Nat×Int=>⟨[(0,.p (QO l)),(3,.p (.int .i64 x.2)),(4,.p (.int .i64 x.1))],[]⟩) (fun x=>1<=x.1/\x.1<=l.length/\Bv (x.2::l.drop x.1)=Bv l) (fun x=>l.length-x.1) (1,l[0]) (Le.of_eq rfl) ⟨x3g _,hl,by
  cases l with
  |nil=>simp at hl
  |cons a r=>rfl⟩ ?_
 rintro⟨j,m⟩ ⟨h1,h2,h3⟩;simp only at h1 h2 h3⊢;rcases x3v j l.length with hj|hj
 ·rw[QF hj]at h3;conv=>whnf
  repeat' (first|((first|(refine iM fun _=>?_)|(refine iA fun _=>?_)|refine wI ?_|refine OpK.min2 rfl rfl rfl ?_);conv=>whnf)|(apply bD<;>intro _<;>first|omega|conv=>whnf))
  exact⟨(j+1,if l[j]<m then l[j]else m),⟨by simp only;omega,hj,h3⟩,by simp only;omega,Le.of_eq rfl⟩
 ·rw[x3b hj]at h3;conv=>whnf
  repeat' (first|(refine iM fun _=>?_;conv=>whnf)|(apply bD<;>intro _<;>first|omega|conv=>whnf))
  exact RetK.int h3
theorem q1l{α:Type}{f g:α->Nat}:∀{l:List α},(∀x∈l,f x<=g x)->(∃x∈l,f x<g x)->(l.map f).sum<(l.map g).sum
 |[],_,h=>by obtain⟨x,hx,_⟩:=h;cases hx
 | a::r,h1,h2=>by
   have hle:∀{l:List α},(∀x∈l,f x<=g x)->(l.map f).sum<=(l.map g).sum:=fun {l} h=>by
    induction l with
    |nil=>simp
    | cons b r ih=>
      simp only[x3l,x8r];have:=ih fun x hx=>h x (x2c _ hx);have:=h b x2r;omega
   simp only[x3l,x8r];have h3:=h1 a x2r;have h4:=hle fun x hx=>h1 x (x2c _ hx);obtain⟨x,hx,h5⟩:=h2;rcases x2i.1 hx with rfl|hx
   ·omega
   ·have:=q1l (fun y hy=>h1 y (x2c _ hy)) ⟨x,hx,h5⟩;omega
def muE(rows:List (List Int))(at_:List Int)(n:Nat):Nat:=((List.range n).map fun i=>(rows.getD i []).length-(at_.getD i 0).toNat).sum
theorem Ok{n:Nat}{rows:List (List Int)}{at_:List Int}{a:Nat}(ha:a<n)(hl:at_.length=n){k:Nat}(hk:at_.getD a 0=k)(hlt:k<(rows.getD a []).length):muE rows (at_.set a ((k:Int)+1)) n<muE rows at_ n:=by
 unfold muE;refine q1l (fun i _=>?_) ⟨a,x4y.2 ha,?_⟩
 ·rw[ZG (by omega)];split
  ·rename_i h;rw[<-h,hk];omega
  ·exact x3g _
 ·rw[ZG (by omega),if_pos rfl,hk];omega
theorem Dh{n:Nat}{l:List Int}(h:l.Nodup)(hr:∀x∈l,0<=x/\x<n):l.length<=n:=by
 have:=Ym (m:=(List.range n).map fun(k:Nat)=>(k:Int)) h fun x hx=>x3q.2 ⟨x.toNat,x4y.2 (by have:=hr x hx;omega),by have:=hr x hx;omega⟩;simpa using this
theorem q0b{l:List Bool}{i:Nat}(h:i<l.length):(l.map bv)[i]?=some (bv (l.getD i false)):=by
 rw[x2e,x2n h,x2l,x2n h];rfl
theorem Nu{l:List Int}{i:Nat}(h:i<l.length):(l.map (AV.int .i64))[i]?=some (.int .i64 (l.getD i 0)):=by
 rw[x2e,x2n h,x2l,x2n h];rfl
def q5o(n:Nat)(rows:List (List Int))(r:AV):Prop:=∃es,r=QO es/\EndsP n (rowE rows) es
theorem Ws(n:Nat)(hn:n<=5000)(g:List (List Int)×List (List Int))(hg:XU n g.1):SpecP prog 265 [VW g] (fun r=>q5o n g.1 r):=by
 refine sB MO func265 rfl call265 ?_;conv=>whnf
 have hl:((avI g.1).map AV.sl).length=n:=by simp[avI,hg.1]
 repeat' ((first|(refine iM fun _=>?_)|refine aR ?_|refine x8v n (by rw[hl]) (by show 1*n<=140737488355328;omega) (by unfold maxLen;omega) ?_|refine x8v n (by rw[hl]) (by show 8*n<=140737488355328;omega) (by unfold maxLen;omega) ?_);conv=>whnf)
 refine LoopK.inv QY (fun x:Nat×List Int×List Bool×List Int=>⟨[(0,.p (VW g)),(3,.hd 2 0 x.2.1.length),(4,.hd 3 0 0),(5,.hd 0 0 n),(6,.hd 1 0 n),(26,.p (.int .i64 n)),(27,.p (.int .i64 x.1))],[(0,.own 4 1 (x.2.2.1.map bv)),(1,.own 3 1 (x.2.2.2.map (.int .i64))),(2,.own 3 1 (x.2.1.map (.int .i64))),(3,.own 3 1 [])]⟩)
  (fun x=>x.1<=n/\EndI n g.1 x.2.1 [] x.2.2.1 x.2.2.2/\∀y:Int,0<=y/\y<x.1->y∈x.2.1) (fun x=>n-x.1) (0,[],List.replicate n false,List.replicate n 0)
  (Le.mk [(2,.own 3 1 []),(3,.own 3 1 [])] (by simp[Chunk.new0];exact⟨rfl,rfl⟩) (by simp) (by simp) (.r (.cons (.nil x2r) (.cons (.nil (x2c _ x2r)) (.r (.r (.cons (.of_eq (by rw[hl];rfl)) (.r .nil)))))))
    (.cons rfl (.of_eq (by rw[x6x];rfl)) (.cons rfl (.of_eq (by rw[x6x];rfl)) (.new x2r (.new (x2c _ x2r) .nil)))))
  ⟨x3z _,EndI.start n g.1,fun y hy=>by omega⟩ ?_
 rintro⟨r,out,seen,at_⟩ ⟨h1,h2,h3⟩;simp only at h1 h2 h3⊢;have hsl:=h2.sl;have hal:=h2.al;rcases x3v r n with hr|hr;rotate_left 1
 ·conv=>whnf
  repeat' (apply bD<;>intro _<;>first|omega|conv=>whnf)
  have hall:∀x:Int,0<=x/\x<n->x∈out:=fun x hx=>h3 x (by omega);exact⟨_,.hd rfl (by simp),out,rfl,h2.dfs.fin (fun x y hxy=>DA hg hxy.2) hall⟩
 have e1:=q0b (l:=seen) (i:=r) (by omega);have hstart:∃st s2,EndI n g.1 out st s2 at_/\(r:Int)∈out++st/\((seen.getD r false=true/\st=[]/\s2=seen)\/(seen.getD r false=false/\st=[(r:Int)]/\s2=seen.set r true)):=by
  cases hq:seen.getD r false with
  |true=>exact⟨[],seen,h2,(h2.seen r (by omega)).1 (by simpa using hq),.inl ⟨rfl,rfl,rfl⟩⟩
  |false=>exact⟨[(r:Int)],seen.set r true,h2.push (stack:=[]) (b:=r) (by omega) (by simpa using hq) trivial,by simp,.inr ⟨rfl,rfl,rfl⟩⟩
 obtain⟨st0,seen0,h4,h5,h6⟩:=hstart;rcases h6 with⟨hq,hst,hs0⟩|⟨hq,hst,hs0⟩;all_goals
  rw[hq]at e1;conv=>whnf
  repeat' (first|((first|refine x2t rfl ?_|refine aD ?_|refine bP ?_|refine x4j r rfl (by omega) ?_|refine x5z r 0 .tt (by omega) e1 ?_|refine x5z r 0 .ff (by omega) e1 ?_|refine x5i r 0 .ff .tt (by omega) e1 (x3g 1) rfl ?_|refine XH rfl (by simp) ?_);conv=>whnf)|(apply bD<;>intro _<;>first|omega|conv=>whnf))
  refine LoopK.inv QY (fun x:List Int×List Int×List Bool×List Int=>⟨[(0,.p (VW g)),(3,.hd 2 0 x.1.length),(4,.hd 3 0 x.2.1.length),(5,.hd 0 0 n),(6,.hd 1 0 n),(26,.p (.int .i64 n)),(27,.p (.int .i64 r))],[(0,.own 4 1 (x.2.2.1.map bv)),(1,.own 3 1 (x.2.2.2.map (.int .i64))),(2,.own 3 1 (x.1.map (.int .i64))),(3,.own 3 1 (x.2.1.map (.int .i64)))]⟩)
   (fun x=>EndI n g.1 x.1 x.2.1 x.2.2.1 x.2.2.2/\(r:Int)∈x.1++x.2.1/\∀y:Int,0<=y/\y<r->y∈x.1) (fun x=>muE g.1 x.2.2.2 n+(n-x.1.length)) (out,st0,seen0,at_)
   (Le.mk [] (by simp) (by simp) (by simp) (.r (.r (.cons (.of_eq (by first|(rw[hst];done)|(rw[hst];rfl))) (.r (.r (.r (.r .nil)))))))
     (.cons rfl (.of_eq (by rw[hs0];first|done|rfl|(rw[x4m];rfl))) (.cons rfl (.refl _) (.cons rfl (.refl _) (.cons rfl (.of_eq (by rw[hst];rfl)) .nil)))))
   ⟨h4,h5,h3⟩ ?_
  clear h4 h5 hst hs0 e1 hq hsl hal h2 h3;rintro⟨o,stk,s,t⟩ ⟨h2,h3,h4⟩;simp only at h2 h3 h4⊢;have hsl:=h2.sl;have hal:=h2.al;have hol:o.length<=n:=Dh (by have:=h2.dfs.nd;rw[x4l]at this;exact this.1) fun x hx=>h2.dfs.rng x (x3x.2 (.inl hx));rcases List.eq_nil_or_concat stk with rfl|⟨st,a,rfl⟩
  ·have hz:(([]:List Int).length)=0:=rfl;conv=>whnf
   repeat' (first|((first|(refine iM fun _=>?_)|refine wI ?_);conv=>whnf)|(apply bD<;>intro _<;>first|omega|conv=>whnf))
   exact⟨(r+1,o,s,t),⟨hr,h2,fun y hy=>by
    rcases Int.lt_or_le y r with hyr|hyr
    ·exact h4 y ⟨hy.1,hyr⟩
    ·have:y=r:=by simp only at hy;omega
     rw[this];simpa using h3⟩,by simp only;omega,Le.of_eq rfl⟩
  ·rw [List.concat_eq_append]at h2 h3⊢;have ha:=h2.dfs.rng a (by simp);have hstl:(st++[a]).length=st.length+1:=by simp
   obtain⟨hk0,hk1⟩:=h2.arng a ha;have e2:=Nu (l:=t) (i:=a.toNat) (by omega);have e3:((st++[a]).map (AV.int .i64))[st.length]?=some (.int .i64 a):=by simp
   have hrow:((avI g.1).map AV.sl)[a.toNat]?=some (.sl ((g.1.getD a.toNat []).map (.int .i64))):=by
    have:a.toNat<g.1.length:=by rw[hg.1];omega
    rw[x2l,x2n this];simp[avI,this]
   obtain⟨k,hk⟩ : ∃k:Nat,t.getD a.toNat 0=k:=⟨(t.getD a.toNat 0).toNat,by omega⟩;rw[hk]at e2 hk1;have hrl:((g.1.getD a.toNat []).map (AV.int .i64)).length=(g.1.getD a.toNat []).length:=x2m _;have hnd:=h2.dfs.nd;rcases x3v k (g.1.getD a.toNat []).length with hkl|hkl
   ·obtain⟨b,hb⟩ : ∃b,(g.1.getD a.toNat [])[k]?=some b:=⟨_,x2n hkl⟩;have hbe:(g.1.getD a.toNat [])[k]=b:=by rw[x2n hkl]at hb;exact x5j hb
    have hE:rowE g.1 a b:=⟨ha.1,x5s.2 ⟨k,hb⟩⟩;have hbr:=DA hg hE.2;have hmu:=Ok (by omega) hal hk hkl;have e4:=q0b (l:=s) (i:=b.toNat) (by omega);have hstk:(st++[a]).length<=n:=Dh (x4l.1 hnd).2.1 fun x hx=>h2.dfs.rng x (x3x.2 (.inr hx));have hms:(t.set a.toNat ((k:Int)+1)).map (AV.int .i64)=(t.map (AV.int .i64)).set a.toNat (.int .i64 ((k:Int)+1)):=x4m;have hkm:=h2.arng a ha;cases hq:s.getD b.toNat false with
    | true=>
      rw[hq]at e4;conv=>whnf
      repeat' (first|((first|(refine iM fun _=>?_)|refine dA ?_|refine x2t rfl ?_|(refine iA fun _=>?_)|refine wI ?_|refine x4j st.length (by omega) (by omega) ?_|refine x5z st.length 0 (.int .i64 a) (by omega) e3 ?_|refine x4j a.toNat (by omega) (by omega) ?_|refine x5z a.toNat 0 (.int .i64 k) (by omega) e2 ?_|(refine IdxK.at (k:=a.toNat) (by omega) hrow rfl ?_)|refine x4j b.toNat (by omega) (by omega) ?_|refine x5z b.toNat 0 .tt (by omega) e4 ?_|refine x5i a.toNat 0 (.int .i64 k) (.int .i64 (k+1)) (by omega) e2 (x3g 1) rfl ?_);conv=>whnf)|(apply bD<;>intro _<;>first|omega|conv=>whnf))
      exact⟨(o,st++[a],s,t.set a.toNat ((k:Int)+1)),⟨h2.step ha hk hb ((h2.seen b hbr).1 hq),h3,h4⟩,by simp only;omega,Le.mk [] (by simp) (by simp) (by simp) (.r (.r (.r (.r (.r (.r (.r .nil))))))) (.cons rfl (.refl _) (.cons rfl (.of_eq (by rw[hms])) (.cons rfl (.refl _) (.cons rfl (.refl _) .nil))))⟩
    | false=>
      rw[hq]at e4;conv=>whnf
      repeat' (first|((first|(refine iM fun _=>?_)|refine dA ?_|refine x2t rfl ?_|refine aD ?_|refine bP ?_|(refine iA fun _=>?_)|refine wI ?_|refine x4j st.length (by omega) (by omega) ?_|refine x5z st.length 0 (.int .i64 a) (by omega) e3 ?_|refine x4j a.toNat (by omega) (by omega) ?_|refine x5z a.toNat 0 (.int .i64 k) (by omega) e2 ?_|(refine IdxK.at (k:=a.toNat) (by omega) hrow rfl ?_)|refine x4j b.toNat (by omega) (by omega) ?_|refine x5z b.toNat 0 .ff (by omega) e4 ?_|refine x5i a.toNat 0 (.int .i64 k) (.int .i64 (k+1)) (by omega) e2 (x3g 1) rfl ?_|refine x5i b.toNat 0 .ff .tt (by omega) e4 (x3g 1) rfl ?_|refine XH (by simp) (by simp;omega) ?_);conv=>whnf)|(apply bD<;>intro _<;>first|omega|conv=>whnf))
      have h8:=h2.push hbr hq (Uq st h2.dfs.path hE);exact⟨(o,st++[a]++[b],s.set b.toNat true,t.set a.toNat ((k:Int)+1)),⟨h8.step ha hk hb (by simp),by rw[<-x3s];exact x3x.2 (.inl h3),h4⟩,by simp only;omega,Le.mk [] (by simp) (by simp) (by simp) (.r (.r (.cons (.of_eq (by simp;rfl)) (.r (.r (.r (.r .nil))))))) (.cons rfl (.of_eq (by rw[x4m];rfl)) (.cons rfl (.of_eq (by rw[hms])) (.cons rfl (.refl _) (.cons rfl (.of_eq (by rw[hbe];simp;rfl)) .nil))))⟩
   ·have hkl2:k=(g.1.getD a.toNat []).length:=by omega
    have hp:=h2.pop (by rw[hk,hkl2]);have hol2:o.length+1<=n:=by
     have h7:=hp.dfs;have:=Dh (x4l.1 h7.nd).1 fun x hx=>h7.rng x (x3x.2 (.inl hx));simpa using this
    conv=>whnf
    repeat' (first|((first|(refine iM fun _=>?_)|refine dA ?_|refine x2t rfl ?_|refine aD ?_|refine bP ?_|refine wI ?_|refine x4j st.length (by omega) (by omega) ?_|refine x5z st.length 0 (.int .i64 a) (by omega) e3 ?_|refine x4j a.toNat (by omega) (by omega) ?_|refine x5z a.toNat 0 (.int .i64 k) (by omega) e2 ?_|(refine IdxK.at (k:=a.toNat) (by omega) hrow rfl ?_)|refine XH (by simp) (by simp;omega) ?_|refine SlK.mk 0 st.length rfl (by show((st++[a]).length:Int)-1=_;omega) (by omega) (by omega) ?_);conv=>whnf)|(apply bD<;>intro _<;>first|omega|conv=>whnf))
    have h9:muE g.1 t n+(n-(o++[a]).length)<muE g.1 t n+(n-o.length):=by simp;omega
    exact⟨(o++[a],st,s,t),⟨hp,by simpa[or_assoc,or_comm,or_left_comm]using h3,fun y hy=>x3x.2 (.inl (h4 y hy))⟩,h9,(Le.cut (.same (.same (.same (.cut (es':=st.map (.int .i64)) ⟨[.int .i64 a],by simp⟩ .nil))))).trans (Le.mk [] (by simp) (by simp) (by simp) (.r (.cons (.of_eq (by simp;rfl)) (.cons (.of_eq (by simp;rfl)) (.r (.r (.r (.r .nil))))))) (.cons rfl (.refl _) (.cons rfl (.refl _) (.cons rfl (.of_eq (by simp;rfl)) (.cons rfl (.refl _) .nil)))))⟩
def q1h(pre:List Bool)(rows:List (List Int)):List (List Int):=rows.map fun r=>r.filter fun b=> !pre.getD b.toNat false
theorem Nc{pre:List Bool}{rows:List (List Int)}{x y:Int}:Db (q1h pre rows) x y↔Db rows x y/\pre.getD y.toNat false=false:=by
 unfold Db q1h;simp only[x2l,x2e];cases rows[x.toNat]?with
 |none=>simp
 |some r=>simp
theorem q3r{n:Nat}{pre:List Bool}{rows:List (List Int)}(h:XU n rows):XU n (q1h pre rows):=by
 refine⟨by simp[q1h,h.1],fun r hr b hb=>?_⟩;obtain⟨r',hr',rfl⟩:=x3q.1 hr;exact h.2 r' hr' b (x4w.1 hb).1
structure SimW(pre:List Bool)(st st':List Bool×List Int):Prop where
 todo:st.2=st'.2
 len:st.1.length=st'.1.length
 mrk:∀k,st.1.getD k false=(pre.getD k false||st'.1.getD k false)
theorem SimW.see{pre:List Bool}{st st':List Bool×List Int}(h:SimW pre st st')(hb:b.toNat<st.1.length)(hp:pre.getD b.toNat false=false):SimW pre (KB st b) (KB st' b):=by
 have hm:=h.mrk b.toNat;rw[hp,Bool.false_or]at hm;unfold KB;rw[hm];cases st'.1.getD b.toNat false with
 |true=>exact h
 | false=>
   refine⟨by simp only[x3t];rw[h.todo],by simpa using h.len,fun k=>?_⟩;simp only[x3t];rw[ZG hb,ZG (by rw[<-h.len];exact hb)];split
   ·simp
   ·exact h.mrk k
theorem SimW.skip{pre:List Bool}{st st':List Bool×List Int}(h:SimW pre st st')(hp:pre.getD b.toNat false=true):KB st b=st:=by
 unfold KB;rw[h.mrk,hp];rfl
theorem OP(st:List Bool×List Int)(b:Int):(KB st b).1.length=st.1.length:=by
 unfold KB;cases st.1.getD b.toNat false<;>simp
theorem SimW.fold{n:Nat}{pre:List Bool}:∀(l:List Int){st st':List Bool×List Int},SimW pre st st'->st.1.length=n->(∀b∈l,0<=b/\b<n)->SimW pre (l.foldl KB st) ((l.filter fun b=> !pre.getD b.toNat false).foldl KB st')/\(l.foldl KB st).1.length=n
 |[],_,_,h,hn,_=>⟨h,hn⟩
 | b::r,st,st',h,hn,hl=>by
   have hb:=hl b x2r;have hr:∀c∈r,0<=c/\c<n:=fun c hc=>hl c (x2c _ hc);rw[x6v];cases hp:pre.getD b.toNat false with
   | true=>
     rw[h.skip hp,x6w (by rw[hp];simp)];exact SimW.fold r h hn hr
   | false=>
     rw[x5o (by rw[hp];simp),x6v];exact SimW.fold r (h.see (by omega) hp) (by rw[OP];exact hn) hr
theorem P2{n:Nat}{pre:List Bool}{rows:List (List Int)}(hr:XU n rows):∀(k i:Nat){st st':List Bool×List Int},SimW pre st st'->st.1.length=n->SimW pre (ZZ rows k i st) (ZZ (q1h pre rows) k i st')
 |0,_,_,_,h,_=>h
 | k+1,i,st,st',h,hn=>by
   rw[ZZ,ZZ,<-h.todo];cases ha:st.2[i]?with
   |none=>exact h
   | some a=>
     simp only;have hrow:∀b∈rows.getD a.toNat [],0<=b/\b<n:=fun b hb=>DA hr hb;have he:(q1h pre rows).getD a.toNat []=(rows.getD a.toNat []).filter fun b=> !pre.getD b.toNat false:=by
      unfold q1h;simp only[x2l,x2e];cases rows[a.toNat]?with
      |none=>simp
      |some r=>simp
     rw[he];obtain⟨h1,h2⟩:=SimW.fold (n:=n) _ h hn hrow;exact P2 hr k (i+1) h1 h2
theorem EC{n:Nat}{pre:List Bool}{rows:List (List Int)}(hr:XU n rows)(hp:pre.length=n){r:Int}(hrr:0<=r/\r<n)(hu:pre.getD r.toNat false=false):
  (∀x,x∈(ZZ rows (n+1) 0 (pre.set r.toNat true,[r])).2↔Rch (fun a b=>Db rows a b/\pre.getD b.toNat false=false) r x)/\
  (∀x:Int,0<=x/\x<n->((ZZ rows (n+1) 0 (pre.set r.toNat true,[r])).1.getD x.toNat false=true↔pre.getD x.toNat false=true\/x∈(ZZ rows (n+1) 0 (pre.set r.toNat true,[r])).2)):=by
 have e0:KB (List.replicate n false,[]) r=((List.replicate n false).set r.toNat true,[r]):=by
  unfold KB;have:(List.replicate n false).getD r.toNat false=false:=by
   rw[x2l,x3o];split<;>rfl
  simp only[this,x3t,x7h]
 obtain⟨h1,h2,_⟩:=(WkM.start n).see hrr;rw[e0]at h1 h2;have hsim:SimW pre (pre.set r.toNat true,[r]) ((List.replicate n false).set r.toNat true,[r]):=⟨rfl,by simp[hp],fun k=>by
  rw[ZG (by omega),ZG (by simp;omega)];split
  ·simp
  ·have:(List.replicate n false).getD k false=false:=by
    rw[x2l,x3o];split<;>rfl
   rw[this,Bool.or_false]⟩
 have hw:=P2 hr (n+1) 0 hsim (by simpa using hp);obtain⟨h3,h4,h5,h6⟩:=Jy (q3r (pre:=pre) hr) (n+1) 0 h1 (x3z _) (by omega) (fun m a hm=>by omega);refine⟨fun x=>?_,fun x hx=>?_⟩
 ·rw[hw.todo];constructor
  ·intro hx;exact h6 (fun x=>Rch (fun a b=>Db rows a b/\pre.getD b.toNat false=false) r x) (fun x hx=>by rw[x2a.1 hx];exact .refl) (fun x b h7 h8=>.tail h7 (Nc.1 h8)) x hx
  ·intro hx;exact hx.closed (S:=fun x=>x∈(ZZ (q1h pre rows) (n+1) 0 ((List.replicate n false).set r.toNat true,[r])).2) (fun x y h7 h8=>h5 x h7 y (Nc.2 h8)) (h4 r (by simp))
 ·rw[hw.mrk,hw.todo,h3.mem,x6p];exact⟨fun h=>h.imp id fun h=>⟨hx,h⟩,fun h=>h.imp id fun h=>h.2⟩
theorem DF{n:Nat}{a:Int}(h:0<=a/\a<n):ZF n a=true:=by
 unfold ZF;simpa using h
structure MinP(E:Int->Int->Prop)(x v:Int):Prop where
 scc:sccP E x v
 le:∀y,sccP E x y->v<=y
theorem MinP.uniq{E:Int->Int->Prop}{x v w:Int}(h:MinP E x v)(h':MinP E x w):v=w:=Int.le_antisymm (h.le w h'.scc) (h'.le v h.scc)
def Z2(n:Nat)(rows:List (List Int)):List Int:=(List.range n).map fun(a:Nat)=>Bv ((FZ 0 (ZP rows [(a:Int)])).filter fun b=>(FZ 0 (ZP rows [b])).contains (a:Int))
theorem OG{n:Nat}{rows:List (List Int)}(hr:XU n rows){x y:Int}(hx:0<=x):Rch (rowE rows) x y↔Rch (Db rows) x y:=by
 refine⟨fun h=>h.mono fun _ _ h=>h.2,fun h=>?_⟩;exact(h.closed (S:=fun y:Int=>0<=y/\Rch (rowE rows) x y) (fun a b ⟨h1,h2⟩ h3=>⟨(DA hr h3).1,.tail h2 ⟨h1,h3⟩⟩) ⟨hx,.refl⟩).2
theorem Tf{n:Nat}{rows:List (List Int)}(hr:XU n rows){x y:Int}(hx:0<=x/\x<n)(h:Rch (rowE rows) x y):0<=y/\y<n:=
 h.closed (S:=fun y:Int=>0<=y/\y<n) (fun _ _ _ h=>DA hr h.2) hx
theorem La{n:Nat}{rows:List (List Int)}(hr:XU n rows){x:Int}(hx:0<=x/\x<n)(y:Int):y∈FZ 0 (ZP rows [x])↔Rch (rowE rows) x y:=by
 rw[M4 hr,OG hr hx.1];constructor
 ·rintro⟨a,ha,_,h⟩;rw[x2a.1 ha]at h;exact h
 ·intro h;exact⟨x,by simp,DF hx,h⟩
theorem DT(n:Nat)(rows:List (List Int)):(Z2 n rows).length=n:=by simp[Z2]
theorem Z3{n:Nat}{rows:List (List Int)}(hr:XU n rows){x:Int}(hx:0<=x/\x<n):MinP (rowE rows) x ((Z2 n rows).getD x.toNat 0):=by
 have e:(Z2 n rows).getD x.toNat 0=Bv ((FZ 0 (ZP rows [x])).filter fun b=>(FZ 0 (ZP rows [b])).contains x):=by
  unfold Z2;rw[x2l,x2e,x7u (by omega)];have:((x.toNat:Nat):Int)=x:=by omega
  simp[this]
 have hm:∀y,y∈(FZ 0 (ZP rows [x])).filter (fun b=>(FZ 0 (ZP rows [b])).contains x)↔sccP (rowE rows) x y:=fun y=>by
  rw[x4w,La hr hx,List.contains_iff_mem];constructor
  ·rintro⟨h1,h2⟩;exact⟨h1,(La hr (Tf hr hx h1) x).1 h2⟩
  ·rintro⟨h1,h2⟩;exact⟨h1,(La hr (Tf hr hx h1) x).2 h2⟩
 rw[e];obtain⟨h1,h2⟩:=Nb (l:=(FZ 0 (ZP rows [x])).filter fun b=>(FZ 0 (ZP rows [b])).contains x) (x8e ((hm x).2 (sccP.refl x)));exact⟨(hm _).1 h1,fun y hy=>h2 y ((hm y).2 hy)⟩
structure PartI(n:Nat)(E:Int->Int->Prop)(es:List Int)(m:Nat)(part:List Int)(seen:List Bool):Prop where
 sl:seen.length=n
 pl:part.length=n
 seen:∀x:Int,0<=x/\x<n->(seen.getD x.toNat false=true↔SeenP E es m x)
 min:∀x:Int,0<=x/\x<n->SeenP E es m x->MinP E x (part.getD x.toNat 0)
theorem PartI.start{n:Nat}{E:Int->Int->Prop}{es:List Int}:PartI n E es es.length (List.replicate n 0) (List.replicate n false):=by
 have hno:∀x,¬SeenP E es es.length x:=fun x ⟨j,y,h1,h2,_⟩=>by
  have:=(x2o.1 h2).1;omega
 refine⟨by simp,by simp,fun x _=>?_,fun x _ hx=>absurd hx (hno x)⟩;rw[x2l,x3o];have:=hno x;split<;>simp[this]
def UQ(l:List Int)(v:Int)(part:List Int):List Int:=l.foldl (fun p a=>p.set a.toNat v) part
theorem MY(v:Int):∀(l part:List Int),(UQ l v part).length=part.length
 |[],_=>rfl
 | a::r,part=>by
   show(UQ r v (part.set a.toNat v)).length=_;rw[MY v r];simp
theorem J3{n:Nat}(v:Int){x:Int}(hx:0<=x/\x<n):∀(l:List Int){part:List Int},part.length=n->(∀a∈l,0<=a/\a<n)->(x∈l->(UQ l v part).getD x.toNat 0=v)/\(x∉l->(UQ l v part).getD x.toNat 0=part.getD x.toNat 0)
 |[],_,_,_=>⟨by simp,fun _=>rfl⟩
 | a::r,part,hl,ha=>by
   have ha0:=ha a x2r;have e:UQ (a::r) v part=UQ r v (part.set a.toNat v):=rfl;obtain⟨h1,h2⟩:=J3 v hx r (part:=part.set a.toNat v) (by simpa using hl) fun b hb=>ha b (x2c _ hb);have hg:(part.set a.toNat v).getD x.toNat 0=if a.toNat=x.toNat then v else part.getD x.toNat 0:=ZG (by omega);rw[e];by_cases hxr:x∈r
   ·exact⟨fun _=>h1 hxr,fun h=>absurd (x2c _ hxr) h⟩
   ·rw[h2 hxr,hg];constructor
    ·intro h;rcases x2i.1 h with rfl|h
     ·rw[if_pos rfl]
     ·exact absurd h hxr
    ·intro h;have:x≠a:=fun h'=>h (by rw[h'];exact x2r);rw[if_neg (by omega)]
theorem PartI.part{n:Nat}{g:List (List Int)×List (List Int)}(hg:XU n g.1)(hg2:XU n g.2)(hm:∀x y,rowE g.2 x y↔rowE g.1 y x){es:List Int}(he:EndsP n (rowE g.1) es){m:Nat}{part:List Int}{seen:List Bool}(h:PartI n (rowE g.1) es (m+1) part seen){r:Int}(hr:es[m]?=some r)(hu:seen.getD r.toNat false=false):
  (∀x∈(ZZ g.2 (n+1) 0 (seen.set r.toNat true,[r])).2,0<=x/\x<n)/\0<(ZZ g.2 (n+1) 0 (seen.set r.toNat true,[r])).2.length/\wkInv n (seen.set r.toNat true,[r])/\
  PartI n (rowE g.1) es m (UQ (ZZ g.2 (n+1) 0 (seen.set r.toNat true,[r])).2 (Bv (ZZ g.2 (n+1) 0 (seen.set r.toNat true,[r])).2) part) (ZZ g.2 (n+1) 0 (seen.set r.toNat true,[r])).1:=by
 have hrr:=(he.mem r).1 (x3k hr);have hsl:=h.sl;have hns:¬SeenP (rowE g.1) es (m+1) r:=fun hs=>by rw[(h.seen r hrr).2 hs]at hu;cases hu
 obtain⟨h1,h2⟩:=EC hg2 h.sl hrr hu;have hin:∀x y,rowE g.1 x y->(0<=x/\x<n)/\0<=y/\y<n:=fun x y hxy=>⟨DA hg2 ((hm y x).2 hxy).2,DA hg hxy.2⟩;have hback:=Cp hin he hr hns;have hrel:∀x,Rch (fun a b=>Db g.2 a b/\seen.getD b.toNat false=false) r x↔Rch (fun a b=>rowE g.1 b a/\¬SeenP (rowE g.1) es (m+1) b) r x:=fun x=>by
  constructor
  ·intro hx;exact(hx.closed (S:=fun x:Int=>(0<=x/\x<n)/\Rch (fun a b=>rowE g.1 b a/\¬SeenP (rowE g.1) es (m+1) b) r x) (fun a b ⟨h3,h4⟩ ⟨h5,h6⟩=>by
    have hb:=DA hg2 h5;refine⟨hb,.tail h4 ⟨(hm a b).1 ⟨h3.1,h5⟩,fun hs=>?_⟩⟩;rw[(h.seen b hb).2 hs]at h6;cases h6) ⟨hrr,.refl⟩).2
  ·intro hx;refine hx.mono fun a b ⟨h3,h4⟩=>⟨((hm a b).2 h3).2,?_⟩;have hb:=(hin b a h3).1;cases hq:seen.getD b.toNat false with
   |true=>exact absurd ((h.seen b hb).1 hq) h4
   |false=>rfl
 have hmem:∀x,x∈(ZZ g.2 (n+1) 0 (seen.set r.toNat true,[r])).2↔sccP (rowE g.1) r x:=fun x=>by rw[h1,hrel,hback]
 have hrng:∀x∈(ZZ g.2 (n+1) 0 (seen.set r.toNat true,[r])).2,0<=x/\x<n:=fun x hx=>Tf hg hrr ((hmem x).1 hx).1;have hpos:0<(ZZ g.2 (n+1) 0 (seen.set r.toNat true,[r])).2.length:=x8e ((hmem r).2 (sccP.refl r));have hwk:wkInv n (seen.set r.toNat true,[r]):=by
  refine⟨by simpa using h.sl,?_,fun x hx=>by rw[x2a.1 hx];exact hrr⟩;have hlt:r.toNat<(seen.set r.toNat true).length:=by simp;omega
  show 1<=_;exact List.count_pos_iff.2 (x4t.2 ⟨r.toNat,hlt,by simp⟩)
 have hwl:(ZZ g.2 (n+1) 0 (seen.set r.toNat true,[r])).1.length=n:=(BU hg2 _ _ hwk).1;generalize ZZ g.2 (n+1) 0 (seen.set r.toNat true,[r])=w at hmem hrng hpos hwl h2⊢;obtain⟨h7,h8⟩:=Nb hpos;refine⟨hrng,hpos,hwk,hwl,by rw[MY];exact h.pl,fun x hx=>?_,fun x hx hs=>?_⟩
 ·rw[h2 x hx,hmem,h.seen x hx,M9 hr]
 ·obtain⟨h3,h4⟩:=J3 (Bv w.2) hx w.2 h.pl hrng;by_cases hxw:x∈w.2
  ·rw[h3 hxw];have hsx:=(hmem x).1 hxw;exact⟨hsx.symm.trans ((hmem _).1 h7),fun y hy=>h8 y ((hmem y).2 (hsx.trans hy))⟩
  ·rw[h4 hxw];refine h.min x hx ?_;rcases(M9 hr x).1 hs with h5|h5
   ·exact h5
   ·exact absurd ((hmem x).2 h5) hxw
theorem PartI.fin{n:Nat}{rows:List (List Int)}(hr:XU n rows){es:List Int}(he:EndsP n (rowE rows) es){part:List Int}{seen:List Bool}(h:PartI n (rowE rows) es 0 part seen):part=Z2 n rows:=by
 refine x8k fun i=>?_;rcases x3v i n with hi|hi
 ·have hx:0<=(i:Int)/\(i:Int)<n:=by omega
  have h1:=h.min i hx (ON he hx);have h2:=Z3 hr hx;have h3:=h1.uniq h2;have hp1:i<part.length:=by rw[h.pl];exact hi
  have hp2:i<(Z2 n rows).length:=by rw[DT];exact hi
  simpa[x2l,hp1,hp2]using h3
 ·rw[x4a (by rw[h.pl];exact hi),x4a (by rw[DT];exact hi)]
theorem Xt(n:Nat)(hn:n<=5000)(g:List (List Int)×List (List Int))(hg:XU n g.1)(hg2:XU n g.2)(hgm:∀x y,rowE g.2 x y↔rowE g.1 y x):SpecP prog 235 [VW g] (fun r=>r=QO (Z2 n g.1)):=by
 refine sB PE func235 rfl call235 ?_;conv=>whnf
 have hl:((avI g.1).map AV.sl).length=n:=by simp[avI,hg.1]
 repeat' ((first|(refine iM fun _=>?_)|refine aR ?_|refine wI ?_|refine x8v n (by rw[hl]) (by show 1*n<=140737488355328;omega) (by unfold maxLen;omega) ?_|refine x8v n (by rw[hl]) (by show 8*n<=140737488355328;omega) (by unfold maxLen;omega) ?_|(refine CallK.pure (Ws n hn g hg) (.cons (Sub.refl _) .nil) ?_;rintro _ ⟨es,rfl,he⟩));conv=>whnf)
 have hesl:es.length<=n:=by
  have h1:=he.nd;exact Dh h1 fun x hx=>(he.mem x).1 hx
 have hml:(es.map (AV.int .i64)).length=es.length:=x2m _;refine LoopK.inv QY (fun x:Nat×List Int×List Bool=>⟨[(0,.p (VW g)),(3,.hd 0 0 n),(4,.hd 1 0 n),(5,.p (QO es)),(6,.p (.int .i64 ((x.1:Int)-1)))],[(0,.own 3 1 (x.2.1.map (.int .i64))),(1,.own 4 1 (x.2.2.map bv))]⟩)
  (fun x=>x.1<=es.length/\PartI n (rowE g.1) es x.1 x.2.1 x.2.2) (fun x=>x.1) (es.length,List.replicate n 0,List.replicate n false)
  (Le.mk [] (by simp) (by simp) (by simp) (.r (.cons (.of_eq rfl) (.cons (.of_eq rfl) (.r (.cons (.of_eq (by rw[hml];rfl)) .nil)))))
    (.cons rfl (.of_eq (by rw[x6x];rfl)) (.cons rfl (.of_eq (by rw[x6x];rfl)) .nil)))
  ⟨x3g _,PartI.start⟩ ?_
 rintro⟨m,part,seen⟩ ⟨h1,h2⟩;simp only at h1 h2⊢;have hsl:=h2.sl;have hpl:=h2.pl;cases m with
 | zero=>
   conv=>whnf
   repeat' (apply bD<;>intro _<;>first|omega|conv=>whnf)
   exact⟨_,.hd rfl (by simp[hpl]),by rw[h2.fin hg he];rfl⟩
 | succ m=>
   obtain⟨r,hr⟩ : ∃r,es[m]?=some r:=⟨_,x2n (by omega)⟩;have hrr:=(he.mem r).1 (x3k hr);have hre:es[m]=r:=by rw[x2n (by omega)]at hr;exact x5j hr
   have hra:(es.map (AV.int .i64))[m]?=some (.int .i64 r):=by rw[x2e,hr];rfl
   have e1:=q0b (l:=seen) (i:=r.toNat) (by omega);cases hq:seen.getD r.toNat false with
   | true=>
     rw[hq]at e1;have hsk:=E9 hr ((h2.seen r hrr).1 hq);conv=>whnf
     repeat' (first|((first|refine x2t rfl ?_|refine wI ?_|(refine IdxK.at (k:=m) (by omega) hra rfl ?_)|refine x4j r.toNat (by omega) (by omega) ?_|refine x5z r.toNat 0 .tt (by omega) e1 ?_);conv=>whnf)|(apply bD<;>intro _<;>first|omega|conv=>whnf))
     exact⟨(m,part,seen),⟨by simp only;omega,h2.sl,h2.pl,fun x hx=>by rw[h2.seen x hx,hsk],fun x hx hs=>h2.min x hx ((hsk x).1 hs)⟩,x9d m,Le.of_eq (by rw[show((m+1:Nat):Int)-1-1=(m:Int)-1 by omega])⟩
   | false=>
     rw[hq]at e1;obtain⟨h3,h4,h5,h6⟩:=h2.part hg hg2 hgm he hr hq;conv=>whnf
     repeat' (first|((first|refine dA ?_|refine x2t rfl ?_|refine aD ?_|(refine IdxK.at (k:=m) (by omega) hra rfl ?_)|refine x4j r.toNat (by omega) (by omega) ?_|refine x5z r.toNat 0 .ff (by omega) e1 ?_|refine x5i r.toNat 0 .ff .tt (by omega) e1 (x3g 1) rfl ?_|refine x9b (fun x hx=>by rcases x2a.1 hx with rfl;rfl) rfl ?_);conv=>whnf)|(apply bD<;>intro _<;>first|omega|conv=>whnf))
     have hwl:(ZZ g.2 (n+1) 0 (seen.set r.toNat true,[r])).1.length=n:=h6.sl;rw[show(seen.map bv).set r.toNat AV.tt=(seen.set r.toNat true).map bv by rw[x4m];rfl];refine CallK.heap [(1000,1),(2000,2)] 0 (x3d (x3n _) (x3d (x3n _) (x3d (x3n _) x4x))) (by refine x3j (j:=1) rfl rfl ?_ ?_;exact CSub.refl _;refine x3j (j:=2) rfl rfl ?_ ?_;exact CSub.refl _;exact x4z) (G0 n hn g.2 hg2 (seen.set r.toNat true,[r]) h5) rfl rfl ?_;rintro l' H' ⟨rfl,rfl⟩;conv=>whnf
     have hwn:(ZZ g.2 (n+1) 0 (seen.set r.toNat true,[r])).2.length<=n:=BJ (BU hg2 _ _ h5);generalize ZZ g.2 (n+1) 0 (seen.set r.toNat true,[r])=w at h3 h4 h6 hwl hwn⊢;repeat' ((first|(refine iM fun _=>?_)|(refine XB (MJ w.2 h4) (.cons (.hd rfl (by simp)) .nil) (by rintro _ rfl;rfl) ?_;rintro _ rfl));conv=>whnf)
     refine LoopK.inv QY (fun x:Nat=>⟨[(0,.p (VW g)),(3,.hd 0 0 n),(4,.hd 1 0 n),(5,.p (QO es)),(6,.p (.int .i64 (((m+1:Nat):Int)-1))),(8,.p (.int .i64 (Bv w.2))),(60,.hd 2 0 w.2.length),(61,.p (.int .i64 w.2.length)),(62,.p (.int .i64 x))],[(1,.own 4 1 (w.1.map bv)),(2,.own 3 1 (w.2.map (.int .i64))),(0,.own 3 1 ((UQ (w.2.take x) (Bv w.2) part).map (.int .i64)))]⟩)
      (fun x=>x<=w.2.length) (fun x=>w.2.length-x) 0 (Le.of_eq rfl) (x3z _) ?_
     intro q hqw;rcases x3v q w.2.length with hq2|hq2
     ·have hwr:=h3 _ (x3w hq2);have e4:=Nu (l:=UQ (w.2.take q) (Bv w.2) part) (i:=w.2[q].toNat) (by rw[MY];omega);have e5:UQ (w.2.take (q+1)) (Bv w.2) part=(UQ (w.2.take q) (Bv w.2) part).set w.2[q].toNat (Bv w.2):=by
       unfold UQ;rw[x3u hq2,x7n];rfl
      generalize UQ (w.2.take q) (Bv w.2) part=pt at e4 e5⊢;conv=>whnf
      repeat' (first|((first|refine x2t rfl ?_|refine wI ?_|refine x4j q (by omega) (by omega) ?_|refine x5z q 0 (.int .i64 w.2[q]) (by omega) (by simp[hq2]) ?_|refine x4j w.2[q].toNat (by omega) (by omega) ?_|refine x5i w.2[q].toNat 0 (.int .i64 (pt.getD w.2[q].toNat 0)) (.int .i64 (Bv w.2)) (by omega) e4 (x3g 1) rfl ?_);conv=>whnf)|(apply bD<;>intro _<;>first|omega|conv=>whnf))
      exact⟨q+1,hq2,by omega,Le.of_eq (by rw[e5,x4m];rfl)⟩
     ·rw[x3f hq2];conv=>whnf
      repeat' (first|(refine wI ?_;conv=>whnf)|(apply bD<;>intro _<;>first|omega|conv=>whnf))
      exact⟨(m,UQ w.2 (Bv w.2) part,w.1),⟨by simp only;omega,h6⟩,x9d m,Le.mk [] (by simp) (by simp) (by simp) (.r (.r (.r (.r (.cons (.of_eq (by rw[show(m:Int)=((m+1:Nat):Int)-1 by omega];rfl)) .nil))))) (.cons rfl (.refl _) (.cons rfl (.refl _) .nil))⟩
theorem OpK.frz{P:Program}{T:Tab}{N:Nat}{o:Oper}{K:St->Prop}{s:St}(hT:TabOK P T)(gs:List (List Nat))(h:q7o gs s fun s'=>opW P T N s' o K):OpK P N s o K:=⟨fun σ β a w hr Q=>by
 obtain⟨s1,h1,hle⟩:=Ub (N:=N) h;obtain⟨σ1,β1,hr1,hl1⟩:=hle σ β a w hr;exact Oper.wp_mono (fun a' w' ⟨σ',β',s2,hK,hr',hl⟩=>⟨σ',β',s2,hK,hr',hl1.trans hl⟩) (Qg hT h1 hr1 Q)⟩
theorem Tg{N:List (List Int)}{a:Nat}(ha:a<N.length){y:Int}{k:Nat}:y∈(Gl N a b).getD k []↔y∈N.getD k []\/(a=k/\y=b):=by
 unfold Gl;rw[ZG ha];split
 ·rename_i h;rw[RM,h];simp
 ·rename_i h;simp[h]
theorem Ch{n:Nat}{g:List (List Int)×List (List Int)}(hl:g.2.length=n)(e:Int×Int):(B9 n g e).2.length=n:=by
 rw[K9];cases(ZF n e.1&&ZF n e.2 && !(g.1.getD e.1.toNat []).contains e.2)with
 |true=>rw[x3p];unfold Gl;rw[x5e];exact hl
 |false=>exact hl
structure MirG(n:Nat)(g:List (List Int)×List (List Int)):Prop where
 l1:g.1.length=n
 l2:g.2.length=n
 m:∀x y:Int,0<=x/\x<n->0<=y/\y<n->(y∈g.1.getD x.toNat []↔x∈g.2.getD y.toNat [])
theorem MirG.add{n:Nat}{g:List (List Int)×List (List Int)}(h:MirG n g)(e:Int×Int):MirG n (B9 n g e):=by
 refine⟨Rr h.l1 e,Ch h.l2 e,fun x y hx hy=>?_⟩;rw[Vo,K9];cases hc:(ZF n e.1&&ZF n e.2 && !(g.1.getD e.1.toNat []).contains e.2)with
 | true=>
   simp only[x3h]at hc;have h1:=XI hc.1.1;have h2:=XI hc.1.2;rw[x3p,x3p,Tg (by rw[h.l1];omega),Tg (by rw[h.l2];omega),h.m x y hx hy];constructor
   ·rintro(h3|⟨h3,h4⟩)
    ·exact .inl h3
    ·exact .inr ⟨by omega,by omega⟩
   ·rintro(h3|⟨h3,h4⟩)
    ·exact .inl h3
    ·exact .inr ⟨by omega,by omega⟩
 |false=>exact h.m x y hx hy
theorem MirG.fold{n:Nat}:∀(l:List (Int×Int)){g:List (List Int)×List (List Int)},MirG n g->MirG n (l.foldl (B9 n) g)
 |[],_,h=>h
 |e::r,_,h=>MirG.fold r (h.add e)
theorem Nx(n:Nat)(l:List (Int×Int)):MirG n (QR n l):=by
 refine MirG.fold l ⟨by simp,by simp,fun x y _ _=>?_⟩;have:∀k,(List.replicate n ([]:List Int)).getD k []=[]:=fun k=>by
  rw[x2l,x3o];split<;>rfl
 simp only[this];simp
theorem Rq{n:Nat}{rows:List (List Int)}(hl:rows.length=n){x y:Int}(h:rowE rows x y):0<=x/\x<n:=by
 refine⟨h.1,?_⟩;have h2:=h.2;unfold Db at h2;rcases x3v x.toNat rows.length with h3|h3
 ·omega
 ·rw[x2l,x4a h3]at h2;simp at h2
theorem Su(n:Nat)(l:List (Int×Int))(x y:Int):rowE (QR n l).2 x y↔rowE (QR n l).1 y x:=by
 obtain⟨h1,h2⟩:=JN n l;have hm:=Nx n l;constructor
 ·intro h;have hx:=Rq hm.l2 h;have hy:=DA h2 h.2;exact⟨hy.1,(hm.m y x hy hx).2 h.2⟩
 ·intro h;have hx:=Rq hm.l1 h;have hy:=DA h1 h.2;exact⟨hy.1,(hm.m y x hx hy).1 h.2⟩
theorem GN{n:Nat}{l:List (Int×Int)}{x y:Int}:rowE (QR n l).1 x y↔(x,y)∈l/\ZF n x=true/\ZF n y=true:=by
 constructor
 ·intro h;have hx:=Rq (Nx n l).l1 h;have:=(BR hx).1 h.2;exact⟨this.1,DF hx,this.2⟩
 ·rintro⟨h1,h2,h3⟩;have hx:=XI h2;exact⟨hx.1,(BR hx).2 ⟨h1,h3⟩⟩
def Z0(part:List Int)(o:List Bool)(t:Int×Int):List Bool:=if part.getD t.1.toNat 0=part.getD t.2.toNat 0 then o else o.set (part.getD t.1.toNat 0).toNat true
def K0(n:Nat)(part:List Int):List Bool:=((List.replicate n false).set (part.getD 0 0).toNat true).set (part.getD (n-1) 0).toNat true
def Dz(n:Nat)(part:List Int)(prs:List (Int×Int)):List Bool:=prs.foldl (Z0 part) (K0 n part)
def BX(plc:Int->Int)(part:List Int)(i q:Nat):List Int:=((List.range q).filter fun j=>part.getD j 0==(i:Int)).map fun(j:Nat)=>plc j
def Jz(part:List Int)(op:List Bool)(i:Nat):Bool:=part.getD i 0==(i:Int) && !op.getD i false
def Zz(plc:Int->Int)(part:List Int)(op:List Bool)(q:Nat):List (List Int):=((List.range q).filter (Jz part op)).map fun i=>BX plc part i part.length
def prsW(w:Way)(f:Pr):List (Int×Int):=w.real.map (ixP w.p w.j f w.n)
def VI(w:Way)(f:Pr):List Int:=Z2 w.n.toNat (QR w.n.toNat (prsW w f)).1
def trapsW(w:Way)(f:Pr):List (List Int):=Zz (QP w.p w.j w.n) (VI w f) (Dz w.n.toNat (VI w f) (prsW w f)) (VI w f).length
theorem M0(part:List Int)(o:List Bool)(t:Int×Int):(Z0 part o t).length=o.length:=by
 unfold Z0;split<;>simp
theorem Tx{n:Nat}{rows:List (List Int)}(hr:XU n rows){k:Nat}(hk:k<n):0<=(Z2 n rows).getD k 0/\(Z2 n rows).getD k 0<n:=by
 have hx:0<=(k:Int)/\(k:Int)<n:=by omega
 have:=Z3 hr hx;exact Tf hr hx this.scc.1
theorem SO(plc:Int->Int)(part:List Int)(i q:Nat):BX plc part i (q+1)=if part.getD q 0=(i:Int)then BX plc part i q++[plc q]else BX plc part i q:=by
 unfold BX;rw[x7f,x5r,x3y];by_cases h:part.getD q 0=(i:Int)
 ·rw[if_pos h,x5o (by rw[h];simp)];rfl
 ·rw[if_neg h,x6w (by simpa using h)];simp
theorem SI(plc:Int->Int)(part:List Int)(op:List Bool)(q:Nat):Zz plc part op (q+1)=if Jz part op q=true then Zz plc part op q++[BX plc part q part.length]else Zz plc part op q:=by
 unfold Zz;rw[x7f,x5r,x3y];by_cases h:Jz part op q=true
 ·rw[if_pos h,x5o h];rfl
 ·rw[if_neg h,x6w h];simp
theorem Mf(plc:Int->Int)(part:List Int)(i q:Nat):(BX plc part i q).length<=q:=by
 unfold BX;rw[x2m];exact x4k (x5y _ _) (by simp)
theorem Mh(plc:Int->Int)(part:List Int)(op:List Bool)(q:Nat):(Zz plc part op q).length<=q:=by
 unfold Zz;rw[x2m];exact x4k (x5y _ _) (by simp)
theorem No(part:List Int):∀(l:List (Int×Int))(o:List Bool),(l.foldl (Z0 part) o).length=o.length
 |[],_=>rfl
 |t::r,o=>by rw[x6v,No part r,M0]
theorem AB(n:Nat)(part:List Int)(l:List (Int×Int)):(l.foldl (Z0 part) (K0 n part)).length=n:=by
 rw[No];simp[K0]
theorem B4(w:Way)(f:Pr)(n:Nat)(hw:w.n=n)(hj:w.p.procs[w.j]?=some f)(hc:cntP w.p.procs<=1000)(hn:n<=5000)(hn2:2<=n)(hlen:w.real.length<=1000000)(hr:∀t∈prsW w f,(0<=t.1/\t.1<n)/\0<=t.2/\t.2<n):SpecP prog 196 [.ip w.cells] (fun r=>r=eMat (trapsW w f)):=by
 refine sB Ve func196 rfl call196 ?_;conv=>whnf
 have hgi:=JN n (prsW w f);have hpart:VI w f=Z2 n (QR n (prsW w f)).1:=by unfold VI;rw[hw];rfl
 have htr:trapsW w f=Zz (QP w.p w.j w.n) (VI w f) (Dz n (VI w f) (prsW w f)) n:=by unfold trapsW;rw[hpart,DT,hw];rfl
 have hpin:∀k,k<n->0<=(VI w f).getD k 0/\(VI w f).getD k 0<n:=fun k hk=>by rw[hpart];exact Tx hgi.1 hk
 have hpl:(VI w f).length=n:=by rw[hpart,DT]
 have hcp:=Xt n hn (QR n (prsW w f)) hgi.1 hgi.2 (Su n (prsW w f));rw[<-hpart]at hcp;rw[htr];clear htr hpart hgi;generalize VI w f=part at hpin hpl hcp⊢;have ha0:=hpin 0 (by omega);have ha1:=hpin (n-1) (by omega);have hp0:=Nu (l:=part) (i:=0) (by omega);have hp1:=Nu (l:=part) (i:=n-1) (by omega);have e0:(List.replicate n AV.ff)[(part.getD 0 0).toNat]?=some .ff:=by rw[x3o,if_pos (by omega)]
 have e1:((List.replicate n AV.ff).set (part.getD 0 0).toNat .tt)[(part.getD (n-1) 0).toNat]?=some (bv (((List.replicate n false).set (part.getD 0 0).toNat true).getD (part.getD (n-1) 0).toNat false)):=by
  have:(List.replicate n AV.ff).set (part.getD 0 0).toNat .tt=((List.replicate n false).set (part.getD 0 0).toNat true).map bv:=by
   rw[x4m,x6x];rfl
  rw[this];exact q0b (by rw[x5e,x5x];omega)
 have hplm:(part.map (AV.int .i64)).length=n:=by rw[x2m,hpl]
 repeat' ((first|(refine iM fun _=>?_)|refine dA ?_|refine x2t rfl ?_|refine aR ?_|refine wI ?_|refine cP (B5 w f n hw hj hc hn w.real hlen) ?_|refine cP hcp ?_|refine x8v n hw (by show 1*n<=140737488355328;omega) (by unfold maxLen;omega) ?_|(refine IdxK.at (k:=0) rfl hp0 rfl ?_)|(refine IdxK.at (k:=n-1) (by omega) hp1 rfl ?_)|refine x4j (part.getD 0 0).toNat (by omega) (by omega) ?_|refine x4j (part.getD (n-1) 0).toNat (by omega) (by omega) ?_|refine x5i (part.getD 0 0).toNat 0 .ff .tt (show(0+(part.getD 0 0).toNat)*1=(part.getD 0 0).toNat*1+0 by omega) e0 (x3g 1) rfl ?_|(refine CallK.pure (JW w f hj hc (by omega) w.real hlen) (.cons (Sub.refl _) (.cons (Sub.refl _) .nil)) ?_;rintro _ rfl)|(refine x5i (part.getD (n-1) 0).toNat 0 _ .tt (show(0+(part.getD (n-1) 0).toNat)*1=(part.getD (n-1) 0).toNat*1+0 by omega) e1 (x3g 1) (by cases((List.replicate n false).set (part.getD 0 0).toNat true).getD (part.getD (n-1) 0).toNat false<;>rfl) ?_));conv=>whnf)
 have hprl:(prsW w f).length<=1000000:=by unfold prsW;rw[x2m];exact hlen
 have hpl2:(avP (prsW w f)).length=(prsW w f).length:=by simp[avP]
 refine LoopK.inv QY (fun x:Nat×List Bool=>⟨[(0,.p (.ip w.cells)),(3,.p (QO part)),(4,.hd 0 0 n),(43,.p (.sl (avP (prsW w f)))),(44,.p (.int .i64 (avP (prsW w f)).length)),(45,.p (.int .i64 x.1))],[(0,.own 4 1 (x.2.map bv))]⟩)
  (fun x=>x.1<=(prsW w f).length/\x.2=((prsW w f).take x.1).foldl (Z0 part) (K0 n part)) (fun x=>(prsW w f).length-x.1) (0,K0 n part)
  (Le.mk [] (by simp) (by simp) (by simp) (.r (.r (.r (.r (.r (.r .nil)))))) (.cons rfl (.of_eq (by unfold K0;rw[x4m,x4m,x6x];rfl)) .nil))
  ⟨x3z _,rfl⟩ ?_
 rintro⟨m,o⟩ ⟨h1,h2⟩;simp only at h1 h2⊢;have hol:o.length=n:=by rw[h2];exact AB n part _
 rcases x3v m (prsW w f).length with hm|hm
 ·obtain⟨⟨h3,h4⟩,h5,h6⟩:=hr _ (x3w hm);have h7:=hpin (prsW w f)[m].1.toNat (by omega);have h8:=hpin (prsW w f)[m].2.toNat (by omega);have e2:=Nu (l:=part) (i:=(prsW w f)[m].1.toNat) (by omega);have e3:=Nu (l:=part) (i:=(prsW w f)[m].2.toNat) (by omega);have e4:=q0b (l:=o) (i:=(part.getD (prsW w f)[m].1.toNat 0).toNat) (by omega);have hme:(avP (prsW w f))[m]?=some (.agg [.int .i64 (prsW w f)[m].1,.int .i64 (prsW w f)[m].2]):=by simp[avP,hm]
  have e5:((prsW w f).take (m+1)).foldl (Z0 part) (K0 n part)=Z0 part o (prsW w f)[m]:=by rw[x3u hm,x7n,<-h2];rfl
  conv=>whnf
  repeat' (first|((first|refine dA ?_|refine x2t rfl ?_|refine wI ?_|(refine IdxK.at (k:=m) rfl hme rfl ?_)|refine x4j 0 rfl (by decide) ?_|refine x4j 1 rfl (by decide) ?_|(refine IdxK.at (k:=(prsW w f)[m].1.toNat) (by omega) e2 rfl ?_)|(refine IdxK.at (k:=(prsW w f)[m].2.toNat) (by omega) e3 rfl ?_)|refine x4j (part.getD (prsW w f)[m].1.toNat 0).toNat (by omega) (by omega) ?_|refine x5i (part.getD (prsW w f)[m].1.toNat 0).toNat 0 _ .tt (by omega) e4 (x3g 1) (by cases o.getD (part.getD (prsW w f)[m].1.toNat 0).toNat false<;>rfl) ?_);conv=>whnf)|(apply bD<;>intro _<;>first|omega|conv=>whnf)|(apply bE<;>intro _<;>first|omega|conv=>whnf))
  all_goals first
   | (have hq:part.getD (prsW w f)[m].1.toNat 0=part.getD (prsW w f)[m].2.toNat 0:=by assumption
      exact⟨(m+1,o),⟨by simp only;omega,by simp only;rw[e5];unfold Z0;rw[if_pos hq]⟩,by simp only;omega,Le.of_eq rfl⟩)
   | (have hq:¬part.getD (prsW w f)[m].1.toNat 0=part.getD (prsW w f)[m].2.toNat 0:=by assumption
      exact⟨(m+1,o.set (part.getD (prsW w f)[m].1.toNat 0).toNat true),⟨by simp only;omega,by simp only;rw[e5];unfold Z0;rw[if_neg hq]⟩,by simp only;omega,Le.of_eq (by simp only[x4m];rfl)⟩)
 ·rw [x3f hm]at h2;have hop:Dz n part (prsW w f)=o:=h2.symm;rw[hop];clear hop h2 e0 e1 hp0 hp1 hcp;conv=>whnf
  repeat' (first|(refine iM fun _=>?_;conv=>whnf)|(apply bD<;>intro _<;>first|omega|conv=>whnf))
  refine LoopK.inv QY (fun q:Nat=>⟨[(0,.p (.ip w.cells)),(3,.p (QO part)),(4,.hd 0 0 n),(7,.hd 1 0 (Zz (QP w.p w.j w.n) part o q).length),(69,.p (.int .i64 (part.map (AV.int .i64)).length)),(70,.p (.int .i64 q))],[(0,.own 4 1 (o.map bv)),(1,.own 29 1 ((avI (Zz (QP w.p w.j w.n) part o q)).map AV.sl))]⟩)
   (fun q=>q<=n) (fun q=>n-q) 0
   (Le.mk [(1,.own 29 1 [])] (by simp[Chunk.new0];rfl) (by simp) (by simp) (.r (.r (.r (.cons (.nil x2r) (.r (.r .nil)))))) (.cons rfl (.refl _) (.new x2r .nil)))
   (x3z _) ?_
  intro q hqn;have hLl:=Mh (QP w.p w.j w.n) part o q;rcases x3v q n with hq|hq
  ·have e2:=Nu (l:=part) (i:=q) (by omega);have e3:=q0b (l:=o) (i:=q) (by omega);have hsucc:=SI (QP w.p w.j w.n) part o q;generalize Zz (QP w.p w.j w.n) part o q=acc at hLl hsucc⊢;have hpe:part[q]=part.getD q 0:=by rw[x2l,x2n];rfl
   cases hb:o.getD q false with
   | true=>
     rw[hb]at e3;have ht:¬Jz part o q=true:=by unfold Jz;rw[hb];simp
     rw[if_neg ht]at hsucc;conv=>whnf
     repeat' (first|((first|refine x2t rfl ?_|(refine iA fun _=>?_)|refine wI ?_|refine x4j q rfl (by omega) ?_|refine x5z q 0 .tt (by omega) e3 ?_);conv=>whnf)|(apply bD<;>intro _<;>first|omega|conv=>whnf)|(apply bE<;>intro _<;>first|omega|conv=>whnf))
     all_goals exact⟨q+1,hq,by omega,Le.of_eq (by rw[hsucc];rfl)⟩
   | false=>
     rw[hb]at e3;conv=>whnf
     repeat' (first|((first|(refine iM fun _=>?_)|refine x2t rfl ?_|(refine iA fun _=>?_)|refine wI ?_|refine x4j q rfl (by omega) ?_|refine x5z q 0 .ff (by omega) e3 ?_);conv=>whnf)|(apply bD<;>intro _<;>first|omega|conv=>whnf)|(apply bE<;>intro _<;>first|omega|conv=>whnf))
     all_goals try
      have hne:¬part.getD q 0=(q:Int):=by omega
      have ht:¬Jz part o q=true:=fun h=>by
       unfold Jz at h;rw[x3h,x6d]at h;exact hne h.1
      rw[if_neg ht]at hsucc;exact⟨q+1,hq,by omega,Le.of_eq (by rw[hsucc];rfl)⟩
     have hpq:part.getD q 0=(q:Int):=by omega
     have ht:Jz part o q=true:=by unfold Jz;rw[hb,hpq];simp
     rw[if_pos ht,hpl]at hsucc;refine LoopK.inv QY (fun z:Nat=>⟨[(0,.p (.ip w.cells)),(3,.p (QO part)),(4,.hd 0 0 n),(7,.hd 1 0 acc.length),(8,.p (.int .i64 q)),(9,.hd 2 0 (BX (QP w.p w.j w.n) part q z).length),(69,.p (.int .i64 (part.map (AV.int .i64)).length)),(70,.p (.int .i64 q)),(86,.p (.int .i64 (part.map (AV.int .i64)).length)),(87,.p (.int .i64 z))],[(0,.own 4 1 (o.map bv)),(1,.own 29 1 ((avI acc).map AV.sl)),(2,.own 3 1 ((BX (QP w.p w.j w.n) part q z).map (.int .i64)))]⟩)
      (fun z=>z<=n) (fun z=>n-z) 0
      (Le.mk [(2,.own 3 1 [])] (by simp[Chunk.new0];rfl) (by simp) (by simp) (.r (.r (.r (.r (.r (.cons (.nil x2r) (.r (.r (.r (.r .nil)))))))))) (.cons rfl (.refl _) (.cons rfl (.refl _) (.new x2r .nil))))
      (x3z _) ?_
     intro z hzn;have hRl:=Mf (QP w.p w.j w.n) part q z;rcases x3v z n with hz|hz
     ·have e4:=Nu (l:=part) (i:=z) (by omega);have hs2:=SO (QP w.p w.j w.n) part q z;generalize BX (QP w.p w.j w.n) part q z=l at hRl hs2⊢;conv=>whnf
      repeat' (first|((first|refine x2t rfl ?_|refine aD ?_|refine bP ?_|(refine iA fun _=>?_)|refine wI ?_|(refine CallK.pure (UW w f hj hc (by omega) z (by omega)) (.cons (Sub.refl _) (.cons (Sub.refl _) .nil)) ?_;rintro _ rfl)|refine XH (by simp) (by simp;omega) ?_);conv=>whnf)|(apply bD<;>intro _<;>first|omega|conv=>whnf))
      have hpz:part[z]=part.getD z 0:=by rw[x2l,x2n];rfl
      ·rw[if_pos (by omega)]at hs2;exact⟨z+1,hz,by omega,Le.of_eq (by rw[hs2,x2s,x3y];rfl)⟩
      ·have hpz:part[z]=part.getD z 0:=by rw[x2l,x2n];rfl
       rw[if_neg (by omega)]at hs2;exact⟨z+1,hz,by omega,Le.of_eq (by rw[hs2];rfl)⟩
     ·have hze:z=n:=by omega
      subst hze;conv=>whnf
      repeat' (apply bD<;>intro _<;>first|omega|conv=>whnf)
      have hfl:(BX (QP w.p w.j w.n) part q z).length=((BX (QP w.p w.j w.n) part q z).map (AV.int .i64)).length:=by simp
      refine OpK.frz QY [[9,104]] ?_;conv=>whnf
      refine LenK.mk hfl ?_;conv=>whnf
      refine LenK.mk hfl ?_;conv=>whnf
      repeat' ((first|refine x2t rfl ?_|refine aD ?_|refine bP ?_|refine wI ?_|refine x6y (by simp[avI]) rfl (by show(acc.length+1)*24<=140737488355328;omega) (by show acc.length+1<=9223372036854775807;omega) (fun x hx=>by rcases x2a.1 hx with rfl;exact⟨rfl,rfl⟩) ?_);conv=>whnf)
      exact⟨q+1,hq,by omega,Le.of_eq (by rw[hsucc];simp only[avI,x2s,x3y];rfl)⟩
  ·have hqe:q=n:=by omega
   subst hqe;conv=>whnf
   repeat' (apply bD<;>intro _<;>first|omega|conv=>whnf)
   exact⟨_,.hd rfl (by simp[avI]),rfl⟩
def vOf(p:Pg)(id:Int):List Step:=match OI p id with
 |some s=>if s.kind=10 then [⟨id,-1,3⟩]else []
 |none=>[]
def YV(w:Way)(f:Pr):List Step:=(trapsW w f).flatMap fun l=>l.flatMap (vOf w.p)
theorem q4a(p:Pg)(id:Int):(vOf p id).length<=1:=by
 unfold vOf;split
 ·split<;>simp
 ·simp
theorem WO{α β:Type}{g:α->List β}{c:Nat}:∀(l:List α),(∀x∈l,(g x).length<=c)->(l.flatMap g).length<=l.length*c
 |[],_=>by simp
 | a::r,h=>by
   have h1:=h a x2r;have h2:=WO r fun x hx=>h x (x2c _ hx);rw[x4n,x2s,x4q,x5d];omega
theorem Rl(w:Way)(f:Pr)(n:Nat)(hw:w.n=n)(hj:w.p.procs[w.j]?=some f)(hc:cntP w.p.procs<=1000)(hn:n<=5000)(hn2:2<=n)(hlen:w.real.length<=1000000)(hr:∀t∈prsW w f,(0<=t.1/\t.1<n)/\0<=t.2/\t.2<n)(htl:(trapsW w f).length<=5000)(hti:∀l∈trapsW w f,l.length<=5000/\∀id∈l,1<=id/\id<=(sheetOf w.p).l.length):
  SpecH prog 155 [.p (.ip w.cells)] [] (fun r H=>r=.hd 0 0 (YV w f).length/\H=[(0,.own 206 3 (avS (YV w f)))]):=by
 refine sH Xj func155 rfl call155 ?_;conv=>whnf
 repeat' ((first|(refine iM fun _=>?_)|refine cP (B4 w f n hw hj hc hn hn2 hlen hr) ?_);conv=>whnf)
 unfold YV;generalize trapsW w f=ts at htl hti⊢;have hml:((avI ts).map AV.sl).length=ts.length:=by simp[avI]
 refine LoopK.inv QY (fun x:Nat×List Step=>⟨[(0,.p (.ip w.cells)),(3,.hd 0 0 x.2.length),(9,.p (eMat ts)),(10,.p (.int .i64 ((avI ts).map AV.sl).length)),(11,.p (.int .i64 x.1))],[(0,.own 206 3 (avS x.2))]⟩)
  (fun x=>x.1<=ts.length/\x.2.length<=x.1*5000/\x.2++(ts.drop x.1).flatMap (fun l=>l.flatMap (vOf w.p))=ts.flatMap fun l=>l.flatMap (vOf w.p)) (fun x=>ts.length-x.1) (0,[])
  (Le.mk [(0,.own 206 3 [])] (by simp[Chunk.new0];rfl) (by simp) (by simp) (.r (.cons (.nil x2r) (.r (.r (.r .nil))))) (.new x2r .nil))
  ⟨x3z _,by simp,rfl⟩ ?_
 rintro⟨m,acc⟩ ⟨h1,h2,h3⟩;simp only at h1 h2 h3⊢;rcases x3v m ts.length with hm|hm;rotate_left 1
 ·rw[x3b hm,List.flatMap_nil,x4b]at h3;conv=>whnf
  repeat' (apply bD<;>intro _<;>first|omega|conv=>whnf)
  exact⟨_,x3n _,by rw[h3],by rw[h3]⟩
 obtain⟨hl1,hl2⟩:=hti _ (x3w hm);have hrow:((avI ts).map AV.sl)[m]?=some (.sl (ts[m].map (.int .i64))):=by simp[avI,hm]
 rw[KY hm]at h3;conv=>whnf
 repeat' (first|((first|(refine iM fun _=>?_)|(refine iA fun _=>?_));conv=>whnf)|(apply bD<;>intro _<;>first|omega|conv=>whnf))
 have hav:(avI ts)[m]'(by simp[avI];exact hm)=ts[m].map (.int .i64):=by simp[avI]
 rw[hav];generalize ts[m]=l at hl1 hl2 h3⊢;have hll:(l.map (AV.int .i64)).length=l.length:=x2m _;generalize htot:(ts.flatMap fun l=>l.flatMap (vOf w.p))=tot at h3⊢;refine LoopK.inv QY (fun x:Nat×List Step=>⟨[(0,.p (.ip w.cells)),(3,.hd 0 0 x.2.length),(9,.p (eMat ts)),(10,.p (.int .i64 ((avI ts).map AV.sl).length)),(11,.p (.int .i64 m)),(15,.p (QO l)),(16,.p (.int .i64 (l.map (AV.int .i64)).length)),(17,.p (.int .i64 x.1))],[(0,.own 206 3 (avS x.2))]⟩)
  (fun x=>x.1<=l.length/\x.2.length<=m*5000+x.1/\x.2++((l.drop x.1).flatMap (vOf w.p)++(ts.drop (m+1)).flatMap (fun l=>l.flatMap (vOf w.p)))=tot) (fun x=>l.length-x.1) (0,acc) (Le.of_eq rfl) ⟨x3z _,by simp only;omega,h3⟩ ?_
 rintro⟨k,acc2⟩ ⟨h4,h5,h6⟩;simp only at h4 h5 h6⊢;rcases x3v k l.length with hk|hk;rotate_left 1
 ·rw[x3b hk]at h6;conv=>whnf
  repeat' (first|(refine wI ?_;conv=>whnf)|(apply bD<;>intro _<;>first|omega|conv=>whnf))
  exact⟨(m+1,acc2),⟨hm,by simp only;omega,by simpa using h6⟩,by simp only;omega,Le.of_eq rfl⟩
 obtain⟨h7,h8⟩:=hl2 _ (x3w hk);obtain⟨_,_,_,hsl,_⟩:=QJ w.p;have hlt:(l[k]-1).toNat<(sheetOf w.p).l.length:=by omega
 have hu:∃u:Item,((sheetOf w.p).l.map fun i=>AV.agg i.cells)[(l[k]-1).toNat]?=some (.agg u.cells)/\OI w.p l[k]=some u.s:=⟨_,by rw[x2e,x2n hlt];rfl,by unfold OI;rw[x2n hlt];rfl⟩;obtain⟨u,hu1,hu2⟩:=hu;rw[KY hk]at h6;have hv:vOf w.p l[k]=if u.s.kind=10 then [⟨l[k],-1,3⟩]else []:=by unfold vOf;rw[hu2]
 rw[hv]at h6;conv=>whnf
 repeat' (first|((first|refine x2t rfl ?_|refine aD ?_|refine bP ?_|(refine iA fun _=>?_)|refine wI ?_|(refine IdxK.at (by omega) hu1 rfl ?_)|refine x6y (by simp[avS]) rfl (by show(acc2.length+1)*24<=140737488355328;omega) (by show acc2.length+1<=9223372036854775807;omega) (fun x hx=>by rcases x2a.1 hx with rfl;exact⟨rfl,rfl⟩) ?_);conv=>whnf)|(apply bD<;>intro _<;>first|omega|conv=>whnf))
 ·rw[if_pos (by assumption)]at h6;exact⟨(k+1,acc2++[⟨l[k],-1,3⟩]),⟨hk,by simp;omega,by simpa using h6⟩,by simp only;omega,Le.of_eq (by simp only[avS,x2s,x3y];rfl)⟩
 ·rw[if_neg (by assumption)]at h6;exact⟨(k+1,acc2),⟨hk,by simp only;omega,by simpa using h6⟩,by simp only;omega,Le.of_eq rfl⟩
def fOf(it:Item):List Step:=if it.s.kind=7\/it.s.kind=8\/it.s.kind=9\/it.s.kind=10 then [⟨it.s.id,it.next,2⟩]else []
structure WayT(w:Way)(f:Pr)(n:Nat):Prop where
 hw:w.n=n
 hj:w.p.procs[w.j]?=some f
 hc:cntP w.p.procs<=1000
 hn:n<=5000
 hn2:2<=n
 hlen:w.real.length<=1000000
 hr:∀t∈prsW w f,(0<=t.1/\t.1<n)/\0<=t.2/\t.2<n
 htl:(trapsW w f).length<=5000
 hti:∀l∈trapsW w f,l.length<=5000/\∀id∈l,1<=id/\id<=(sheetOf w.p).l.length
 hok:∀s∈w.real,okSt s
 hfk:∀it∈itsOf w.p w.j f,∀s∈fOf it,okSt s
theorem q4e{p:Pg}{id:Int}{s:Step}(h:s∈vOf p id):s=⟨id,-1,3⟩:=by
 unfold vOf at h;split at h
 ·split at h
  ·simpa using h
  ·simp at h
 ·simp at h
theorem WayT.virt_ok{w:Way}{f:Pr}{n:Nat}(h:WayT w f n):∀s∈YV w f,okSt s:=fun s hs=>by
 unfold YV at hs;obtain⟨l,hl,hs⟩:=x3c.1 hs;obtain⟨id,hid,hs⟩:=x3c.1 hs;obtain⟨_,_,_,hsl,_⟩:=QJ w.p;have h1:=(h.hti l hl).2 id hid;have h2:=h.hc;rw[q4e hs];exact⟨by show id≠_;omega,by show(-1:Int)≠_;decide⟩
theorem WayT.virt_len{w:Way}{f:Pr}{n:Nat}(h:WayT w f n):(YV w f).length<=25000000:=by
 have h1:=WO (g:=fun l=>l.flatMap (vOf w.p)) (c:=5000) (trapsW w f) fun l hl=>by
  have h2:=WO (g:=vOf w.p) (c:=1) l fun id _=>q4a w.p id;have h3:=(h.hti l hl).1;omega
 have h2:=h.htl;unfold YV;omega
def LS(w:Way)(f:Pr):List Step:=WA (YV w f++w.real)
def Kv(w:Way)(f:Pr):List Step:=YV w f++w.real++[⟨0,-1,2⟩]++(itsOf w.p w.j f).flatMap fOf
def x1b(w:Way)(f:Pr):List Step:=WA (Kv w f)
theorem Ww(w:Way)(f:Pr)(n:Nat)(h:WayT w f n):SpecP prog 95 [.ip w.cells] (fun r=>r=eSteps (LS w f)):=by
 refine sB Jl func95 rfl call95 ?_;conv=>whnf
 have hlen:=h.hlen;have hvl:=h.virt_len;have hvok:=h.virt_ok;repeat' (first|((first|refine dA ?_|refine aD ?_);conv=>whnf)|(refine CallK.heap [] 0 (x3d (x3n _) x4x) x4z (Rl w f n h.hw h.hj h.hc h.hn h.hn2 h.hlen h.hr h.htl h.hti) rfl rfl ?_;rintro l' H' ⟨rfl,rfl⟩;conv=>whnf))
 have hml:(w.real.map fun s=>AV.agg s.cells).length=w.real.length:=x2m _;have hvm:(avS (YV w f)).length=(YV w f).length:=by simp[avS]
 refine x6y hvm.symm rfl (by rw[hml];show((YV w f).length+w.real.length)*24<=140737488355328;omega) (by rw[hml];show(YV w f).length+w.real.length<=9223372036854775807;omega) (fun x hx=>by obtain⟨s,_,rfl⟩:=x3q.1 hx;exact⟨rfl,rfl⟩) ?_;conv=>whnf
 have happ:avS (YV w f)++(w.real.map fun s=>AV.agg s.cells)=avS (YV w f++w.real):=by simp[avS]
 have hlp:(YV w f).length+(w.real.map fun s=>AV.agg s.cells).length=(YV w f++w.real).length:=by simp
 rw[happ,hlp];repeat' (refine CallK.heap [(1000,0)] 0 (by repeat' (first|exact x4x|refine x3d ?_ ?_|exact x3n _|exact x3e Sub.nils|exact x3e (Sub.tt rfl)|exact x3e (Sub.ff rfl)|exact x3e (Sub.int (by omega)))) (by refine x3j (j:=0) rfl rfl ?_ ?_;exact CSub.refl _;exact x4z) (Pt (YV w f++w.real) (fun s hs=>(x3x.1 hs).elim (hvok s) (h.hok s)) (by rw[x2s];omega)) rfl rfl ?_;rintro l' H' ⟨rfl,rfl⟩;conv=>whnf)
 exact⟨_,.hd rfl (by simp[avS]),rfl⟩
structure MayF(p:Pg):Prop where
 gl:p.globals.length<=16
 pl:p.procs.length<=16
 gn:namesB p.globals=true
 pr:∀f∈p.procs,f.params.length<=8/\f.vars.length<=16/\isName f.name=true/\namesB f.vars=true/\namesB f.fin=true/\(f.params.all fun a=>isName a.name)=true
 len:(allR p).length<=200
 its:∀(k:Nat)(x:RI),(allR p)[k]?=some x->x.s.id=(k:Int)+1/\x.deep<=12/\oneOk x.s=true
theorem JL{p:Pg}(h:YL p=true):MayF p:=by
 obtain⟨h1,h2,h3,h4⟩:=JJ h;refine⟨h1,h2,h3,fun f hf=>WC.1 (h4 f hf).1,?_,fun k x hk=>?_⟩
 ·rw[F7 h,LB];exact(VQ h).2.2
 ·rw[F7 h]at hk;exact⟨Ig h hk,q2w h x (x3k hk)⟩
def Pr0:Pr:=⟨[],[],[],[],[]⟩
def AC(p:Pg)(n:Str):Pr×Bool:=match p.procs.find? (fun f=>f.name==n)with
 |some f=>(f,true)
 |none=>(Pr0,false)
theorem Ei:Sub (.agg [.str [],.nils,.nils,.nils,.nils]) (.agg Pr0.cells):=Sub.agg (SubL.cons (Sub.refl _) (SubL.cons Sub.nils (SubL.cons Sub.nils (SubL.cons Sub.nils (SubL.cons Sub.nils SubL.nil)))))
theorem ZS(l:List Str)(hl:l.length<=1000000):SpecP prog 65 [eStrs l] (fun r=>r=eStrs l):=by
 refine sB PY func65 rfl call65 ?_;conv=>whnf
 have hlm:(l.map AV.str).length=l.length:=x2m _;repeat' (refine aD ?_;conv=>whnf)
 refine x6y rfl rfl (by rw[hlm];show(0+l.length)*16<=140737488355328;omega) (by rw[hlm];show 0+l.length<=9223372036854775807;omega) (fun x hx=>by obtain⟨s,_,rfl⟩:=x3q.1 hx;exact⟨rfl,rfl⟩) ?_;conv=>whnf
 skip
 exact⟨_,.hd rfl (by simp),rfl⟩
def PM:List Str->Nat
 |[]=>0
 |s::r=>1+s.length+PM r
mutual
def gX:X->Nat
 |.mk _ _ name kids=>1+name.length+gXs kids
def gXs:List X->Nat
 |[]=>0
 |x::r=>gX x+gXs r
end
def Jt:List Arg->Nat
 |[]=>0
 |a::r=>gX a.x+(1+a.name.length)+Jt r
mutual
def gS:S->Nat
 |.mk _ _ labels name proc x _ args thn els=>gX x+PM labels+(1+name.length)+(1+proc.length)+Jt args+gL thn+gL els
def gL:List S->Nat
 |[]=>0
 |s::r=>gS s+gL r
end
def I0:List Param->Nat
 |[]=>0
 |a::r=>1+a.name.length+I0 r
def gPr(f:Pr):Nat:=1+f.name.length+PM f.vars+PM f.fin+I0 f.params+gL f.body
def Lg:List Pr->Nat
 |[]=>0
 |f::r=>gPr f+Lg r
def gPg(p:Pg):Nat:=PM p.globals+Lg p.procs
theorem q8r(s:S):gS s=gX s.x+PM s.labels+(1+s.name.length)+(1+s.proc.length)+Jt s.args+gL s.thn+gL s.els:=by
 cases s;rw[gS];rfl
theorem Ml:∀l:List Str,Ma l<=PM l
 |[]=>x3g _
 |s::r=>by have:=Ml r;simp only[Ma,PM];omega
mutual
theorem x0o:∀x:X,wX x<=gX x
 |.mk _ _ name kids=>by have:=q7s kids;rw[wX,gX];omega
theorem q7s:∀l:List X,wXs l<=gXs l
 |[]=>by rw[wXs];omega
 |x::r=>by have:=x0o x;have:=q7s r;rw[wXs,gXs];omega
end
theorem EE:∀l:List Arg,BW l<=Jt l
 |[]=>x3g _
 |a::r=>by have:=EE r;have:=x0o a.x;simp only[BW,Jt];omega
mutual
theorem x2p:∀s:S,wS s<=gS s
 | .mk _ _ labels name proc x _ args thn els=>by
   have:=x0o x;have:=Ml labels;have:=EE args;have:=q8u thn;have:=q8u els;rw[wS,gS];omega
theorem q8u:∀l:List S,wL l<=gL l
 |[]=>by rw[wL];omega
 |s::r=>by have:=x2p s;have:=q8u r;rw[wL,gL];omega
end
theorem q1e:∀l:List Param,q5k l<=I0 l
 |[]=>x3g _
 |a::r=>by have:=q1e r;simp only[q5k,I0];omega
theorem q1i:∀l:List Pr,ER l<=Lg l
 |[]=>x3g _
 | f::r=>by
   have:=q1i r;have:=Ml f.vars;have:=Ml f.fin;have:=q1e f.params;have:=q8u f.body;simp only[ER,Lg,wPr,gPr];omega
theorem x0i(p:Pg):wPg p<=gPg p:=by
 have:=Ml p.globals;have:=q1i p.procs;unfold wPg gPg;omega
def XZ(x:Int):Int:=if x>20000 then 20001 else x
theorem ZX{a:Int}(hb:0<=b):XZ (XZ a+b)=XZ (a+b):=by
 unfold XZ;split<;>split<;>(try split)<;>omega
theorem XR{a:Int}(h:0<=a):0<=XZ a/\XZ a<=20001:=by
 unfold XZ;split<;>omega
theorem Dn{a:Int}(h:a<=20001):XZ a=a:=by
 unfold XZ;split<;>omega
theorem YZ{a:Int}(h:a>20000)(h1:a<=20001)(hb:0<=b):a=XZ (a+b):=by
 unfold XZ;split<;>omega
theorem QC(s:Str)(n:Int)(hn:0<=n/\n<=20001):SpecP prog 44 [.str s,.int .i64 n] (fun r=>r=.int .i64 (XZ (n+(1+s.length:Nat)))):=by
 refine sB GW func44 rfl call44 ?_;conv=>whnf
 repeat' (first|((first|(refine iM fun _=>?_)|refine wI ?_);conv=>whnf)|(apply bD<;>intro _<;>first|omega|conv=>whnf))
 all_goals exact RetK.int (by unfold XZ;(repeat' split)<;>omega)
theorem XD(l:List Str)(n:Int)(hn:0<=n/\n<=20001):SpecP prog 43 [eStrs l,.int .i64 n] (fun r=>r=.int .i64 (XZ (n+PM l))):=by
 refine sB KR func43 rfl call43 ?_;conv=>whnf
 skip
 have hl:(l.map AV.str).length=l.length:=x2m _;refine LoopK.inv QY (fun x:Nat×Int=>⟨[(0,.p (eStrs l)),(1,.p (.int .i64 x.2)),(5,.p (.int .i64 x.1))],[]⟩) (fun x=>x.1<=l.length/\(0<=x.2/\x.2<=20001)/\XZ (x.2+PM (l.drop x.1))=XZ (n+PM l)) (fun x=>l.length-x.1) (0,n) (Le.of_eq rfl) ⟨x3z _,hn,rfl⟩ ?_;rintro⟨j,m⟩ ⟨h2,h3,h4⟩;simp only at h2 h3 h4⊢;rcases x3v j l.length with hj|hj
 ·rw[x4v hj,PM]at h4;conv=>whnf
  repeat' (first|((first|(refine iM fun _=>?_)|refine cP (QC _ _ h3) ?_|(refine iA fun _=>?_)|refine wI ?_);conv=>whnf)|(apply bD<;>intro _<;>first|omega|conv=>whnf))
  ·have h5:XZ (XZ (m+(1+l[j].length:Nat))+PM (l.drop (j+1)))=XZ (n+PM l):=by
    rw[ZX (by omega),<-h4];congr 1;omega
   exact⟨(j+1,XZ (m+(1+l[j].length:Nat))),⟨by simp only;omega,XR (by omega),h5⟩,by simp only;omega,Le.of_eq rfl⟩
  ·exact RetK.int (by rw[<-h4];exact YZ (by omega) h3.2 (by omega))
 ·rw[x3b hj,PM]at h4;conv=>whnf
  repeat' (first|(refine iM fun _=>?_;conv=>whnf)|(apply bD<;>intro _<;>first|omega|conv=>whnf))
  exact RetK.int (by rw[<-h4,Dn (by omega)];simp)
theorem UG:∀(k:Nat)(x:X)(_:gX x<k)(n:Int)(_:0<=n/\n<=20001),SpecP prog 80 [.agg x.cells,.int .i64 n] (fun r=>r=.int .i64 (XZ (n+gX x))):=by
 intro k;induction k with
 |zero=>intro x h;omega
 | succ k ih=>
   intro x hx n hn;have hxe:gX x=1+x.name.length+gXs x.kids:=by cases x;rw[gX];rfl
   have hkl:=X.avs_len x.kids;refine sB GZ func80 rfl call80 ?_;conv=>whnf
   repeat' (refine cP (QC _ _ hn) ?_;conv=>whnf)
   refine LoopK.inv QY (fun y:Nat×Int=>⟨[(1,.p (.int .i64 y.2)),(2,.p (.ip x.cells)),(5,.p (.int .i64 y.1))],[]⟩) (fun y=>y.1<=x.kids.length/\(0<=y.2/\y.2<=20001)/\XZ (y.2+gXs (x.kids.drop y.1))=XZ (n+gX x)) (fun y=>x.kids.length-y.1) (0,XZ (n+(1+x.name.length:Nat))) (Le.of_eq rfl) ⟨x3z _,XR (by omega),by
    show XZ (XZ (n+(1+x.name.length:Nat))+gXs x.kids)=_;rw[ZX (by omega),hxe];congr 1;omega⟩ ?_
   rintro⟨j,m⟩ ⟨h2,h3,h4⟩;simp only at h2 h3 h4⊢;rcases x3v j x.kids.length with hj|hj
   ·rw [x4v hj,gXs]at h4;have hkw:gX x.kids[j]<k:=by
     have:∀(l:List X)(y:X),y∈l->gX y<=gXs l:=fun l=>by
      induction l with
      |nil=>intro y h;cases h
      | cons a r ih=>
        intro y h;rw[gXs];rcases x2i.1 h with rfl|h
        ·omega
        ·have:=ih y h;omega
     have:=this x.kids _ (x3w hj);omega
    conv=>whnf
    repeat' (first|((first|(refine iM fun _=>?_)|refine IdxK.xs (by omega) ?_|refine wI ?_|refine cP (ih (x.kids[j]'hj) hkw m h3) ?_);conv=>whnf)|(apply bD<;>intro _<;>first|omega|conv=>whnf))
    ·have h5:XZ (XZ (m+gX x.kids[j])+gXs (x.kids.drop (j+1)))=XZ (n+gX x):=by
      rw[ZX (by omega),<-h4];congr 1;omega
     exact⟨(j+1,XZ (m+gX x.kids[j])),⟨by simp only;omega,XR (by omega),h5⟩,by simp only;omega,Le.of_eq rfl⟩
    ·exact RetK.int (by rw[<-h4];exact YZ (by omega) h3.2 (by omega))
   ·rw[x3b hj,gXs]at h4;conv=>whnf
    repeat' (first|(refine iM fun _=>?_;conv=>whnf)|(apply bD<;>intro _<;>first|omega|conv=>whnf))
    exact RetK.int (by rw[<-h4,Dn (by omega)];simp)
theorem q0l:∀(l:List S)(y:S),y∈l->gS y<=gL l
 |[],y,h=>by cases h
 | a::r,y,h=>by
   rw[gL];rcases x2i.1 h with rfl|h
   ·omega
   ·have:=q0l r y h;omega
theorem UU:∀(k:Nat)(l:List S)(_:gL l<k)(n:Int)(_:0<=n/\n<=20001),SpecP prog 45 [eSs l,.int .i64 n] (fun r=>r=.int .i64 (XZ (n+gL l))):=by
 intro k;induction k with
 |zero=>intro l h;omega
 | succ k ih=>
   intro l hl n hn;have hkl:=S.avs_len l;refine sB KL func45 rfl call45 ?_;conv=>whnf
   skip
   refine LoopK.inv QY (fun y:Nat×Int=>⟨[(0,.p (eSs l)),(1,.p (.int .i64 y.2)),(5,.p (.int .i64 y.1))],[]⟩) (fun y=>y.1<=l.length/\(0<=y.2/\y.2<=20001)/\XZ (y.2+gL (l.drop y.1))=XZ (n+gL l)) (fun y=>l.length-y.1) (0,n) (Le.of_eq rfl) ⟨x3z _,hn,rfl⟩ ?_;rintro⟨j,m⟩ ⟨h2,h3,h4⟩;simp only at h2 h3 h4⊢;rcases x3v j l.length with hj|hj;rotate_left 1
   ·rw[x3b hj,gL]at h4;conv=>whnf
    repeat' (first|(refine iM fun _=>?_;conv=>whnf)|(apply bD<;>intro _<;>first|omega|conv=>whnf))
    exact RetK.int (by rw[<-h4,Dn (by omega)];simp)
   rw[x4v hj,gL]at h4;have hsw:=q0l l _ (x3w hj);have hse:=q8r l[j];have q1:=XR (a:=m+gX l[j].x) (by omega);have q2:=XR (a:=XZ (m+gX l[j].x)+PM l[j].labels) (by omega);have q3:=XR (a:=XZ (XZ (m+gX l[j].x)+PM l[j].labels)+(1+l[j].name.length:Nat)) (by omega);conv=>whnf
   repeat' (first|((first|(refine iM fun _=>?_)|refine dA ?_|refine x2t rfl ?_|refine QX (by omega) ?_|(refine CallK.pure (UG (gX l[j].x+1) l[j].x (by omega) m h3) (.cons (Sub.refl _) (.cons (Sub.refl _) .nil)) ?_;rintro _ rfl)|refine cP (XD l[j].labels _ q1) ?_|refine cP (QC l[j].name _ q2) ?_|refine cP (QC l[j].proc _ q3) ?_);conv=>whnf)|(apply bD<;>intro _<;>first|omega|conv=>whnf))
   rotate_left 1
   ·exact RetK.int (by rw[<-h4];exact YZ (by omega) h3.2 (by omega))
   have q4:=XR (a:=XZ (XZ (XZ (m+gX l[j].x)+PM l[j].labels)+(1+l[j].name.length:Nat))+(1+l[j].proc.length:Nat)) (by omega);have h5:XZ (XZ (XZ (XZ (XZ (m+gX l[j].x)+PM l[j].labels)+(1+l[j].name.length:Nat))+(1+l[j].proc.length:Nat))+(Jt l[j].args+(gL l[j].thn+gL l[j].els+gL (l.drop (j+1))):Nat))=XZ (n+gL l):=by
    rw[ZX (by omega),x8l,ZX (by omega),x8l,ZX (by omega),x8l,ZX (by omega),<-h4,hse];congr 1;omega
   generalize XZ (XZ (XZ (XZ (m+gX l[j].x)+PM l[j].labels)+(1+l[j].name.length:Nat))+(1+l[j].proc.length:Nat))=m0 at q4 h5⊢;have hal:(l[j].args.map fun a=>AV.agg a.cells).length=l[j].args.length:=x2m _;refine LoopK.inv QY (fun y:Nat×Int=>⟨[(0,.p (eSs l)),(1,.p (.int .i64 y.2)),(5,.p (.int .i64 j)),(6,.p (.ip l[j].cells)),(7,.p (.int .i64 y.1))],[]⟩) (fun y=>y.1<=l[j].args.length/\(0<=y.2/\y.2<=20001)/\XZ (y.2+(Jt (l[j].args.drop y.1)+(gL l[j].thn+gL l[j].els+gL (l.drop (j+1))):Nat))=XZ (n+gL l)) (fun y=>l[j].args.length-y.1) (0,m0) (Le.of_eq rfl) ⟨x3z _,q4,h5⟩ ?_;rintro⟨a,m2⟩ ⟨h6,h7,h8⟩;simp only at h6 h7 h8⊢;have fin:XZ (m2+(gL l[j].thn+gL l[j].els+gL (l.drop (j+1)):Nat))=XZ (n+gL l)->(0<=XZ (XZ (m2+gL l[j].thn)+gL l[j].els)/\XZ (XZ (m2+gL l[j].thn)+gL l[j].els)<=20001)/\XZ (XZ (XZ (m2+gL l[j].thn)+gL l[j].els)+gL (l.drop (j+1)))=XZ (n+gL l):=fun h=>by
    have:=XR (a:=m2+gL l[j].thn) (by omega);refine⟨XR (by omega),?_⟩;rw[ZX (by omega),x8l,ZX (by omega),<-h];congr 1;omega
   have r1:=XR (a:=m2+gL l[j].thn) (by omega);have full:m2>20000->XZ (m2+(gL l[j].thn+gL l[j].els+gL (l.drop (j+1)):Nat))=XZ (n+gL l):=fun h=>by
    rw[<-h8,<-YZ h h7.2 (by omega),<-YZ h h7.2 (by omega)]
   rcases x3v a l[j].args.length with ha|ha;rotate_left 1
   ·have h9:XZ (m2+(gL l[j].thn+gL l[j].els+gL (l.drop (j+1)):Nat))=XZ (n+gL l):=by
     rw[x3b ha,Jt,x5m]at h8;exact h8
    obtain⟨f1,f2⟩:=fin h9;conv=>whnf
    repeat' (first|((first|(refine iM fun _=>?_)|refine dA ?_|refine wI ?_|(refine CallK.pure (ih l[j].thn (by omega) m2 h7) (.cons (Sub.refl _) (.cons (Sub.refl _) .nil)) ?_;rintro _ rfl)|(refine CallK.pure (ih l[j].els (by omega) _ r1) (.cons (Sub.refl _) (.cons (Sub.refl _) .nil)) ?_;rintro _ rfl));conv=>whnf)|(apply bD<;>intro _<;>first|omega|conv=>whnf))
    all_goals exact⟨(j+1,XZ (XZ (m2+gL l[j].thn)+gL l[j].els)),⟨by simp only;omega,f1,f2⟩,by simp only;omega,Le.of_eq rfl⟩
   rw[x4v ha,Jt]at h8;have q5:=XR (a:=m2+gX l[j].args[a].x) (by omega);conv=>whnf
   repeat' (first|((first|(refine iM fun _=>?_)|refine dA ?_|(refine iA fun _=>?_)|refine wI ?_|(refine CallK.pure (UG (gX l[j].args[a].x+1) l[j].args[a].x (by omega) m2 h7) (.cons (Sub.refl _) (.cons (Sub.refl _) .nil)) ?_;rintro _ rfl)|refine cP (QC l[j].args[a].name _ q5) ?_|(refine CallK.pure (ih l[j].thn (by omega) m2 h7) (.cons (Sub.refl _) (.cons (Sub.refl _) .nil)) ?_;rintro _ rfl)|(refine CallK.pure (ih l[j].els (by omega) _ r1) (.cons (Sub.refl _) (.cons (Sub.refl _) .nil)) ?_;rintro _ rfl));conv=>whnf)|(apply bD<;>intro _<;>first|omega|conv=>whnf))
   ·have h10:XZ (XZ (XZ (m2+gX l[j].args[a].x)+(1+l[j].args[a].name.length:Nat))+(Jt (l[j].args.drop (a+1))+(gL l[j].thn+gL l[j].els+gL (l.drop (j+1))):Nat))=XZ (n+gL l):=by
     rw[ZX (by omega),x8l,ZX (by omega),<-h8];congr 1;omega
    exact⟨(a+1,XZ (XZ (m2+gX l[j].args[a].x)+(1+l[j].args[a].name.length:Nat))),⟨by simp only;omega,XR (by omega),h10⟩,by simp only;omega,Le.of_eq rfl⟩
   ·obtain⟨f1,f2⟩:=fin (full (by omega));exact⟨(j+1,XZ (XZ (m2+gL l[j].thn)+gL l[j].els)),⟨by simp only;omega,f1,f2⟩,by simp only;omega,Le.of_eq rfl⟩
theorem q1a:∀{l:List X}{y:X},y∈l->wX y<=wXs l
 |[],_,h=>by cases h
 | a::r,y,h=>by
   rw[wXs];rcases x2i.1 h with rfl|h
   ·omega
   ·have:=q1a h;omega
theorem q7r(x:X):1<=wX x:=by cases x;rw[wX];omega
theorem ET:∀l:List X,l.length<=wXs l
 |[]=>by simp
 | a::r=>by
   rw[wXs,x4q];have:=ET r;have:=q7r a;omega
end Go.Ab
