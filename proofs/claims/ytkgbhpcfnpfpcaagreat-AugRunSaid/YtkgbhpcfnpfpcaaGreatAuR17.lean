/- graph: the order in which a search into the depth is done. -/
import Derived.Test.YtkgbhpcfnpfpcaaGreatAuR10
import Derived.Test.YtkgbhpcfnpfpcaaGreatAuR13
import Derived.Test.YtkgbhpcfnpfpcaaGreatAuR16
set_option linter.unusedSimpArgs false
set_option linter.unusedVariables false
set_option maxRecDepth 100000
set_option maxHeartbeats 16000000
open List (drop_eq_nil_of_le foldl_cons getD_eq_getElem?_getD length_append length_map length_set map_cons mem_cons_of_mem mem_cons_self sum_cons)
open Nat (zero_le)
namespace Go.Ab
open Go.Proofs
def rowE (rows:List (List Int)) (x y:Int):Prop:=0<=x∧q7v rows x y
structure EndI (n:Nat) (rows:List (List Int)) (out stack:List Int) (seen:List Bool) (at_:List Int):Prop where
 dfs:DfsI n (rowE rows) out stack
 sl:seen.length=n
 al:at_.length=n
 seen : ∀ x:Int,0<=x∧x<n->(seen.getD x.toNat false=true↔x∈out++stack)
 arng : ∀ x:Int,0<=x∧x<n->0<=at_.getD x.toNat 0∧at_.getD x.toNat 0<=(rows.getD x.toNat []).length
 cur : ∀ x:Int,0<=x∧x<n -> ∀ (i:Nat) (y:Int),(i:Int)<at_.getD x.toNat 0->(rows.getD x.toNat [])[i]? = some y->y∈out++stack
theorem EndI.start (n:Nat) (rows:List (List Int)):EndI n rows [] [] (List.replicate n false) (List.replicate n 0):=by
 have h0 : ∀ x:Int,(List.replicate n (0:Int)).getD x.toNat 0=0:=fun x=>by
  rw [getD_eq_getElem?_getD,List.getElem?_replicate];split<;>rfl
 refine ⟨DfsI.start n _,by simp,by simp,fun x hx => ?_,fun x hx=>by rw [h0];omega,fun x hx i y hi=>by rw [h0] at hi;omega⟩;rw [getD_eq_getElem?_getD,List.getElem?_replicate];split<;>simp
theorem ZV {α:Type} {l:List α} {i j:Nat} {a d:α} (hi:i<l.length):(l.set i a).getD j d=if i=j then a else l.getD j d:=by
 simp only [getD_eq_getElem?_getD,List.getElem?_set];split
 ·rename_i h;first
   | rfl
   | (rw [if_pos hi];rfl)
 ·rfl
theorem EndI.push {n:Nat} {rows:List (List Int)} {out stack:List Int} {seen:List Bool} {at_:List Int} (h:EndI n rows out stack seen at_) {b:Int} (hb:0<=b∧b<n) (hn:seen.getD b.toNat false=false) (hp:chainE (rowE rows) (stack++[b])):EndI n rows out (stack++[b]) (seen.set b.toNat true) at_:=by
 have hno:b∉out++stack:=fun hm=>by rw [(h.seen b hb).2 hm] at hn;cases hn
 refine ⟨h.dfs.push hb hno hp,by simpa using h.sl,h.al,fun x hx => ?_,h.arng,fun x hx i y hi hy => ?_⟩
 ·rw [ZV (by rw [h.sl];omega),<- List.append_assoc,List.mem_append,List.mem_singleton];split
  ·have:x=b:=by omega
   simp [this]
  ·have:x≠b:=by omega
   rw [h.seen x hx];simp [this]
 ·rw [<- List.append_assoc];exact List.mem_append.2 (.inl (h.cur x hx i y hi hy))
theorem EndI.pop {n:Nat} {rows:List (List Int)} {out st:List Int} {a:Int} {seen:List Bool} {at_:List Int} (h:EndI n rows out (st++[a]) seen at_) (ha:at_.getD a.toNat 0=(rows.getD a.toNat []).length):EndI n rows (out++[a]) st seen at_:=by
 have hr:=h.dfs.rng a (by simp);have hsw : ∀ x:Int,x∈out++[a]++st↔x∈out++(st++[a]):=fun x=>by
  simp only [List.mem_append,List.mem_singleton];constructor
  ·rintro ((h1|h1)|h1)
   ·exact .inl h1
   ·exact .inr (.inr h1)
   ·exact .inr (.inl h1)
  ·rintro (h1|h1|h1)
   ·exact .inl (.inl h1)
   ·exact .inr h1
   ·exact .inl (.inr h1)
 refine ⟨h.dfs.pop fun v hv => ?_,h.sl,h.al,fun x hx=>by rw [h.seen x hx,hsw],h.arng,fun x hx i y hi hy=>(hsw y).2 (h.cur x hx i y hi hy)⟩;obtain ⟨i,hi⟩:=List.mem_iff_getElem?.1 hv.2;have:=h.cur a hr i v (by rw [ha];have:=(List.getElem?_eq_some_iff.1 hi).1;omega) hi;exact List.mem_append.1 this
theorem EndI.step {n:Nat} {rows:List (List Int)} {out stack:List Int} {seen:List Bool} {at_:List Int} (h:EndI n rows out stack seen at_) {a b:Int} (ha:0<=a∧a<n) {k:Nat} (hk:at_.getD a.toNat 0=k) (hb:(rows.getD a.toNat [])[k]? = some b) (hs:b∈out++stack):EndI n rows out stack seen (at_.set a.toNat ((k:Int)+1)):=by
 have hlt:a.toNat<at_.length:=by rw [h.al];omega
 refine ⟨h.dfs,h.sl,by simpa using h.al,h.seen,fun x hx => ?_,fun x hx i y hi hy => ?_⟩
 ·rw [ZV hlt];split
  ·rename_i he;have:=(List.getElem?_eq_some_iff.1 hb).1;rw [<- he];omega
  ·exact h.arng x hx
 ·rw [ZV hlt] at hi;split at hi
  ·rename_i he;rw [<- he] at hy;rcases Nat.lt_or_ge i k with hik|hik
   ·exact h.cur a ha i y (by omega) hy
   ·have:i=k:=by omega
    subst this;rw [hb] at hy;cases hy;exact hs
  ·exact h.cur x hx i y hi hy
def z6s (m:Int) (l:List Int):Int:=l.foldl (fun m x=>if x<m then x else m) m
def q7f:List Int->Int
 | []=>0
 | a::r=>z6s a r
theorem x0j : ∀ (l:List Int) (m:Int),z6s m l∈m::l ∧ ∀ x∈m::l,z6s m l<=x
 | [],m=>⟨by simp [z6s],by simp [z6s]⟩
 | a::r,m=>by
   obtain ⟨h1,h2⟩:=x0j r (if a<m then a else m);have e:z6s m (a::r)=z6s (if a<m then a else m) r:=rfl;have h3:=h2 _ mem_cons_self;rw [e];generalize z6s (if a<m then a else m) r=z at h1 h2 h3 ⊢;refine ⟨?_,fun x hx => ?_⟩
   ·rcases List.mem_cons.1 h1 with h|h
    ·rw [h];split<;>simp
    ·exact mem_cons_of_mem _ (mem_cons_of_mem _ h)
   ·rcases List.mem_cons.1 hx with rfl|hx
    ·split at h3<;>omega
    ·rcases List.mem_cons.1 hx with rfl|hx
     ·split at h3<;>omega
     ·exact h2 x (mem_cons_of_mem _ hx)
theorem q9t {l:List Int} (h:0<l.length):q7f l∈l ∧ ∀ x∈l,q7f l<=x:=by
 cases l with
 | nil=>simp at h
 | cons a r=>exact x0j r a
theorem OpK.min2 {P:Program} {N:Nat} {s:St} {o:Oper} {K:St->Prop} {x y:Operand} {ts:Array TypeId} (hop:o.op = .call { callee := .builtin .min,args := #[x,y],argTypes:=ts }) {m n:Int} (hx:QR s.sl x = .p (.int .i64 m)) (hy:QR s.sl y = .p (.int .i64 n))
  (h:setD N s.sl o.dst (.p (.int .i64 (if n<m then n else m))) fun sl=>K ⟨sl,s.H⟩):OpK P N s o K:=by
 refine ⟨fun σ β a w hr Q => ?_⟩;have h1:=QX hr.slots x;have h2:=QX hr.slots y;rw [hx] at h1;rw [hy] at h2;have e1:=h1.int;have e2:=h2.int;have hrun:(execOp a.eval o).run P w = .ok (.value (.int .i64 (if n<m then n else m))) w:=by
  simp [execOp,hop,resolve,invoke,builtin,e1,e2,Builtin.min_,Builtin.min2]
 obtain ⟨sl,hK,hr2⟩:=hr.setD (.p (.int .i64 (if n<m then n else m))) h;exact WD hrun ⟨σ,β,_,hK,hr2,Later.refl _ _ _ _⟩
theorem HW (l:List Int) (hl:0<l.length):SpecP Tryz.prog 258 [QO l] (fun r=>r = .int .i64 (q7f l)):=by
 refine sB JI Tryz.func258 rfl Tryz.call258 ?_;conv=>whnf
 have hlm:(l.map (AV.int .i64)).length=l.length:=length_map _;repeat' (first|(refine iM fun _=>?_;conv=>whnf)|(apply bD<;>intro _<;>first|omega|conv=>whnf))
 refine IdxK.at (k:=0) (e := .int .i64 l[0]) rfl (by simp [hl]) rfl ?_;conv=>whnf
 skip
 refine LoopK.inv QU (fun x:Nat×Int=>⟨[(0,.p (QO l)),(3,.p (.int .i64 x.2)),(4,.p (.int .i64 x.1))],[]⟩) (fun x=>1<=x.1∧x.1<=l.length∧q7f (x.2::l.drop x.1)=q7f l) (fun x=>l.length-x.1) (1,l[0]) (Le.of_eq rfl) ⟨Nat.le_refl _,hl,by
  cases l with
  | nil=>simp at hl
  | cons a r=>rfl⟩ ?_
 rintro ⟨j,m⟩ ⟨h1,h2,h3⟩;simp only at h1 h2 h3 ⊢;rcases Nat.lt_or_ge j l.length with hj|hj
 ·rw [QK hj] at h3;conv=>whnf
  repeat' (first|((first|(refine iM fun _=>?_)|(refine iA fun _=>?_)|refine wI ?_|refine OpK.min2 rfl rfl rfl ?_);conv=>whnf)|(apply bD<;>intro _<;>first|omega|conv=>whnf))
  exact ⟨(j+1,if l[j]<m then l[j] else m),⟨by simp only;omega,hj,h3⟩,by simp only;omega,Le.of_eq rfl⟩
 ·rw [drop_eq_nil_of_le hj] at h3;conv=>whnf
  repeat' (first|(refine iM fun _=>?_;conv=>whnf)|(apply bD<;>intro _<;>first|omega|conv=>whnf))
  exact RetK.int h3
theorem z6l {α:Type} {f g:α->Nat} : ∀ {l:List α},(∀ x∈l,f x<=g x)->(∃ x∈l,f x<g x)->(l.map f).sum<(l.map g).sum
 | [],_,h=>by obtain ⟨x,hx,_⟩:=h;cases hx
 | a::r,h1,h2=>by
   have hle : ∀ {l:List α},(∀ x∈l,f x<=g x)->(l.map f).sum<=(l.map g).sum:=fun {l} h=>by
    induction l with
    | nil=>simp
    | cons b r ih =>
      simp only [map_cons,sum_cons];have:=ih fun x hx=>h x (mem_cons_of_mem _ hx);have:=h b mem_cons_self;omega
   simp only [map_cons,sum_cons];have h3:=h1 a mem_cons_self;have h4:=hle fun x hx=>h1 x (mem_cons_of_mem _ hx);obtain ⟨x,hx,h5⟩:=h2;rcases List.mem_cons.1 hx with rfl|hx
   ·omega
   ·have:=z6l (fun y hy=>h1 y (mem_cons_of_mem _ hy)) ⟨x,hx,h5⟩;omega
def muE (rows:List (List Int)) (at_:List Int) (n:Nat):Nat:=((List.range n).map fun i=>(rows.getD i []).length-(at_.getD i 0).toNat).sum
theorem z3k {n:Nat} {rows:List (List Int)} {at_:List Int} {a:Nat} (ha:a<n) (hl:at_.length=n) {k:Nat} (hk:at_.getD a 0=k) (hlt:k<(rows.getD a []).length):muE rows (at_.set a ((k:Int)+1)) n<muE rows at_ n:=by
 unfold muE;refine z6l (fun i _ => ?_) ⟨a,List.mem_range.2 ha,?_⟩
 ·rw [ZV (by omega)];split
  ·rename_i h;rw [<- h,hk];omega
  ·exact Nat.le_refl _
 ·rw [ZV (by omega),if_pos rfl,hk];omega
theorem q6y {n:Nat} {l:List Int} (h:l.Nodup) (hr : ∀ x∈l,0<=x∧x<n):l.length<=n:=by
 have:=x0q (m:=(List.range n).map fun (k:Nat)=>(k:Int)) h fun x hx=>List.mem_map.2 ⟨x.toNat,List.mem_range.2 (by have:=hr x hx;omega),by have:=hr x hx;omega⟩;simpa using this
theorem z9n {l:List Bool} {i:Nat} (h:i<l.length):(l.map bv)[i]? = some (bv (l.getD i false)):=by
 rw [List.getElem?_map,List.getElem?_eq_getElem h,getD_eq_getElem?_getD,List.getElem?_eq_getElem h];rfl
theorem q8r {l:List Int} {i:Nat} (h:i<l.length):(l.map (AV.int .i64))[i]? = some (.int .i64 (l.getD i 0)):=by
 rw [List.getElem?_map,List.getElem?_eq_getElem h,getD_eq_getElem?_getD,List.getElem?_eq_getElem h];rfl
def w1q (n:Nat) (rows:List (List Int)) (r:AV):Prop := ∃ es,r=QO es∧EndsP n (rowE rows) es
theorem MV (n:Nat) (hn:n<=5000) (g:List (List Int)×List (List Int)) (hg:XJ n g.1):SpecP Tryz.prog 257 [YL g] (fun r=>w1q n g.1 r):=by
 refine sB DI Tryz.func257 rfl Tryz.call257 ?_;conv=>whnf
 have hl:((avI g.1).map AV.sl).length=n:=by simp [avI,hg.1]
 repeat' ((first|(refine iM fun _=>?_)|refine aR ?_|refine MkK.mk n (by rw [hl]) (by show 1*n<=140737488355328;omega) (by unfold maxLen;omega) ?_|refine MkK.mk n (by rw [hl]) (by show 8*n<=140737488355328;omega) (by unfold maxLen;omega) ?_);conv=>whnf)
 refine LoopK.inv QU (fun x:Nat×List Int×List Bool×List Int=>⟨[(0,.p (YL g)),(3,.hd 2 0 x.2.1.length),(4,.hd 3 0 0),(5,.hd 0 0 n),(6,.hd 1 0 n),(26,.p (.int .i64 n)),(27,.p (.int .i64 x.1))],[(0,.own 4 1 (x.2.2.1.map bv)),(1,.own 3 1 (x.2.2.2.map (.int .i64))),(2,.own 3 1 (x.2.1.map (.int .i64))),(3,.own 3 1 [])]⟩)
  (fun x=>x.1<=n∧EndI n g.1 x.2.1 [] x.2.2.1 x.2.2.2 ∧ ∀ y:Int,0<=y∧y<x.1->y∈x.2.1) (fun x=>n-x.1) (0,[],List.replicate n false,List.replicate n 0)
  (Le.mk [(2,.own 3 1 []),(3,.own 3 1 [])] (by simp [Chunk.new0];exact ⟨rfl,rfl⟩) (by simp) (by simp) (.cons (.refl _) (.cons (.nil mem_cons_self) (.cons (.nil (mem_cons_of_mem _ mem_cons_self)) (.cons (.refl _) (.cons (.refl _) (.cons (.of_eq (by rw [hl];rfl)) (.cons (.refl _) .nil)))))))
    (.cons rfl (.of_eq (by rw [List.map_replicate];rfl)) (.cons rfl (.of_eq (by rw [List.map_replicate];rfl)) (.new mem_cons_self (.new (mem_cons_of_mem _ mem_cons_self) .nil)))))
  ⟨zero_le _,EndI.start n g.1,fun y hy=>by omega⟩ ?_
 rintro ⟨r,out,seen,at_⟩ ⟨h1,h2,h3⟩;simp only at h1 h2 h3 ⊢;have hsl:=h2.sl;have hal:=h2.al;rcases Nat.lt_or_ge r n with hr|hr;rotate_left 1
 ·conv=>whnf
  repeat' (apply bD<;>intro _<;>first|omega|conv=>whnf)
  have hall : ∀ x:Int,0<=x∧x<n->x∈out:=fun x hx=>h3 x (by omega);exact ⟨_,.hd rfl (by simp),out,rfl,h2.dfs.fin (fun x y hxy=>KT hg hxy.2) hall⟩
 have e1:=z9n (l:=seen) (i:=r) (by omega);have hstart : ∃ st s2,EndI n g.1 out st s2 at_∧(r:Int)∈out++st∧((seen.getD r false=true∧st=[]∧s2=seen)∨(seen.getD r false=false∧st=[(r:Int)]∧s2=seen.set r true)):=by
  cases hq:seen.getD r false with
  | true=>exact ⟨[],seen,h2,(h2.seen r (by omega)).1 (by simpa using hq),.inl ⟨rfl,rfl,rfl⟩⟩
  | false=>exact ⟨[(r:Int)],seen.set r true,h2.push (stack:=[]) (b:=r) (by omega) (by simpa using hq) trivial,by simp,.inr ⟨rfl,rfl,rfl⟩⟩
 obtain ⟨st0,seen0,h4,h5,h6⟩:=hstart;rcases h6 with ⟨hq,hst,hs0⟩|⟨hq,hst,hs0⟩;all_goals
  rw [hq] at e1;conv=>whnf
  repeat' (first|((first|refine And.intro rfl ?_|refine aD ?_|refine bP ?_|refine IdxL.mk r rfl (by omega) ?_|refine LdOwn.mk r 0 .tt (by omega) e1 ?_|refine LdOwn.mk r 0 .ff (by omega) e1 ?_|refine StOwn.mk r 0 .ff .tt (by omega) e1 (Nat.le_refl 1) rfl ?_|refine WX rfl (by simp) ?_);conv=>whnf)|(apply bD<;>intro _<;>first|omega|conv=>whnf))
  refine LoopK.inv QU (fun x:List Int×List Int×List Bool×List Int=>⟨[(0,.p (YL g)),(3,.hd 2 0 x.1.length),(4,.hd 3 0 x.2.1.length),(5,.hd 0 0 n),(6,.hd 1 0 n),(26,.p (.int .i64 n)),(27,.p (.int .i64 r))],[(0,.own 4 1 (x.2.2.1.map bv)),(1,.own 3 1 (x.2.2.2.map (.int .i64))),(2,.own 3 1 (x.1.map (.int .i64))),(3,.own 3 1 (x.2.1.map (.int .i64)))]⟩)
   (fun x=>EndI n g.1 x.1 x.2.1 x.2.2.1 x.2.2.2∧(r:Int)∈x.1++x.2.1 ∧ ∀ y:Int,0<=y∧y<r->y∈x.1) (fun x=>muE g.1 x.2.2.2 n+(n-x.1.length)) (out,st0,seen0,at_)
   (Le.mk [] (by simp) (by simp) (by simp) (.cons (.refl _) (.cons (.refl _) (.cons (.of_eq (by first|(rw [hst];done)|(rw [hst];rfl))) (.cons (.refl _) (.cons (.refl _) (.cons (.refl _) (.cons (.refl _) .nil)))))))
     (.cons rfl (.of_eq (by rw [hs0];first|done|rfl|(rw [List.map_set];rfl))) (.cons rfl (.refl _) (.cons rfl (.refl _) (.cons rfl (.of_eq (by rw [hst];rfl)) .nil)))))
   ⟨h4,h5,h3⟩ ?_
  clear h4 h5 hst hs0 e1 hq hsl hal h2 h3;rintro ⟨o,stk,s,t⟩ ⟨h2,h3,h4⟩;simp only at h2 h3 h4 ⊢;have hsl:=h2.sl;have hal:=h2.al;have hol:o.length<=n:=q6y (by have:=h2.dfs.nd;rw [List.nodup_append] at this;exact this.1) fun x hx=>h2.dfs.rng x (List.mem_append.2 (.inl hx));rcases List.eq_nil_or_concat stk with rfl|⟨st,a,rfl⟩
  ·have hz:(([]:List Int).length)=0:=rfl;conv=>whnf
   repeat' (first|((first|(refine iM fun _=>?_)|refine wI ?_);conv=>whnf)|(apply bD<;>intro _<;>first|omega|conv=>whnf))
   exact ⟨(r+1,o,s,t),⟨hr,h2,fun y hy=>by
    rcases Int.lt_or_le y r with hyr|hyr
    ·exact h4 y ⟨hy.1,hyr⟩
    ·have:y=r:=by simp only at hy;omega
     rw [this];simpa using h3⟩,by simp only;omega,Le.of_eq rfl⟩
  ·rw [List.concat_eq_append] at h2 h3 ⊢;have ha:=h2.dfs.rng a (by simp);have hstl:(st++[a]).length=st.length+1:=by simp
   obtain ⟨hk0,hk1⟩:=h2.arng a ha;have e2:=q8r (l:=t) (i:=a.toNat) (by omega);have e3:((st++[a]).map (AV.int .i64))[st.length]? = some (.int .i64 a):=by simp
   have hrow:((avI g.1).map AV.sl)[a.toNat]? = some (.sl ((g.1.getD a.toNat []).map (.int .i64))):=by
    have:a.toNat<g.1.length:=by rw [hg.1];omega
    rw [getD_eq_getElem?_getD,List.getElem?_eq_getElem this];simp [avI,this]
   obtain ⟨k,hk⟩ : ∃ k:Nat,t.getD a.toNat 0=k:=⟨(t.getD a.toNat 0).toNat,by omega⟩;rw [hk] at e2 hk1;have hrl:((g.1.getD a.toNat []).map (AV.int .i64)).length=(g.1.getD a.toNat []).length:=length_map _;have hnd:=h2.dfs.nd;rcases Nat.lt_or_ge k (g.1.getD a.toNat []).length with hkl|hkl
   ·obtain ⟨b,hb⟩ : ∃ b,(g.1.getD a.toNat [])[k]? = some b:=⟨_,List.getElem?_eq_getElem hkl⟩;have hbe:(g.1.getD a.toNat [])[k]=b:=by rw [List.getElem?_eq_getElem hkl] at hb;exact Option.some.inj hb
    have hE:rowE g.1 a b:=⟨ha.1,List.mem_iff_getElem?.2 ⟨k,hb⟩⟩;have hbr:=KT hg hE.2;have hmu:=z3k (by omega) hal hk hkl;have e4:=z9n (l:=s) (i:=b.toNat) (by omega);have hstk:(st++[a]).length<=n:=q6y (List.nodup_append.1 hnd).2.1 fun x hx=>h2.dfs.rng x (List.mem_append.2 (.inr hx));have hms:(t.set a.toNat ((k:Int)+1)).map (AV.int .i64)=(t.map (AV.int .i64)).set a.toNat (.int .i64 ((k:Int)+1)):=List.map_set;have hkm:=h2.arng a ha;cases hq:s.getD b.toNat false with
    | true =>
      rw [hq] at e4;conv=>whnf
      repeat' (first|((first|(refine iM fun _=>?_)|refine dA ?_|refine And.intro rfl ?_|(refine iA fun _=>?_)|refine wI ?_|refine IdxL.mk st.length (by omega) (by omega) ?_|refine LdOwn.mk st.length 0 (.int .i64 a) (by omega) e3 ?_|refine IdxL.mk a.toNat (by omega) (by omega) ?_|refine LdOwn.mk a.toNat 0 (.int .i64 k) (by omega) e2 ?_|(refine IdxK.at (k:=a.toNat) (by omega) hrow rfl ?_)|refine IdxL.mk b.toNat (by omega) (by omega) ?_|refine LdOwn.mk b.toNat 0 .tt (by omega) e4 ?_|refine StOwn.mk a.toNat 0 (.int .i64 k) (.int .i64 (k+1)) (by omega) e2 (Nat.le_refl 1) rfl ?_);conv=>whnf)|(apply bD<;>intro _<;>first|omega|conv=>whnf))
      exact ⟨(o,st++[a],s,t.set a.toNat ((k:Int)+1)),⟨h2.step ha hk hb ((h2.seen b hbr).1 hq),h3,h4⟩,by simp only;omega,Le.mk [] (by simp) (by simp) (by simp) (.cons (.refl _) (.cons (.refl _) (.cons (.refl _) (.cons (.refl _) (.cons (.refl _) (.cons (.refl _) (.cons (.refl _) .nil))))))) (.cons rfl (.refl _) (.cons rfl (.of_eq (by rw [hms])) (.cons rfl (.refl _) (.cons rfl (.refl _) .nil))))⟩
    | false =>
      rw [hq] at e4;conv=>whnf
      repeat' (first|((first|(refine iM fun _=>?_)|refine dA ?_|refine And.intro rfl ?_|refine aD ?_|refine bP ?_|(refine iA fun _=>?_)|refine wI ?_|refine IdxL.mk st.length (by omega) (by omega) ?_|refine LdOwn.mk st.length 0 (.int .i64 a) (by omega) e3 ?_|refine IdxL.mk a.toNat (by omega) (by omega) ?_|refine LdOwn.mk a.toNat 0 (.int .i64 k) (by omega) e2 ?_|(refine IdxK.at (k:=a.toNat) (by omega) hrow rfl ?_)|refine IdxL.mk b.toNat (by omega) (by omega) ?_|refine LdOwn.mk b.toNat 0 .ff (by omega) e4 ?_|refine StOwn.mk a.toNat 0 (.int .i64 k) (.int .i64 (k+1)) (by omega) e2 (Nat.le_refl 1) rfl ?_|refine StOwn.mk b.toNat 0 .ff .tt (by omega) e4 (Nat.le_refl 1) rfl ?_|refine WX (by simp) (by simp;omega) ?_);conv=>whnf)|(apply bD<;>intro _<;>first|omega|conv=>whnf))
      have h8:=h2.push hbr hq (LI st h2.dfs.path hE);exact ⟨(o,st++[a]++[b],s.set b.toNat true,t.set a.toNat ((k:Int)+1)),⟨h8.step ha hk hb (by simp),by rw [<- List.append_assoc];exact List.mem_append.2 (.inl h3),h4⟩,by simp only;omega,Le.mk [] (by simp) (by simp) (by simp) (.cons (.refl _) (.cons (.refl _) (.cons (.of_eq (by simp;rfl)) (.cons (.refl _) (.cons (.refl _) (.cons (.refl _) (.cons (.refl _) .nil))))))) (.cons rfl (.of_eq (by rw [List.map_set];rfl)) (.cons rfl (.of_eq (by rw [hms])) (.cons rfl (.refl _) (.cons rfl (.of_eq (by rw [hbe];simp;rfl)) .nil))))⟩
   ·have hkl2:k=(g.1.getD a.toNat []).length:=by omega
    have hp:=h2.pop (by rw [hk,hkl2]);have hol2:o.length+1<=n:=by
     have h7:=hp.dfs;have:=q6y (List.nodup_append.1 h7.nd).1 fun x hx=>h7.rng x (List.mem_append.2 (.inl hx));simpa using this
    conv=>whnf
    repeat' (first|((first|(refine iM fun _=>?_)|refine dA ?_|refine And.intro rfl ?_|refine aD ?_|refine bP ?_|refine wI ?_|refine IdxL.mk st.length (by omega) (by omega) ?_|refine LdOwn.mk st.length 0 (.int .i64 a) (by omega) e3 ?_|refine IdxL.mk a.toNat (by omega) (by omega) ?_|refine LdOwn.mk a.toNat 0 (.int .i64 k) (by omega) e2 ?_|(refine IdxK.at (k:=a.toNat) (by omega) hrow rfl ?_)|refine WX (by simp) (by simp;omega) ?_|refine SlK.mk 0 st.length rfl (by show ((st++[a]).length:Int)-1=_;omega) (by omega) (by omega) ?_);conv=>whnf)|(apply bD<;>intro _<;>first|omega|conv=>whnf))
    have h9:muE g.1 t n+(n-(o++[a]).length)<muE g.1 t n+(n-o.length):=by simp;omega
    exact ⟨(o++[a],st,s,t),⟨hp,by simpa [or_assoc,or_comm,or_left_comm] using h3,fun y hy=>List.mem_append.2 (.inl (h4 y hy))⟩,h9,(Le.cut (.same (.same (.same (.cut (es':=st.map (.int .i64)) ⟨[.int .i64 a],by simp⟩ .nil))))).trans (Le.mk [] (by simp) (by simp) (by simp) (.cons (.refl _) (.cons (.of_eq (by simp;rfl)) (.cons (.of_eq (by simp;rfl)) (.cons (.refl _) (.cons (.refl _) (.cons (.refl _) (.cons (.refl _) .nil))))))) (.cons rfl (.refl _) (.cons rfl (.refl _) (.cons rfl (.of_eq (by simp;rfl)) (.cons rfl (.refl _) .nil)))))⟩
def z6n (pre:List Bool) (rows:List (List Int)):List (List Int):=rows.map fun r=>r.filter fun b => !pre.getD b.toNat false
theorem q9r {pre:List Bool} {rows:List (List Int)} {x y:Int}:q7v (z6n pre rows) x y↔q7v rows x y∧pre.getD y.toNat false=false:=by
 unfold q7v z6n;simp only [getD_eq_getElem?_getD,List.getElem?_map];cases rows[x.toNat]? with
 | none=>simp
 | some r=>simp
theorem z8w {n:Nat} {pre:List Bool} {rows:List (List Int)} (h:XJ n rows):XJ n (z6n pre rows):=by
 refine ⟨by simp [z6n,h.1],fun r hr b hb => ?_⟩;obtain ⟨r',hr',rfl⟩:=List.mem_map.1 hr;exact h.2 r' hr' b (List.mem_filter.1 hb).1
structure SimW (pre:List Bool) (st st':List Bool×List Int):Prop where
 todo:st.2=st'.2
 len:st.1.length=st'.1.length
 mrk : ∀ k,st.1.getD k false=(pre.getD k false||st'.1.getD k false)
theorem SimW.see {pre:List Bool} {st st':List Bool×List Int} (h:SimW pre st st') {b:Int} (hb:b.toNat<st.1.length) (hp:pre.getD b.toNat false=false):SimW pre (UE st b) (UE st' b):=by
 have hm:=h.mrk b.toNat;rw [hp,Bool.false_or] at hm;unfold UE;rw [hm];cases st'.1.getD b.toNat false with
 | true=>exact h
 | false =>
   refine ⟨by simp only [cond_false];rw [h.todo],by simpa using h.len,fun k => ?_⟩;simp only [cond_false];rw [ZV hb,ZV (by rw [<- h.len];exact hb)];split
   ·simp
   ·exact h.mrk k
theorem SimW.skip {pre:List Bool} {st st':List Bool×List Int} (h:SimW pre st st') {b:Int} (hp:pre.getD b.toNat false=true):UE st b=st:=by
 unfold UE;rw [h.mrk,hp];rfl
theorem z4t (st:List Bool×List Int) (b:Int):(UE st b).1.length=st.1.length:=by
 unfold UE;cases st.1.getD b.toNat false<;>simp
theorem SimW.fold {n:Nat} {pre:List Bool} : ∀ (l:List Int) {st st':List Bool×List Int},SimW pre st st'->st.1.length=n->(∀ b∈l,0<=b∧b<n)->SimW pre (l.foldl UE st) ((l.filter fun b => !pre.getD b.toNat false).foldl UE st')∧(l.foldl UE st).1.length=n
 | [],_,_,h,hn,_=>⟨h,hn⟩
 | b::r,st,st',h,hn,hl=>by
   have hb:=hl b mem_cons_self;have hr : ∀ c∈r,0<=c∧c<n:=fun c hc=>hl c (mem_cons_of_mem _ hc);rw [foldl_cons];cases hp:pre.getD b.toNat false with
   | true =>
     rw [h.skip hp,List.filter_cons_of_neg (by rw [hp];simp)];exact SimW.fold r h hn hr
   | false =>
     rw [List.filter_cons_of_pos (by rw [hp];simp),foldl_cons];exact SimW.fold r (h.see (by omega) hp) (by rw [z4t];exact hn) hr
theorem x0a {n:Nat} {pre:List Bool} {rows:List (List Int)} (hr:XJ n rows) : ∀ (k i:Nat) {st st':List Bool×List Int},SimW pre st st'->st.1.length=n->SimW pre (XS rows k i st) (XS (z6n pre rows) k i st')
 | 0,_,_,_,h,_=>h
 | k+1,i,st,st',h,hn=>by
   rw [XS,XS,<- h.todo];cases ha:st.2[i]? with
   | none=>exact h
   | some a =>
     simp only;have hrow : ∀ b∈rows.getD a.toNat [],0<=b∧b<n:=fun b hb=>KT hr hb;have he:(z6n pre rows).getD a.toNat []=(rows.getD a.toNat []).filter fun b => !pre.getD b.toNat false:=by
      unfold z6n;simp only [getD_eq_getElem?_getD,List.getElem?_map];cases rows[a.toNat]? with
      | none=>simp
      | some r=>simp
     rw [he];obtain ⟨h1,h2⟩:=SimW.fold (n:=n) _ h hn hrow;exact x0a hr k (i+1) h1 h2
theorem z1z {n:Nat} {pre:List Bool} {rows:List (List Int)} (hr:XJ n rows) (hp:pre.length=n) {r:Int} (hrr:0<=r∧r<n) (hu:pre.getD r.toNat false=false) :
  (∀ x,x∈(XS rows (n+1) 0 (pre.set r.toNat true,[r])).2↔Rch (fun a b=>q7v rows a b∧pre.getD b.toNat false=false) r x) ∧
  (∀ x:Int,0<=x∧x<n->((XS rows (n+1) 0 (pre.set r.toNat true,[r])).1.getD x.toNat false=true↔pre.getD x.toNat false=true∨x∈(XS rows (n+1) 0 (pre.set r.toNat true,[r])).2)):=by
 have e0:UE (List.replicate n false,[]) r=((List.replicate n false).set r.toNat true,[r]):=by
  unfold UE;have:(List.replicate n false).getD r.toNat false=false:=by
   rw [getD_eq_getElem?_getD,List.getElem?_replicate];split<;>rfl
  simp only [this,cond_false,List.nil_append]
 obtain ⟨h1,h2,_⟩:=(WkM.start n).see hrr;rw [e0] at h1 h2;have hsim:SimW pre (pre.set r.toNat true,[r]) ((List.replicate n false).set r.toNat true,[r]):=⟨rfl,by simp [hp],fun k=>by
  rw [ZV (by omega),ZV (by simp;omega)];split
  ·simp
  ·have:(List.replicate n false).getD k false=false:=by
    rw [getD_eq_getElem?_getD,List.getElem?_replicate];split<;>rfl
   rw [this,Bool.or_false]⟩
 have hw:=x0a hr (n+1) 0 hsim (by simpa using hp);obtain ⟨h3,h4,h5,h6⟩:=LT (z8w (pre:=pre) hr) (n+1) 0 h1 (zero_le _) (by omega) (fun m a hm=>by omega);refine ⟨fun x => ?_,fun x hx => ?_⟩
 ·rw [hw.todo];constructor
  ·intro hx;exact h6 (fun x=>Rch (fun a b=>q7v rows a b∧pre.getD b.toNat false=false) r x) (fun x hx=>by rw [List.mem_singleton.1 hx];exact .refl) (fun x b h7 h8 => .tail h7 (q9r.1 h8)) x hx
  ·intro hx;exact hx.closed (S:=fun x=>x∈(XS (z6n pre rows) (n+1) 0 ((List.replicate n false).set r.toNat true,[r])).2) (fun x y h7 h8=>h5 x h7 y (q9r.2 h8)) (h4 r (by simp))
 ·rw [hw.mrk,hw.todo,h3.mem,Bool.or_eq_true];exact ⟨fun h=>h.imp id fun h=>⟨hx,h⟩,fun h=>h.imp id fun h=>h.2⟩
theorem q6s {n:Nat} {a:Int} (h:0<=a∧a<n):ZU n a=true:=by
 unfold ZU;simpa using h
structure MinP (E:Int->Int->Prop) (x v:Int):Prop where
 scc:sccP E x v
 le : ∀ y,sccP E x y->v<=y
theorem MinP.uniq {E:Int->Int->Prop} {x v w:Int} (h:MinP E x v) (h':MinP E x w):v=w:=Int.le_antisymm (h.le w h'.scc) (h'.le v h.scc)
def BI (n:Nat) (rows:List (List Int)):List Int:=(List.range n).map fun (a:Nat)=>q7f ((KW 0 (ZF rows [(a:Int)])).filter fun b=>(KW 0 (ZF rows [b])).contains (a:Int))
theorem z3q {n:Nat} {rows:List (List Int)} (hr:XJ n rows) {x y:Int} (hx:0<=x):Rch (rowE rows) x y↔Rch (q7v rows) x y:=by
 refine ⟨fun h=>h.mono fun _ _ h=>h.2,fun h => ?_⟩;exact (h.closed (S:=fun y:Int=>0<=y∧Rch (rowE rows) x y) (fun a b ⟨h1,h2⟩ h3=>⟨(KT hr h3).1,.tail h2 ⟨h1,h3⟩⟩) ⟨hx,.refl⟩).2
theorem x5f {n:Nat} {rows:List (List Int)} (hr:XJ n rows) {x y:Int} (hx:0<=x∧x<n) (h:Rch (rowE rows) x y):0<=y∧y<n :=
 h.closed (S:=fun y:Int=>0<=y∧y<n) (fun _ _ _ h=>KT hr h.2) hx
theorem x2q {n:Nat} {rows:List (List Int)} (hr:XJ n rows) {x:Int} (hx:0<=x∧x<n) (y:Int):y∈KW 0 (ZF rows [x])↔Rch (rowE rows) x y:=by
 rw [q8b hr,z3q hr hx.1];constructor
 ·rintro ⟨a,ha,_,h⟩;rw [List.mem_singleton.1 ha] at h;exact h
 ·intro h;exact ⟨x,by simp,q6s hx,h⟩
theorem KA (n:Nat) (rows:List (List Int)):(BI n rows).length=n:=by simp [BI]
theorem BN {n:Nat} {rows:List (List Int)} (hr:XJ n rows) {x:Int} (hx:0<=x∧x<n):MinP (rowE rows) x ((BI n rows).getD x.toNat 0):=by
 have e:(BI n rows).getD x.toNat 0=q7f ((KW 0 (ZF rows [x])).filter fun b=>(KW 0 (ZF rows [b])).contains x):=by
  unfold BI;rw [getD_eq_getElem?_getD,List.getElem?_map,List.getElem?_range (by omega)];have:((x.toNat:Nat):Int)=x:=by omega
  simp [this]
 have hm : ∀ y,y∈(KW 0 (ZF rows [x])).filter (fun b=>(KW 0 (ZF rows [b])).contains x)↔sccP (rowE rows) x y:=fun y=>by
  rw [List.mem_filter,x2q hr hx,List.contains_iff_mem];constructor
  ·rintro ⟨h1,h2⟩;exact ⟨h1,(x2q hr (x5f hr hx h1) x).1 h2⟩
  ·rintro ⟨h1,h2⟩;exact ⟨h1,(x2q hr (x5f hr hx h1) x).2 h2⟩
 rw [e];obtain ⟨h1,h2⟩:=q9t (l:=(KW 0 (ZF rows [x])).filter fun b=>(KW 0 (ZF rows [b])).contains x) (List.length_pos_of_mem ((hm x).2 (sccP.refl x)));exact ⟨(hm _).1 h1,fun y hy=>h2 y ((hm y).2 hy)⟩
structure PartI (n:Nat) (E:Int->Int->Prop) (es:List Int) (m:Nat) (part:List Int) (seen:List Bool):Prop where
 sl:seen.length=n
 pl:part.length=n
 seen : ∀ x:Int,0<=x∧x<n->(seen.getD x.toNat false=true↔SeenP E es m x)
 min : ∀ x:Int,0<=x∧x<n->SeenP E es m x->MinP E x (part.getD x.toNat 0)
theorem PartI.start {n:Nat} {E:Int->Int->Prop} {es:List Int}:PartI n E es es.length (List.replicate n 0) (List.replicate n false):=by
 have hno : ∀ x,¬SeenP E es es.length x:=fun x ⟨j,y,h1,h2,_⟩=>by
  have:=(List.getElem?_eq_some_iff.1 h2).1;omega
 refine ⟨by simp,by simp,fun x _ => ?_,fun x _ hx=>absurd hx (hno x)⟩;rw [getD_eq_getElem?_getD,List.getElem?_replicate];have:=hno x;split<;>simp [this]
def WG (l:List Int) (v:Int) (part:List Int):List Int:=l.foldl (fun p a=>p.set a.toNat v) part
theorem HR (v:Int) : ∀ (l part:List Int),(WG l v part).length=part.length
 | [],_=>rfl
 | a::r,part=>by
   show (WG r v (part.set a.toNat v)).length=_;rw [HR v r];simp
theorem q0l {n:Nat} (v:Int) {x:Int} (hx:0<=x∧x<n) : ∀ (l:List Int) {part:List Int},part.length=n->(∀ a∈l,0<=a∧a<n)->(x∈l->(WG l v part).getD x.toNat 0=v)∧(x∉l->(WG l v part).getD x.toNat 0=part.getD x.toNat 0)
 | [],_,_,_=>⟨by simp,fun _=>rfl⟩
 | a::r,part,hl,ha=>by
   have ha0:=ha a mem_cons_self;have e:WG (a::r) v part=WG r v (part.set a.toNat v):=rfl;obtain ⟨h1,h2⟩:=q0l v hx r (part:=part.set a.toNat v) (by simpa using hl) fun b hb=>ha b (mem_cons_of_mem _ hb);have hg:(part.set a.toNat v).getD x.toNat 0=if a.toNat=x.toNat then v else part.getD x.toNat 0:=ZV (by omega);rw [e];by_cases hxr:x∈r
   ·exact ⟨fun _=>h1 hxr,fun h=>absurd (mem_cons_of_mem _ hxr) h⟩
   ·rw [h2 hxr,hg];constructor
    ·intro h;rcases List.mem_cons.1 h with rfl|h
     ·rw [if_pos rfl]
     ·exact absurd h hxr
    ·intro h;have:x≠a:=fun h'=>h (by rw [h'];exact mem_cons_self);rw [if_neg (by omega)]
theorem PartI.part {n:Nat} {g:List (List Int)×List (List Int)} (hg:XJ n g.1) (hg2:XJ n g.2) (hm : ∀ x y,rowE g.2 x y↔rowE g.1 y x) {es:List Int} (he:EndsP n (rowE g.1) es) {m:Nat} {part:List Int} {seen:List Bool} (h:PartI n (rowE g.1) es (m+1) part seen) {r:Int} (hr:es[m]? = some r) (hu:seen.getD r.toNat false=false) :
  (∀ x∈(XS g.2 (n+1) 0 (seen.set r.toNat true,[r])).2,0<=x∧x<n)∧0<(XS g.2 (n+1) 0 (seen.set r.toNat true,[r])).2.length∧wkInv n (seen.set r.toNat true,[r]) ∧
  PartI n (rowE g.1) es m (WG (XS g.2 (n+1) 0 (seen.set r.toNat true,[r])).2 (q7f (XS g.2 (n+1) 0 (seen.set r.toNat true,[r])).2) part) (XS g.2 (n+1) 0 (seen.set r.toNat true,[r])).1:=by
 have hrr:=(he.mem r).1 (List.mem_of_getElem? hr);have hsl:=h.sl;have hns : ¬SeenP (rowE g.1) es (m+1) r:=fun hs=>by rw [(h.seen r hrr).2 hs] at hu;cases hu
 obtain ⟨h1,h2⟩:=z1z hg2 h.sl hrr hu;have hin : ∀ x y,rowE g.1 x y->(0<=x∧x<n)∧0<=y∧y<n:=fun x y hxy=>⟨KT hg2 ((hm y x).2 hxy).2,KT hg hxy.2⟩;have hback:=x9z hin he hr hns;have hrel : ∀ x,Rch (fun a b=>q7v g.2 a b∧seen.getD b.toNat false=false) r x↔Rch (fun a b=>rowE g.1 b a ∧ ¬SeenP (rowE g.1) es (m+1) b) r x:=fun x=>by
  constructor
  ·intro hx;exact (hx.closed (S:=fun x:Int=>(0<=x∧x<n)∧Rch (fun a b=>rowE g.1 b a ∧ ¬SeenP (rowE g.1) es (m+1) b) r x) (fun a b ⟨h3,h4⟩ ⟨h5,h6⟩=>by
    have hb:=KT hg2 h5;refine ⟨hb,.tail h4 ⟨(hm a b).1 ⟨h3.1,h5⟩,fun hs => ?_⟩⟩;rw [(h.seen b hb).2 hs] at h6;cases h6) ⟨hrr,.refl⟩).2
  ·intro hx;refine hx.mono fun a b ⟨h3,h4⟩=>⟨((hm a b).2 h3).2,?_⟩;have hb:=(hin b a h3).1;cases hq:seen.getD b.toNat false with
   | true=>exact absurd ((h.seen b hb).1 hq) h4
   | false=>rfl
 have hmem : ∀ x,x∈(XS g.2 (n+1) 0 (seen.set r.toNat true,[r])).2↔sccP (rowE g.1) r x:=fun x=>by rw [h1,hrel,hback]
 have hrng : ∀ x∈(XS g.2 (n+1) 0 (seen.set r.toNat true,[r])).2,0<=x∧x<n:=fun x hx=>x5f hg hrr ((hmem x).1 hx).1;have hpos:0<(XS g.2 (n+1) 0 (seen.set r.toNat true,[r])).2.length:=List.length_pos_of_mem ((hmem r).2 (sccP.refl r));have hwk:wkInv n (seen.set r.toNat true,[r]):=by
  refine ⟨by simpa using h.sl,?_,fun x hx=>by rw [List.mem_singleton.1 hx];exact hrr⟩;have hlt:r.toNat<(seen.set r.toNat true).length:=by simp;omega
  show 1<=_;exact List.count_pos_iff.2 (List.mem_iff_getElem.2 ⟨r.toNat,hlt,by simp⟩)
 have hwl:(XS g.2 (n+1) 0 (seen.set r.toNat true,[r])).1.length=n:=(KU hg2 _ _ hwk).1;generalize XS g.2 (n+1) 0 (seen.set r.toNat true,[r])=w at hmem hrng hpos hwl h2 ⊢;obtain ⟨h7,h8⟩:=q9t hpos;refine ⟨hrng,hpos,hwk,hwl,by rw [HR];exact h.pl,fun x hx => ?_,fun x hx hs => ?_⟩
 ·rw [h2 x hx,hmem,h.seen x hx,x0y hr]
 ·obtain ⟨h3,h4⟩:=q0l (q7f w.2) hx w.2 h.pl hrng;by_cases hxw:x∈w.2
  ·rw [h3 hxw];have hsx:=(hmem x).1 hxw;exact ⟨hsx.symm.trans ((hmem _).1 h7),fun y hy=>h8 y ((hmem y).2 (hsx.trans hy))⟩
  ·rw [h4 hxw];refine h.min x hx ?_;rcases (x0y hr x).1 hs with h5|h5
   ·exact h5
   ·exact absurd ((hmem x).2 h5) hxw
theorem PartI.fin {n:Nat} {rows:List (List Int)} (hr:XJ n rows) {es:List Int} (he:EndsP n (rowE rows) es) {part:List Int} {seen:List Bool} (h:PartI n (rowE rows) es 0 part seen):part=BI n rows:=by
 refine List.ext_getElem? fun i => ?_;rcases Nat.lt_or_ge i n with hi|hi
 ·have hx:0<=(i:Int)∧(i:Int)<n:=by omega
  have h1:=h.min i hx (z2o he hx);have h2:=BN hr hx;have h3:=h1.uniq h2;have hp1:i<part.length:=by rw [h.pl];exact hi
  have hp2:i<(BI n rows).length:=by rw [KA];exact hi
  simpa [getD_eq_getElem?_getD,hp1,hp2] using h3
 ·rw [List.getElem?_eq_none (by rw [h.pl];exact hi),List.getElem?_eq_none (by rw [KA];exact hi)]
theorem PI (n:Nat) (hn:n<=5000) (g:List (List Int)×List (List Int)) (hg:XJ n g.1) (hg2:XJ n g.2) (hgm : ∀ x y,rowE g.2 x y↔rowE g.1 y x):SpecP Tryz.prog 172 [YL g] (fun r=>r=QO (BI n g.1)):=by
 refine sB FQ Tryz.func172 rfl Tryz.call172 ?_;conv=>whnf
 have hl:((avI g.1).map AV.sl).length=n:=by simp [avI,hg.1]
 repeat' ((first|(refine iM fun _=>?_)|refine aR ?_|refine wI ?_|refine MkK.mk n (by rw [hl]) (by show 1*n<=140737488355328;omega) (by unfold maxLen;omega) ?_|refine MkK.mk n (by rw [hl]) (by show 8*n<=140737488355328;omega) (by unfold maxLen;omega) ?_|(refine CallK.pure (MV n hn g hg) (.cons (Sub.refl _) .nil) ?_;rintro _ ⟨es,rfl,he⟩));conv=>whnf)
 have hesl:es.length<=n:=by
  have h1:=he.nd;exact q6y h1 fun x hx=>(he.mem x).1 hx
 have hml:(es.map (AV.int .i64)).length=es.length:=length_map _;refine LoopK.inv QU (fun x:Nat×List Int×List Bool=>⟨[(0,.p (YL g)),(3,.hd 0 0 n),(4,.hd 1 0 n),(5,.p (QO es)),(6,.p (.int .i64 ((x.1:Int)-1)))],[(0,.own 3 1 (x.2.1.map (.int .i64))),(1,.own 4 1 (x.2.2.map bv))]⟩)
  (fun x=>x.1<=es.length∧PartI n (rowE g.1) es x.1 x.2.1 x.2.2) (fun x=>x.1) (es.length,List.replicate n 0,List.replicate n false)
  (Le.mk [] (by simp) (by simp) (by simp) (.cons (.refl _) (.cons (.of_eq rfl) (.cons (.of_eq rfl) (.cons (.refl _) (.cons (.of_eq (by rw [hml];rfl)) .nil)))))
    (.cons rfl (.of_eq (by rw [List.map_replicate];rfl)) (.cons rfl (.of_eq (by rw [List.map_replicate];rfl)) .nil)))
  ⟨Nat.le_refl _,PartI.start⟩ ?_
 rintro ⟨m,part,seen⟩ ⟨h1,h2⟩;simp only at h1 h2 ⊢;have hsl:=h2.sl;have hpl:=h2.pl;cases m with
 | zero =>
   conv=>whnf
   repeat' (apply bD<;>intro _<;>first|omega|conv=>whnf)
   exact ⟨_,.hd rfl (by simp [hpl]),by rw [h2.fin hg he];rfl⟩
 | succ m =>
   obtain ⟨r,hr⟩ : ∃ r,es[m]? = some r:=⟨_,List.getElem?_eq_getElem (by omega)⟩;have hrr:=(he.mem r).1 (List.mem_of_getElem? hr);have hre:es[m]=r:=by rw [List.getElem?_eq_getElem (by omega)] at hr;exact Option.some.inj hr
   have hra:(es.map (AV.int .i64))[m]? = some (.int .i64 r):=by rw [List.getElem?_map,hr];rfl
   have e1:=z9n (l:=seen) (i:=r.toNat) (by omega);cases hq:seen.getD r.toNat false with
   | true =>
     rw [hq] at e1;have hsk:=x8k hr ((h2.seen r hrr).1 hq);conv=>whnf
     repeat' (first|((first|refine And.intro rfl ?_|refine wI ?_|(refine IdxK.at (k:=m) (by omega) hra rfl ?_)|refine IdxL.mk r.toNat (by omega) (by omega) ?_|refine LdOwn.mk r.toNat 0 .tt (by omega) e1 ?_);conv=>whnf)|(apply bD<;>intro _<;>first|omega|conv=>whnf))
     exact ⟨(m,part,seen),⟨by simp only;omega,h2.sl,h2.pl,fun x hx=>by rw [h2.seen x hx,hsk],fun x hx hs=>h2.min x hx ((hsk x).1 hs)⟩,Nat.lt_succ_self m,Le.of_eq (by rw [show ((m+1:Nat):Int)-1-1=(m:Int)-1 by omega])⟩
   | false =>
     rw [hq] at e1;obtain ⟨h3,h4,h5,h6⟩:=h2.part hg hg2 hgm he hr hq;conv=>whnf
     repeat' (first|((first|refine dA ?_|refine And.intro rfl ?_|refine aD ?_|(refine IdxK.at (k:=m) (by omega) hra rfl ?_)|refine IdxL.mk r.toNat (by omega) (by omega) ?_|refine LdOwn.mk r.toNat 0 .ff (by omega) e1 ?_|refine StOwn.mk r.toNat 0 .ff .tt (by omega) e1 (Nat.le_refl 1) rfl ?_|refine BsK.own (fun x hx=>by rcases List.mem_singleton.1 hx with rfl;rfl) rfl ?_);conv=>whnf)|(apply bD<;>intro _<;>first|omega|conv=>whnf))
     have hwl:(XS g.2 (n+1) 0 (seen.set r.toNat true,[r])).1.length=n:=h6.sl;rw [show (seen.map bv).set r.toNat AV.tt=(seen.set r.toNat true).map bv by rw [List.map_set];rfl];refine CallK.heap [(1000,1),(2000,2)] 0 (ArgsH.cons (LSub.refl _) (ArgsH.cons (LSub.refl _) (ArgsH.cons (LSub.refl _) ArgsH.nil))) (by refine BlksH.cons (j:=1) rfl rfl ?_ ?_;exact CSub.refl _;refine BlksH.cons (j:=2) rfl rfl ?_ ?_;exact CSub.refl _;exact BlksH.nil) (q4x n hn g.2 hg2 (seen.set r.toNat true,[r]) h5) rfl rfl ?_;rintro l' H' ⟨rfl,rfl⟩;conv=>whnf
     have hwn:(XS g.2 (n+1) 0 (seen.set r.toNat true,[r])).2.length<=n:=KG (KU hg2 _ _ h5);generalize XS g.2 (n+1) 0 (seen.set r.toNat true,[r])=w at h3 h4 h6 hwl hwn ⊢;repeat' ((first|(refine iM fun _=>?_)|(refine XK (HW w.2 h4) (.cons (.hd rfl (by simp)) .nil) (by rintro _ rfl;rfl) ?_;rintro _ rfl));conv=>whnf)
     refine LoopK.inv QU (fun x:Nat=>⟨[(0,.p (YL g)),(3,.hd 0 0 n),(4,.hd 1 0 n),(5,.p (QO es)),(6,.p (.int .i64 (((m+1:Nat):Int)-1))),(8,.p (.int .i64 (q7f w.2))),(60,.hd 2 0 w.2.length),(61,.p (.int .i64 w.2.length)),(62,.p (.int .i64 x))],[(1,.own 4 1 (w.1.map bv)),(2,.own 3 1 (w.2.map (.int .i64))),(0,.own 3 1 ((WG (w.2.take x) (q7f w.2) part).map (.int .i64)))]⟩)
      (fun x=>x<=w.2.length) (fun x=>w.2.length-x) 0 (Le.of_eq rfl) (zero_le _) ?_
     intro q hqw;rcases Nat.lt_or_ge q w.2.length with hq2|hq2
     ·have hwr:=h3 _ (List.getElem_mem hq2);have e4:=q8r (l:=WG (w.2.take q) (q7f w.2) part) (i:=w.2[q].toNat) (by rw [HR];omega);have e5:WG (w.2.take (q+1)) (q7f w.2) part=(WG (w.2.take q) (q7f w.2) part).set w.2[q].toNat (q7f w.2):=by
       unfold WG;rw [List.take_succ_eq_append_getElem hq2,List.foldl_append];rfl
      generalize WG (w.2.take q) (q7f w.2) part=pt at e4 e5 ⊢;conv=>whnf
      repeat' (first|((first|refine And.intro rfl ?_|refine wI ?_|refine IdxL.mk q (by omega) (by omega) ?_|refine LdOwn.mk q 0 (.int .i64 w.2[q]) (by omega) (by simp [hq2]) ?_|refine IdxL.mk w.2[q].toNat (by omega) (by omega) ?_|refine StOwn.mk w.2[q].toNat 0 (.int .i64 (pt.getD w.2[q].toNat 0)) (.int .i64 (q7f w.2)) (by omega) e4 (Nat.le_refl 1) rfl ?_);conv=>whnf)|(apply bD<;>intro _<;>first|omega|conv=>whnf))
      exact ⟨q+1,hq2,by omega,Le.of_eq (by rw [e5,List.map_set];rfl)⟩
     ·rw [List.take_of_length_le hq2];conv=>whnf
      repeat' (first|(refine wI ?_;conv=>whnf)|(apply bD<;>intro _<;>first|omega|conv=>whnf))
      exact ⟨(m,WG w.2 (q7f w.2) part,w.1),⟨by simp only;omega,h6⟩,Nat.lt_succ_self m,Le.mk [] (by simp) (by simp) (by simp) (.cons (.refl _) (.cons (.refl _) (.cons (.refl _) (.cons (.refl _) (.cons (.of_eq (by rw [show (m:Int)=((m+1:Nat):Int)-1 by omega];rfl)) .nil))))) (.cons rfl (.refl _) (.cons rfl (.refl _) .nil))⟩
theorem OpK.frz {P:Program} {T:Tab} {N:Nat} {o:Oper} {K:St->Prop} {s:St} (hT:TabOK P T) (gs:List (List Nat)) (h:w1p gs s fun s'=>opW P T N s' o K):OpK P N s o K:=⟨fun σ β a w hr Q=>by
 obtain ⟨s1,h1,hle⟩:=q0a (N:=N) h;obtain ⟨σ1,β1,hr1,hl1⟩:=hle σ β a w hr;exact Oper.wp_mono (fun a' w' ⟨σ',β',s2,hK,hr',hl⟩=>⟨σ',β',s2,hK,hr',hl1.trans hl⟩) (q1v hT h1 hr1 Q)⟩
theorem x4s {N:List (List Int)} {a:Nat} (ha:a<N.length) {b y:Int} {k:Nat}:y∈(q4u N a b).getD k []↔y∈N.getD k []∨(a=k∧y=b):=by
 unfold q4u;rw [ZV ha];split
 ·rename_i h;rw [x4b,h];simp
 ·rename_i h;simp [h]
theorem z1o {n:Nat} {g:List (List Int)×List (List Int)} (hl:g.2.length=n) (e:Int×Int):(q7d n g e).2.length=n:=by
 rw [q3d];cases (ZU n e.1&&ZU n e.2 && !(g.1.getD e.1.toNat []).contains e.2) with
 | true=>rw [cond_true];unfold q4u;rw [length_set];exact hl
 | false=>exact hl
structure MirG (n:Nat) (g:List (List Int)×List (List Int)):Prop where
 l1:g.1.length=n
 l2:g.2.length=n
 m : ∀ x y:Int,0<=x∧x<n->0<=y∧y<n->(y∈g.1.getD x.toNat []↔x∈g.2.getD y.toNat [])
theorem MirG.add {n:Nat} {g:List (List Int)×List (List Int)} (h:MirG n g) (e:Int×Int):MirG n (q7d n g e):=by
 refine ⟨x3y h.l1 e,z1o h.l2 e,fun x y hx hy => ?_⟩;rw [q0x,q3d];cases hc:(ZU n e.1&&ZU n e.2 && !(g.1.getD e.1.toNat []).contains e.2) with
 | true =>
   simp only [Bool.and_eq_true] at hc;have h1:=XL hc.1.1;have h2:=XL hc.1.2;rw [cond_true,cond_true,x4s (by rw [h.l1];omega),x4s (by rw [h.l2];omega),h.m x y hx hy];constructor
   ·rintro (h3|⟨h3,h4⟩)
    ·exact .inl h3
    ·exact .inr ⟨by omega,by omega⟩
   ·rintro (h3|⟨h3,h4⟩)
    ·exact .inl h3
    ·exact .inr ⟨by omega,by omega⟩
 | false=>exact h.m x y hx hy
theorem MirG.fold {n:Nat} : ∀ (l:List (Int×Int)) {g:List (List Int)×List (List Int)},MirG n g->MirG n (l.foldl (q7d n) g)
 | [],_,h=>h
 | e::r,_,h=>MirG.fold r (h.add e)
theorem q9p (n:Nat) (l:List (Int×Int)):MirG n (QI n l):=by
 refine MirG.fold l ⟨by simp,by simp,fun x y _ _ => ?_⟩;have : ∀ k,(List.replicate n ([]:List Int)).getD k []=[]:=fun k=>by
  rw [getD_eq_getElem?_getD,List.getElem?_replicate];split<;>rfl
 simp only [this];simp
theorem x2f {n:Nat} {rows:List (List Int)} (hl:rows.length=n) {x y:Int} (h:rowE rows x y):0<=x∧x<n:=by
 refine ⟨h.1,?_⟩;have h2:=h.2;unfold q7v at h2;rcases Nat.lt_or_ge x.toNat rows.length with h3|h3
 ·omega
 ·rw [getD_eq_getElem?_getD,List.getElem?_eq_none h3] at h2;simp at h2
theorem x6p (n:Nat) (l:List (Int×Int)) (x y:Int):rowE (QI n l).2 x y↔rowE (QI n l).1 y x:=by
 obtain ⟨h1,h2⟩:=YO n l;have hm:=q9p n l;constructor
 ·intro h;have hx:=x2f hm.l2 h;have hy:=KT h2 h.2;exact ⟨hy.1,(hm.m y x hy hx).2 h.2⟩
 ·intro h;have hx:=x2f hm.l1 h;have hy:=KT h1 h.2;exact ⟨hy.1,(hm.m y x hx hy).1 h.2⟩
theorem x6g {n:Nat} {l:List (Int×Int)} {x y:Int}:rowE (QI n l).1 x y↔(x,y)∈l∧ZU n x=true∧ZU n y=true:=by
 constructor
 ·intro h;have hx:=x2f (q9p n l).l1 h;have:=(GZ hx).1 h.2;exact ⟨this.1,q6s hx,this.2⟩
 ·rintro ⟨h1,h2,h3⟩;have hx:=XL h2;exact ⟨hx.1,(GZ hx).2 ⟨h1,h3⟩⟩
def BM (part:List Int) (o:List Bool) (t:Int×Int):List Bool:=if part.getD t.1.toNat 0=part.getD t.2.toNat 0 then o else o.set (part.getD t.1.toNat 0).toNat true
def q2b (n:Nat) (part:List Int):List Bool:=((List.replicate n false).set (part.getD 0 0).toNat true).set (part.getD (n-1) 0).toNat true
def MF (n:Nat) (part:List Int) (prs:List (Int×Int)):List Bool:=prs.foldl (BM part) (q2b n part)
def YA (plc:Int->Int) (part:List Int) (i q:Nat):List Int:=((List.range q).filter fun j=>part.getD j 0==(i:Int)).map fun (j:Nat)=>plc j
def FM (part:List Int) (op:List Bool) (i:Nat):Bool:=part.getD i 0==(i:Int) && !op.getD i false
def DE (plc:Int->Int) (part:List Int) (op:List Bool) (q:Nat):List (List Int):=((List.range q).filter (FM part op)).map fun i=>YA plc part i part.length
def prsW (w:Way) (f:Pr):List (Int×Int):=w.real.map (ixP w.p w.j f w.n)
def ZG (w:Way) (f:Pr):List Int:=BI w.n.toNat (QI w.n.toNat (prsW w f)).1
def trapsW (w:Way) (f:Pr):List (List Int):=DE (XH w.p w.j w.n) (ZG w f) (MF w.n.toNat (ZG w f) (prsW w f)) (ZG w f).length
theorem q9q (part:List Int) (o:List Bool) (t:Int×Int):(BM part o t).length=o.length:=by
 unfold BM;split<;>simp
theorem x4q {n:Nat} {rows:List (List Int)} (hr:XJ n rows) {k:Nat} (hk:k<n):0<=(BI n rows).getD k 0∧(BI n rows).getD k 0<n:=by
 have hx:0<=(k:Int)∧(k:Int)<n:=by omega
 have:=BN hr hx;exact x5f hr hx this.scc.1
theorem x6q (plc:Int->Int) (part:List Int) (i q:Nat):YA plc part i (q+1)=if part.getD q 0=(i:Int) then YA plc part i q++[plc q] else YA plc part i q:=by
 unfold YA;rw [List.range_succ,List.filter_append,List.map_append];by_cases h:part.getD q 0=(i:Int)
 ·rw [if_pos h,List.filter_cons_of_pos (by rw [h];simp)];rfl
 ·rw [if_neg h,List.filter_cons_of_neg (by simpa using h)];simp
theorem x6u (plc:Int->Int) (part:List Int) (op:List Bool) (q:Nat):DE plc part op (q+1)=if FM part op q=true then DE plc part op q++[YA plc part q part.length] else DE plc part op q:=by
 unfold DE;rw [List.range_succ,List.filter_append,List.map_append];by_cases h:FM part op q=true
 ·rw [if_pos h,List.filter_cons_of_pos h];rfl
 ·rw [if_neg h,List.filter_cons_of_neg h];simp
theorem q9v (plc:Int->Int) (part:List Int) (i q:Nat):(YA plc part i q).length<=q:=by
 unfold YA;rw [length_map];exact Nat.le_trans (List.length_filter_le _ _) (by simp)
theorem q8e (plc:Int->Int) (part:List Int) (op:List Bool) (q:Nat):(DE plc part op q).length<=q:=by
 unfold DE;rw [length_map];exact Nat.le_trans (List.length_filter_le _ _) (by simp)
theorem q9x (part:List Int) : ∀ (l:List (Int×Int)) (o:List Bool),(l.foldl (BM part) o).length=o.length
 | [],_=>rfl
 | t::r,o=>by rw [foldl_cons,q9x part r,q9q]
theorem z1r (n:Nat) (part:List Int) (l:List (Int×Int)):(l.foldl (BM part) (q2b n part)).length=n:=by
 rw [q9x];simp [q2b]
theorem DL (w:Way) (f:Pr) (n:Nat) (hw:w.n=n) (hj:w.p.procs[w.j]? = some f) (hc:cntP w.p.procs<=1000) (hn:n<=5000) (hn2:2<=n) (hlen:w.real.length<=1000000) (hr : ∀ t∈prsW w f,(0<=t.1∧t.1<n)∧0<=t.2∧t.2<n):SpecP Tryz.prog 113 [.ip w.cells] (fun r=>r=x2u (trapsW w f)):=by
 refine sB LE Tryz.func113 rfl Tryz.call113 ?_;conv=>whnf
 have hgi:=YO n (prsW w f);have hpart:ZG w f=BI n (QI n (prsW w f)).1:=by unfold ZG;rw [hw];rfl
 have htr:trapsW w f=DE (XH w.p w.j w.n) (ZG w f) (MF n (ZG w f) (prsW w f)) n:=by unfold trapsW;rw [hpart,KA,hw];rfl
 have hpin : ∀ k,k<n->0<=(ZG w f).getD k 0∧(ZG w f).getD k 0<n:=fun k hk=>by rw [hpart];exact x4q hgi.1 hk
 have hpl:(ZG w f).length=n:=by rw [hpart,KA]
 have hcp:=PI n hn (QI n (prsW w f)) hgi.1 hgi.2 (x6p n (prsW w f));rw [<- hpart] at hcp;rw [htr];clear htr hpart hgi;generalize ZG w f=part at hpin hpl hcp ⊢;have ha0:=hpin 0 (by omega);have ha1:=hpin (n-1) (by omega);have hp0:=q8r (l:=part) (i:=0) (by omega);have hp1:=q8r (l:=part) (i:=n-1) (by omega);have e0:(List.replicate n AV.ff)[(part.getD 0 0).toNat]? = some .ff:=by rw [List.getElem?_replicate,if_pos (by omega)]
 have e1:((List.replicate n AV.ff).set (part.getD 0 0).toNat .tt)[(part.getD (n-1) 0).toNat]? = some (bv (((List.replicate n false).set (part.getD 0 0).toNat true).getD (part.getD (n-1) 0).toNat false)):=by
  have:(List.replicate n AV.ff).set (part.getD 0 0).toNat .tt=((List.replicate n false).set (part.getD 0 0).toNat true).map bv:=by
   rw [List.map_set,List.map_replicate];rfl
  rw [this];exact z9n (by rw [length_set,List.length_replicate];omega)
 have hplm:(part.map (AV.int .i64)).length=n:=by rw [length_map,hpl]
 repeat' ((first|(refine iM fun _=>?_)|refine dA ?_|refine And.intro rfl ?_|refine aR ?_|refine wI ?_|refine cP (q5c w f n hw hj hc hn w.real hlen) ?_|refine cP hcp ?_|refine MkK.mk n hw (by show 1*n<=140737488355328;omega) (by unfold maxLen;omega) ?_|(refine IdxK.at (k:=0) rfl hp0 rfl ?_)|(refine IdxK.at (k:=n-1) (by omega) hp1 rfl ?_)|refine IdxL.mk (part.getD 0 0).toNat (by omega) (by omega) ?_|refine IdxL.mk (part.getD (n-1) 0).toNat (by omega) (by omega) ?_|refine StOwn.mk (part.getD 0 0).toNat 0 .ff .tt (show (0+(part.getD 0 0).toNat)*1=(part.getD 0 0).toNat*1+0 by omega) e0 (Nat.le_refl 1) rfl ?_|(refine CallK.pure (DW w f hj hc (by omega) w.real hlen) (.cons (Sub.refl _) (.cons (Sub.refl _) .nil)) ?_;rintro _ rfl)|(refine StOwn.mk (part.getD (n-1) 0).toNat 0 _ .tt (show (0+(part.getD (n-1) 0).toNat)*1=(part.getD (n-1) 0).toNat*1+0 by omega) e1 (Nat.le_refl 1) (by cases ((List.replicate n false).set (part.getD 0 0).toNat true).getD (part.getD (n-1) 0).toNat false<;>rfl) ?_));conv=>whnf)
 have hprl:(prsW w f).length<=1000000:=by unfold prsW;rw [length_map];exact hlen
 have hpl2:(avP (prsW w f)).length=(prsW w f).length:=by simp [avP]
 refine LoopK.inv QU (fun x:Nat×List Bool=>⟨[(0,.p (.ip w.cells)),(3,.p (QO part)),(4,.hd 0 0 n),(43,.p (.sl (avP (prsW w f)))),(44,.p (.int .i64 (avP (prsW w f)).length)),(45,.p (.int .i64 x.1))],[(0,.own 4 1 (x.2.map bv))]⟩)
  (fun x=>x.1<=(prsW w f).length∧x.2=((prsW w f).take x.1).foldl (BM part) (q2b n part)) (fun x=>(prsW w f).length-x.1) (0,q2b n part)
  (Le.mk [] (by simp) (by simp) (by simp) (.cons (.refl _) (.cons (.refl _) (.cons (.refl _) (.cons (.refl _) (.cons (.refl _) (.cons (.refl _) .nil)))))) (.cons rfl (.of_eq (by unfold q2b;rw [List.map_set,List.map_set,List.map_replicate];rfl)) .nil))
  ⟨zero_le _,rfl⟩ ?_
 rintro ⟨m,o⟩ ⟨h1,h2⟩;simp only at h1 h2 ⊢;have hol:o.length=n:=by rw [h2];exact z1r n part _
 rcases Nat.lt_or_ge m (prsW w f).length with hm|hm
 ·obtain ⟨⟨h3,h4⟩,h5,h6⟩:=hr _ (List.getElem_mem hm);have h7:=hpin (prsW w f)[m].1.toNat (by omega);have h8:=hpin (prsW w f)[m].2.toNat (by omega);have e2:=q8r (l:=part) (i:=(prsW w f)[m].1.toNat) (by omega);have e3:=q8r (l:=part) (i:=(prsW w f)[m].2.toNat) (by omega);have e4:=z9n (l:=o) (i:=(part.getD (prsW w f)[m].1.toNat 0).toNat) (by omega);have hme:(avP (prsW w f))[m]? = some (.agg [.int .i64 (prsW w f)[m].1,.int .i64 (prsW w f)[m].2]):=by simp [avP,hm]
  have e5:((prsW w f).take (m+1)).foldl (BM part) (q2b n part)=BM part o (prsW w f)[m]:=by rw [List.take_succ_eq_append_getElem hm,List.foldl_append,<- h2];rfl
  conv=>whnf
  repeat' (first|((first|refine dA ?_|refine And.intro rfl ?_|refine wI ?_|(refine IdxK.at (k:=m) rfl hme rfl ?_)|refine IdxL.mk 0 rfl (by decide) ?_|refine IdxL.mk 1 rfl (by decide) ?_|(refine IdxK.at (k:=(prsW w f)[m].1.toNat) (by omega) e2 rfl ?_)|(refine IdxK.at (k:=(prsW w f)[m].2.toNat) (by omega) e3 rfl ?_)|refine IdxL.mk (part.getD (prsW w f)[m].1.toNat 0).toNat (by omega) (by omega) ?_|refine StOwn.mk (part.getD (prsW w f)[m].1.toNat 0).toNat 0 _ .tt (by omega) e4 (Nat.le_refl 1) (by cases o.getD (part.getD (prsW w f)[m].1.toNat 0).toNat false<;>rfl) ?_);conv=>whnf)|(apply bD<;>intro _<;>first|omega|conv=>whnf)|(apply bE<;>intro _<;>first|omega|conv=>whnf))
  all_goals first
   | (have hq:part.getD (prsW w f)[m].1.toNat 0=part.getD (prsW w f)[m].2.toNat 0:=by assumption
      exact ⟨(m+1,o),⟨by simp only;omega,by simp only;rw [e5];unfold BM;rw [if_pos hq]⟩,by simp only;omega,Le.of_eq rfl⟩)
   | (have hq : ¬part.getD (prsW w f)[m].1.toNat 0=part.getD (prsW w f)[m].2.toNat 0:=by assumption
      exact ⟨(m+1,o.set (part.getD (prsW w f)[m].1.toNat 0).toNat true),⟨by simp only;omega,by simp only;rw [e5];unfold BM;rw [if_neg hq]⟩,by simp only;omega,Le.of_eq (by simp only [List.map_set];rfl)⟩)
 ·rw [List.take_of_length_le hm] at h2;have hop:MF n part (prsW w f)=o:=h2.symm;rw [hop];clear hop h2 e0 e1 hp0 hp1 hcp;conv=>whnf
  repeat' (first|(refine iM fun _=>?_;conv=>whnf)|(apply bD<;>intro _<;>first|omega|conv=>whnf))
  refine LoopK.inv QU (fun q:Nat=>⟨[(0,.p (.ip w.cells)),(3,.p (QO part)),(4,.hd 0 0 n),(7,.hd 1 0 (DE (XH w.p w.j w.n) part o q).length),(69,.p (.int .i64 (part.map (AV.int .i64)).length)),(70,.p (.int .i64 q))],[(0,.own 4 1 (o.map bv)),(1,.own 74 1 ((avI (DE (XH w.p w.j w.n) part o q)).map AV.sl))]⟩)
   (fun q=>q<=n) (fun q=>n-q) 0
   (Le.mk [(1,.own 74 1 [])] (by simp [Chunk.new0];rfl) (by simp) (by simp) (.cons (.refl _) (.cons (.refl _) (.cons (.refl _) (.cons (.nil mem_cons_self) (.cons (.refl _) (.cons (.refl _) .nil)))))) (.cons rfl (.refl _) (.new mem_cons_self .nil)))
   (zero_le _) ?_
  intro q hqn;have hLl:=q8e (XH w.p w.j w.n) part o q;rcases Nat.lt_or_ge q n with hq|hq
  ·have e2:=q8r (l:=part) (i:=q) (by omega);have e3:=z9n (l:=o) (i:=q) (by omega);have hsucc:=x6u (XH w.p w.j w.n) part o q;generalize DE (XH w.p w.j w.n) part o q=acc at hLl hsucc ⊢;have hpe:part[q]=part.getD q 0:=by rw [getD_eq_getElem?_getD,List.getElem?_eq_getElem];rfl
   cases hb:o.getD q false with
   | true =>
     rw [hb] at e3;have ht : ¬FM part o q=true:=by unfold FM;rw [hb];simp
     rw [if_neg ht] at hsucc;conv=>whnf
     repeat' (first|((first|refine And.intro rfl ?_|(refine iA fun _=>?_)|refine wI ?_|refine IdxL.mk q rfl (by omega) ?_|refine LdOwn.mk q 0 .tt (by omega) e3 ?_);conv=>whnf)|(apply bD<;>intro _<;>first|omega|conv=>whnf)|(apply bE<;>intro _<;>first|omega|conv=>whnf))
     all_goals exact ⟨q+1,hq,by omega,Le.of_eq (by rw [hsucc];rfl)⟩
   | false =>
     rw [hb] at e3;conv=>whnf
     repeat' (first|((first|(refine iM fun _=>?_)|refine And.intro rfl ?_|(refine iA fun _=>?_)|refine wI ?_|refine IdxL.mk q rfl (by omega) ?_|refine LdOwn.mk q 0 .ff (by omega) e3 ?_);conv=>whnf)|(apply bD<;>intro _<;>first|omega|conv=>whnf)|(apply bE<;>intro _<;>first|omega|conv=>whnf))
     all_goals try
      have hne : ¬part.getD q 0=(q:Int):=by omega
      have ht : ¬FM part o q=true:=fun h=>by
       unfold FM at h;rw [Bool.and_eq_true,beq_iff_eq] at h;exact hne h.1
      rw [if_neg ht] at hsucc;exact ⟨q+1,hq,by omega,Le.of_eq (by rw [hsucc];rfl)⟩
     have hpq:part.getD q 0=(q:Int):=by omega
     have ht:FM part o q=true:=by unfold FM;rw [hb,hpq];simp
     rw [if_pos ht,hpl] at hsucc;refine LoopK.inv QU (fun z:Nat=>⟨[(0,.p (.ip w.cells)),(3,.p (QO part)),(4,.hd 0 0 n),(7,.hd 1 0 acc.length),(8,.p (.int .i64 q)),(9,.hd 2 0 (YA (XH w.p w.j w.n) part q z).length),(69,.p (.int .i64 (part.map (AV.int .i64)).length)),(70,.p (.int .i64 q)),(86,.p (.int .i64 (part.map (AV.int .i64)).length)),(87,.p (.int .i64 z))],[(0,.own 4 1 (o.map bv)),(1,.own 74 1 ((avI acc).map AV.sl)),(2,.own 3 1 ((YA (XH w.p w.j w.n) part q z).map (.int .i64)))]⟩)
      (fun z=>z<=n) (fun z=>n-z) 0
      (Le.mk [(2,.own 3 1 [])] (by simp [Chunk.new0];rfl) (by simp) (by simp) (.cons (.refl _) (.cons (.refl _) (.cons (.refl _) (.cons (.refl _) (.cons (.refl _) (.cons (.nil mem_cons_self) (.cons (.refl _) (.cons (.refl _) (.cons (.refl _) (.cons (.refl _) .nil)))))))))) (.cons rfl (.refl _) (.cons rfl (.refl _) (.new mem_cons_self .nil))))
      (zero_le _) ?_
     intro z hzn;have hRl:=q9v (XH w.p w.j w.n) part q z;rcases Nat.lt_or_ge z n with hz|hz
     ·have e4:=q8r (l:=part) (i:=z) (by omega);have hs2:=x6q (XH w.p w.j w.n) part q z;generalize YA (XH w.p w.j w.n) part q z=l at hRl hs2 ⊢;conv=>whnf
      repeat' (first|((first|refine And.intro rfl ?_|refine aD ?_|refine bP ?_|(refine iA fun _=>?_)|refine wI ?_|(refine CallK.pure (q6a w f hj hc (by omega) z (by omega)) (.cons (Sub.refl _) (.cons (Sub.refl _) .nil)) ?_;rintro _ rfl)|refine WX (by simp) (by simp;omega) ?_);conv=>whnf)|(apply bD<;>intro _<;>first|omega|conv=>whnf))
      have hpz:part[z]=part.getD z 0:=by rw [getD_eq_getElem?_getD,List.getElem?_eq_getElem];rfl
      ·rw [if_pos (by omega)] at hs2;exact ⟨z+1,hz,by omega,Le.of_eq (by rw [hs2,length_append,List.map_append];rfl)⟩
      ·have hpz:part[z]=part.getD z 0:=by rw [getD_eq_getElem?_getD,List.getElem?_eq_getElem];rfl
       rw [if_neg (by omega)] at hs2;exact ⟨z+1,hz,by omega,Le.of_eq (by rw [hs2];rfl)⟩
     ·have hze:z=n:=by omega
      subst hze;conv=>whnf
      repeat' (apply bD<;>intro _<;>first|omega|conv=>whnf)
      have hfl:(YA (XH w.p w.j w.n) part q z).length=((YA (XH w.p w.j w.n) part q z).map (AV.int .i64)).length:=by simp
      refine OpK.frz QU [[9,104]] ?_;conv=>whnf
      refine LenK.mk hfl ?_;conv=>whnf
      refine LenK.mk hfl ?_;conv=>whnf
      repeat' ((first|refine And.intro rfl ?_|refine aD ?_|refine bP ?_|refine wI ?_|refine AppK.mk (by simp [avI]) rfl (by show (acc.length+1)*24<=140737488355328;omega) (by show acc.length+1<=9223372036854775807;omega) (fun x hx=>by rcases List.mem_singleton.1 hx with rfl;exact ⟨rfl,rfl⟩) ?_);conv=>whnf)
      exact ⟨q+1,hq,by omega,Le.of_eq (by rw [hsucc];simp only [avI,length_append,List.map_append];rfl)⟩
  ·have hqe:q=n:=by omega
   subst hqe;conv=>whnf
   repeat' (apply bD<;>intro _<;>first|omega|conv=>whnf)
   exact ⟨_,.hd rfl (by simp [avI]),rfl⟩
def vOf (p:Pg) (id:Int):List Step:=match z4l p id with
 | some s=>if s.kind=10 then [⟨id,-1,3⟩] else []
 | none=>[]
def ZS (w:Way) (f:Pr):List Step:=(trapsW w f).flatMap fun l=>l.flatMap (vOf w.p)
theorem z7h (p:Pg) (id:Int):(vOf p id).length<=1:=by
 unfold vOf;split
 ·split<;>simp
 ·simp
theorem VB {α β:Type} {g:α->List β} {c:Nat} : ∀ (l:List α),(∀ x∈l,(g x).length<=c)->(l.flatMap g).length<=l.length*c
 | [],_=>by simp
 | a::r,h=>by
   have h1:=h a mem_cons_self;have h2:=VB r fun x hx=>h x (mem_cons_of_mem _ hx);rw [List.flatMap_cons,length_append,List.length_cons,Nat.add_mul];omega
theorem q1s (w:Way) (f:Pr) (n:Nat) (hw:w.n=n) (hj:w.p.procs[w.j]? = some f) (hc:cntP w.p.procs<=1000) (hn:n<=5000) (hn2:2<=n) (hlen:w.real.length<=1000000) (hr : ∀ t∈prsW w f,(0<=t.1∧t.1<n)∧0<=t.2∧t.2<n)
  (htl:(trapsW w f).length<=5000) (hti : ∀ l∈trapsW w f,l.length<=5000 ∧ ∀ id∈l,1<=id∧id<=(sheetOf w.p).l.length) :
  SpecH Tryz.prog 256 [.p (.ip w.cells)] [] (fun r H=>r = .hd 0 0 (ZS w f).length∧H=[(0,.own 145 3 (avS (ZS w f)))]):=by
 refine sH BB Tryz.func256 rfl Tryz.call256 ?_;conv=>whnf
 repeat' ((first|(refine iM fun _=>?_)|refine cP (DL w f n hw hj hc hn hn2 hlen hr) ?_);conv=>whnf)
 unfold ZS;generalize trapsW w f=ts at htl hti ⊢;have hml:((avI ts).map AV.sl).length=ts.length:=by simp [avI]
 refine LoopK.inv QU (fun x:Nat×List Step=>⟨[(0,.p (.ip w.cells)),(3,.hd 0 0 x.2.length),(9,.p (x2u ts)),(10,.p (.int .i64 ((avI ts).map AV.sl).length)),(11,.p (.int .i64 x.1))],[(0,.own 145 3 (avS x.2))]⟩)
  (fun x=>x.1<=ts.length∧x.2.length<=x.1*5000∧x.2++(ts.drop x.1).flatMap (fun l=>l.flatMap (vOf w.p))=ts.flatMap fun l=>l.flatMap (vOf w.p)) (fun x=>ts.length-x.1) (0,[])
  (Le.mk [(0,.own 145 3 [])] (by simp [Chunk.new0];rfl) (by simp) (by simp) (.cons (.refl _) (.cons (.nil mem_cons_self) (.cons (.refl _) (.cons (.refl _) (.cons (.refl _) .nil))))) (.new mem_cons_self .nil))
  ⟨zero_le _,by simp,rfl⟩ ?_
 rintro ⟨m,acc⟩ ⟨h1,h2,h3⟩;simp only at h1 h2 h3 ⊢;rcases Nat.lt_or_ge m ts.length with hm|hm;rotate_left 1
 ·rw [drop_eq_nil_of_le hm,List.flatMap_nil,List.append_nil] at h3;conv=>whnf
  repeat' (apply bD<;>intro _<;>first|omega|conv=>whnf)
  exact ⟨_,LSub.refl _,by rw [h3],by rw [h3]⟩
 obtain ⟨hl1,hl2⟩:=hti _ (List.getElem_mem hm);have hrow:((avI ts).map AV.sl)[m]? = some (.sl (ts[m].map (.int .i64))):=by simp [avI,hm]
 rw [VU hm] at h3;conv=>whnf
 repeat' (first|((first|(refine iM fun _=>?_)|(refine iA fun _=>?_));conv=>whnf)|(apply bD<;>intro _<;>first|omega|conv=>whnf))
 have hav:(avI ts)[m]'(by simp [avI];exact hm)=ts[m].map (.int .i64):=by simp [avI]
 rw [hav];generalize ts[m]=l at hl1 hl2 h3 ⊢;have hll:(l.map (AV.int .i64)).length=l.length:=length_map _;generalize htot:(ts.flatMap fun l=>l.flatMap (vOf w.p))=tot at h3 ⊢;refine LoopK.inv QU (fun x:Nat×List Step=>⟨[(0,.p (.ip w.cells)),(3,.hd 0 0 x.2.length),(9,.p (x2u ts)),(10,.p (.int .i64 ((avI ts).map AV.sl).length)),(11,.p (.int .i64 m)),(15,.p (QO l)),(16,.p (.int .i64 (l.map (AV.int .i64)).length)),(17,.p (.int .i64 x.1))],[(0,.own 145 3 (avS x.2))]⟩)
  (fun x=>x.1<=l.length∧x.2.length<=m*5000+x.1∧x.2++((l.drop x.1).flatMap (vOf w.p)++(ts.drop (m+1)).flatMap (fun l=>l.flatMap (vOf w.p)))=tot) (fun x=>l.length-x.1) (0,acc) (Le.of_eq rfl) ⟨zero_le _,by simp only;omega,h3⟩ ?_
 rintro ⟨k,acc2⟩ ⟨h4,h5,h6⟩;simp only at h4 h5 h6 ⊢;rcases Nat.lt_or_ge k l.length with hk|hk;rotate_left 1
 ·rw [drop_eq_nil_of_le hk] at h6;conv=>whnf
  repeat' (first|(refine wI ?_;conv=>whnf)|(apply bD<;>intro _<;>first|omega|conv=>whnf))
  exact ⟨(m+1,acc2),⟨hm,by simp only;omega,by simpa using h6⟩,by simp only;omega,Le.of_eq rfl⟩
 obtain ⟨h7,h8⟩:=hl2 _ (List.getElem_mem hk);obtain ⟨_,_,_,hsl,_⟩:=QJ w.p;have hlt:(l[k]-1).toNat<(sheetOf w.p).l.length:=by omega
 have hu : ∃ u:Item,((sheetOf w.p).l.map fun i=>AV.agg i.cells)[(l[k]-1).toNat]? = some (.agg u.cells)∧z4l w.p l[k]=some u.s:=⟨_,by rw [List.getElem?_map,List.getElem?_eq_getElem hlt];rfl,by unfold z4l;rw [List.getElem?_eq_getElem hlt];rfl⟩;obtain ⟨u,hu1,hu2⟩:=hu;rw [VU hk] at h6;have hv:vOf w.p l[k]=if u.s.kind=10 then [⟨l[k],-1,3⟩] else []:=by unfold vOf;rw [hu2]
 rw [hv] at h6;conv=>whnf
 repeat' (first|((first|refine And.intro rfl ?_|refine aD ?_|refine bP ?_|(refine iA fun _=>?_)|refine wI ?_|(refine IdxK.at (by omega) hu1 rfl ?_)|refine AppK.mk (by simp [avS]) rfl (by show (acc2.length+1)*24<=140737488355328;omega) (by show acc2.length+1<=9223372036854775807;omega) (fun x hx=>by rcases List.mem_singleton.1 hx with rfl;exact ⟨rfl,rfl⟩) ?_);conv=>whnf)|(apply bD<;>intro _<;>first|omega|conv=>whnf))
 ·rw [if_pos (by assumption)] at h6;exact ⟨(k+1,acc2++[⟨l[k],-1,3⟩]),⟨hk,by simp;omega,by simpa using h6⟩,by simp only;omega,Le.of_eq (by simp only [avS,length_append,List.map_append];rfl)⟩
 ·rw [if_neg (by assumption)] at h6;exact ⟨(k+1,acc2),⟨hk,by simp only;omega,by simpa using h6⟩,by simp only;omega,Le.of_eq rfl⟩
def fOf (it:Item):List Step:=if it.s.kind=7∨it.s.kind=8∨it.s.kind=9∨it.s.kind=10 then [⟨it.s.id,it.next,2⟩] else []
structure WayT (w:Way) (f:Pr) (n:Nat):Prop where
 hw:w.n=n
 hj:w.p.procs[w.j]? = some f
 hc:cntP w.p.procs<=1000
 hn:n<=5000
 hn2:2<=n
 hlen:w.real.length<=1000000
 hr : ∀ t∈prsW w f,(0<=t.1∧t.1<n)∧0<=t.2∧t.2<n
 htl:(trapsW w f).length<=5000
 hti : ∀ l∈trapsW w f,l.length<=5000 ∧ ∀ id∈l,1<=id∧id<=(sheetOf w.p).l.length
 hok : ∀ s∈w.real,okSt s
 hfk : ∀ it∈itsOf w.p w.j f,∀ s∈fOf it,okSt s
theorem z9f {p:Pg} {id:Int} {s:Step} (h:s∈vOf p id):s=⟨id,-1,3⟩:=by
 unfold vOf at h;split at h
 ·split at h
  ·simpa using h
  ·simp at h
 ·simp at h
theorem WayT.virt_ok {w:Way} {f:Pr} {n:Nat} (h:WayT w f n) : ∀ s∈ZS w f,okSt s:=fun s hs=>by
 unfold ZS at hs;obtain ⟨l,hl,hs⟩:=List.mem_flatMap.1 hs;obtain ⟨id,hid,hs⟩:=List.mem_flatMap.1 hs;obtain ⟨_,_,_,hsl,_⟩:=QJ w.p;have h1:=(h.hti l hl).2 id hid;have h2:=h.hc;rw [z9f hs];exact ⟨by show id≠_;omega,by show (-1:Int)≠_;decide⟩
theorem WayT.virt_len {w:Way} {f:Pr} {n:Nat} (h:WayT w f n):(ZS w f).length<=25000000:=by
 have h1:=VB (g:=fun l=>l.flatMap (vOf w.p)) (c:=5000) (trapsW w f) fun l hl=>by
  have h2:=VB (g:=vOf w.p) (c:=1) l fun id _=>z7h w.p id;have h3:=(h.hti l hl).1;omega
 have h2:=h.htl;unfold ZS;omega
def z2x (w:Way) (f:Pr):List Step:=WQ (ZS w f++w.real)
def q3j (w:Way) (f:Pr):List Step:=ZS w f++w.real++[⟨0,-1,2⟩]++(itsOf w.p w.j f).flatMap fOf
def z6c (w:Way) (f:Pr):List Step:=WQ (q3j w f)
theorem q9k (w:Way) (f:Pr) (n:Nat) (h:WayT w f n):SpecP Tryz.prog 171 [.ip w.cells] (fun r=>r=UZ (z2x w f)):=by
 refine sB q2z Tryz.func171 rfl Tryz.call171 ?_;conv=>whnf
 have hlen:=h.hlen;have hvl:=h.virt_len;have hvok:=h.virt_ok;repeat' (first|((first|refine dA ?_|refine aD ?_);conv=>whnf)|(refine CallK.heap [] 0 (ArgsH.cons (LSub.refl _) ArgsH.nil) BlksH.nil (q1s w f n h.hw h.hj h.hc h.hn h.hn2 h.hlen h.hr h.htl h.hti) rfl rfl ?_;rintro l' H' ⟨rfl,rfl⟩;conv=>whnf))
 have hml:(w.real.map fun s=>AV.agg s.cells).length=w.real.length:=length_map _;have hvm:(avS (ZS w f)).length=(ZS w f).length:=by simp [avS]
 refine AppK.mk hvm.symm rfl (by rw [hml];show ((ZS w f).length+w.real.length)*24<=140737488355328;omega) (by rw [hml];show (ZS w f).length+w.real.length<=9223372036854775807;omega) (fun x hx=>by obtain ⟨s,_,rfl⟩:=List.mem_map.1 hx;exact ⟨rfl,rfl⟩) ?_;conv=>whnf
 have happ:avS (ZS w f)++(w.real.map fun s=>AV.agg s.cells)=avS (ZS w f++w.real):=by simp [avS]
 have hlp:(ZS w f).length+(w.real.map fun s=>AV.agg s.cells).length=(ZS w f++w.real).length:=by simp
 rw [happ,hlp];repeat' (refine CallK.heap [(1000,0)] 0 (by repeat' (first|exact ArgsH.nil|refine ArgsH.cons ?_ ?_|exact LSub.refl _|exact LSub.p Sub.nils|exact LSub.p (Sub.tt rfl)|exact LSub.p (Sub.ff rfl)|exact LSub.p (Sub.int (by omega)))) (by refine BlksH.cons (j:=0) rfl rfl ?_ ?_;exact CSub.refl _;exact BlksH.nil) (LZ (ZS w f++w.real) (fun s hs=>(List.mem_append.1 hs).elim (hvok s) (h.hok s)) (by rw [length_append];omega)) rfl rfl ?_;rintro l' H' ⟨rfl,rfl⟩;conv=>whnf)
 exact ⟨_,.hd rfl (by simp [avS]),rfl⟩
theorem x2y (w:Way) (f:Pr) (n:Nat) (h:WayT w f n):SpecP Tryz.prog 170 [.ip w.cells] (fun r=>r=UZ (z6c w f)):=by
 refine sB q6b Tryz.func170 rfl Tryz.call170 ?_;conv=>whnf
 have hlen:=h.hlen;have hvl:=h.virt_len;have hvok:=h.virt_ok;have hcc:=h.hc;have hits:itL w.j 0 (-1) 0 (QE w.p.procs w.j) f.body=itsOf w.p w.j f:=rfl;repeat' (first|((first|refine dA ?_|refine aD ?_);conv=>whnf)|(refine CallK.heap [] 0 (ArgsH.cons (LSub.refl _) ArgsH.nil) BlksH.nil (q1s w f n h.hw h.hj h.hc h.hn h.hn2 h.hlen h.hr h.htl h.hti) rfl rfl ?_;rintro l' H' ⟨rfl,rfl⟩;conv=>whnf))
 have hml:(w.real.map fun s=>AV.agg s.cells).length=w.real.length:=length_map _;have hvm:(avS (ZS w f)).length=(ZS w f).length:=by simp [avS]
 refine AppK.mk hvm.symm rfl (by rw [hml];show ((ZS w f).length+w.real.length)*24<=140737488355328;omega) (by rw [hml];show (ZS w f).length+w.real.length<=9223372036854775807;omega) (fun x hx=>by obtain ⟨s,_,rfl⟩:=List.mem_map.1 hx;exact ⟨rfl,rfl⟩) ?_;conv=>whnf
 have happ:avS (ZS w f)++(w.real.map fun s=>AV.agg s.cells)=avS (ZS w f++w.real):=by simp [avS]
 have hlp:(ZS w f).length+(w.real.map fun s=>AV.agg s.cells).length=(ZS w f++w.real).length:=by simp
 rw [happ,hlp];have hbl:(ZS w f++w.real).length<=26000000:=by rw [length_append];omega
 have hbok : ∀ s∈ZS w f++w.real++[⟨0,-1,2⟩],okSt s:=fun s hs=>by
  rcases List.mem_append.1 hs with hs|hs
  ·exact (List.mem_append.1 hs).elim (hvok s) (h.hok s)
  ·rw [List.mem_singleton.1 hs];exact ⟨by decide,by decide⟩
 have hraw:q3j w f=ZS w f++w.real++[⟨0,-1,2⟩]++(itsOf w.p w.j f).flatMap fOf:=rfl;unfold z6c;rw [hraw];clear hraw happ hlp hml hvm hvok hvl hlen;generalize ZS w f++w.real=base at hbl hbok ⊢;repeat' ((first|(refine iM fun _=>?_)|refine dA ?_|refine And.intro rfl ?_|refine aD ?_|refine bP ?_|refine cP (x1x w.p h.hj hcc) ?_|refine AppK.mk (by simp [avS]) rfl (by show (base.length+1)*24<=140737488355328;omega) (by show base.length+1<=9223372036854775807;omega) (fun x hx=>by rcases List.mem_singleton.1 hx with rfl;exact ⟨rfl,rfl⟩) ?_);conv=>whnf)
 rw [hits];have hib:(itsOf w.p w.j f).length<=1000:=by
  obtain ⟨_,_,_,hsl,hsp⟩:=QJ w.p;obtain ⟨_,_,hle,_⟩:=hsp w.j f h.hj;rw [<- hits,ZX];omega
 have hfok:=h.hfk;generalize itsOf w.p w.j f=its at hib hfok ⊢;have hil:=ZN its;refine LoopK.inv QU (fun x:Nat×List Step=>⟨[(3,.hd 0 0 x.2.length),(25,.p (UC its)),(26,.p (.int .i64 (its.map fun i=>AV.agg i.cells).length)),(27,.p (.int .i64 x.1))],[(0,.own 145 3 (avS x.2))]⟩)
  (fun x=>x.1<=its.length∧x.2.length<=base.length+1+x.1∧x.2++(its.drop x.1).flatMap fOf=base++[⟨0,-1,2⟩]++its.flatMap fOf) (fun x=>its.length-x.1) (0,base++[⟨0,-1,2⟩])
  (Le.of_eq (by simp only [avS,length_append,List.map_append];rfl)) ⟨zero_le _,by simp,rfl⟩ ?_
 rintro ⟨m,acc⟩ ⟨h1,h2,h3⟩;simp only at h1 h2 h3 ⊢;rcases Nat.lt_or_ge m its.length with hm|hm;rotate_left 1
 ·rw [drop_eq_nil_of_le hm,List.flatMap_nil,List.append_nil] at h3;have hok : ∀ s∈acc,okSt s:=fun s hs=>by
   rw [h3] at hs;rcases List.mem_append.1 hs with hs|hs
   ·exact hbok s hs
   ·obtain ⟨it,hi,hs⟩:=List.mem_flatMap.1 hs;exact hfok it hi s hs
  rw [<- h3];conv=>whnf
  repeat' (first|(apply bD<;>intro _<;>first|omega|conv=>whnf)|(refine CallK.heap [(1000,0)] 0 (by repeat' (first|exact ArgsH.nil|refine ArgsH.cons ?_ ?_|exact LSub.refl _|exact LSub.p Sub.nils|exact LSub.p (Sub.tt rfl)|exact LSub.p (Sub.ff rfl)|exact LSub.p (Sub.int (by omega)))) (by refine BlksH.cons (j:=0) rfl rfl ?_ ?_;exact CSub.refl _;exact BlksH.nil) (LZ acc hok (by omega)) rfl rfl ?_;rintro l' H' ⟨rfl,rfl⟩;conv=>whnf))
  exact ⟨_,.hd rfl (by simp [avS]),rfl⟩
 rw [VU hm] at h3;have hf:fOf its[m]=if its[m].s.kind=7∨its[m].s.kind=8∨its[m].s.kind=9∨its[m].s.kind=10 then [⟨its[m].s.id,its[m].next,2⟩] else []:=rfl;conv=>whnf
 repeat' (first|((first|refine And.intro rfl ?_|refine aD ?_|refine bP ?_|(refine iA fun _=>?_)|refine wI ?_|refine AppK.mk (by simp [avS]) rfl (by show (acc.length+1)*24<=140737488355328;omega) (by show acc.length+1<=9223372036854775807;omega) (fun x hx=>by rcases List.mem_singleton.1 hx with rfl;exact ⟨rfl,rfl⟩) ?_);conv=>whnf)|(apply bD<;>intro _<;>first|omega|conv=>whnf))
 all_goals first
  | (rw [if_pos (by omega)] at hf
     rw [hf] at h3;exact ⟨(m+1,acc++[⟨its[m].s.id,its[m].next,2⟩]),⟨hm,by simp;omega,by simpa using h3⟩,by simp only;omega,Le.of_eq (by simp only [avS,length_append,List.map_append];rfl)⟩)
  | (rw [if_neg (by omega)] at hf
     rw [hf] at h3;exact ⟨(m+1,acc),⟨hm,by simp only;omega,by simpa using h3⟩,by simp only;omega,Le.of_eq rfl⟩)
theorem x4o {p:Pg} (h:ZB p=true) {j:Nat} {f:Pr} (hj:p.procs[j]? = some f) {k:Nat} {it:Item} (h1:QE p.procs j<=k) (h2:k<QE p.procs j+QY f.body) (hk:(sheetOf p).l[k]? = some it):it.s.id=(k:Int)+1:=by
 obtain ⟨t,_,h4,h5⟩:=x5z h hj (a:=(k:Int)+1) (by omega) (by omega);unfold z4l at h4;rw [show ((k:Int)+1-1).toNat=k by omega,hk] at h4;cases h4;exact h5
theorem z6a {p:Pg} {j:Nat} {f:Pr} {it:Item} (hi:it∈itsOf p j f) {y:Int} (hy:y∈VH (sheetOf p) f it):(⟨it.s.id,y,1⟩:Step)∈QF p j f:=by
 unfold QF;exact mem_cons_of_mem _ (List.mem_flatMap.2 ⟨it,hi,List.mem_map.2 ⟨y,hy,rfl⟩⟩)
theorem q8n {n:Nat} {part:List Int} (hp : ∀ k,k<n->0<=part.getD k 0∧part.getD k 0<n) {i:Nat} (hi:i<n) : ∀ (l:List (Int×Int)) {o:List Bool},o.length=n->(∀ t∈l,0<=t.1∧t.1<n) ->
  ((l.foldl (BM part) o).getD i false=true↔o.getD i false=true ∨ ∃ t∈l,part.getD t.1.toNat 0≠part.getD t.2.toNat 0∧part.getD t.1.toNat 0=i)
 | [],o,_,_=>by simp
 | t::r,o,ho,hr=>by
   rw [foldl_cons,q8n hp hi r (by rw [q9q];exact ho) fun u hu=>hr u (mem_cons_of_mem _ hu)];have h1:=hr t mem_cons_self;have h2:=hp t.1.toNat (by omega);have key:(BM part o t).getD i false=true↔o.getD i false=true∨(part.getD t.1.toNat 0≠part.getD t.2.toNat 0∧part.getD t.1.toNat 0=i):=by
    unfold BM;split
    ·rename_i he;constructor
     ·exact .inl
     ·rintro (h3|⟨h3,_⟩)
      ·exact h3
      ·exact absurd he h3
    ·rename_i he;rw [ZV (by omega)];split
     ·rename_i h3;constructor
      ·intro _;exact .inr ⟨he,by omega⟩
      ·intro _;rfl
     ·rename_i h3;constructor
      ·exact .inl
      ·rintro (h4|⟨_,h4⟩)
       ·exact h4
       ·exact absurd (by omega) h3
   rw [key,or_assoc];constructor
   ·rintro (h3|⟨h3,h4⟩|⟨u,hu,h3⟩)
    ·exact .inl h3
    ·exact .inr ⟨t,mem_cons_self,h3,h4⟩
    ·exact .inr ⟨u,mem_cons_of_mem _ hu,h3⟩
   ·rintro (h3|⟨u,hu,h3⟩)
    ·exact .inl h3
    ·rcases List.mem_cons.1 hu with rfl|hu
     ·exact .inr (.inl h3)
     ·exact .inr (.inr ⟨u,hu,h3⟩)
theorem z5j {n:Nat} {part:List Int} (hn:0<n) (hp : ∀ k,k<n->0<=part.getD k 0∧part.getD k 0<n) {i:Nat} (hi:i<n) {l:List (Int×Int)} (hr : ∀ t∈l,0<=t.1∧t.1<n) :
  (MF n part l).getD i false=true↔part.getD 0 0=i∨part.getD (n-1) 0=i ∨ ∃ t∈l,part.getD t.1.toNat 0≠part.getD t.2.toNat 0∧part.getD t.1.toNat 0=i:=by
 have h0:=hp 0 hn;have h1:=hp (n-1) (by omega);unfold MF;rw [q8n hp hi l (by simp [q2b]) hr];have key:(q2b n part).getD i false=true↔part.getD 0 0=i∨part.getD (n-1) 0=i:=by
  unfold q2b;rw [ZV (by rw [length_set,List.length_replicate];omega),ZV (by rw [List.length_replicate];omega)];split
  ·exact ⟨fun _ => .inr (by omega),fun _=>rfl⟩
  ·split
   ·exact ⟨fun _ => .inl (by omega),fun _=>rfl⟩
   ·have:(List.replicate n false).getD i false=false:=by
     rw [getD_eq_getElem?_getD,List.getElem?_replicate];split<;>rfl
    rw [this];constructor
    ·intro h;cases h
    ·rintro (h|h)<;>omega
 rw [key,or_assoc]
end Go.Ab
