/- Matrices of the call's own: an element stored into a row; a row looked at by an operation. -/
import Derived.Test.YtneccajakpeodaaGreatCdepA10
import Derived.Test.YtneccajakpeodaaGreatCdepA13
import Derived.Test.YtneccajakpeodaaGreatCdepA15
import Derived.Test.YtneccajakpeodaaGreatCdepA16
set_option linter.unusedSimpArgs false
set_option linter.unusedVariables false
set_option maxRecDepth 100000
set_option maxHeartbeats 16000000
namespace Go.Ab
open Go.Proofs
theorem z9i {σ:Mem} {β:Lab} {H:Heap} {w:World} (h:HRel σ β H w) {k b0:Nat} {i:BInfo} (hk:k∈H.map (·.1)) (hi:β k=some i) (hb0:i.has b0) {vs:Array Value} {H':Heap} (hH:H'.map (·.1)=H.map (·.1))
  (hold : ∀ j c,(j,c)∈H'→j≠k→(j,c)∈H) (hnew : ∀ c,(k,c)∈H'→c.holds σ β (w.setRow b0 vs) k) :
  HRel σ β H' (w.setRow b0 vs)∧Later σ β H w σ β H' (w.setRow b0 vs):=by
 have hap:=h.apart k hk i hi b0 hb0
 have hot : ∀ b,b≠b0→(w.setRow b0 vs).heap[b]? = w.heap[b]? := fun b hb=>setRow_other w b0 b vs hb
 refine ⟨⟨fun b c hb => ?_,fun j c hj => ?_,by rw [hH];exact h.nodup,fun j hj i' hi' b hb => ?_,fun j hj j' hj'=>h.inj j (hH▸hj) j' (hH▸hj')⟩,Mem.le_refl σ,⟨rfl,rfl,rfl,Nat.le_refl _,by simp,fun b _ hn=>hot b fun e=>hn ⟨k,hk,i,hi,e.symm▸hb0⟩⟩,fun b h0 h1=>absurd h0 h1,fun b hb => ?_,fun _ _ _=>rfl⟩
 ·have hne:b≠b0:=fun e=>by rw [e,hap.1] at hb;cases hb
  obtain ⟨e,fr,hh⟩:=h.mem b c hb
  exact ⟨e,fr,(hot b hne).trans hh⟩
 ·by_cases hjk:j=k
  ·subst hjk;exact hnew c hj
  ·have hm:=hold j c hj hjk
   refine (h.chunks j c hm).mono (Mem.le_refl σ) fun i' hi' b hb=>hot _ fun e=>hjk ?_
   exact h.inj j (List.mem_map.2 ⟨_,hm,rfl⟩) k hk i' i hi' hi b hb (e.symm▸hb0)
 ·have:=h.apart j (hH▸hj) i' hi' b hb
  exact ⟨this.1,by simpa using this.2⟩
 ·obtain ⟨j,hj,i',hi',hb'⟩:=hb
  exact .inl ⟨j,hH▸hj,i',hi',hb'⟩
theorem OpK.stEl {P:Program} {T:Tab} {N:Nat} (hT:TabOK P T) {s:St} {o:Oper} {K:St→Prop} {t:TypeId} {x v:Operand} (hop:o.op = .store t x v) (hd:o.dst=none) {k a off:Nat} (hx:QI s.sl x = .ext k (.rptr a off)) {u:AV} (hv:QI s.sl v = .p u) (hone:u.one=true) (huc:u.cells=[u])
  {e e2:TypeId} {rows:List (List AV)} {hole:List Nat} (hg:getH s.H k=some (.ext (.mat e e2 1 rows hole))) {it:TyI} (ht:T.get t=some it) (hsz:it.size=1) {row:List AV} (hrow:rows[a]? = some row) (hnh:a∉hole) (hoff:off<row.length)
  (h:x2x s.H k (.ext (.mat e e2 1 (rows.set a (row.set off u)) hole)) fun H=>K ⟨s.sl,H⟩):OpK P N s o K:=by
 refine ⟨fun σ β ac w hr Q => ?_⟩
 obtain ⟨H',hK,h1,h2,h3⟩:=GZ hr.heap.nodup h
 have hx':=QU hr.slots x
 have hv':=QU hr.slots v
 rw [hx] at hx'
 rw [hv] at hv'
 have hk1:=XQ hg
 generalize hxe:ac.eval x=xv at hx'
 generalize hve:ac.eval v=vv at hv'
 cases hv' with
 | p hvr =>
 cases hx' with
 | ext _ _ i _ hi hdx =>
 obtain ⟨b,c,hsub,rfl⟩:=hdx
 rcases hr.heap.chunks k _ (QP hg) with ⟨h0,_⟩|⟨i',vs,hi',hisz,hh,hvs,hle,hmax,hsl',hdis,hrows⟩
 ·rw [hi] at h0;cases h0
 rw [hi] at hi';cases hi'
 have hb:i.has b := .inr ⟨c,List.mem_of_getElem? hsub⟩
 rcases (hrows a row hrow).2 hnh with ⟨h4,_⟩|⟨b',c',ws,h4,h5,h6,h7,h8,h9,h10⟩
 ·rw [hsub] at h4;cases h4
 rw [hsub] at h4;cases h4
 have hone':vv.oneCell'=true:=hvr.oneCell hone
 have hcells:vv.cells = #[vv]:=by cases vv<;>first|rfl|simp [Value.oneCell'] at hone'
 have hoffw:off<ws.size:=by omega
 let ws':Array Value:=(ws.toList.take off++[vv]++ws.toList.drop (off+1)).toArray
 have hrun:(execOp ac.eval o).run P w = .ok .skip (w.setRow b ws'):=by
  have hst:=run_storeCells_at P b off e2 [vv] 0 ws w h6 (by simp;omega) (by simpa using hone')
  simp only [Nat.add_zero,List.length_singleton] at hst
  have hsize:=(hT _ _ ht).sizeOf
  simp [execOp,hop,Instr.storeAt,Instr.sureAddr,hxe,hve,storeVar,hsize,hsz,hcells,hst,ws']
 have hcell : ∀ p,ws'[p]? = if p=off then some vv else ws[p]? := fun p=>by
  simp only [ws',List.getElem?_toArray]
  by_cases g1:p<off
  ·rw [if_neg (by omega),List.append_assoc,List.getElem?_append_left (by simp;omega),List.getElem?_take,if_pos g1];simp
  ·by_cases g2:p=off
   ·subst g2
    rw [if_pos rfl,List.append_assoc,List.getElem?_append_right (by simp;omega)]
    simp only [List.length_take,Array.length_toList]
    rw [show p-min p ws.size=0 by omega]
    rfl
   ·rw [if_neg g2,List.getElem?_append_right (by simp;omega)]
    simp only [List.length_append,List.length_take,Array.length_toList,List.length_singleton,List.getElem?_drop,Array.getElem?_toList]
    congr 1
    omega
 have hother : ∀ b',b'≠b→(w.setRow b ws').heap[b']? = w.heap[b']? := fun b' hb'=>setRow_other w b b' ws' hb'
 have hal:a<rows.length:=(List.getElem?_eq_some_iff.1 hrow).1
 obtain ⟨h11,h12⟩:=z9i hr.heap hk1 hi hb (vs:=ws') h1 h2 (fun d hd=>h3 d hd▸by
  refine .inr ⟨i,vs,hi,hisz,(hother _ (hdis a b c hsub).1).trans hh,hvs,by simpa using hle,hmax,by simpa using hsl',hdis,fun a' row' hra=>⟨fun hin => ?_,fun hnin => ?_⟩⟩
  ·by_cases g:a'=a
   ·subst g;exact absurd hin hnh
   ·rw [List.getElem?_set_ne (Ne.symm g)] at hra
    exact (hrows a' row' hra).1 hin
  ·by_cases g:a'=a
   ·subst g
    rw [List.getElem?_set_self hal] at hra
    cases hra
    refine .inr ⟨b,c,ws',hsub,by simpa using h5,setRow_heap w b ws _ e2 _ h6,?_,by simpa using h8,h9,fun m y hy => ?_⟩
    ·simp only [ws',List.size_toArray,List.length_append,List.length_take,List.length_drop,Array.length_toList,List.length_singleton]
     omega
    ·by_cases gm:m=off
     ·subst gm
      rw [List.getElem?_set_self hoff] at hy
      cases hy
      refine ⟨by rw [huc];rfl,fun j c' hj => ?_⟩
      rw [huc] at hj
      match j,hj with
      | 0,hj=>cases hj;exact ⟨vv,by rw [Nat.mul_one,Nat.add_zero,hcell,if_pos rfl],hvr⟩
      | j+1,hj=>simp at hj
     ·rw [List.getElem?_set_ne (Ne.symm gm)] at hy
      obtain ⟨g1,g2⟩:=h10 m y hy
      refine ⟨g1,fun j c' hj => ?_⟩
      obtain ⟨u',g3,g4⟩:=g2 j c' hj
      have hj0:j=0:=by
       have:=(List.getElem?_eq_some_iff.1 hj).1
       omega
      subst hj0
      exact ⟨u',by rw [hcell,if_neg (by omega)];exact g3,g4⟩
   ·rw [List.getElem?_set_ne (Ne.symm g)] at hra
    rcases (hrows a' row' hra).2 hnin with g1|⟨b1,c1,ws1,g1,g2,g3,g4⟩
    ·exact .inl g1
    ·refine .inr ⟨b1,c1,ws1,g1,g2,(hother b1 fun he => ?_).trans g3,g4⟩
     subst he
     exact g ((hdis a b1 c hsub).2 a' c1 g1))
 refine q5p hrun ⟨σ,β,⟨s.sl,H'⟩,hK,⟨?_,?_,?_,h11⟩,h12⟩
 ·rw [hd];exact hr.size
 ·rw [hd];exact hr.defers
 ·rw [hd];exact hr.slots
theorem z3a {s:St} {k k2:Nat} {c c2:Chunk} {K:St→Prop} (h:BZ s k k2 c c2 K) : ∃ s2,K s2∧BZ s k k2 c c2 fun s3=>s3=s2:=by
 unfold BZ at h ⊢
 obtain ⟨sl,h1,_⟩:=YB (by rfl) h
 have key : ∀ {f:LV→LV} {l:List (Nat×LV)} {K:List (Nat×LV)→Prop},q9x f l K↔K (l.map fun x=>(x.1,f x.2)):=fun {f} l=>by
  induction l with
  | nil=>intro K;rfl
  | cons x r ih=>intro K;simp only [q9x,XD,ih,List.map_cons]
 have key2 : ∀ {f:LV→LV} {c:Chunk} {H:Heap},∃ H',∀ K:Heap→Prop,q4k k k2 f c H K↔K H':=fun {f c} H=>by
  induction H with
  | nil=>exact ⟨[],fun K=>Iff.rfl⟩
  | cons x r ih =>
    obtain ⟨H',hH'⟩:=ih
    obtain ⟨j,d⟩:=x
    simp only [q4k,LI]
    cases j==k2 with
    | true=>exact ⟨H',fun K=>by simp only [cond_true];exact hH' _⟩
    | false =>
      cases j==k with
      | true=>exact ⟨(j,c)::H',fun K=>by simp only [cond_true,cond_false];exact hH' _⟩
      | false=>exact ⟨(j,d.mapL f)::H',fun K=>by simp only [cond_false];exact hH' _⟩
 rw [key] at h
 simp only [key]
 obtain ⟨H',hH'⟩:=key2 (f:=LV.xkill k) (c:=c) (H:=s.H)
 rw [hH'] at h
 exact ⟨_,h,(hH' _).2 rfl⟩
theorem OpK.focus {P:Program} {T:Tab} {N:Nat} (hT:TabOK P T) {s:St} {o:Oper} {K:St→Prop} (t k a k2:Nat) {e e2 sz:Nat} {rows:List (List AV)} {hole:List Nat} {row:List AV} (hu:VR k2 s=true) (hg:getH s.H k=some (.ext (.mat e e2 sz rows hole)))
  (hrow:rows[a]? = some row) (hnh:a∉hole) (hpin:WA k=false) (ht:getS s.sl t = .ext k (.row a row.length))
  (h:BZ s k k2 (.ext (.mat e e2 sz rows (a::hole))) (.own e2 sz row) fun s2=>opW P T N ⟨(t,.hd k2 0 row.length)::s2.sl,s2.H⟩ o K):OpK P N s o K:=by
 obtain ⟨s2,h,he⟩:=z3a h
 refine ⟨fun σ β ac w hr Q => ?_⟩
 obtain ⟨β',hr',hl,hrep,hrow'⟩:=z0i hr hu hg hrow hnh hpin he
 have hr2:Rel N σ β' ⟨(t,.hd k2 0 row.length)::s2.sl,s2.H⟩ ac w:=⟨hr'.size,hr'.defers,fun i=>by
  show RepL σ β' (getS ((t,.hd k2 0 row.length)::s2.sl) i) _
  simp only [getS]
  cases hi:t==i with
  | true =>
    have:t=i:=by simpa using hi
    subst this
    have h1:=hr.slots t
    rw [ht] at h1
    exact hrow' _ h1
  | false=>exact hr'.slots i,hr'.heap⟩
 exact Oper.wp_mono (fun a' w' ⟨σ',β'',s3,hK,hr3,hl3⟩=>⟨σ',β'',s3,hK,hr3,hl.trans hl3⟩) (q7t hT h hr2 Q)
open Go.Proofs
theorem q7g {α:Type} {l m:List α} {j:Nat} (h:l.take j=m.take j) (hl:j<l.length) (hm:j<m.length) (he:l[j]=m[j]):l.take (j+1)=m.take (j+1):=by
 rw [List.take_succ_eq_append_getElem hl,List.take_succ_eq_append_getElem hm,h,he]
theorem x3n {α:Type} {l m:List α} {j:Nat} (h:l.take j=m.take j) (hl:l.length≤j) (hm:m.length≤j):l=m:=by
 rwa [List.take_of_length_le hl,List.take_of_length_le hm] at h
theorem YW (l m:List Int):SpecP Tryz.prog 25 [QF l,QF m] (fun r=>r = .bool (decide (l=m))):=by
 refine SpecP.body FR QQ Tryz.func25 rfl Tryz.call25 (by show 2≤_;decide) ?_
 conv=>whnf
 have h1:(l.map (AV.int .i64)).length=l.length:=List.length_map _
 have h2:(m.map (AV.int .i64)).length=m.length:=List.length_map _
 repeat' (first|(intro (_:_≤9223372036854775807);conv=>whnf)|(refine Br.dec2 (fun _=>?_) (fun _=>?_)<;>first|(exfalso;omega)|conv=>whnf))
 all_goals first
  | exact RetK.ff (decide_eq_false fun h=>by subst h;omega)
  | skip
 have hlen:l.length=m.length:=by omega
 refine LoopK.inv QQ (fun j:Nat=>⟨[(0,.p (QF l)),(1,.p (QF m)),(12,.p (.int .i64 (l.map (AV.int .i64)).length)),(13,.p (.int .i64 j))],[]⟩) (fun j=>j≤l.length∧l.take j=m.take j) (fun j=>l.length-j) 0 (Le.of_eq rfl) ⟨Nat.zero_le _,rfl⟩ ?_
 rintro j ⟨h3,h4⟩
 rcases Nat.lt_or_ge j l.length with hj|hj
 ·conv=>whnf
  repeat' (first|((first|refine DrawK.auto QQ mixed (by kernel_rfl) ?_|refine IdxK.map (by omega) (fun _=>rfl) ?_|refine Wr.i64 (by omega) (by omega) ?_);conv=>whnf)|(refine Br.dec (fun _=>?_) (fun _=>?_)<;>first|(exfalso;omega)|conv=>whnf)|(refine Br.dec2 (fun _=>?_) (fun _=>?_)<;>first|(exfalso;omega)|conv=>whnf))
  all_goals first
   | exact RetK.ff (decide_eq_false fun h=>by subst h;simp_all)
   | exact ⟨j+1,⟨by omega,q7g h4 hj (by omega) (by simp_all)⟩,by omega,Le.of_eq rfl⟩
 ·conv=>whnf
  repeat' (refine Br.dec (fun _=>?_) (fun _=>?_)<;>first|(exfalso;omega)|conv=>whnf)
  exact RetK.tt (decide_eq_true (x3n h4 hj (by omega)))
open Go.Proofs
def eBs (l:List Bool):AV := .sl (l.map bv)
theorem q1k (b:Bool):(bv b).cells=[bv b]:=by cases b<;>rfl
theorem FX (l m:List Bool):SpecP Tryz.prog 184 [eBs l,eBs m] (fun r=>r = .bool (decide (l=m))):=by
 refine SpecP.body KB QQ Tryz.func184 rfl Tryz.call184 (by show 2≤_;decide) ?_
 conv=>whnf
 have h1:(l.map bv).length=l.length:=List.length_map _
 have h2:(m.map bv).length=m.length:=List.length_map _
 repeat' (first|(intro (_:_≤9223372036854775807);conv=>whnf)|(refine Br.dec2 (fun _=>?_) (fun _=>?_)<;>first|(exfalso;omega)|conv=>whnf))
 all_goals first
  | exact RetK.ff (decide_eq_false fun h=>by subst h;omega)
  | skip
 have hlen:l.length=m.length:=by omega
 refine LoopK.inv QQ (fun j:Nat=>⟨[(0,.p (eBs l)),(1,.p (eBs m)),(12,.p (.int .i64 (l.map bv).length)),(13,.p (.int .i64 j))],[]⟩) (fun j=>j≤l.length∧l.take j=m.take j) (fun j=>l.length-j) 0 (Le.of_eq rfl) ⟨Nat.zero_le _,rfl⟩ ?_
 rintro j ⟨h3,h4⟩
 rcases Nat.lt_or_ge j l.length with hj|hj
 ·have e1:(l.map bv)[j]? = some (bv l[j]):=by rw [List.getElem?_map,List.getElem?_eq_getElem hj];rfl
  have e2:(m.map bv)[j]? = some (bv (m[j]'(by omega))):=by rw [List.getElem?_map,List.getElem?_eq_getElem (by omega)];rfl
  have hst:l[j]=m[j]'(by omega)→l.take (j+1)=m.take (j+1):=fun h=>q7g h4 hj (by omega) h
  have hno:l[j]≠m[j]'(by omega) → ¬l=m:=fun h he=>h (by subst he;rfl)
  generalize l[j]=x at e1 hst hno
  generalize m[j]'(by omega)=y at e2 hst hno
  cases x<;>cases y <;>
  conv=>whnf
  repeat' (first|((first|refine DrawK.auto QQ mixed (by kernel_rfl) ?_|refine Wr.i64 (by omega) (by omega) ?_|(refine IdxK.at (k:=j) rfl e1 rfl ?_)|(refine IdxK.at (k:=j) rfl e2 rfl ?_)|refine ValO.boolNeq QQ rfl rfl rfl rfl rfl ?_);conv=>whnf)|(refine Br.dec (fun _=>?_) (fun _=>?_)<;>first|(exfalso;omega)|conv=>whnf)|(refine Br.dec2 (fun _=>?_) (fun _=>?_)<;>first|(exfalso;omega)|conv=>whnf))
  all_goals first
   | exact RetK.ff (decide_eq_false (hno (by decide)))
   | exact ⟨j+1,⟨by omega,hst rfl⟩,by omega,Le.of_eq rfl⟩
   | (exfalso;simp_all;done)
 ·conv=>whnf
  repeat' (refine Br.dec (fun _=>?_) (fun _=>?_)<;>first|(exfalso;omega)|conv=>whnf)
  exact RetK.tt (decide_eq_true (x3n h4 hj (by omega)))
def bmI (fm:List (List Bool)):List (List AV):=fm.map fun r=>r.map bv
def shH (fm:List (List Bool)):Heap:=[(1000,.ext (.mat 112 4 1 (bmI fm) []))]
def KT (fm:List (List Bool)) (l:List Int) (b:Nat):Bool:=l.all fun a=>(fm.getD a.toNat []).getD b false
def XB (fm:List (List Bool)) (l:List Int) (n:Nat):List Bool:=(List.range n).map (KT fm l)
def q1t (fm:List (List Bool)) (l:List Int) (n j:Nat) (c:Bool):List Bool:=(XB fm l n).take j++c::List.replicate (n-j-1) false
theorem x7w {fm:List (List Bool)} {l:List Int} {n j:Nat} (hj:j<n) (c:Bool):((q1t fm l n j c).map bv)[j]? = some (bv c):=by
 have h1:((XB fm l n).take j).length=j:=by unfold XB;simp;omega
 have h2:(q1t fm l n j c)[j]? = some c:=by
  unfold q1t
  rw [List.getElem?_append_right (by omega),h1,Nat.sub_self]
  rfl
 rw [List.getElem?_map,h2]
 rfl
theorem x4a {fm:List (List Bool)} {l:List Int} {n j:Nat} (hj:j<n) (c c':Bool):((q1t fm l n j c).map bv).set j (bv c')=(q1t fm l n j c').map bv:=by
 rw [← List.map_set]
 congr 1
 unfold q1t
 rw [List.set_append_right _ _ (by unfold XB;simp;omega)]
 have:j-((XB fm l n).take j).length=0:=by unfold XB;simp;omega
 rw [this]
 rfl
theorem z5u {fm:List (List Bool)} {l:List Int} {n j:Nat} (hj:j<n):q1t fm l n j (KT fm l j)=(XB fm l n).take (j+1)++List.replicate (n-(j+1)) false:=by
 unfold q1t
 have:(XB fm l n)[j]? = some (KT fm l j):=by unfold XB;simp [hj]
 rw [List.take_add_one,this,List.append_assoc]
 rfl
theorem z4h {fm:List (List Bool)} {l:List Int} {n j:Nat} (hj:j<n):(XB fm l n).take j++List.replicate (n-j) false=q1t fm l n j false:=by
 unfold q1t
 rw [show n-j=(n-j-1)+1 by omega,List.replicate_succ]
 congr 2
theorem x1y {α:Type} {f:α→Bool} {l:List α} {i:Nat} (hi:i<l.length):(l.take (i+1)).all f=((l.take i).all f&&f l[i]):=by
 rw [List.take_succ_eq_append_getElem hi,List.all_append]
 simp
theorem z3n (fm:List (List Bool)) (l:List Int) (n:Nat) (hn:fm.length=n) (hn5:n≤5000) (hr : ∀ r∈fm,r.length=n) (hl:l.length≤1000000) (hs : ∀ x∈l,0≤x∧x<n):SpecH Tryz.prog 183 [.hd 1000 0 n,.p (QF l)] (shH fm) (fun r H=>r = .hd 0 0 n∧H=(0,.own 4 1 ((XB fm l n).map bv))::shH fm):=by
 refine SpecH.body x7k QQ Tryz.func183 rfl Tryz.call183 (by show 2≤_;decide) ?_
 conv=>whnf
 have hll:(l.map (AV.int .i64)).length=l.length:=List.length_map _
 repeat' ((first|intro (_:_≤9223372036854775807)|(refine And.intro ⟨rfl,rfl,by decide⟩ ?_)|refine MkK.mk n rfl (by show 1*_≤140737488355328;omega) (by unfold maxLen;omega) ?_);conv=>whnf)
 refine LoopK.inv QQ (fun j:Nat=>⟨[(0,.hd 1000 0 n),(1,.p (QF l)),(5,.hd 0 0 n),(13,.p (.int .i64 n)),(14,.p (.int .i64 j))],(0,.own 4 1 (((XB fm l n).take j++List.replicate (n-j) false).map bv))::shH fm⟩) (fun j=>j≤n) (fun j=>n-j) 0
  (Le.of_eq (by rw [show ((XB fm l n).take 0++List.replicate (n-0) false).map bv=List.replicate n .ff by simp [bv]];rfl)) (Nat.zero_le _) ?_
 intro j h2
 rcases Nat.lt_or_ge j n with hj|hj
 rotate_left 1
 ·have hje:j=n:=by omega
  subst hje
  have he:((XB fm l j).take j++List.replicate (j-j) false)=XB fm l j:=by
   rw [Nat.sub_self,List.take_of_length_le (by unfold XB;simp)]
   simp
  rw [he]
  conv=>whnf
  repeat' (refine Br.dec (fun _=>?_) (fun _=>?_)<;>first|(exfalso;omega)|conv=>whnf)
  exact ⟨_,LSub.refl _,rfl,rfl⟩
 rw [z4h hj]
 have hg0:=x7w (fm:=fm) (l:=l) hj false
 have hs0:=x4a (fm:=fm) (l:=l) hj false true
 generalize (q1t fm l n j false).map bv=row0 at hg0 hs0 ⊢
 unfold shH
 conv=>whnf
 repeat' (first|((first|intro (_:_≤9223372036854775807)|refine And.intro rfl ?_|refine IdxL.mk j rfl hj ?_|refine StOwn.mk j 0 _ (bv true) (by show (0+j)*1=j*1+0;omega) hg0 (Nat.le_refl _) rfl ?_);conv=>whnf)|(refine Br.dec (fun _=>?_) (fun _=>?_)<;>first|(exfalso;omega)|conv=>whnf))
 rw [hs0]
 refine LoopK.inv QQ (fun i:Nat=>⟨[(0,.hd 1000 0 n),(1,.p (QF l)),(5,.hd 0 0 n),(6,.p (.int .i64 j)),(13,.p (.int .i64 n)),(14,.p (.int .i64 j)),(20,.p (QF l)),(21,.p (.int .i64 (l.map (AV.int .i64)).length)),(22,.p (.int .i64 i))],(0,.own 4 1 ((q1t fm l n j ((l.take i).all fun a=>(fm.getD a.toNat []).getD j false)).map bv))::shH fm⟩) (fun i=>i≤l.length) (fun i=>l.length-i) 0
  (Le.of_eq rfl) (Nat.zero_le _) ?_
 intro i h3
 rcases Nat.lt_or_ge i l.length with hi|hi
 rotate_left 1
 ·have hje:i=l.length:=by omega
  subst hje
  rw [List.take_of_length_le (Nat.le_refl _),show (l.all fun a=>(fm.getD a.toNat []).getD j false)=KT fm l j from rfl,z5u hj]
  conv=>whnf
  repeat' (first|(refine Wr.i64 (by omega) (by omega) ?_;conv=>whnf)|(refine Br.dec (fun _=>?_) (fun _=>?_)<;>first|(exfalso;omega)|conv=>whnf))
  exact ⟨j+1,hj,by omega,Le.of_eq rfl⟩
 have hsa:=hs _ (List.getElem_mem hi)
 have hal:l[i].toNat<fm.length:=by omega
 have hrl:=hr _ (List.getElem_mem hal)
 have hli:(l.map (AV.int .i64))[i]? = some (.int .i64 l[i]):=by rw [List.getElem?_map,List.getElem?_eq_getElem hi];rfl
 have hfr:(bmI fm)[l[i].toNat]? = some (fm[l[i].toNat].map bv):=by unfold bmI;rw [List.getElem?_map,List.getElem?_eq_getElem hal];rfl
 have hfv:(fm[l[i].toNat].map bv)[j]? = some (bv (fm[l[i].toNat][j]'(by omega))):=by rw [List.getElem?_map,List.getElem?_eq_getElem (by omega)];rfl
 have hnx:((l.take (i+1)).all fun a=>(fm.getD a.toNat []).getD j false)=(((l.take i).all fun a=>(fm.getD a.toNat []).getD j false)&&fm[l[i].toNat][j]'(by omega)):=by
  rw [x1y hi]
  congr 1
  simp only [List.getD_eq_getElem?_getD]
  rw [List.getElem?_eq_getElem hal,Option.getD_some,List.getElem?_eq_getElem (by omega),Option.getD_some]
 have hrn:(fm[l[i].toNat].map bv).length=n:=by rw [List.length_map,hrl]
 generalize fm[l[i].toNat][j]'(by omega)=v at hfv hnx
 generalize ((l.take i).all fun a=>(fm.getD a.toNat []).getD j false)=c at hnx ⊢
 have hgc:=x7w (fm:=fm) (l:=l) hj c
 have hsc:=x4a (fm:=fm) (l:=l) hj c (c&&v)
 generalize (q1t fm l n j c).map bv=row at hgc hsc ⊢
 cases c<;>cases v<;>unfold shH <;>
 conv=>whnf
 repeat' (first|((first|refine And.intro rfl ?_|refine IdxK.map (by omega) (fun _=>rfl) ?_|refine Wr.i64 (by omega) (by omega) ?_|refine IdxL.mk j rfl hj ?_|refine IdxL.mk l[i].toNat (by omega) (by omega) ?_|refine IdxL.mk j rfl (by rw [hrn];exact hj) ?_|refine LdOwn.mk j 0 _ (by show (0+j)*1=j*1+0;omega) hgc ?_|refine RowK.mk l[i].toNat _ (by omega) hfr (by simp) ?_|refine RLd.mk _ j 0 _ hfr (by simp) (by omega) hfv ?_|refine StOwn.mk j 0 _ (bv false) (by show (0+j)*1=j*1+0;omega) hgc (Nat.le_refl _) rfl ?_|refine StOwn.mk j 0 _ (bv true) (by show (0+j)*1=j*1+0;omega) hgc (Nat.le_refl _) rfl ?_);conv=>whnf)|(refine Br.dec (fun _=>?_) (fun _=>?_)<;>first|(exfalso;omega)|conv=>whnf))
 all_goals first
  | exact ⟨i+1,hi,by omega,Le.of_eq (by rw [hnx,← hsc];rfl)⟩
  | (exfalso;simp_all;done)
open Go.Proofs
def filRow (n a:Nat):List Bool:=(List.range n).map fun b=>decide (a<n-1)||decide (a=b)
theorem BA (n a:Nat):(filRow n a).length=n:=by unfold filRow;simp
inductive Avd (nx:List (List Int)) (n b:Nat):Nat→Prop
 | exit (h:b≠n-1):Avd nx n b (n-1)
 | step {a t:Nat} (hab:a≠b) (ht:(t:Int)∈nx.getD a []) (h:Avd nx n b t):Avd nx n b a
def rowF (n:Nat) (nx:List (List Int)) (fm:List (List Bool)) (a:Nat):List Bool:=(XB fm (nx.getD a []) n).set a true
def bitF (fm:List (List Bool)) (a b:Nat):Bool:=(fm.getD a []).getD b false
theorem q0t (n:Nat) (nx:List (List Int)) (fm:List (List Bool)) (a:Nat):(rowF n nx fm a).length=n:=by unfold rowF XB;simp
theorem q5v {n:Nat} {nx:List (List Int)} {fm:List (List Bool)} {a b:Nat} (hb:b<n):(rowF n nx fm a).getD b false=(decide (a=b)||KT fm (nx.getD a []) b):=by
 unfold rowF
 have hs:(XB fm (nx.getD a []) n)[b]? = some (KT fm (nx.getD a []) b):=by unfold XB;simp [hb]
 have hl:(XB fm (nx.getD a []) n).length=n:=by unfold XB;simp
 rw [List.getD_eq_getElem?_getD]
 by_cases hab:a=b
 ·subst hab
  rw [List.getElem?_set_self (by omega),decide_eq_true rfl]
  rfl
 ·rw [List.getElem?_set_ne hab,hs,decide_eq_false hab]
  rfl
theorem GJ {fm:List (List Bool)} {l:List Int} {b:Nat}:KT fm l b=true ↔ ∀ t∈l,bitF fm t.toNat b=true:=by
 unfold KT bitF
 rw [List.all_eq_true]
structure FolI (n:Nat) (nx:List (List Int)) (fm:List (List Bool)):Prop where
 len:fm.length=n
 rows : ∀ r∈fm,r.length=n
 last:fm.getD (n-1) []=filRow n (n-1)
 post : ∀ a b,a<n-1→b<n→(rowF n nx fm a).getD b false=true→bitF fm a b=true
 min : ∀ a b,a<n→b<n→bitF fm a b=false→Avd nx n b a
structure FollowP (n:Nat) (nx:List (List Int)) (fm:List (List Bool)):Prop where
 inv:FolI n nx fm
 fix : ∀ a,a<n-1→fm.getD a []=rowF n nx fm a
theorem q9f {n a b:Nat} (hb:b<n):(filRow n a).getD b false=(decide (a<n-1)||decide (a=b)):=by
 unfold filRow
 rw [List.getD_eq_getElem?_getD,List.getElem?_map,List.getElem?_range hb]
 rfl
theorem z7x {n a b:Nat} (ha:a<n) (hb:b<n):bitF ((List.range n).map (filRow n)) a b=(decide (a<n-1)||decide (a=b)):=by
 have hg:((List.range n).map (filRow n)).getD a []=filRow n a:=by
  rw [List.getD_eq_getElem?_getD,List.getElem?_map,List.getElem?_range ha]
  rfl
 unfold bitF
 rw [hg,q9f hb]
theorem FolI.start {n:Nat} (hn:2≤n) (nx:List (List Int)):FolI n nx ((List.range n).map (filRow n)):=by
 refine ⟨by simp,fun r hr => ?_,?_,fun a b ha hb _ => ?_,fun a b ha hb h => ?_⟩
 ·obtain ⟨a,_,rfl⟩:=List.mem_map.1 hr
  exact BA n a
 ·rw [List.getD_eq_getElem?_getD,List.getElem?_map,List.getElem?_range (by omega)]
  rfl
 ·rw [z7x (by omega) hb,decide_eq_true ha]
  rfl
 ·rw [z7x ha hb,Bool.or_eq_false_iff,decide_eq_false_iff_not,decide_eq_false_iff_not] at h
  have:a=n-1:=by omega
  subst this
  exact .exit fun e=>h.2 e.symm
theorem x1o {fm:List (List Bool)} {a:Nat} (ha:a<fm.length) (l:List Bool) (x b:Nat):bitF (fm.set a l) x b=if x=a then l.getD b false else bitF fm x b:=by
 unfold bitF
 by_cases h:x=a
 ·subst h
  rw [if_pos rfl,List.getD_eq_getElem?_getD (l:=fm.set x l),List.getElem?_set_self ha]
  rfl
 ·rw [if_neg h,List.getD_eq_getElem?_getD (l:=fm.set a l),List.getElem?_set_ne (Ne.symm h),← List.getD_eq_getElem?_getD]
theorem FolI.step {n:Nat} {nx:List (List Int)} {fm:List (List Bool)} (h:FolI n nx fm) (hnx : ∀ a,∀ x∈nx.getD a [],0≤x∧x<(n:Int)) {a:Nat} (ha:a<n-1):FolI n nx (fm.set a (rowF n nx fm a)):=by
 have hal:a<fm.length:=by have:=h.len;omega
 have mono : ∀ x b,b<n→bitF (fm.set a (rowF n nx fm a)) x b=true→bitF fm x b=true:=fun x b hb hx=>by
  rw [x1o hal] at hx
  split at hx
  ·rename_i he
   subst he
   exact h.post _ b ha hb hx
  ·exact hx
 have rmono : ∀ x b,b<n→(rowF n nx (fm.set a (rowF n nx fm a)) x).getD b false=true→(rowF n nx fm x).getD b false=true:=fun x b hb hx=>by
  rw [q5v hb,Bool.or_eq_true] at hx ⊢
  rcases hx with hx|hx
  ·exact .inl hx
  ·exact .inr (GJ.2 fun t ht=>mono _ b hb (GJ.1 hx t ht))
 refine ⟨by rw [List.length_set];exact h.len,fun r hr => ?_,?_,fun x b hx hb hr => ?_,fun x b hx hb hf => ?_⟩
 ·rcases List.mem_or_eq_of_mem_set hr with hr|rfl
  ·exact h.rows r hr
  ·exact q0t _ _ _ _
 ·rw [List.getD_eq_getElem?_getD,List.getElem?_set_ne (by omega),← List.getD_eq_getElem?_getD]
  exact h.last
 ·have h1:=rmono x b hb hr
  rw [x1o hal]
  split
  ·rename_i he
   subst he
   exact h1
  ·exact h.post x b hx hb h1
 ·rw [x1o hal] at hf
  split at hf
  ·rename_i he
   subst he
   rw [q5v hb,Bool.or_eq_false_iff,decide_eq_false_iff_not] at hf
   have hno : ¬∀ t∈nx.getD x [],bitF fm t.toNat b=true:=fun hall=>by
    rw [GJ.2 hall] at hf
    cases hf.2
   obtain ⟨t,ht⟩:=Classical.not_forall.1 hno
   obtain ⟨ht1,ht2⟩:=Classical.not_imp.1 ht
   have hr:=hnx x t ht1
   have hbf:bitF fm t.toNat b=false:=by cases hq:bitF fm t.toNat b with|true=>exact absurd hq ht2|false=>rfl
   exact .step hf.1 (by rw [Int.toNat_of_nonneg hr.1];exact ht1) (h.min t.toNat b (by omega) hb hbf)
  ·exact h.min x b hx hb hf
def z0e (fm:List (List Bool)):Nat:=(fm.map fun r=>r.count true).sum
theorem w4b {fm:List (List Bool)} {a:Nat} (ha:a<fm.length) (l:List Bool):z0e (fm.set a l)+(fm.getD a []).count true=z0e fm+l.count true:=by
 unfold z0e
 induction fm generalizing a with
 | nil=>simp at ha
 | cons r fm ih =>
   cases a with
   | zero=>simp;omega
   | succ a =>
     have:=ih (a:=a) (by simpa using ha)
     simp only [List.set_cons_succ,List.map_cons,List.sum_cons,List.getD_cons_succ]
     omega
theorem x1n : ∀ {r s:List Bool},r.length=s.length→(∀ b:Nat,r.getD b false=true→s.getD b false=true)→r≠s→r.count true<s.count true
 | [],[],_,_,h=>absurd rfl h
 | x::r,y::s,hl,hle,hne=>by
   have h0:=hle 0
   have hr : ∀ b:Nat,r.getD b false=true→s.getD b false=true:=fun b hb=>hle (b+1) hb
   have hle2:r.count true≤s.count true:=by
    by_cases he:r=s
    ·subst he;exact Nat.le_refl _
    ·exact Nat.le_of_lt (x1n (by simpa using hl) hr he)
   simp only [List.getD_cons_zero] at h0
   by_cases he:r=s
   ·subst he
    cases x<;>cases y
    ·exact absurd rfl hne
    ·simp
    ·cases h0 rfl
    ·exact absurd rfl hne
   ·have:=x1n (by simpa using hl) hr he
    cases x<;>cases y<;>simp_all<;>omega
theorem FolI.less {n:Nat} {nx:List (List Int)} {fm:List (List Bool)} (h:FolI n nx fm) {a:Nat} (ha:a<n-1) (hne:rowF n nx fm a≠fm.getD a []):z0e (fm.set a (rowF n nx fm a))<z0e fm:=by
 have hal:a<fm.length:=by have:=h.len;omega
 have h1:=w4b hal (rowF n nx fm a)
 have hrl:(fm.getD a []).length=n:=by
  rw [List.getD_eq_getElem?_getD,List.getElem?_eq_getElem hal]
  exact h.rows _ (List.getElem_mem hal)
 have h2:=x1n (r:=rowF n nx fm a) (s:=fm.getD a []) (by rw [q0t,hrl]) (fun b hb=>by
  rcases Nat.lt_or_ge b n with hbn|hbn
  ·exact h.post a b ha hbn hb
  ·rw [List.getD_eq_getElem?_getD,List.getElem?_eq_none (by rw [q0t];exact hbn)] at hb
   cases hb) hne
 omega
open Go.Proofs
theorem Rel.layI {N:Nat} {σ:Mem} {β:Lab} {s s':St} {a:Act} {w:World} (hr:Rel N σ β s a w) {k:Nat} {i:BInfo} (hi:β k=some i) (hk:k∈s.H.map (·.1)) (hcell : ∀ b,i.has b → ∃ c e fr,w.heap[b]? = some (.cells c e fr))
  (hsl : ∀ τ:Mem,σ.le τ→(∀ b c e fr,i.has b→w.heap[b]? = some (.cells c e fr)→τ b=some c) → ∀ j v,RepL σ β (getS s.sl j) v→RepL τ β (getS s'.sl j) v)
  (hch : ∀ τ:Mem,σ.le τ → ∀ j c',(j,c')∈s'.H→j≠k ∧ ∃ c,(j,c)∈s.H∧(c.holds σ β w j→c'.holds τ β w j)) (hnd:(s'.H.map (·.1)).Nodup) :
  ∃ σ' β',Rel N σ' β' s' a w∧Later σ β s.H w σ' β' s'.H w:=by
 let τ:Mem:=fun b => @ite _ (i.has b) (Classical.propDecidable _) (match w.heap[b]? with
  | some (.cells c _ _)=>some c
  | _=>none) (σ b)
 have hpos : ∀ b c e fr,i.has b→w.heap[b]? = some (.cells c e fr)→τ b=some c:=fun b c e fr hb hh=>by
  show @ite _ (i.has b) (Classical.propDecidable _) _ _=_
  rw [if_pos hb,hh]
 have hneg : ∀ b,¬i.has b→τ b=σ b:=fun b hb=>by
  show @ite _ (i.has b) (Classical.propDecidable _) _ _=_
  rw [if_neg hb]
 have hle:σ.le τ:=fun b c hb=>by
  rw [hneg b]
  ·exact hb
  ·intro hib
   rw [(hr.heap.apart k hk i hi b hib).1] at hb
   cases hb
 have hlab : ∀ j∈s'.H.map (·.1),j≠k∧j∈s.H.map (·.1):=fun j hj=>by
  obtain ⟨⟨j',c'⟩,hm,rfl⟩:=List.mem_map.1 hj
  obtain ⟨h1,c,h2,_⟩:=hch τ hle j' c' hm
  exact ⟨h1,List.mem_map.2 ⟨_,h2,rfl⟩⟩
 refine ⟨τ,β,⟨hr.size,hr.defers,fun j=>hsl τ hle hpos j _ (hr.slots j),⟨fun b c hb => ?_,fun j c' hj => ?_,hnd,fun j hj ij hij b hb => ?_,fun j hj j' hj'=>hr.heap.inj j (hlab j hj).2 j' (hlab j' hj').2⟩⟩,hle,Frm.refl _ _,fun b hb hb' => .inl ?_,fun b ⟨j,hj,hjb⟩ => .inl ⟨j,(hlab j hj).2,hjb⟩,fun _ _ _=>rfl⟩
 ·by_cases ho:i.has b
  ·obtain ⟨c0,e,fr,hh⟩:=hcell b ho
   rw [hpos b c0 e fr ho hh] at hb
   cases hb
   exact ⟨_,_,hh⟩
  ·rw [hneg b ho] at hb
   exact hr.heap.mem b c hb
 ·obtain ⟨_,c,h2,h3⟩:=hch τ hle j c' hj
  exact h3 (hr.heap.chunks j c h2)
 ·have h1:=hlab j hj
  have h2:=hr.heap.apart j h1.2 ij hij b hb
  refine ⟨?_,h2.2⟩
  rw [hneg b fun he=>h1.1 (hr.heap.inj j h1.2 k hk ij i hij hi b hb he)]
  exact h2.1
 ·by_cases ho:i.has b
  ·exact ⟨k,hk,i,hi,ho⟩
  ·rw [hneg b ho] at hb'
   exact absurd hb hb'
theorem Le.matFz {N:Nat} {sl sl':List (Nat×LV)} {H H':Heap} {k:Nat} {e e2:TypeId} {sz:Nat} {rows:List (List AV)} (hg:getH H k=some (.ext (.mat e e2 sz rows [])))
  (hsl : ∀ i,getS sl' i=(getS sl i).kill k∨(getS sl i = .hd k 0 rows.length∧getS sl' i = .p (.sl (rows.map .sl))))
  (hsub:(H'.map (·.1)).Sublist (H.map (·.1))) (hH : ∀ j c',(j,c')∈H'→j≠k∧(j,c')∈H∧c'.kill k=c'):Le N ⟨sl,H⟩ ⟨sl',H'⟩:=fun σ β a w hr=>by
 have hk:=XQ hg
 rcases hr.heap.chunks k _ (QP hg) with ⟨hb0,hr0⟩|⟨i,vs,hi,h1,h2,h3,h4,h5,h6,h7,h8⟩
 ·refine ⟨σ,β,⟨hr.size,hr.defers,fun j => ?_,⟨hr.heap.mem,fun j c' hj => ?_,hsub.nodup hr.heap.nodup,fun j hj=>hr.heap.apart j (hsub.subset hj),fun j hj j' hj'=>hr.heap.inj j (hsub.subset hj) j' (hsub.subset hj')⟩⟩,Mem.le_refl σ,Frm.refl _ _,fun _ h0 h1=>absurd h0 h1,fun b ⟨j,hj,r⟩ => .inl ⟨j,hsub.subset hj,r⟩,fun _ _ _=>rfl⟩
  ·show RepL σ β (getS sl' j) _
   have hv:=hr.slots j
   rcases hsl j with he|⟨g1,g2⟩
   ·rw [he];exact hv.kill k
   ·rw [g2]
    have hv:RepL σ β (getS sl j) _:=hv
    rw [g1] at hv
    rcases hv.hdI with ⟨_,_,_,he⟩|⟨i,_,hk,_⟩
    ·rw [he,hr0];exact .p .nilsl
    ·rw [hb0] at hk;cases hk
  ·exact hr.heap.chunks j c' (hH j c' hj).2.1
 ·have hrow : ∀ (b c a':Nat),i.subs[a']? = some (some (b,c)) → ∃ ws,w.heap[b]? = some (.cells ws e2 (0,0)):=fun b c a' hs=>by
   have ha:a'<rows.length:=by rw [← h6];exact (List.getElem?_eq_some_iff.1 hs).1
   rcases (h8 a' _ (List.getElem?_eq_getElem ha)).2 (by simp) with ⟨q1,_⟩|⟨b',c',ws,q1,_,q3,_⟩
   ·rw [hs] at q1;cases q1
   ·rw [hs] at q1;cases q1;exact ⟨ws,q3⟩
  refine hr.layI hi hk (fun b hb => ?_) (fun τ hle hτ j v hv => ?_) (fun τ hle j c' hj => ?_) (hsub.nodup hr.heap.nodup)
  ·rcases hb with rfl|⟨c,hb⟩
   ·exact ⟨_,_,_,h2⟩
   ·obtain ⟨a',ha',hs⟩:=List.mem_iff_getElem.1 hb
    obtain ⟨ws,hw⟩:=hrow b c a' (by rw [List.getElem?_eq_getElem ha',hs])
    exact ⟨_,_,_,hw⟩
  ·show RepL τ β (getS sl' j) v
   have hv:RepL σ β (getS sl j) v:=hv
   rcases hsl j with he|⟨g1,g2⟩
   ·rw [he];exact (hv.kill k).mono hle
   ·rw [g2]
    rw [g1] at hv
    rcases hv.hdI with ⟨hk',_⟩|⟨i',oo,hk',hl,ho,rfl⟩
    ·rw [hi] at hk';cases hk'
    ·rw [hi] at hk';cases hk'
     have hoo:oo=0:=by
      rcases ho with ho|ho
      ·simpa using ho
      ·omega
     subst hoo
     have hrl : ∀ (m:Nat) (x:AV),(rows.map AV.sl)[m]? = some x → ∃ row,rows[m]? = some row∧x = .sl row:=fun m x hx=>by
      rw [List.getElem?_map] at hx
      cases hq:rows[m]? with
      | none=>rw [hq] at hx;cases hx
      | some row=>rw [hq] at hx;cases hx;exact ⟨row,rfl,rfl⟩
     have hcellv : ∀ (m:Nat) (row:List AV),rows[m]? = some row → ∃ u,vs[m]? = some u∧Rep τ (.sl row) u:=fun m row hm=>by
      rcases (h8 m row hm).2 (by simp) with ⟨q1,rfl,q3⟩|⟨b,c,ws,q1,q2,q3,q4,q5,q6,q7⟩
      ·exact ⟨_,q3,.nilsl⟩
      ·refine ⟨_,q2,.sl row b 0 c sz ws (fun m j=>(ws[m*sz+j]?).getD undef) (hτ b ws _ _ (.inr ⟨c,List.mem_of_getElem? q1⟩) q3) q5 q6 (fun m x hx=>(q7 m x hx).1) (fun m x j c' hx hj => ?_) fun m x j c' hx hj => ?_⟩
       ·obtain ⟨u,r4,_⟩:=(q7 m x hx).2 j c' hj
        simp [r4]
       ·obtain ⟨u,r4,r5⟩:=(q7 m x hx).2 j c' hj
        simpa [r4] using r5.mono hle
     have hfin:Rep τ (.sl (rows.map .sl)) (.slice (some ⟨i.blk,0,none⟩) (rows.map AV.sl).length i.cap):=by
      refine .sl (rows.map .sl) i.blk 0 i.cap 1 vs (fun m j=>(vs[m*1+j]?).getD undef) (hτ _ _ _ _ i.has_blk h2) (by simpa using h4) h5 (fun m x hx => ?_) (fun m x j c' hx hj => ?_) fun m x j c' hx hj => ?_
      ·obtain ⟨row,_,rfl⟩:=hrl m x hx;rfl
      ·obtain ⟨row,g3,rfl⟩:=hrl m x hx
       obtain ⟨u,g4,g5⟩:=hcellv m row g3
       have hj0:j=0:=by
        have:=(List.getElem?_eq_some_iff.1 hj).1
        simpa [AV.cells] using this
       subst hj0
       simp [g4]
      ·obtain ⟨row,g3,rfl⟩:=hrl m x hx
       obtain ⟨u,g4,g5⟩:=hcellv m row g3
       have hj0:j=0:=by
        have:=(List.getElem?_eq_some_iff.1 hj).1
        simpa [AV.cells] using this
       subst hj0
       cases hj
       simpa [g4] using g5
     have:RepL τ β (.p (.sl (rows.map .sl))) (.slice (some ⟨i.blk,0,none⟩) (rows.map AV.sl).length i.cap) := .p hfin
     simpa using this
  ·obtain ⟨g1,g2,g3⟩:=hH j c' hj
   refine ⟨g1,c',g2,fun hold => ?_⟩
   have:=(hold.kill k).mono hle fun _ _ _ _=>rfl
   rwa [g3] at this
open Go.Proofs
theorem Le.matSub {N:Nat} {sl:List (Nat×LV)} {H1 H2:Heap} {k:Nat} {e e2:TypeId} {sz:Nat} {rows rows':List (List AV)} {hole:List Nat} (hl:rows'.length=rows.length) (hr : ∀ (a:Nat) (row':List AV),rows'[a]? = some row' → ∃ row,rows[a]? = some row∧ElS row row') :
  Le N ⟨sl,H1++(k,.ext (.mat e e2 sz rows hole))::H2⟩ ⟨sl,H1++(k,.ext (.mat e e2 sz rows' hole))::H2⟩:=fun σ β a w hrel=>by
 have hk:(H1++(k,Chunk.ext (.mat e e2 sz rows' hole))::H2).map (·.1)=(H1++(k,Chunk.ext (.mat e e2 sz rows hole))::H2).map (·.1):=by simp
 refine ⟨σ,β,⟨hrel.size,hrel.defers,hrel.slots,⟨hrel.heap.mem,fun j c' hj => ?_,by show ((H1++(k,Chunk.ext (.mat e e2 sz rows' hole))::H2).map (·.1)).Nodup;rw [hk];exact hrel.heap.nodup,fun j hj=>hrel.heap.apart j (by rw [← hk];exact hj),fun j hj j' hj'=>hrel.heap.inj j (by rw [← hk];exact hj) j' (by rw [← hk];exact hj')⟩⟩,Mem.le_refl σ,Frm.refl _ w,fun b h0 h1=>absurd h0 h1,fun b ⟨j,hj,r⟩ => .inl ⟨j,by rw [← hk];exact hj,r⟩,fun _ _ _=>rfl⟩
 rcases List.mem_append.1 hj with h1|h1
 ·exact hrel.heap.chunks j c' (List.mem_append.2 (.inl h1))
 rcases List.mem_cons.1 h1 with h2|h1
 rotate_left 1
 ·exact hrel.heap.chunks j c' (List.mem_append.2 (.inr (List.mem_cons_of_mem _ h1)))
 cases h2
 rcases hrel.heap.chunks k _ (List.mem_append.2 (.inr List.mem_cons_self)) with ⟨g1,g2⟩|⟨i,vs,hi,g1,g2,g3,g4,g5,g6,g7,g8⟩
 ·refine .inl ⟨g1,?_⟩
  rw [g2] at hl
  exact List.eq_nil_of_length_eq_zero hl
 ·refine .inr ⟨i,vs,hi,g1,g2,g3,by rw [hl];exact g4,g5,by rw [hl];exact g6,g7,fun a' row' ha => ?_⟩
  obtain ⟨row,h3,h4,h5⟩:=hr a' row' ha
  obtain ⟨h6,h7⟩:=g8 a' row h3
  refine ⟨h6,fun hn => ?_⟩
  rcases h7 hn with ⟨q1,rfl,q3⟩|⟨b,c,ws,q1,q2,q3,q4,q5,q6,q7⟩
  ·exact .inl ⟨q1,List.eq_nil_of_length_eq_zero h4,q3⟩
  ·refine .inr ⟨b,c,ws,q1,by rw [h4];exact q2,q3,q4,by rw [h4];exact q5,q6,fun m x' hx => ?_⟩
   obtain ⟨x,r1,r2,r3⟩:=h5 m x' hx
   refine ⟨by rw [r2];exact (q7 m x r1).1,fun p c' hc => ?_⟩
   obtain ⟨c0,r4,r5⟩:=r3 p c' hc
   obtain ⟨u,r6,r7⟩:=(q7 m x r1).2 p c0 r4
   exact ⟨u,r6,r5 _ _ r7⟩
def nxE (rows:List (List Int)) (t:Int×Int):List (List Int):=rows.set t.1.toNat (rows.getD t.1.toNat []++[t.2])
def UW (n:Nat) (l:List (Int×Int)):List (List Int):=l.foldl nxE (List.replicate n [])
def ZF (w:Way) (f:Pr):List (Int×Int):=(PH w f).map (ixP w.p w.j f w.n)
theorem z5e (rows:List (List Int)) (t:Int×Int):(nxE rows t).length=rows.length:=List.length_set
theorem x5g : ∀ (l:List (Int×Int)) (rows:List (List Int)),(l.foldl nxE rows).length=rows.length
 | [],_=>rfl
 | t::r,rows=>by rw [List.foldl_cons,x5g r,z5e]
theorem x6u (n:Nat) (l:List (Int×Int)):(UW n l).length=n:=by
 unfold UW
 rw [x5g,List.length_replicate]
theorem x6k : ∀ (l:List (Int×Int)) (rows:List (List Int)) (a:Nat),((l.foldl nxE rows).getD a []).length≤(rows.getD a []).length+l.length
 | [],_,_=>Nat.le_refl _
 | t::r,rows,a=>by
   rw [List.foldl_cons]
   have h1:=x6k r (nxE rows t) a
   have h2:((nxE rows t).getD a []).length≤(rows.getD a []).length+1:=by
    unfold nxE
    simp only [List.getD_eq_getElem?_getD,List.getElem?_set]
    by_cases he:t.1.toNat=a
    ·subst he
     by_cases hl:t.1.toNat<rows.length
     ·simp [hl]
     ·simp [hl]
    ·simp [he]
   rw [List.length_cons]
   omega
theorem x6o (n:Nat) (l:List (Int×Int)) (a:Nat):((UW n l).getD a []).length≤l.length:=by
 have:=x6k l (List.replicate n []) a
 have e:((List.replicate n ([]:List Int)).getD a []).length=0:=by
  rw [List.getD_eq_getElem?_getD,List.getElem?_replicate]
  split<;>rfl
 unfold UW
 omega
theorem z1b {n:Nat} : ∀ (l:List (Int×Int)),(∀ t∈l,(0≤t.1∧t.1<n)∧0≤t.2∧t.2<n) → ∀ (rows:List (List Int)),(∀ r∈rows,∀ x∈r,0≤x∧x<n) → ∀ r∈l.foldl nxE rows,∀ x∈r,0≤x∧x<(n:Int)
 | [],_,rows,hr=>hr
 | t::l,hl,rows,hr=>by
   rw [List.foldl_cons]
   refine z1b l (fun u hu=>hl u (List.mem_cons_of_mem _ hu)) _ fun r hm x hx => ?_
   unfold nxE at hm
   rcases List.mem_or_eq_of_mem_set hm with hm|rfl
   ·exact hr r hm x hx
   ·rcases List.mem_append.1 hx with hx|hx
    ·rw [List.getD_eq_getElem?_getD] at hx
     cases hq:rows[t.1.toNat]? with
     | none=>rw [hq] at hx;cases hx
     | some r=>rw [hq] at hx;exact hr r (List.mem_of_getElem? hq) x hx
    ·rcases List.mem_singleton.1 hx with rfl
     exact (hl t List.mem_cons_self).2
theorem w2m (n:Nat) (l:List (Int×Int)) (h : ∀ t∈l,(0≤t.1∧t.1<n)∧0≤t.2∧t.2<n) : ∀ r∈UW n l,∀ x∈r,0≤x∧x<(n:Int) :=
 z1b l h _ fun r hr x hx=>by rw [List.eq_of_mem_replicate hr] at hx;cases hx
def z8i (n a:Nat):List (List Bool):=((List.range n).map (filRow n)).take a++List.replicate (n-a) []
def z1d (n a b:Nat):List Bool:=(filRow n a).take b++List.replicate (n-b) false
theorem w2n {n a b:Nat} (h:b≤n):(z1d n a b).length=n:=by
 unfold z1d
 have:=BA n a
 simp
 omega
theorem w2s {n a b:Nat} (h:b<n):((z1d n a b).map bv).set b (bv (decide (a<n-1)||decide (a=b)))=(z1d n a (b+1)).map bv:=by
 rw [← List.map_set]
 congr 1
 unfold z1d
 have hl:((filRow n a).take b).length=b:=by have:=BA n a;simp;omega
 have hg:(filRow n a)[b]? = some (decide (a<n-1)||decide (a=b)):=by unfold filRow;simp [h]
 rw [List.set_append_right _ _ (by omega),hl,Nat.sub_self,show n-b=(n-(b+1))+1 by omega,List.replicate_succ,List.set_cons_zero,List.take_add_one,hg,List.append_assoc]
 rfl
theorem w2o (n a:Nat):z1d n a n=filRow n a:=by
 unfold z1d
 rw [Nat.sub_self,List.take_of_length_le (by rw [BA];exact Nat.le_refl _)]
 simp
theorem Sub.bv {b x:Bool} (h:b=x):Sub (.bool b) (bv x):=fun _ _ hr=>by
 subst h
 cases b<;>cases hr<;>constructor
theorem ElS.set {es:List AV} {b:Nat} {c c':AV} (hc:c.cells=[c]) (hc':c'.cells=[c']) (h:Sub c c'):ElS (es.set b c) (es.set b c'):=by
 refine ⟨by rw [List.length_set,List.length_set],fun m x' hx => ?_⟩
 by_cases hm:b=m
 ·subst hm
  have hl:b<es.length:=by have:=(List.getElem?_eq_some_iff.1 hx).1;simpa using this
  rw [List.getElem?_set_self hl] at hx
  cases hx
  refine ⟨c,by rw [List.getElem?_set_self hl],by rw [hc,hc'];rfl,fun j d hd => ?_⟩
  rw [hc'] at hd
  match j,hd with
  | 0,hd=>cases hd;exact ⟨c,by rw [hc];rfl,h⟩
  | j+1,hd=>simp at hd
 ·rw [List.getElem?_set_ne hm] at hx
  exact ⟨x',by rw [List.getElem?_set_ne hm];exact hx,rfl,fun j d hd=>⟨d,hd,Sub.refl _⟩⟩
theorem v2l {R:List (List AV)} {a:Nat} {r r':List AV} (h:ElS r r') : ∀ (a':Nat) (row':List AV),(R.set a r')[a']? = some row' → ∃ row,(R.set a r)[a']? = some row∧ElS row row':=fun a' row' hx=>by
 by_cases hm:a=a'
 ·subst hm
  have hl:a<R.length:=by have:=(List.getElem?_eq_some_iff.1 hx).1;simpa using this
  rw [List.getElem?_set_self hl] at hx
  cases hx
  exact ⟨r,List.getElem?_set_self hl,h⟩
 ·rw [List.getElem?_set_ne hm] at hx
  exact ⟨row',by rw [List.getElem?_set_ne hm];exact hx,ElS.refl _⟩
theorem w1c {n a:Nat} (h:a≤n):(z8i n a).length=n:=by
 unfold z8i
 simp
 omega
theorem w2a {n a:Nat} (h:a<n):(z8i n a).set a (filRow n a)=z8i n (a+1):=by
 unfold z8i
 have hl:(((List.range n).map (filRow n)).take a).length=a:=by simp;omega
 have hg:((List.range n).map (filRow n))[a]? = some (filRow n a):=by simp [h]
 rw [List.set_append_right _ _ (by omega),hl,Nat.sub_self,show n-a=(n-(a+1))+1 by omega,List.replicate_succ,List.set_cons_zero,List.take_add_one,hg,List.append_assoc]
 rfl
inductive SlRel (P:LV→LV→Prop):List (Nat×LV)→List (Nat×LV)→Prop
 | nil:SlRel P [] []
 | cons {j:Nat} {l l':LV} {r r':List (Nat×LV)} (h:P l l') (hr:SlRel P r r'):SlRel P ((j,l)::r) ((j,l')::r')
theorem SlRel.get {P:LV→LV→Prop} (h0:P (.p .any) (.p .any)) {sl sl':List (Nat×LV)} (h:SlRel P sl sl') (i:Nat):P (getS sl i) (getS sl' i):=by
 induction h with
 | nil=>exact h0
 | @cons j l l' r r' h hr ih =>
   simp only [getS]
   cases j==i with
   | true=>exact h
   | false=>exact ih
theorem z3s {N':Nat} (w:Way) (n:Nat) (nx:List (List Int)) (hn:nx.length=n) (x1 x2:AV) :
  Le N' ⟨[(0,.p (.ip w.cells)),(3,.hd 0 0 n),(6,.hd 1 0 n),(46,.p x1),(47,.p x2)],[(1,.own 112 1 (List.replicate n .nils)),(0,.ext (.mat 36 3 1 (avI nx) []))]⟩
   ⟨[(0,.p (.ip w.cells)),(3,.p (q8i nx)),(6,.hd 1 0 n),(46,.p x1),(47,.p x2)],[(1,.ext (.mat 112 4 1 (List.replicate n []) []))]⟩:=by
 have hm:=Le.toMat (N:=N') (sl:=[(0,.p (.ip w.cells)),(3,.hd 0 0 n),(6,.hd 1 0 n),(46,.p x1),(47,.p x2)]) (H:=[(1,.own 112 1 (List.replicate n .nils)),(0,.ext (.mat 36 3 1 (avI nx) []))])
  (H':=[(1,.ext (.mat 112 4 1 (List.replicate (List.replicate n AV.nils).length []) [])),(0,.ext (.mat 36 3 1 (avI nx) []))])
  1 4 1 (e:=112) (es:=List.replicate n .nils) rfl (fun x hx=>List.eq_of_mem_replicate hx) rfl rfl rfl rfl (by simp [GC])
 rw [List.length_replicate] at hm
 have hl:(avI nx).length=n:=by unfold avI;rw [List.length_map,hn]
 refine hm.trans (Le.matFz (k:=0) (e:=36) (e2:=3) (sz:=1) (rows:=avI nx) rfl (fun i => ?_) (by show [1].Sublist [1,0];decide) fun j c' hj => ?_)
 ·refine SlRel.get (P:=fun l l'=>l'=l.kill 0∨(l = .hd 0 0 (avI nx).length∧l' = .p (.sl ((avI nx).map .sl)))) (.inl rfl) ?_ i
  exact .cons (.inl rfl) (.cons (.inr ⟨by rw [hl],rfl⟩) (.cons (.inl rfl) (.cons (.inl rfl) (.cons (.inl rfl) .nil))))
 ·rcases List.mem_singleton.1 hj with h
  cases h
  exact ⟨by decide,List.mem_cons_self,rfl⟩
theorem w2x (n:Nat):z8i n n=(List.range n).map (filRow n):=by
 unfold z8i
 rw [Nat.sub_self,List.take_of_length_le (by simp)]
 simp
theorem z7a {N':Nat} {sl:List (Nat×LV)} (n:Nat) (h0:(sl.all fun x=>x.2.xfree 0)=true) :
  Le N' ⟨sl,[(0,.own 36 1 (List.replicate n .nils))]⟩ ⟨sl,[(0,.ext (.mat 36 3 1 (List.replicate n []) []))]⟩:=by
 have hm:=Le.toMat (N:=N') (sl:=sl) (H:=[(0,.own 36 1 (List.replicate n .nils))])
  (H':=[(0,.ext (.mat 36 3 1 (List.replicate (List.replicate n AV.nils).length []) []))])
  0 3 1 (e:=36) (es:=List.replicate n .nils) rfl (fun x hx=>List.eq_of_mem_replicate hx) rfl h0 rfl rfl (by simp [GC])
 simpa using hm
theorem q9z (w:Way) (f:Pr) (n:Nat) (h:WayT w f n) (hp : ∀ t∈ZF w f,(0≤t.1∧t.1<n)∧0≤t.2∧t.2<n) (hlen:(PH w f).length≤1000000):SpecP Tryz.prog 126 [.ip w.cells] (fun r => ∃ fm:List (List Bool),FollowP n (UW n (ZF w f)) fm∧r = .sl ((bmI fm).map .sl)):=by
 refine SpecP.body q4c QQ Tryz.func126 rfl Tryz.call126 (by show 1≤_;decide) ?_
 conv=>whnf
 have hwn:=h.hw
 have hn5:=h.hn
 have hn2:=h.hn2
 have hA:=q6e w f n h
 have hP:=YH w f h.hj h.hc (by omega) (PH w f) hlen
 have hpl:(avP (ZF w f)).length=(ZF w f).length:=by unfold avP;rw [List.length_map]
 have hpl2:(ZF w f).length≤1000000:=by unfold ZF;rw [List.length_map];exact hlen
 have hPe:(PH w f).map (ixP w.p w.j f w.n)=ZF w f:=rfl
 rw [hPe] at hP
 repeat' ((first|intro (_:_≤9223372036854775807)|(refine And.intro ⟨rfl,rfl,by decide⟩ ?_)|refine MkK.mk n (by omega) (by show 24*_≤140737488355328;omega) (by unfold maxLen;omega) ?_|(refine CallK.pure hA (.cons (Sub.refl _) .nil) ?_;rintro _ rfl)|(refine CallK.pure hP (.cons (Sub.refl _) (.cons (Sub.refl _) .nil)) ?_;rintro _ rfl));conv=>whnf)
 refine LoopK.inv QQ (fun j:Nat=>⟨[(0,.p (.ip w.cells)),(3,.hd 0 0 n),(20,.p (.sl (avP (ZF w f)))),(21,.p (.int .i64 (avP (ZF w f)).length)),(22,.p (.int .i64 j))],[(0,.ext (.mat 36 3 1 (avI (UW n ((ZF w f).take j))) []))]⟩) (fun j=>j≤(ZF w f).length) (fun j=>(ZF w f).length-j) 0
  (by
    refine Le.trans (z7a n rfl) ?_
    exact Le.mk [] (by simp) (by simp) (by simp) (.cons (.refl _) (.cons (.refl _) (.cons (.refl _) (.cons (.refl _) (.cons (.refl _) .nil))))) (.cons rfl (.of_eq (by simp [avI,UW])) .nil)) (Nat.zero_le _) ?_
 intro j h2
 rcases Nat.lt_or_ge j (ZF w f).length with hj|hj
 ·have hme:(avP (ZF w f))[j]? = some (.agg [.int .i64 (ZF w f)[j].1,.int .i64 (ZF w f)[j].2]):=by simp [avP,hj]
  obtain ⟨⟨q1,q2⟩,q3,q4⟩:=hp _ (List.getElem_mem hj)
  have hst:UW n ((ZF w f).take (j+1))=nxE (UW n ((ZF w f).take j)) (ZF w f)[j]:=by
   unfold UW
   rw [List.take_succ_eq_append_getElem hj,List.foldl_append]
   rfl
  have hrl:=x6u n ((ZF w f).take j)
  have hcnt:=x6o n ((ZF w f).take j) (ZF w f)[j].1.toNat
  generalize (ZF w f)[j]=t at hme q1 q2 q3 q4 hst hcnt
  generalize UW n ((ZF w f).take j)=rows at hst hrl hcnt ⊢
  obtain ⟨a,ha⟩ : ∃ a:Nat,t.1=a:=⟨t.1.toNat,by omega⟩
  have hal:a<rows.length:=by omega
  have hrow:(avI rows)[a]? = some (rows[a].map (.int .i64)):=by unfold avI;rw [List.getElem?_map,List.getElem?_eq_getElem hal];rfl
  have hput:(avI rows).set a (rows[a].map (.int .i64)++[.int .i64 t.2])=avI (nxE rows t):=by
   unfold nxE avI
   rw [ha,Int.toNat_natCast,List.getD_eq_getElem?_getD,List.getElem?_eq_getElem hal,Option.getD_some,List.map_set,List.map_append]
   rfl
  have hcl:rows[a].length≤1000000:=by
   rw [ha,Int.toNat_natCast,List.getD_eq_getElem?_getD,List.getElem?_eq_getElem hal,Option.getD_some,List.length_take] at hcnt
   omega
  rw [ha] at hme
  conv=>whnf
  repeat' (first|((first|refine And.intro rfl ?_|(refine And.intro ⟨by decide,by decide⟩ ?_)|refine Wr.i64 (by omega) (by omega) ?_|refine DrawK.of QQ mixed (.cons 0 false (.cons 1 false (.cons 2 false (.cons 3 false (.cons 4 false (.cons 5 false (.cons 6 false (.cons 8 false (.cons 9 false (.alo 7 (.cons 10 true (.cons 11 true (.cons 12 true (.cons 13 true .nil)))))))))))))) (by kernel_rfl) ?_|(refine IdxK.at (k:=j) rfl hme rfl ?_)|refine IdxL.mk 0 rfl (by decide) ?_|refine IdxL.mk 1 rfl (by decide) ?_|refine IdxL.mk a rfl (by omega) ?_|refine RowK.mk a _ (by omega) hrow (by simp) ?_|refine BsK.own (fun x hx=>by rcases List.mem_singleton.1 hx with rfl;rfl) rfl ?_|refine OpK.focus QQ 33 0 a 2 rfl rfl hrow (by simp) rfl rfl ?_|refine AppK.int1 rfl (by rw [List.length_map];omega) ?_|(refine OpK.stMat QQ rfl rfl rfl rfl rfl rfl rfl rfl rfl (by decide) a [] (by omega) (by unfold avI;rw [List.length_map];omega) (by simp) ⟨by simp,by simp,by simp⟩ ?_));conv=>whnf)|(refine Br.dec (fun _=>?_) (fun _=>?_)<;>first|(exfalso;omega)|conv=>whnf))
  all_goals exact ⟨j+1,hj,by omega,Le.of_eq (by rw [hst,← hput];rfl)⟩
 ·conv=>whnf
  repeat' (first|((first|intro (_:_≤9223372036854775807)|(refine And.intro ⟨rfl,rfl,by decide⟩ ?_)|refine MkK.mk n (by omega) (by show 24*_≤140737488355328;omega) (by unfold maxLen;omega) ?_);conv=>whnf)|(refine Br.dec (fun _=>?_) (fun _=>?_)<;>first|(exfalso;omega)|conv=>whnf))
  have hje:(ZF w f).take j=ZF w f:=List.take_of_length_le hj
  rw [hje]
  have hNl:=x6u n (ZF w f)
  have hNi:=w2m n (ZF w f) hp
  have hNc:=x6o n (ZF w f)
  generalize UW n (ZF w f)=nx at hNl hNi hNc ⊢
  refine LoopK.inv QQ (fun a:Nat=>⟨[(0,.p (.ip w.cells)),(3,.p (q8i nx)),(6,.hd 1 0 n),(46,.p (.int .i64 n)),(47,.p (.int .i64 a))],[(1,.ext (.mat 112 4 1 (bmI (z8i n a)) []))]⟩) (fun a=>a≤n) (fun a=>n-a) 0
   (by
     refine Le.trans (z3s w n nx hNl _ _) ?_
     exact Le.mk [] (by simp) (by simp) (by simp) (.cons (.refl _) (.cons (.refl _) (.cons (.refl _) (.cons (.refl _) (.cons (.refl _) .nil))))) (.cons rfl (.of_eq (by simp [bmI,z8i])) .nil)) (Nat.zero_le _) ?_
  intro a h3
  rcases Nat.lt_or_ge a n with ha|ha
  ·have hfl:=w1c (n:=n) h3
   have hset:=w2a (n:=n) ha
   generalize z8i n a=rows at hfl hset ⊢
   have hrl:(bmI rows).length=n:=by unfold bmI;rw [List.length_map,hfl]
   conv=>whnf
   repeat' (first|((first|refine And.intro rfl ?_|(refine And.intro ⟨rfl,rfl,by decide⟩ ?_)|refine MkK.mk n (by omega) (by show 1*_≤140737488355328;omega) (by unfold maxLen;omega) ?_|refine IdxL.mk a rfl ha ?_|(refine OpK.stMat QQ rfl rfl rfl rfl rfl rfl rfl rfl rfl (by decide) a [] (by omega) (by omega) (by simp) ⟨by simp,by simp,by simp⟩ ?_)|refine RowK.mk a (List.replicate n .ff) (by omega) (by rw [List.getElem?_set_self (by omega)];rfl) (by simp) ?_);conv=>whnf)|(refine Br.dec (fun _=>?_) (fun _=>?_)<;>first|(exfalso;omega)|conv=>whnf))
   refine LoopK.inv QQ (fun b:Nat=>⟨[(0,.p (.ip w.cells)),(3,.p (q8i nx)),(6,.hd 1 0 n),(7,.p (.int .i64 a)),(46,.p (.int .i64 n)),(47,.p (.int .i64 a)),(62,.p (.int .i64 n)),(63,.p (.int .i64 b))],[(1,.ext (.mat 112 4 1 ((bmI rows).set a ((z1d n a b).map bv)) []))]⟩) (fun b=>b≤n) (fun b=>n-b) 0
    (Le.of_eq (by rw [List.length_replicate,show (z1d n a 0).map bv=List.replicate n .ff by unfold z1d;simp [bv]];rfl)) (Nat.zero_le _) ?_
   intro b h4
   rcases Nat.lt_or_ge b n with hb|hb
   ·have hfs:=w2s (n:=n) (a:=a) hb
    have htl:=w2n (n:=n) (a:=a) h4
    have hrow:((bmI rows).set a ((z1d n a b).map bv))[a]? = some ((z1d n a b).map bv):=List.getElem?_set_self (by omega)
    have hrln:((z1d n a b).map bv).length=n:=by rw [List.length_map,htl]
    generalize (z1d n a b).map bv=row at hfs hrow hrln ⊢
    conv=>whnf
    repeat' (first|((first|refine DrawK.auto QQ mixed (by kernel_rfl) ?_|refine And.intro rfl ?_|refine Wr.eq (m:=(n:Int)-1) (by omega) (by omega) (by omega) ?_|refine Wr.i64 (by omega) (by omega) ?_|refine IdxL.mk a rfl ha ?_|refine RowK.mk a row (by omega) hrow (by simp) ?_|refine IdxL.mk b rfl (by omega) ?_|refine OpK.stEl QQ rfl rfl rfl rfl rfl rfl rfl rfl rfl hrow (by simp) (by omega) ?_);conv=>whnf)|(refine Br.dec (fun _=>?_) (fun _=>?_)<;>first|(exfalso;omega)|conv=>whnf))
    have e1 : ∀ c,((bmI rows).set a row).set a (row.set (b*1) c)=(bmI rows).set a (row.set b c):=fun c=>by rw [List.set_set,Nat.mul_one]
    ·have hx:(decide (a<n-1)||decide (a=b))=true:=by rw [decide_eq_true (by omega)];rfl
     rw [hx] at hfs
     exact ⟨b+1,by omega,by omega,Le.of_eq (by rw [e1,← hfs];rfl)⟩
    ·have hx:(decide (a<n-1)||decide (a=b))=((a:Int)==b):=by
      rw [decide_eq_false (by omega),Bool.false_or]
      by_cases hab:a=b
      ·subst hab;simp
      ·have : ¬(a:Int)=b:=by omega
       rw [decide_eq_false hab,beq_eq_false_iff_ne.2 this]
     have e1 : ∀ c,((bmI rows).set a row).set a (row.set (b*1) c)=(bmI rows).set a (row.set b c):=fun c=>by rw [List.set_set,Nat.mul_one]
     rw [hx] at hfs
     refine ⟨b+1,by omega,by omega,?_⟩
     rw [e1]
     exact ((Le.matSub (H1:=[]) (rows':=(bmI rows).set a (row.set b (bv ((a:Int)==b)))) (by rw [List.length_set,List.length_set]) (v2l (ElS.set rfl (q1k _) (Sub.bv rfl)))).trans (Le.of_eq (by rw [hfs];rfl)))
   ·have hbe:b=n:=by omega
    subst hbe
    rw [w2o]
    have hbm:(bmI rows).set a ((filRow b a).map bv)=bmI (z8i b (a+1)):=by
     rw [← hset]
     unfold bmI
     rw [List.map_set]
    rw [hbm]
    conv=>whnf
    repeat' (first|(refine Wr.i64 (by omega) (by omega) ?_;conv=>whnf)|(refine Br.dec (fun _=>?_) (fun _=>?_)<;>first|(exfalso;omega)|conv=>whnf))
    exact ⟨a+1,by omega,by omega,Le.of_eq rfl⟩
  ·have hae:a=n:=by omega
   rw [hae,w2x]
   have hS:=FolI.start hn2 nx
   have hnx : ∀ a,∀ x∈nx.getD a [],0≤x∧x<(n:Int):=fun a x hx=>by
    rw [List.getD_eq_getElem?_getD] at hx
    cases hq:nx[a]? with
    | none=>rw [hq] at hx;cases hx
    | some r=>rw [hq] at hx;exact hNi r (List.mem_of_getElem? hq) x hx
   generalize (List.range n).map (filRow n)=fm0 at hS ⊢
   clear h3 ha hae a
   conv=>whnf
   repeat' (refine Br.dec (fun _=>?_) (fun _=>?_)<;>first|(exfalso;omega)|conv=>whnf)
   refine LoopK.inv QQ (fun x:List (List Bool)×Bool=>⟨[(0,.p (.ip w.cells)),(3,.p (q8i nx)),(6,.hd 1 0 n),(9,.p (bv x.2))],[(1,.ext (.mat 112 4 1 (bmI x.1) []))]⟩) (fun x=>FolI n nx x.1∧(x.2=false → ∀ a,a<n-1→x.1.getD a []=rowF n nx x.1 a)) (fun x=>2*z0e x.1+x.2.toNat) (fm0,true)
    (Le.of_eq rfl) ⟨hS,fun h=>by cases h⟩ ?_
   rintro ⟨fm,turned⟩ ⟨hI,hfix⟩
   simp only at hI hfix ⊢
   cases turned with
   | false =>
     have hbl:n=(bmI fm).length:=by unfold bmI;rw [List.length_map,hI.len]
     conv=>whnf
     skip
     exact ⟨_,.mat rfl hbl,fm,⟨hI,hfix rfl⟩,rfl⟩
   | true =>
     conv=>whnf
     repeat' (refine Wr.eq (m:=(n:Int)-2) (by omega) (by omega) (by omega) ?_;conv=>whnf)
     refine LoopK.inv QQ (fun y:List (List Bool)×Bool×Int=>⟨[(0,.p (.ip w.cells)),(3,.p (q8i nx)),(6,.hd 1 0 n),(9,.p (bv y.2.1)),(10,.p (.int .i64 y.2.2))],[(1,.ext (.mat 112 4 1 (bmI y.1) []))]⟩)
      (fun y=>FolI n nx y.1∧(-1≤y.2.2∧y.2.2≤(n:Int)-2)∧(y.2.1=false→y.1=fm ∧ ∀ a':Nat,y.2.2<a'→a'<n-1→fm.getD a' []=rowF n nx fm a')∧(y.2.1=true→z0e y.1<z0e fm)) (fun y=>(y.2.2+1).toNat) (fm,false,(n:Int)-2)
      (Le.of_eq rfl) ⟨hI,⟨by simp only;omega,by simp only;omega⟩,fun _=>⟨rfl,fun a' h1 h2=>by simp only at h1;omega⟩,fun h=>by cases h⟩ ?_
     rintro ⟨gm,t,a⟩ ⟨hG,⟨ha1,ha2⟩,hf,hl⟩
     simp only at hG ha1 ha2 hf hl ⊢
     rcases Int.lt_or_le a 0 with ha0|ha0
     ·have hae:a = -1:=by omega
      subst hae
      have fin : ∃ x:List (List Bool)×Bool,x=(gm,t)∧2*z0e x.1+x.2.toNat<2*z0e fm+1:=⟨_,rfl,by
       cases t with
       | true=>have:=hl rfl;simp only [Bool.toNat_true];omega
       | false=>rw [(hf rfl).1];simp⟩
      obtain ⟨x,rfl,hm⟩:=fin
      conv=>whnf
      repeat' (refine Br.dec (fun _=>?_) (fun _=>?_)<;>first|(exfalso;omega)|conv=>whnf)
      refine ⟨(gm,t),⟨hG,fun ht a ha => ?_⟩,hm,Le.mk [] (by simp) (by simp) (by simp) (.cons (.refl _) (.cons (.refl _) (.cons (.refl _) (.cons (.refl _) .nil)))) (.cons rfl (.refl _) .nil)⟩
      simp only at ht ⊢
      obtain ⟨q1,q2⟩:=hf ht
      rw [q1]
      exact q2 a (by omega) ha
     ·obtain ⟨i,rfl⟩ : ∃ i:Nat,a=i:=⟨a.toNat,by omega⟩
      have hin:i<n-1:=by omega
      have hinx:i<nx.length:=by omega
      have higm:i<gm.length:=by rw [hG.len];omega
      have hNr:((avI nx).map AV.sl)[i]? = some (.sl (nx[i].map (.int .i64))):=by unfold avI;rw [List.map_map,List.getElem?_map,List.getElem?_eq_getElem hinx];rfl
      have hng:nx.getD i []=nx[i]:=by rw [List.getD_eq_getElem?_getD,List.getElem?_eq_getElem hinx];rfl
      have hgg:gm.getD i []=gm[i]:=by rw [List.getD_eq_getElem?_getD,List.getElem?_eq_getElem higm];rfl
      have hcl:nx[i].length≤1000000:=by have:=hNc i;rw [hng] at this;omega
      have hSh:=z3n gm nx[i] n hG.len hn5 hG.rows hcl (fun x hx=>hnx i x (by rw [hng];exact hx))
      have hse:((XB gm nx[i] n).map bv)[i]? = some (bv (KT gm nx[i] i)):=by unfold XB;rw [List.map_map,List.getElem?_map,List.getElem?_range (by omega)];rfl
      have hst:((XB gm nx[i] n).map bv).set i (bv true)=(rowF n nx gm i).map bv:=by
       unfold rowF
       rw [hng,List.map_set]
      have hgr:(bmI gm)[i]? = some (gm[i].map bv):=by unfold bmI;rw [List.getElem?_map,List.getElem?_eq_getElem higm];rfl
      have hgl:(gm[i].map bv).length=n:=by rw [List.length_map];exact hG.rows _ (List.getElem_mem higm)
      have hrl:((rowF n nx gm i).map bv).length=n:=by rw [List.length_map,q0t]
      have hbl:(bmI gm).length=n:=by unfold bmI;rw [List.length_map,hG.len]
      have hEq:=FX (rowF n nx gm i) gm[i]
      by_cases hq:rowF n nx gm i=gm[i]
      ·rw [decide_eq_true hq] at hEq
       have fin : ∃ y:List (List Bool)×Bool×Int,y=(gm,t,(i:Int)-1)∧(FolI n nx y.1∧(-1≤y.2.2∧y.2.2≤(n:Int)-2)∧(y.2.1=false→y.1=fm ∧ ∀ a':Nat,y.2.2<a'→a'<n-1→fm.getD a' []=rowF n nx fm a')∧(y.2.1=true→z0e y.1<z0e fm)):=⟨_,rfl,hG,⟨by simp only;omega,by simp only;omega⟩,fun ht=>by
        obtain ⟨q1,q2⟩:=hf ht
        refine ⟨q1,fun a' h1 h2 => ?_⟩
        simp only at h1
        by_cases he:a'=i
        ·subst he
         subst q1
         rw [hgg,hq]
        ·exact q2 a' (by omega) h2,hl⟩
       obtain ⟨y,rfl,hfin⟩:=fin
       conv=>whnf
       repeat' (first|((first|refine And.intro rfl ?_|(refine IdxK.at (k:=i) rfl hNr rfl ?_)|refine IdxL.mk i rfl (by omega) ?_|refine StOwn.mk i 0 _ (bv true) (by show (0+i)*1=i*1+0;omega) hse (Nat.le_refl _) (by rw [q1k,q1k];rfl) ?_|refine RowK.mk i _ (by omega) hgr (by simp) ?_);conv=>whnf)|(refine Br.dec (fun _=>?_) (fun _=>?_)<;>first|(exfalso;omega)|conv=>whnf)|(refine CallK.heap [(1000,1)] 5 (ArgsH.cons (LSub.refl _) (ArgsH.cons (LSub.refl _) ArgsH.nil)) (by refine BlksH.cons (j:=1) rfl rfl ?_ ?_;exact CSub.refl _;exact BlksH.nil) hSh rfl rfl ?_;rintro l' H' ⟨rfl,rfl⟩;conv=>whnf))
       rw [hst]
       repeat' (first|((first|refine And.intro rfl ?_|refine Wr.eq (m:=(i:Int)-1) (by omega) (by omega) (by omega) ?_|refine IdxL.mk i rfl (by omega) ?_|(refine OpK.stMat QQ rfl rfl rfl rfl rfl rfl rfl rfl rfl (by decide) i [] (by omega) (by omega) hrl.symm ⟨by simp,by simp,by simp⟩ ?_));conv=>whnf)|(refine Br.n (fun _=>?_) (fun _=>?_)<;>conv=>whnf)|(refine CallK.borrow hEq (.cons (.hd rfl hrl.symm) (.cons (.row rfl hgr (by simp)) .nil)) (by rintro _ rfl;rfl) ?_;rintro _ rfl;conv=>whnf))
       all_goals first
        | exact ⟨_,hfin,by simp only;omega,Le.mk [] (by simp) (by simp) (by simp) (.cons (.refl _) (.cons (.refl _) (.cons (.refl _) (.cons (.refl _) (.cons (.refl _) .nil))))) (.cons rfl (.refl _) .nil)⟩
        | (exfalso;simp_all;done)
      ·rw [decide_eq_false hq] at hEq
       have hsb:(bmI gm).set i ((rowF n nx gm i).map bv)=bmI (gm.set i (rowF n nx gm i)):=by unfold bmI;rw [List.map_set]
       have hne:rowF n nx gm i≠gm.getD i []:=by rw [hgg];exact hq
       have fin : ∃ y:List (List Bool)×Bool×Int,y=(gm.set i (rowF n nx gm i),true,(i:Int)-1)∧(FolI n nx y.1∧(-1≤y.2.2∧y.2.2≤(n:Int)-2)∧(y.2.1=false→y.1=fm ∧ ∀ a':Nat,y.2.2<a'→a'<n-1→fm.getD a' []=rowF n nx fm a')∧(y.2.1=true→z0e y.1<z0e fm)):=⟨_,rfl,hG.step hnx hin,⟨by simp only;omega,by simp only;omega⟩,fun ht=>by (simp only at ht;cases ht),fun _=>by
        have h1:=hG.less hin hne
        cases t with
        | true=>exact Nat.lt_trans h1 (hl rfl)
        | false=>rw [(hf rfl).1] at h1 ⊢;exact h1⟩
       obtain ⟨y,rfl,hfin⟩:=fin
       conv=>whnf
       repeat' (first|((first|refine And.intro rfl ?_|(refine IdxK.at (k:=i) rfl hNr rfl ?_)|refine IdxL.mk i rfl (by omega) ?_|refine StOwn.mk i 0 _ (bv true) (by show (0+i)*1=i*1+0;omega) hse (Nat.le_refl _) (by rw [q1k,q1k];rfl) ?_|refine RowK.mk i _ (by omega) hgr (by simp) ?_);conv=>whnf)|(refine Br.dec (fun _=>?_) (fun _=>?_)<;>first|(exfalso;omega)|conv=>whnf)|(refine CallK.heap [(1000,1)] 5 (ArgsH.cons (LSub.refl _) (ArgsH.cons (LSub.refl _) ArgsH.nil)) (by refine BlksH.cons (j:=1) rfl rfl ?_ ?_;exact CSub.refl _;exact BlksH.nil) hSh rfl rfl ?_;rintro l' H' ⟨rfl,rfl⟩;conv=>whnf))
       rw [hst]
       repeat' (first|((first|refine And.intro rfl ?_|refine Wr.eq (m:=(i:Int)-1) (by omega) (by omega) (by omega) ?_|refine IdxL.mk i rfl (by omega) ?_|(refine OpK.stMat QQ rfl rfl rfl rfl rfl rfl rfl rfl rfl (by decide) i [] (by omega) (by omega) hrl.symm ⟨by simp,by simp,by simp⟩ ?_));conv=>whnf)|(refine Br.n (fun _=>?_) (fun _=>?_)<;>conv=>whnf)|(refine CallK.borrow hEq (.cons (.hd rfl hrl.symm) (.cons (.row rfl hgr (by simp)) .nil)) (by rintro _ rfl;rfl) ?_;rintro _ rfl;conv=>whnf))
       all_goals first
        | exact ⟨_,hfin,by simp only;omega,Le.mk [] (by simp) (by simp) (by simp) (.cons (.refl _) (.cons (.refl _) (.cons (.refl _) (.cons (.refl _) (.cons (.refl _) .nil))))) (.cons rfl (.of_eq (by rw [hsb])) .nil)⟩
        | (exfalso;simp_all;done)
open Go.Proofs
def w0w (fm:List (List Bool)) (t:Int×Int) (b:Nat):Bool:=bitF fm t.2.toNat b&&(decide (t.1=b) || !bitF fm t.1.toNat b)
def mkM (n:Nat) (fm:List (List Bool)) (l:List (Int×Int)) (a b:Nat):Bool:=(decide (1≤b)&&decide (b<n-1))&&l.any fun t=>decide (t.1=a)&&w0w fm t b
structure DimB (n:Nat) (M:List (List Bool)):Prop where
 len:M.length=n
 rows : ∀ r∈M,r.length=n
theorem DimB.row {n:Nat} {M:List (List Bool)} (h:DimB n M) {a:Nat} (ha:a<n):(bmI M)[a]? = some ((M.getD a []).map bv)∧((M.getD a []).map bv).length=n:=by
 have hal:a<M.length:=by rw [h.len];exact ha
 have e:M.getD a []=M[a]:=by rw [List.getD_eq_getElem?_getD,List.getElem?_eq_getElem hal];rfl
 rw [e]
 refine ⟨by unfold bmI;rw [List.getElem?_map,List.getElem?_eq_getElem hal];rfl,?_⟩
 rw [List.length_map]
 exact h.rows _ (List.getElem_mem hal)
theorem DimB.bit {n:Nat} {M:List (List Bool)} (h:DimB n M) {a b:Nat} (ha:a<n) (hb:b<n):((M.getD a []).map bv)[b]? = some (bv (bitF M a b)):=by
 obtain ⟨_,h2⟩:=h.row ha
 have hbl:b<(M.getD a []).length:=by rw [List.length_map] at h2;omega
 rw [List.getElem?_map,List.getElem?_eq_getElem hbl]
 unfold bitF
 rw [List.getD_eq_getElem?_getD (l:=M.getD a []) (i:=b),List.getElem?_eq_getElem hbl]
 rfl
theorem DimB.set {n:Nat} {M:List (List Bool)} (h:DimB n M) {a b:Nat} (ha:a<n) (hb:b<n):DimB n (M.set a ((M.getD a []).set b true))∧(bmI M).set a (((M.getD a []).map bv).set b .tt)=bmI (M.set a ((M.getD a []).set b true)) ∧ ∀ x y,x<n→y<n→bitF (M.set a ((M.getD a []).set b true)) x y=if x=a∧y=b then true else bitF M x y:=by
 have hal:a<M.length:=by rw [h.len];exact ha
 obtain ⟨_,h2⟩:=h.row ha
 rw [List.length_map] at h2
 refine ⟨⟨by rw [List.length_set];exact h.len,fun r hr => ?_⟩,?_,fun x y hx hy => ?_⟩
 ·rcases List.mem_or_eq_of_mem_set hr with hr|rfl
  ·exact h.rows r hr
  ·rw [List.length_set];exact h2
 ·unfold bmI
  rw [List.map_set,List.map_set]
  rfl
 ·rw [x1o hal]
  by_cases hxa:x=a
  ·subst hxa
   rw [if_pos rfl,List.getD_eq_getElem?_getD]
   by_cases hyb:y=b
   ·subst hyb
    rw [if_pos ⟨rfl,rfl⟩,List.getElem?_set_self (by omega)]
    rfl
   ·rw [if_neg (fun h=>hyb h.2),List.getElem?_set_ne (Ne.symm hyb),← List.getD_eq_getElem?_getD]
    rfl
  ·rw [if_neg hxa,if_neg (fun h=>hxa h.1)]
def z8m (plc:Int→Int) (M:List (List Bool)) (n a:Nat):List (Int×Int):=(List.range a).flatMap fun (x:Nat)=>((List.range n).filter fun y=>bitF M x y).map fun (y:Nat)=>(plc x,plc y)
def z5p (plc:Int→Int) (M:List (List Bool)) (a b:Nat):List (Int×Int):=((List.range b).filter fun y=>bitF M a y).map fun (y:Nat)=>(plc a,plc y)
theorem x4p (plc:Int→Int) (M:List (List Bool)) (n a:Nat):z8m plc M n (a+1)=z8m plc M n a++z5p plc M a n:=by
 unfold z8m z5p
 rw [List.range_succ,List.flatMap_append]
 simp
theorem z8y (plc:Int→Int) (M:List (List Bool)) (a b:Nat):z5p plc M a (b+1)=z5p plc M a b++(if bitF M a b then [(plc a,plc b)] else []):=by
 unfold z5p
 rw [List.range_succ,List.filter_append,List.map_append]
 congr 1
 cases h:bitF M a b<;>simp [h]
theorem z1z (plc:Int→Int) (M:List (List Bool)) (a b:Nat):(z5p plc M a b).length≤b:=by
 unfold z5p
 rw [List.length_map]
 exact Nat.le_trans (List.length_filter_le _ _) (by simp)
theorem w2u (plc:Int→Int) (M:List (List Bool)) (n a:Nat):(z8m plc M n a).length≤a*n:=by
 induction a with
 | zero=>unfold z8m;simp
 | succ a ih =>
   have:=z1z plc M a n
   rw [x4p,List.length_append,Nat.add_mul,Nat.one_mul]
   omega
def zR (n a:Nat):List (List Bool):=List.replicate a (List.replicate n false)++List.replicate (n-a) []
theorem w7r {n a:Nat} (h:a≤n):(zR n a).length=n:=by unfold zR;simp;omega
theorem w7j {n a:Nat} (h:a<n):(bmI (zR n a)).set a (List.replicate n .ff)=bmI (zR n (a+1)):=by
 have e:(zR n a).set a (List.replicate n false)=zR n (a+1):=by
  unfold zR
  rw [List.set_append_right _ _ (by simp),List.length_replicate,Nat.sub_self,show n-a=(n-(a+1))+1 by omega,List.replicate_succ,List.set_cons_zero,List.replicate_succ',List.append_assoc]
  rfl
 rw [← e]
 unfold bmI
 rw [List.map_set]
 congr 1
 simp [bv]
theorem w8h (n:Nat):DimB n (zR n n) ∧ ∀ a b,bitF (zR n n) a b=false:=by
 have e:zR n n=List.replicate n (List.replicate n false):=by unfold zR;simp
 rw [e]
 refine ⟨⟨by simp,fun r hr=>by rw [List.eq_of_mem_replicate hr];simp⟩,fun a b => ?_⟩
 unfold bitF
 simp only [List.getD_eq_getElem?_getD,List.getElem?_replicate]
 split
 ·simp only [Option.getD_some,List.getElem?_replicate]
  split<;>rfl
 ·rfl
theorem z5z {N':Nat} {sl:List (Nat×LV)} (n:Nat) (h0:(sl.all fun x=>x.2.xfree 0)=true) :
  Le N' ⟨sl,[(0,.own 112 1 (List.replicate n .nils))]⟩ ⟨sl,[(0,.ext (.mat 112 4 1 (List.replicate n []) []))]⟩:=by
 have hm:=Le.toMat (N:=N') (sl:=sl) (H:=[(0,.own 112 1 (List.replicate n .nils))])
  (H':=[(0,.ext (.mat 112 4 1 (List.replicate (List.replicate n AV.nils).length []) []))])
  0 4 1 (e:=112) (es:=List.replicate n .nils) rfl (fun x hx=>List.eq_of_mem_replicate hx) rfl h0 rfl rfl (by simp [GC])
 simpa using hm
theorem q6v (w:Way) (f:Pr) (n:Nat) (h:WayT w f n) (hp : ∀ t∈ZF w f,(0≤t.1∧t.1<n)∧0≤t.2∧t.2<n) (hlen:(PH w f).length≤1000000):SpecP Tryz.prog 109 [.ip w.cells] (fun r => ∃ fm M:List (List Bool),FollowP n (UW n (ZF w f)) fm∧DimB n M∧(∀ a b,a<n→b<n→bitF M a b=mkM n fm (ZF w f) a b)∧r = .sl (avP (z8m (QM w.p w.j w.n) M n n))):=by
 refine SpecP.body q3k QQ Tryz.func109 rfl Tryz.call109 (by show 1≤_;decide) ?_
 conv=>whnf
 have hwn:=h.hw
 have hn5:=h.hn
 have hn2:=h.hn2
 have hF:=q9z w f n h hp hlen
 have hA:=q6e w f n h
 have hP:=YH w f h.hj h.hc (by omega) (PH w f) hlen
 have hpl:(avP (ZF w f)).length=(ZF w f).length:=by unfold avP;rw [List.length_map]
 have hpl2:(ZF w f).length≤1000000:=by unfold ZF;rw [List.length_map];exact hlen
 have hPe:(PH w f).map (ixP w.p w.j f w.n)=ZF w f:=rfl
 rw [hPe] at hP
 repeat' ((first|intro (_:_≤9223372036854775807)|(refine And.intro ⟨rfl,rfl,by decide⟩ ?_)|(refine CallK.pure hF (.cons (Sub.refl _) .nil) ?_;rintro _ ⟨fm,hFP,rfl⟩)|refine MkK.mk n (by omega) (by show 24*_≤140737488355328;omega) (by unfold maxLen;omega) ?_);conv=>whnf)
 have hFD:DimB n fm:=⟨hFP.inv.len,hFP.inv.rows⟩
 refine LoopK.inv QQ (fun a:Nat=>⟨[(0,.p (.ip w.cells)),(3,.p (.sl ((bmI fm).map .sl))),(4,.hd 0 0 n),(21,.p (.int .i64 n)),(22,.p (.int .i64 a))],[(0,.ext (.mat 112 4 1 (bmI (zR n a)) []))]⟩) (fun a=>a≤n) (fun a=>n-a) 0
  (by
    refine Le.trans (z5z n rfl) ?_
    exact Le.mk [] (by simp) (by simp) (by simp) (.cons (.refl _) (.cons (.refl _) (.cons (.refl _) (.cons (.refl _) (.cons (.refl _) .nil))))) (.cons rfl (.of_eq (by simp [bmI,zR])) .nil)) (Nat.zero_le _) ?_
 intro a h3
 rcases Nat.lt_or_ge a n with ha|ha
 ·have hzl:=w7r (n:=n) h3
  have hzs:=w7j (n:=n) ha
  have hbl:(bmI (zR n a)).length=n:=by unfold bmI;rw [List.length_map,hzl]
  generalize bmI (zR n a)=rows at hzs hbl ⊢
  conv=>whnf
  repeat' (first|((first|refine And.intro rfl ?_|(refine And.intro ⟨rfl,rfl,by decide⟩ ?_)|refine Wr.i64 (by omega) (by omega) ?_|refine MkK.mk n (by omega) (by show 1*_≤140737488355328;omega) (by unfold maxLen;omega) ?_|refine IdxL.mk a rfl ha ?_|(refine OpK.stMat QQ rfl rfl rfl rfl rfl rfl rfl rfl rfl (by decide) a [] (by omega) (by omega) (by simp) ⟨by simp,by simp,by simp⟩ ?_));conv=>whnf)|(refine Br.dec (fun _=>?_) (fun _=>?_)<;>first|(exfalso;omega)|conv=>whnf))
  exact ⟨a+1,by omega,by omega,Le.of_eq (by rw [← hzs];rfl)⟩
 have hae:a=n:=by omega
 rw [hae]
 clear h3 ha hae a
 obtain ⟨hz1,hz2⟩:=w8h n
 generalize zR n n=M0 at hz1 hz2 ⊢
 conv=>whnf
 repeat' (first|((first|intro (_:_≤9223372036854775807)|(refine CallK.pure hA (.cons (Sub.refl _) .nil) ?_;rintro _ rfl)|(refine CallK.pure hP (.cons (Sub.refl _) (.cons (Sub.refl _) .nil)) ?_;rintro _ rfl));conv=>whnf)|(refine Br.dec (fun _=>?_) (fun _=>?_)<;>first|(exfalso;omega)|conv=>whnf))
 refine LoopK.inv QQ (fun x:Nat×List (List Bool)=>⟨[(0,.p (.ip w.cells)),(3,.p (.sl ((bmI fm).map .sl))),(4,.hd 0 0 n),(37,.p (.sl (avP (ZF w f)))),(38,.p (.int .i64 (avP (ZF w f)).length)),(39,.p (.int .i64 x.1))],[(0,.ext (.mat 112 4 1 (bmI x.2) []))]⟩)
  (fun x=>x.1≤(ZF w f).length∧DimB n x.2 ∧ ∀ a b,a<n→b<n→bitF x.2 a b=mkM n fm ((ZF w f).take x.1) a b) (fun x=>(ZF w f).length-x.1) (0,M0) (Le.of_eq rfl) ⟨Nat.zero_le _,hz1,fun a b _ _=>by simp only [hz2];unfold mkM;simp⟩ ?_
 rintro ⟨j,M⟩ ⟨h2,hD,hB⟩
 simp only at h2 hD hB ⊢
 rcases Nat.lt_or_ge j (ZF w f).length with hj|hj
 ·have hme:(avP (ZF w f))[j]? = some (.agg [.int .i64 (ZF w f)[j].1,.int .i64 (ZF w f)[j].2]):=by simp [avP,hj]
  obtain ⟨⟨q1,q2⟩,q3,q4⟩:=hp _ (List.getElem_mem hj)
  have hmk : ∀ a b,mkM n fm ((ZF w f).take (j+1)) a b=(mkM n fm ((ZF w f).take j) a b||((decide (1≤b)&&decide (b<n-1))&&(decide ((ZF w f)[j].1=a)&&w0w fm (ZF w f)[j] b))):=fun a b=>by
   unfold mkM
   rw [List.take_succ_eq_append_getElem hj,List.any_append]
   simp only [List.any_cons,List.any_nil,Bool.or_false]
   cases (decide (1≤b)&&decide (b<n-1))<;>simp
  generalize (ZF w f)[j]=t at hme q1 q2 q3 q4 hmk
  obtain ⟨a,ha⟩ : ∃ a:Nat,t.1=a:=⟨t.1.toNat,by omega⟩
  obtain ⟨c,hc⟩ : ∃ c:Nat,t.2=c:=⟨t.2.toNat,by omega⟩
  have han:a<n:=by omega
  have hcn:c<n:=by omega
  rw [ha,hc] at hme
  have hdec : ∀ b,w0w fm t b=(bitF fm c b&&(decide (a=b) || !bitF fm a b)):=fun b=>by
   unfold w0w
   rw [ha,hc,Int.toNat_natCast,Int.toNat_natCast]
   congr 2
   by_cases e:a=b
   ·subst e;simp
   ·rw [decide_eq_false e,decide_eq_false (by omega)]
  conv=>whnf
  repeat' (first|((first|refine And.intro rfl ?_|(refine IdxK.at (k:=j) rfl hme rfl ?_)|refine IdxL.mk 0 rfl (by decide) ?_);conv=>whnf)|(refine Br.dec (fun _=>?_) (fun _=>?_)<;>first|(exfalso;omega)|conv=>whnf))
  refine LoopK.inv QQ (fun y:Nat×List (List Bool)=>⟨[(0,.p (.ip w.cells)),(3,.p (.sl ((bmI fm).map .sl))),(4,.hd 0 0 n),(7,.p (.ip [.int .i64 a,.int .i64 c])),(8,.p (.int .i64 a)),(9,.p (.int .i64 y.1)),(37,.p (.sl (avP (ZF w f)))),(38,.p (.int .i64 (avP (ZF w f)).length)),(39,.p (.int .i64 j))],[(0,.ext (.mat 112 4 1 (bmI y.2) []))]⟩)
   (fun y=>(1≤y.1∧y.1≤n-1)∧DimB n y.2 ∧ ∀ a' b',a'<n→b'<n→bitF y.2 a' b'=(mkM n fm ((ZF w f).take j) a' b'||((decide (1≤b')&&decide (b'<y.1))&&(decide (t.1=a')&&w0w fm t b')))) (fun y=>n-y.1) (1,M) (Le.of_eq rfl)
   ⟨⟨Nat.le_refl _,by simp only;omega⟩,hD,fun a' b' h1 h2=>by
     simp only
     rw [hB a' b' h1 h2]
     cases hq:(decide (1≤b')&&decide (b'<1)) with
     | true=>simp at hq;omega
     | false=>simp⟩ ?_
  rintro ⟨b,L⟩ ⟨⟨h4,h5⟩,hL,hLB⟩
  simp only at h4 h5 hL hLB ⊢
  rcases Nat.lt_or_ge b (n-1) with hb|hb
  ·have hbn:b<n:=by omega
   obtain ⟨r1,r2⟩:=hFD.row hcn
   obtain ⟨s1,s2⟩:=hFD.row han
   obtain ⟨u1,u2⟩:=hL.row han
   have e1:=hFD.bit hcn hbn
   have e2:=hFD.bit han hbn
   obtain ⟨d1,d2,d3⟩:=hL.set han hbn
   have hr1:((bmI fm).map AV.sl)[c]? = some (.sl ((fm.getD c []).map bv)):=by rw [List.getElem?_map,r1];rfl
   have hr2:((bmI fm).map AV.sl)[a]? = some (.sl ((fm.getD a []).map bv)):=by rw [List.getElem?_map,s1];rfl
   have no:w0w fm t b=false → ∀ a' b',a'<n→b'<n→bitF L a' b'=(mkM n fm ((ZF w f).take j) a' b'||((decide (1≤b')&&decide (b'<b+1))&&(decide (t.1=a')&&w0w fm t b'))):=fun hq a' b' g1 g2=>by
    rw [hLB a' b' g1 g2]
    by_cases e:b'=b
    ·subst e;simp [hq]
    ·have:decide (b'<b+1)=decide (b'<b):=by by_cases hlt:b'<b<;>simp [hlt]<;>omega
     rw [this]
   have yes:w0w fm t b=true → ∀ a' b',a'<n→b'<n→bitF (L.set a ((L.getD a []).set b true)) a' b'=(mkM n fm ((ZF w f).take j) a' b'||((decide (1≤b')&&decide (b'<b+1))&&(decide (t.1=a')&&w0w fm t b'))):=fun hq a' b' g1 g2=>by
    rw [d3 a' b' g1 g2]
    by_cases e:a'=a∧b'=b
    ·rw [if_pos e,e.1,e.2,hq,decide_eq_true h4,decide_eq_true (by omega:b<b+1),decide_eq_true ha]
     simp
    ·rw [if_neg e,hLB a' b' g1 g2]
     by_cases ea:a'=a
     ·have eb : ¬b'=b:=fun hh=>e ⟨ea,hh⟩
      have:decide (b'<b+1)=decide (b'<b):=by by_cases hlt:b'<b<;>simp [hlt]<;>omega
      rw [this]
     ·have:decide (t.1=(a':Int))=false:=decide_eq_false (by omega)
      rw [this]
      simp
   have hdb:=hdec b
   generalize bitF fm c b=v1 at e1 hdb
   generalize bitF fm a b=v2 at e2 hdb
   cases v1<;>cases v2 <;>
   conv=>whnf
   repeat' (first|((first|refine And.intro rfl ?_|refine Wr.eq (m:=(n:Int)-1) (by omega) (by omega) (by omega) ?_|refine Wr.i64 (by omega) (by omega) ?_|refine IdxL.mk 1 rfl (by decide) ?_|(refine IdxK.at (k:=c) rfl hr1 rfl ?_)|(refine IdxK.at (k:=a) rfl hr2 rfl ?_)|(refine IdxK.at (k:=b) rfl e1 rfl ?_)|(refine IdxK.at (k:=b) rfl e2 rfl ?_)|refine IdxL.mk a rfl han ?_|refine RowK.mk a _ (by omega) u1 (by simp) ?_|refine IdxL.mk b rfl (by omega) ?_|refine OpK.stEl QQ rfl rfl rfl rfl rfl rfl rfl rfl rfl u1 (by simp) (by omega) ?_);conv=>whnf)|(refine Br.dec (fun _=>?_) (fun _=>?_)<;>first|(exfalso;omega)|conv=>whnf))
   all_goals first
    | exact ⟨(b+1,L),⟨⟨by simp only;omega,by simp only;omega⟩,hL,no (by first|(rw [hdb];rfl)|(rw [hdb];have hab : ¬a=b:=(by omega);rw [decide_eq_false hab];rfl))⟩,by simp only;omega,Le.of_eq rfl⟩
    | exact ⟨(b+1,L.set a ((L.getD a []).set b true)),⟨⟨by simp only;omega,by simp only;omega⟩,d1,yes (by first|(rw [hdb];have hab:a=b:=(by omega);rw [decide_eq_true hab];rfl)|(rw [hdb];have hab : ¬a=b:=(by omega);rw [decide_eq_false hab];rfl))⟩,by simp only;omega,Le.of_eq (by rw [Nat.mul_one];simp only;rw [← d2];rfl)⟩
    | trace_state
  ·have hbe:b=n-1:=by omega
   subst hbe
   have hfin : ∀ a b,a<n→b<n→bitF L a b=mkM n fm ((ZF w f).take (j+1)) a b:=fun a' b' g1 g2=>by rw [hLB a' b' g1 g2,hmk]
   conv=>whnf
   repeat' (first|((first|refine Wr.eq (m:=(n:Int)-1) (by omega) (by omega) (by omega) ?_|refine Wr.i64 (by omega) (by omega) ?_);conv=>whnf)|(refine Br.dec (fun _=>?_) (fun _=>?_)<;>first|(exfalso;omega)|conv=>whnf))
   all_goals first
    | exact ⟨(j+1,L),⟨by simp only;omega,hL,hfin⟩,by simp only;omega,Le.mk [] (by simp) (by simp) (by simp) (.cons (.refl _) (.cons (.refl _) (.cons (.refl _) (.cons (.refl _) (.cons (.refl _) (.cons (.refl _) .nil)))))) (.cons rfl (.refl _) .nil)⟩
    | (exfalso;omega)
    | trace_state
 ·have hje:(ZF w f).take j=ZF w f:=List.take_of_length_le hj
  rw [hje] at hB
  have hbl:(bmI M).length=n:=by unfold bmI;rw [List.length_map,hD.len]
  generalize hplc:QM w.p w.j w.n=plc
  conv=>whnf
  repeat' (refine Br.dec (fun _=>?_) (fun _=>?_)<;>first|(exfalso;omega)|conv=>whnf)
  refine LoopK.inv QQ (fun a:Nat=>⟨[(0,.p (.ip w.cells)),(4,.hd 0 0 n),(10,.hd 1 0 (z8m plc M n a).length),(85,.p (.int .i64 n)),(86,.p (.int .i64 a))],[(0,.ext (.mat 112 4 1 (bmI M) [])),(1,.own 47 2 (avP (z8m plc M n a)))]⟩) (fun a=>a≤n) (fun a=>n-a) 0
   (Le.mk [(1,.own 47 2 [])] (by simp [Chunk.new0];rfl) (by simp) (by simp) (.cons (.refl _) (.cons (.refl _) (.cons (.nil List.mem_cons_self) (.cons (.refl _) (.cons (.refl _) .nil))))) (.cons rfl (.refl _) (.new List.mem_cons_self .nil))) (Nat.zero_le _) ?_
  intro a h3
  rcases Nat.lt_or_ge a n with ha|ha
  ·obtain ⟨u1,u2⟩:=hD.row ha
   have hol:=w2u plc M n a
   have hol2:a*n≤5000*5000:=Nat.mul_le_mul (by omega) hn5
   have hsu:=x4p plc M n a
   generalize z8m plc M n a=acc at hol hsu ⊢
   conv=>whnf
   repeat' (first|((first|refine And.intro rfl ?_|refine IdxL.mk a rfl ha ?_|refine RowK.mk a _ (by omega) u1 (by simp) ?_);conv=>whnf)|(refine Br.dec (fun _=>?_) (fun _=>?_)<;>first|(exfalso;omega)|conv=>whnf))
   refine LoopK.inv QQ (fun b:Nat=>⟨[(0,.p (.ip w.cells)),(4,.hd 0 0 n),(10,.hd 1 0 (acc++z5p plc M a b).length),(11,.p (.int .i64 a)),(85,.p (.int .i64 n)),(86,.p (.int .i64 a)),(93,.p (.int .i64 n)),(94,.p (.int .i64 b))],[(0,.ext (.mat 112 4 1 (bmI M) [])),(1,.own 47 2 (avP (acc++z5p plc M a b)))]⟩) (fun b=>b≤n) (fun b=>n-b) 0
    (Le.of_eq (by rw [u2,show acc++z5p plc M a 0=acc by unfold z5p;simp];rfl)) (Nat.zero_le _) ?_
   intro b h4
   rcases Nat.lt_or_ge b n with hb|hb
   ·have e1:=hD.bit ha hb
    have hrs:=z8y plc M a b
    have hrl:=z1z plc M a b
    generalize z5p plc M a b=acc2 at hrs hrl ⊢
    have hal:(avP (acc++acc2)).length=(acc++acc2).length:=by unfold avP;rw [List.length_map]
    have hal2:(acc++acc2).length≤25005000:=by rw [List.length_append];omega
    have hP1:=HS w f h.hj h.hc (by omega) a (by omega)
    have hP2:=HS w f h.hj h.hc (by omega) b (by omega)
    rw [hplc] at hP1 hP2
    cases hv:bitF M a b with
    | true =>
      rw [hv] at e1
      rw [hv,if_pos rfl] at hrs
      conv=>whnf
      repeat' (first|((first|refine And.intro rfl ?_|(refine And.intro ⟨by decide,by decide⟩ ?_)|refine BsK.pure (fun x hx=>by rcases List.mem_singleton.1 hx with rfl;rfl) rfl ?_|refine Wr.i64 (by omega) (by omega) ?_|refine IdxL.mk a rfl ha ?_|refine RowK.mk a _ (by omega) u1 (by simp) ?_|refine IdxL.mk b rfl (by omega) ?_|refine RLd.mk _ b 0 _ u1 (by simp) (by omega) e1 ?_|(refine CallK.pure hP1 (.cons (Sub.refl _) (.cons (Sub.refl _) .nil)) ?_;rintro _ rfl)|(refine CallK.pure hP2 (.cons (Sub.refl _) (.cons (Sub.refl _) .nil)) ?_;rintro _ rfl)|refine AppK.mk hal.symm rfl (by show ((acc++acc2).length+1)*16≤140737488355328;omega) (by show (acc++acc2).length+1≤9223372036854775807;omega) (fun x hx=>by rcases List.mem_singleton.1 hx with rfl;exact ⟨rfl,rfl⟩) ?_);conv=>whnf)|(refine Br.dec (fun _=>?_) (fun _=>?_)<;>first|(exfalso;omega)|conv=>whnf))
      all_goals first
       | exact ⟨b+1,by omega,by omega,Le.of_eq (by rw [hrs,← List.append_assoc];simp only [avP,List.length_append,List.map_append];rfl)⟩
       | (exfalso;simp_all;done)
       | trace_state
    | false =>
      rw [hv] at e1
      rw [hv,if_neg (by decide),List.append_nil] at hrs
      conv=>whnf
      repeat' (first|((first|refine And.intro rfl ?_|refine Wr.i64 (by omega) (by omega) ?_|refine IdxL.mk a rfl ha ?_|refine RowK.mk a _ (by omega) u1 (by simp) ?_|refine IdxL.mk b rfl (by omega) ?_|refine RLd.mk _ b 0 _ u1 (by simp) (by omega) e1 ?_);conv=>whnf)|(refine Br.dec (fun _=>?_) (fun _=>?_)<;>first|(exfalso;omega)|conv=>whnf))
      all_goals first
       | exact ⟨b+1,by omega,by omega,Le.of_eq (by rw [hrs];rfl)⟩
       | (exfalso;simp_all;done)
       | trace_state
   ·have hbe:b=n:=by omega
    subst hbe
    rw [← hsu]
    conv=>whnf
    repeat' (first|(refine Wr.i64 (by omega) (by omega) ?_;conv=>whnf)|(refine Br.dec (fun _=>?_) (fun _=>?_)<;>first|(exfalso;omega)|conv=>whnf))
    exact ⟨a+1,by omega,by omega,Le.of_eq rfl⟩
  ·have hae:a=n:=by omega
   subst hae
   conv=>whnf
   repeat' (refine Br.dec (fun _=>?_) (fun _=>?_)<;>first|(exfalso;omega)|conv=>whnf)
   exact ⟨_,.hd rfl (by unfold avP;rw [List.length_map]),fm,M,hFP,hD,hB,rfl⟩
end Go.Ab
