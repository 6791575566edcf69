/- A row of the call's own that an object holds: laid by within it. -/
import Derived.Test.YtlhblcpmfnkjpaaGreatDomA15
import Derived.Test.YtlhblcpmfnkjpaaGreatDomA16
import Derived.Test.YtlhblcpmfnkjpaaGreatDomA17
import Derived.Test.YtlhblcpmfnkjpaaGreatDomA18
import Derived.Test.YtlhblcpmfnkjpaaGreatDomA20
set_option linter.unusedSimpArgs false
set_option linter.unusedVariables false
set_option maxRecDepth 100000
set_option maxHeartbeats 16000000
open Int (toNat_natCast)
open List (Pairwise getD_eq_getElem?_getD length_append length_map length_take mem_cons mem_cons_of_mem mem_cons_self not_mem_nil pairwise_map take_of_length_le take_succ_eq_append_getElem)
open Nat (zero_le)
namespace Go.Ab
open Go.Proofs
theorem x8z {k:Nat} : ∀ {sl:List (Nat×LV)},(∀ x∈sl,x.2.kill k=x.2) -> ∀ j,(getS sl j).kill k=getS sl j
 | [],_,_=>rfl
 | (i,l)::r,h,j=>by
   simp only [getS];cases i==j with
   | true=>exact h _ mem_cons_self
   | false=>exact x8z (fun x hx=>h x (mem_cons_of_mem _ hx)) j
theorem w3t {N:Nat} {sl:List (Nat×LV)} {H H':Heap} {k q:Nat} {e e':TypeId} {sz:Nat} {es:List AV} {ls:List LV} {cs:List AV} (hg:getH H k=some (.own e sz es)) (hq:getH H q=some (.obj e' ls)) (hln:ls.length=cs.length)
  (hcs : ∀ (j:Nat) (l:LV) (c:AV),ls[j]? = some l->cs[j]? = some c->(∃ a,l = .p a∧Sub a c)∨(∃ n,l = .hd k 0 n∧n=es.length∧c = .sl es)) (hsl : ∀ j,(getS sl j).kill k=getS sl j)
  (hsub:(H'.map (·.1)).Sublist (H.map (·.1))) (hH : ∀ j c',(j,c')∈H'->j≠k∧((j=q∧c' = .obj e' (cs.map .p))∨((j,c')∈H∧c'.kill k=c'))):Le N ⟨sl,H⟩ ⟨sl,H'⟩:=fun σ β a w hr=>by
 have obj : ∀ {τ:Mem},σ.le τ->(∀ v,RepL σ β (.hd k 0 es.length) v->Rep τ (.sl es) v)->(Chunk.obj e' ls).holds σ β w q->(Chunk.obj e' (cs.map .p)).holds τ β w q:=fun {τ} hle hrow hold=>by
  obtain ⟨i',vs',hi',hh',hn',hc'⟩:=hold;refine ⟨i',vs',hi',hh',by simpa [hln] using hn',fun j l hj => ?_⟩;rw [List.getElem?_map] at hj;cases hc:cs[j]? with
  | none=>rw [hc] at hj;cases hj
  | some c =>
    rw [hc] at hj;cases hj;have hlt:j<ls.length:=by rw [hln];exact (List.getElem?_eq_some_iff.1 hc).1
    obtain ⟨u,h3,h4⟩:=hc' j _ (List.getElem?_eq_getElem hlt);refine ⟨u,h3,?_⟩;rcases hcs j _ c (List.getElem?_eq_getElem hlt) hc with ⟨a',h5,h6⟩|⟨n,h5,rfl,rfl⟩
    ·rw [h5] at h4;cases h4 with
     | p hp=>exact .p (h6 _ _ (hp.mono hle))
    ·rw [h5] at h4;exact .p (hrow _ h4)
 have hc0:=hr.heap.chunks q _ (QB hq);rcases YV.1 (hr.heap.chunks k _ (QB hg)) with ⟨hb0,rfl⟩|⟨i,vs,hi,hisz,hh,hn,hle',hmax,hE⟩
 ·refine ⟨σ,β,⟨hr.size,hr.defers,hr.slots,⟨hr.heap.mem,fun j c' hj => ?_,hsub.nodup hr.heap.nodup,fun j hj=>hr.heap.apart j (hsub.subset hj),fun j hj j' hj'=>hr.heap.inj j (hsub.subset hj) j' (hsub.subset hj')⟩⟩,Mem.le_refl σ,Frm.refl _ _,fun _ h0 h1=>absurd h0 h1,fun b ⟨j,hj,r⟩ => .inl ⟨j,hsub.subset hj,r⟩,fun _ _ _=>rfl⟩;rcases (hH j c' hj).2 with ⟨rfl,rfl⟩|⟨h1,_⟩
  ·refine obj (Mem.le_refl σ) (fun v hv => ?_) hc0;rcases hv.hdI with ⟨_,_,_,he⟩|⟨i,_,hk,_⟩
   ·rw [he];exact .nilsl
   ·rw [hb0] at hk;cases hk
  ·exact hr.heap.chunks j _ h1
 ·refine hr.lay hi (XZ hg) hh (fun τ hle hτ j v hv => ?_) (fun τ hle hτ j c' hj => ?_) (hsub.nodup hr.heap.nodup)
  ·show RepL τ β (getS sl j) v;rw [<- hsl j];exact (hv.kill k).mono hle
  ·obtain ⟨h1,h2⟩:=hH j c' hj;rcases h2 with ⟨rfl,rfl⟩|⟨h2,h3⟩
   ·refine ⟨h1,_,QB hq,obj hle fun v hv => ?_⟩;rcases hv.hdI with ⟨hk,_⟩|⟨i',oo,hk,hl,ho,rfl⟩
    ·rw [hi] at hk;cases hk
    ·rw [hi] at hk;cases hk;have hoo:oo=0:=by
      rcases ho with ho|ho
      ·simpa using ho
      ·omega
     subst hoo;obtain ⟨u,hu⟩ : ∃ u:Nat->Nat->Value,∀ (m:Nat) (x:AV) (j:Nat) (c:AV),es[m]? = some x->x.cells[j]? = some c->vs[m*sz+j]? = some (u m j)∧Rep σ c (u m j):=by
      refine ⟨fun m j=>(vs[m*sz+j]?).getD undef,fun m x j c hx hj => ?_⟩;obtain ⟨v,h1,h2⟩:=hE.rep m x j c hx hj;rw [List.getElem?_take] at h1;split at h1
      ·have h1':vs[m*sz+j]? = some v:=by simpa using h1
       exact ⟨by simp [h1'],by simpa [h1'] using h2⟩
      ·cases h1
     exact .sl es i.blk 0 _ sz vs u hτ (by omega) (by omega) hE.size (fun m x j c hx hj=>by simpa using (hu m x j c hx hj).1) fun m x j c hx hj=>(hu m x j c hx hj).2.mono hle
   ·refine ⟨h1,c',h2,fun hold => ?_⟩;have:=(hold.kill k).mono hle fun _ _ _ _=>rfl
    rwa [h3] at this
theorem w5l {l:List Bool} {j:Nat} (hj:j<l.length):(l.take (j+1)).count true=(l.take j).count true+(if l[j] then 1 else 0):=by
 rw [take_succ_eq_append_getElem hj,List.count_append];cases l[j]<;>rfl
theorem w4d (l:List Bool) (hl:l.length<=1000000):SpecP Tryz.prog 189 [eBs l] (fun r=>r = .int .i64 (l.count true)):=by
 refine sB z8t Tryz.func189 rfl Tryz.call189 ?_;conv=>whnf
 have hll:(l.map bv).length=l.length:=length_map _;repeat' (refine iM fun _=>?_;conv=>whnf)
 refine LoopK.inv QX (fun j:Nat=>⟨[(3,.p (.int .i64 ((l.take j).count true))),(6,.p (eBs l)),(7,.p (.int .i64 (l.map bv).length)),(8,.p (.int .i64 j))],[]⟩) (fun j=>j<=l.length) (fun j=>l.length-j) 0 (Le.of_eq rfl) (zero_le _) ?_;intro j h2;rcases Nat.lt_or_ge j l.length with hj|hj
 ·have e1:(l.map bv)[j]? = some (bv l[j]):=by rw [List.getElem?_map,List.getElem?_eq_getElem hj];rfl
  have hc:=w5l hj;have hcl:(l.take j).count true<=j:=Nat.le_trans List.count_le_length (by rw [length_take];omega);generalize l[j]=x at e1 hc;generalize (l.take j).count true=m at hc hcl ⊢;cases x <;>
  conv=>whnf
  repeat' (first|((first|refine wI ?_|(refine IdxK.at (k:=j) rfl e1 rfl ?_));conv=>whnf)|(apply bD<;>intro _<;>first|omega|conv=>whnf))
  all_goals first
   | exact ⟨j+1,by omega,by omega,Le.of_eq (by rw [hc];rfl)⟩
   | (exfalso;simp_all;done)
   | skip
 ·rw [take_of_length_le hj];conv=>whnf
  repeat' (apply bD<;>intro _<;>first|omega|conv=>whnf)
  exact RetK.int rfl
def w3e (M:List Int) (x:Int):Int:=getz M x.toNat
theorem w6q {M:List Int} (hM : ∀ x∈M,0<=x∧x<=1000000):CmpF 191 (.ip [QD M]) (w3e M) (fun x=>0<=x∧x<M.length):=by
 refine ⟨fun x y hx hy => ?_,fun x => ?_⟩
 ·obtain ⟨k,rfl⟩ : ∃ k:Nat,x=k:=⟨x.toNat,by omega⟩;obtain ⟨q,rfl⟩ : ∃ q:Nat,y=q:=⟨y.toNat,by omega⟩;have g1:=UM (l:=M) (i:=k) (by omega);have g2:=UM (l:=M) (i:=q) (by omega);have b1:=hM _ (VF (l:=M) (i:=k) (by omega));have b2:=hM _ (VF (l:=M) (i:=q) (by omega));have e1:w3e M k=getz M k:=by unfold w3e;rw [toNat_natCast]
  have e2:w3e M q=getz M q:=by unfold w3e;rw [toNat_natCast]
  rw [e1,e2];generalize getz M k=u at g1 b1;generalize getz M q=v at g2 b2;refine sB q8l Tryz.func191 rfl Tryz.call191 ?_;conv=>whnf
  repeat' ((first|refine dA ?_|refine wI ?_|(refine IdxK.at (k:=q) rfl g2 rfl ?_)|(refine IdxK.at (k:=k) rfl g1 rfl ?_));conv=>whnf)
  exact RetK.int rfl
 ·unfold w3e;rcases Nat.lt_or_ge x.toNat M.length with h|h
  ·exact hM _ (VF h)
  ·unfold getz;rw [getD_eq_getElem?_getD,List.getElem?_eq_none h];exact ⟨Int.le_refl _,by decide⟩
def x2a (fm:List (List Bool)) (a j:Nat):List Int:=((List.range j).filter fun b=>bitF fm a b).map fun (b:Nat)=>(b:Int)
theorem w2p (fm:List (List Bool)) (a j:Nat):x2a fm a (j+1)=x2a fm a j++(if bitF fm a j then [(j:Int)] else []):=by
 unfold x2a;rw [List.range_succ,List.filter_append,List.map_append];congr 1;cases h:bitF fm a j<;>simp [h]
theorem z4f (fm:List (List Bool)) (a j:Nat):(x2a fm a j).length<=j:=by
 unfold x2a;rw [length_map];exact Nat.le_trans (List.length_filter_le _ _) (by simp)
def q9t (fm:List (List Bool)) (a n j:Nat):List Int:=(List.range n).map fun b=>if b<j∧bitF fm a b=true then (((fm.getD b []).count true:Nat):Int) else 0
theorem DW (fm:List (List Bool)) (a n j:Nat):(q9t fm a n j).length=n:=by unfold q9t;simp
theorem NZ {fm:List (List Bool)} {a n j b:Nat} (hb:b<n):(q9t fm a n j)[b]? = some (if b<j∧bitF fm a b=true then (((fm.getD b []).count true:Nat):Int) else 0):=by
 unfold q9t;rw [List.getElem?_map,List.getElem?_range hb];rfl
theorem v0x {fm:List (List Bool)} {a n j:Nat} (h:bitF fm a j=false):q9t fm a n (j+1)=q9t fm a n j:=by
 unfold q9t;refine List.map_congr_left fun b _ => ?_;by_cases he:b=j
 ·subst he;rw [if_neg (fun hh=>by rw [h] at hh;cases hh.2),if_neg (fun hh=>by rw [h] at hh;cases hh.2)]
 ·have:(b<j+1∧bitF fm a b=true)↔(b<j∧bitF fm a b=true):=by
   constructor
   ·exact fun hh=>⟨by omega,hh.2⟩
   ·exact fun hh=>⟨by omega,hh.2⟩
  by_cases hc:b<j∧bitF fm a b=true
  ·rw [if_pos hc,if_pos (this.2 hc)]
  ·rw [if_neg hc,if_neg (fun hh=>hc (this.1 hh))]
theorem w4i {fm:List (List Bool)} {a n j:Nat} (hj:j<n) (h:bitF fm a j=true):(q9t fm a n j).set j (((fm.getD j []).count true:Nat):Int)=q9t fm a n (j+1):=by
 refine List.ext_getElem? fun b => ?_;rw [List.getElem?_set];by_cases he:j=b
 ·subst he;rw [if_pos rfl,if_pos (by rw [DW];exact hj),NZ hj,if_pos ⟨by omega,h⟩]
 ·rw [if_neg he];rcases Nat.lt_or_ge b n with hb|hb
  ·rw [NZ hb,NZ hb];have:(b<j+1∧bitF fm a b=true)↔(b<j∧bitF fm a b=true):=by
    constructor
    ·exact fun hh=>⟨by omega,hh.2⟩
    ·exact fun hh=>⟨by omega,hh.2⟩
   by_cases hc:b<j∧bitF fm a b=true
   ·rw [if_pos hc,if_pos (this.2 hc)]
   ·rw [if_neg hc,if_neg (fun hh=>hc (this.1 hh))]
  ·rw [List.getElem?_eq_none (by rw [DW];exact hb),List.getElem?_eq_none (by rw [DW];exact hb)]
theorem w2u (fm:List (List Bool)) (a n:Nat):q9t fm a n 0=List.replicate n 0:=by
 refine List.ext_getElem? fun b => ?_;rcases Nat.lt_or_ge b n with hb|hb
 ·rw [NZ hb,if_neg (by omega),List.getElem?_replicate,if_pos hb]
 ·rw [List.getElem?_eq_none (by rw [DW];exact hb),List.getElem?_eq_none (by simpa using hb)]
def w4s (w:Way) (fm:List (List Bool)) (a n j:Nat):St:=⟨[(0,.p (.ip w.cells)),(1,.p (.sl ((bmI fm).map .sl))),(7,.hd 2 0 (x2a fm a j).length),(8,.ptr 1 0),(21,.p (.sl ((fm.getD a []).map bv))),(22,.p (.int .i64 ((fm.getD a []).map bv).length)),(23,.p (.int .i64 j))],[(1,.obj 60 [.hd 0 0 n]),(0,.own 3 1 ((q9t fm a n j).map (.int .i64))),(2,.own 3 1 ((x2a fm a j).map (.int .i64)))]⟩
def v2y (w:Way) (fm:List (List Bool)) (a n j:Nat):St:=⟨[(0,.p (.ip w.cells)),(1,.p (.sl ((bmI fm).map .sl))),(7,.hd 2 0 (x2a fm a j).length),(8,.p (.ip [QD (q9t fm a n j)])),(21,.p (.sl ((fm.getD a []).map bv))),(22,.p (.int .i64 ((fm.getD a []).map bv).length)),(23,.p (.int .i64 j))],[(2,.own 3 1 ((x2a fm a j).map (.int .i64)))]⟩
theorem v4s {N:Nat} (w:Way) (fm:List (List Bool)) (a n j:Nat):Le N (w4s w fm a n j) (v2y w fm a n j):=by
 have hm:=DW fm a n j;have h1:Le N (w4s w fm a n j) ⟨(w4s w fm a n j).sl,[(1,.obj 60 ([QD (q9t fm a n j)].map .p)),(2,.own 3 1 ((x2a fm a j).map (.int .i64)))]⟩:=by
  refine w3t (k:=0) (q:=1) (cs:=[QD (q9t fm a n j)]) rfl rfl rfl (fun i l c h1 h2 => ?_) (fun i => ?_) ?_ fun i c' hm => ?_
  ·match i,h1,h2 with
   | 0,h1,h2=>cases h1;cases h2;exact .inr ⟨_,rfl,by rw [length_map,hm],rfl⟩
   | i+1,h1,h2=>simp at h1
  ·refine x8z (fun x hx => ?_) i;simp only [w4s,mem_cons,not_mem_nil,or_false] at hx;rcases hx with rfl|rfl|rfl|rfl|rfl|rfl|rfl<;>rfl
  ·show [1,2].Sublist [1,0,2];decide
  ·simp only [mem_cons,not_mem_nil,or_false,Prod.mk.injEq] at hm;rcases hm with ⟨rfl,rfl⟩|⟨rfl,rfl⟩
   ·exact ⟨by decide,.inl ⟨rfl,rfl⟩⟩
   ·exact ⟨by decide,.inr ⟨mem_cons_of_mem _ (mem_cons_of_mem _ mem_cons_self),rfl⟩⟩
 obtain ⟨s',hs',h2⟩:=Le.fz (N:=N) (s:=⟨(w4s w fm a n j).sl,[(1,.obj 60 ([QD (q9t fm a n j)].map .p)),(2,.own 3 1 ((x2a fm a j).map (.int .i64)))]⟩) (k:=1) (e:=60) (cs:=[QD (q9t fm a n j)]) rfl (K:=fun s'=>s'=v2y w fm a n j) rfl;rw [hs'] at h2;exact h1.trans h2
theorem z1r (w:Way) (f:Pr) (hj:w.p.procs[w.j]? = some f) (hc:cntP w.p.procs<=1000) (n:Nat) (hw:w.n=n) (hn:2<=n) (hn5:n<=5000) (fm:List (List Bool)) (hF:DimB n fm) (a:Nat) (ha:a<n):SpecP Tryz.prog 116 [.ip w.cells,.sl ((bmI fm).map .sl),.int .i64 a] (fun r => ∃ es:List Int,r=QD (es.map (QN w.p w.j w.n))∧es.Perm (x2a fm a n)∧srt (w3e (q9t fm a n n)) es 0 es.length):=by
 refine sB x5p Tryz.func116 rfl Tryz.call116 ?_;conv=>whnf
 obtain ⟨s1,s2⟩:=hF.row ha;have hr1:((bmI fm).map AV.sl)[a]? = some (.sl ((fm.getD a []).map bv)):=by rw [List.getElem?_map,s1];rfl
 repeat' ((first|(refine iM fun _=>?_)|refine And.intro rfl ?_|refine aR ?_|refine MkK.mk n (by omega) (by show 8*_<=140737488355328;omega) (by unfold maxLen;omega) ?_|(refine IdxK.at (k:=a) rfl hr1 rfl ?_));conv=>whnf)
 refine LoopK.inv QX (fun x:Nat×Bool=>if x.2 then v2y w fm a n x.1 else w4s w fm a n x.1) (fun x=>x.1<=n∧(x.2=false->x.1<n)∧(x.2=true->x.1=n)) (fun x=>n-x.1) (0,false)
  (Le.mk [(2,.own 3 1 [])] (by simp [Chunk.new0];rfl) (by simp) (by simp) (.cons (.refl _) (.cons (.refl _) (.cons (.nil mem_cons_self) (.cons (.refl _) (.cons (.refl _) (.cons (.refl _) (.cons (.of_eq rfl) .nil))))))) (.cons rfl (.obj (.cons (.refl _) .nil)) (.cons rfl (.of_eq (by rw [w2u,List.map_replicate];rfl)) (.new mem_cons_self .nil))))
  ⟨zero_le _,fun _=>by simp only;omega,fun h=>by cases h⟩ ?_
 rintro ⟨j,m⟩ ⟨h2,h3,h4⟩;simp only at h2 h3 h4;cases m with
 | false =>
   have hj1:=h3 rfl;have e1:=hF.bit ha hj1;obtain ⟨u1,u2⟩:=hF.row hj1;have hr2:((bmI fm).map AV.sl)[j]? = some (.sl ((fm.getD j []).map bv)):=by rw [List.getElem?_map,u1];rfl
   have fin : ∃ x:Nat×Bool,(x.1<=n∧(x.2=false->x.1<n)∧(x.2=true->x.1=n))∧n-x.1<n-j∧Le Tryz.f116.ntmps (w4s w fm a n (j+1)) (if x.2 then v2y w fm a n x.1 else w4s w fm a n x.1):=by
    rcases Nat.lt_or_ge (j+1) n with hj2|hj2
    ·exact ⟨(j+1,false),⟨by simp only;omega,fun _=>hj2,fun h=>by cases h⟩,by simp only;omega,Le.of_eq rfl⟩
    ·exact ⟨(j+1,true),⟨by simp only;omega,(fun h=>by cases h),fun _=>by simp only;omega⟩,by simp only;omega,v4s w fm a n (j+1)⟩
   obtain ⟨x,hx1,hx2,hx3⟩:=fin;have hsucc:=w2p fm a j;have hfl:=z4f fm a j;have hyes:=fun h=>w4i (fm:=fm) (a:=a) hj1 h;have hno:=fun h=>v0x (fm:=fm) (a:=a) (n:=n) (j:=j) h;have hml:=DW fm a n j;have hmg:=NZ (fm:=fm) (a:=a) (j:=j) hj1;rw [if_neg (fun h=>by omega)] at hmg;have hSz:=w4d (fm.getD j []) (by rw [length_map] at u2;omega);unfold w4s at hx3 ⊢;rw [hsucc] at hx3;generalize q9t fm a n (j+1)=mn2 at hx3 hyes hno;generalize q9t fm a n j=mn at hyes hno hml hmg ⊢;generalize x2a fm a j=fl at hx3 hfl ⊢;generalize (fm.getD j []).count true=cn at hyes hSz;have hmg2:=x3o hmg;cases hv:bitF fm a j with
   | true =>
     have hyes:=hyes hv;rw [hv] at e1;rw [hv,if_pos rfl] at hx3;simp only [Bool.false_eq_true,if_false];conv=>whnf
     repeat' (first|((first|refine And.intro rfl ?_|refine aD ?_|refine bP ?_|refine wI ?_|refine DrawK.of QX mixed (.cons 1 false (.cons 2 false (.cons 3 false (.cons 4 false (.cons 5 false (.fork 0 (.cons 6 true (.cons 7 true (.cons 8 true .nil))) 6 (.cons 0 true (.cons 7 true (.cons 8 true .nil))))))))) (by kernel_rfl) ?_|(refine IdxK.at (k:=j) rfl e1 rfl ?_)|(refine IdxK.at (k:=j) rfl hr2 rfl ?_)|refine XO (by simp) (by simp;omega) ?_|refine IdxL.mk j rfl (by omega) ?_|refine cP hSz ?_|refine StOwn.mk j 0 _ (.int .i64 cn) (by omega) hmg2 (Nat.le_refl _) rfl ?_);conv=>whnf)|(apply bD<;>intro _<;>first|omega|conv=>whnf)|(refine And.intro ?_ ?_<;>conv=>whnf))
     all_goals first
      | exact ⟨x,hx1,hx2,Le.trans (Le.of_eq (by rw [<- hyes,List.map_set];simp only [length_append,List.map_append,length_map];rfl)) hx3⟩
      | skip
   | false =>
     have hno:=hno hv;rw [hv] at e1;rw [hv,if_neg (by decide),List.append_nil,hno] at hx3;simp only [Bool.false_eq_true,if_false];conv=>whnf
     repeat' (first|((first|refine wI ?_|(refine IdxK.at (k:=j) rfl e1 rfl ?_));conv=>whnf)|(apply bD<;>intro _<;>first|omega|conv=>whnf))
     all_goals first
      | exact ⟨x,hx1,hx2,hx3⟩
      | (exfalso;simp_all;done)
      | skip
 | true =>
   have hje:=h4 rfl;subst hje;simp only [if_true];unfold v2y;have hml:=DW fm a j j;have hmr : ∀ x∈q9t fm a j j,0<=x∧x<=1000000:=fun x hx=>by
    obtain ⟨b,hb,rfl⟩:=List.mem_map.1 hx;rw [List.mem_range] at hb;obtain ⟨_,u2⟩:=hF.row hb;rw [length_map] at u2;have:=List.count_le_length (a:=true) (l:=fm.getD b []);split<;>omega
   have hfl:=z4f fm a j;have hfm : ∀ x∈x2a fm a j,0<=x∧x<((q9t fm a j j).length:Int):=fun x hx=>by
    obtain ⟨b,hb,rfl⟩:=List.mem_map.1 hx;have:=List.mem_range.1 (List.mem_filter.1 hb).1;omega
   have hS:=q8i (w6q hmr) (x2a fm a j) (x2a fm a j).length rfl (by omega) hfm;conv=>whnf
   repeat' (first|((first|(refine iM fun _=>?_)|(refine CallK.heap [(1000,2)] 5 (ArgsH.cons (LSub.refl _) (ArgsH.cons (LSub.refl _) ArgsH.nil)) (by refine BlksH.cons (j:=2) rfl rfl ?_ ?_;exact CSub.refl _;exact BlksH.nil) hS rfl rfl ?_;rintro l' H' ⟨rfl,es,rfl,p1,s1⟩));conv=>whnf)|(apply bD<;>intro _<;>first|omega|conv=>whnf))
   have hel:=p1.len.1;have hpm:=p1.perm;have hin : ∀ x∈es,0<=x∧x<(j:Int):=fun x hx=>by
    have:=hfm x (hpm.mem_iff.1 hx);omega
   generalize x2a fm a j=fl at hel hfl hpm s1 ⊢;generalize hplc:QN w.p w.j w.n=plc;refine LoopK.inv QX (fun i:Nat=>⟨[(0,.p (.ip w.cells)),(7,.hd 2 0 fl.length),(45,.hd 2 0 fl.length),(46,.p (.int .i64 fl.length)),(47,.p (.int .i64 i))],[(2,.own 3 1 (((es.take i).map plc++es.drop i).map (.int .i64)))]⟩) (fun i=>i<=es.length) (fun i=>es.length-i) 0 (Le.of_eq rfl) (zero_le _) ?_;intro i hi;rcases Nat.lt_or_ge i es.length with hi2|hi2
   ·have tl:((es.take i).map plc).length=i:=by rw [length_map,length_take];omega
    have hd:es.drop i=es[i]::es.drop (i+1):=List.drop_eq_getElem_cons hi2;have hrow:(es.take i).map plc++es.drop i=(es.take i).map plc++es[i]::es.drop (i+1):=by rw [hd]
    have g1:(((es.take i).map plc++es.drop i).map (AV.int .i64))[i]? = some (.int .i64 es[i]):=by
     rw [List.getElem?_map,List.getElem?_append_right (by omega),tl,Nat.sub_self,hd];rfl
    have hst:((es.take i).map plc++es.drop i).set i (plc es[i])=(es.take (i+1)).map plc++es.drop (i+1):=by
     rw [hrow,q7t _ _ _ _ tl.symm,take_succ_eq_append_getElem hi2,List.map_append,List.append_assoc];rfl
    have hr:=hin _ (List.getElem_mem hi2);have hP:=DZ w f hj hc (by omega) es[i] (by omega);rw [hplc] at hP;generalize (es.take i).map plc++es.drop i=row at g1 hst ⊢;generalize es[i]=x at g1 hst hP;conv=>whnf
    repeat' (first|((first|refine And.intro rfl ?_|refine wI ?_|refine IdxL.mk i rfl (by omega) ?_|refine LdOwn.mk i 0 _ (by omega) g1 ?_|refine cP hP ?_|refine StOwn.mk i 0 _ (.int .i64 (plc x)) (by omega) g1 (Nat.le_refl _) rfl ?_);conv=>whnf)|(apply bD<;>intro _<;>first|omega|conv=>whnf))
    all_goals first
     | (exfalso;omega)
     | exact ⟨i+1,by omega,by omega,Le.of_eq (by rw [<- hst,List.map_set];rfl)⟩
     | skip
   ·rw [take_of_length_le hi2,List.drop_of_length_le hi2,List.append_nil];conv=>whnf
    repeat' (apply bD<;>intro _<;>first|omega|conv=>whnf)
    all_goals first
     | (exfalso;omega)
     | exact ⟨_,.hd rfl (by simp [hel]),es,rfl,hpm,by rw [hel];exact s1⟩
     | skip
theorem x2s {R:Int->Int->Prop} (anti : ∀ a b,R a b->R b a->a=b) : ∀ {l m:List Int},l.Perm m->l.Nodup->l.Pairwise R->m.Pairwise R->l=m
 | [],m,h,_,_,_=>(List.nil_perm.1 h).symm
 | a::l,[],h,_,_,_=>absurd h.length_eq (by simp)
 | a::l,b::m,h,hn,hl,hm=>by
   rw [List.pairwise_cons] at hl hm;have hab:a=b:=by
    rcases List.mem_cons.1 (h.mem_iff.1 mem_cons_self) with h1|h1
    ·exact h1
    rcases List.mem_cons.1 (h.mem_iff.2 mem_cons_self) with h2|h2
    ·exact h2.symm
    exact anti a b (hl.1 b h2) (hm.1 a h1)
   subst hab;rw [x2s anti (List.Perm.cons_inv h) (List.nodup_cons.1 hn).2 hl.2 hm.2]
theorem v0h {R:Int->Int->Prop} {b c a:Int} (h:AvdP R c a):AvdP R b a∨AvdP R c b:=by
 induction h with
 | exit h =>
   by_cases hb:b = -1
   ·rw [hb];exact .inr (.exit h)
   ·exact .inl (.exit hb)
 | @step a t hac hs h ih =>
   by_cases hab:a=b
   ·subst hab;exact .inr (.step hac hs h)
   ·rcases ih with ih|ih
    ·exact .inl (.step hab hs ih)
    ·exact .inr ih
inductive ToX (R:Int->Int->Prop):Int->Prop
 | exit:ToX R (-1)
 | step {a t:Int} (hs:R a t) (h:ToX R t):ToX R a
theorem v1t {R:Int->Int->Prop} {a:Int} (h:Rch R a (-1)):ToX R a:=by
 have key : ∀ {x y:Int},Rch R x y->ToX R y->ToX R x:=fun {x y} hr=>by
  induction hr with
  | refl=>exact fun h=>h
  | tail _ h2 ih=>exact fun h=>ih (.step h2 h)
 exact key h .exit
theorem z9b {R:Int->Int->Prop} {b c:Int} (hne:b≠c) (hb:AvdP R c b) (hc:AvdP R b c) {x:Int} (h:ToX R x):AvdP R b x∨AvdP R c x:=by
 induction h with
 | exit =>
   by_cases he:b = -1
   ·exact .inr (.exit fun e=>hne (by rw [he,e]))
   ·exact .inl (.exit he)
 | @step a t hs _ ih =>
   by_cases h1:a=b
   ·subst h1;exact .inr hb
   ·by_cases h2:a=c
    ·subst h2;exact .inl hc
    ·rcases ih with ih|ih
     ·exact .inl (.step h1 hs ih)
     ·exact .inr (.step h2 hs ih)
theorem w5f {R:Int->Int->Prop} {b c:Int} (hc : ¬AvdP R b c) (hcx:c ≠ -1) {x:Int} (h:AvdP R b x):AvdP R c x:=by
 induction h with
 | exit h=>exact .exit hcx
 | @step a t hab hs h ih=>exact .step (fun e=>hc (by subst e;exact .step hab hs h)) hs ih
theorem w6m {R:Int->Int->Prop} {b c:Int} (hb : ¬AvdP R c b) (hc : ¬AvdP R b c) (hx:ToX R b):b=c:=by
 refine Classical.byContradiction fun hne => ?_;by_cases hcx:c = -1
 ·subst hcx;exact hc (.exit hne)
 by_cases hbx:b = -1
 ·subst hbx;exact hb (.exit hcx)
 have key : ∀ {x:Int},ToX R x->AvdP R c x:=fun {x} h=>by
  induction h with
  | exit=>exact .exit hcx
  | @step a t hs _ ih =>
    by_cases h2:a=c
    ·subst h2;have ih2:=w5f hb hbx ih;exact absurd (.step (fun e=>hne e.symm) hs ih2) hc
    ·exact .step h2 hs ih
 exact hb (key hx)
section
variable {p:Pg} {j:Nat} {f:Pr}
theorem x3l (h:XG p=true) (hj:p.procs[j]? = some f) {x:Int} (hx:plP p j f x):ToX (z0t p j f) x:=by
 refine v1t ((w2j h hj hx).mono fun a b ⟨s,hs,h1,h2⟩ => ?_);rcases List.mem_append.1 ((GI (z2i h hj)).2.1 s hs) with h3|h3
 ·obtain ⟨l,hl,t,ht,hid,hk,rfl⟩:=(q3z h hj).1 h3;exact (z9g h hj).2 (.inr (.inr (.inl ⟨l,hl,t,ht,hid,hk,h1.symm,h2.symm⟩)))
 ·exact (z9g h hj).2 (.inl ⟨s,h3,h1,h2⟩)
theorem folP.self (b:Int):folP p j f b b:=z0b
theorem folP.exit (a:Int) (h:ToX (z0t p j f) a):folP p j f a (-1):=fun ha=>by
 clear h;have key : ∀ {b x:Int},b = -1 -> ¬AvdP (z0t p j f) b x:=fun {b x} hb ha=>by
  induction ha with
  | exit h=>exact h hb
  | step _ _ _ ih=>exact ih
 exact key rfl ha
theorem folP.trans {a b c:Int} (h1:folP p j f a b) (h2:folP p j f b c):folP p j f a c:=fun h=>by
 rcases v0h (b:=b) h with h3|h3
 ·exact h1 h3
 ·exact h2 h3
theorem z0g (h:XG p=true) (hj:p.procs[j]? = some f) {b c:Int} (hb:plP p j f b) (h1:folP p j f b c) (h2:folP p j f c b):b=c:=w6m h1 h2 (x3l h hj hb)
theorem folP.total (h:XG p=true) (hj:p.procs[j]? = some f) {a b c:Int} (ha:plP p j f a) (h1:folP p j f a b) (h2:folP p j f a c):folP p j f b c∨folP p j f c b:=by
 refine Classical.byContradiction fun hno => ?_;rw [not_or] at hno;have hb:=Classical.not_not.1 hno.1;have hc:=Classical.not_not.1 hno.2;have hne:b≠c:=fun e=>hno.1 (by rw [e];exact folP.self c);rcases z9b hne hb hc (x3l h hj ha) with h3|h3
 ·exact h1 h3
 ·exact h2 h3
structure RowP (p:Pg) (j:Nat) (f:Pr) (a:Int) (l:List Int):Prop where
 mem : ∀ y,y∈l↔plP p j f y∧folP p j f a y
 nd:l.Nodup
 chain:l.Pairwise (folP p j f)
theorem RowP.uniq (h:XG p=true) (hj:p.procs[j]? = some f) {a:Int} {l m:List Int} (hl:RowP p j f a l) (hm:RowP p j f a m):l=m:=by
 have hp:l.Perm m:=(List.perm_iff_count.2 fun x=>by
  by_cases hx:x∈l
  ·rw [List.Nodup.count hl.nd,if_pos hx,List.Nodup.count hm.nd,if_pos ((hm.mem x).2 ((hl.mem x).1 hx))]
  ·rw [List.Nodup.count hl.nd,if_neg hx,List.Nodup.count hm.nd,if_neg (fun h=>hx ((hl.mem x).2 ((hm.mem x).1 h)))])
 have:=x2s (R:=fun x y=>plP p j f x∧plP p j f y∧folP p j f x y) (fun x y h1 h2=>z0g h hj h1.1 h1.2.2 h2.2.2) hp hl.nd
  (hl.chain.imp_of_mem fun {x y} hx hy hxy=>⟨((hl.mem x).1 hx).1,((hl.mem y).1 hy).1,hxy⟩) (hm.chain.imp_of_mem fun {x y} hx hy hxy=>⟨((hm.mem x).1 hx).1,((hm.mem y).1 hy).1,hxy⟩)
 exact this
theorem z4z {K:Int->Int} : ∀ {l:List Int},srt K l 0 l.length->l.Pairwise fun x y=>K y<=K x
 | [],_ => .nil
 | a::l,h=>by
   refine List.pairwise_cons.2 ⟨fun b hb => ?_,z4z fun i k h1 h2 h3 => ?_⟩
   ·obtain ⟨i,hi,rfl⟩:=List.mem_iff_getElem.1 hb;have:=h 0 (i+1) (Nat.le_refl _) (by omega) (by simpa using hi);have e:getz (a::l) (i+1)=l[i]:=by
     unfold getz;rw [List.getD_cons_succ,getD_eq_getElem?_getD,List.getElem?_eq_getElem hi];rfl
    rw [e] at this;exact this
   ·exact h (i+1) (k+1) (zero_le _) (by omega) (by simpa using h3)
theorem v2b (h:XG p=true) (hj:p.procs[j]? = some f) {fm:List (List Bool)} (hF:FollowP (QV f.body+2) (KK (QV f.body+2) (GQ (QQ p j f) f)) fm) {a:Int} (ha:plP p j f a) {es:List Int}
  (hp:es.Perm (x2a fm (ixI p j f a).toNat (QV f.body+2))) (hs:srt (w3e (q9t fm (ixI p j f a).toNat (QV f.body+2) (QV f.body+2))) es 0 es.length):RowP p j f a (es.map (QN p j (QV f.body+2:Nat))):=by
 have hra:=WY ha;have hmem : ∀ x:Int,x∈es ↔ ∃ b:Nat,b<QV f.body+2∧bitF fm (ixI p j f a).toNat b=true∧x=b:=fun x=>by
  rw [hp.mem_iff];unfold x2a;rw [List.mem_map];constructor
  ·rintro ⟨b,hb,rfl⟩;obtain ⟨h1,h2⟩:=List.mem_filter.1 hb;exact ⟨b,List.mem_range.1 h1,h2,rfl⟩
  ·rintro ⟨b,h1,h2,rfl⟩;exact ⟨b,List.mem_filter.2 ⟨List.mem_range.2 h1,h2⟩,rfl⟩
 have hplc : ∀ x∈es,plP p j f (QN p j (QV f.body+2:Nat) x)∧ixI p j f (QN p j (QV f.body+2:Nat) x)=x∧0<=x∧x<(QV f.body+2:Nat):=fun x hx=>by
  obtain ⟨b,h1,_,rfl⟩:=(hmem x).1 hx;obtain ⟨q1,q2⟩:=JU (p:=p) (j:=j) (f:=f) (i:=(b:Int)) (by omega);exact ⟨q1,q2,by omega,by omega⟩
 have hfol : ∀ x∈es,folP p j f a (QN p j (QV f.body+2:Nat) x):=fun x hx=>by
  obtain ⟨b,h1,h2,rfl⟩:=(hmem x).1 hx;obtain ⟨q1,q2,_⟩:=hplc _ hx;refine (FH h hj hF ha q1).1 ?_;rw [q2,toNat_natCast];exact h2
 have hnd:es.Nodup:=by
  rw [hp.nodup_iff];unfold x2a;show Pairwise _ _;rw [pairwise_map];exact (List.Pairwise.filter _ List.nodup_range).imp fun hne he=>hne (by omega)
 have hndm:(es.map (QN p j (QV f.body+2:Nat))).Nodup:=by
  show Pairwise _ _;rw [pairwise_map];refine hnd.imp_of_mem fun {x y} hx hy hne he=>hne ?_;rw [<- (hplc x hx).2.1,<- (hplc y hy).2.1,he]
 have hkey : ∀ x∈es,w3e (q9t fm (ixI p j f a).toNat (QV f.body+2) (QV f.body+2)) x=(((fm.getD x.toNat []).count true:Nat):Int):=fun x hx=>by
  obtain ⟨b,h1,h2,rfl⟩:=(hmem x).1 hx;unfold w3e getz;rw [toNat_natCast,getD_eq_getElem?_getD,NZ h1,if_pos ⟨h1,h2⟩];rfl
 refine ⟨fun y => ?_,hndm,?_⟩
 ·rw [List.mem_map];constructor
  ·rintro ⟨x,hx,rfl⟩;exact ⟨(hplc x hx).1,hfol x hx⟩
  ·rintro ⟨h1,h2⟩;have hr:=WY h1;have hb:=(FH h hj hF ha h1).2 h2;refine ⟨ixI p j f y,(hmem _).2 ⟨(ixI p j f y).toNat,by omega,hb,by omega⟩,z5y h1⟩
 ·rw [pairwise_map];refine (List.pairwise_and_iff.2 ⟨z4z hs,hnd⟩).imp_of_mem fun {x y} hx hy hxy => ?_;obtain ⟨hk,hne⟩:=hxy;rw [hkey x hx,hkey y hy] at hk;obtain ⟨px,ix,x0,x1⟩:=hplc x hx;obtain ⟨py,iy,y0,y1⟩:=hplc y hy;rcases folP.total h hj ha (hfol x hx) (hfol y hy) with h1|h1
  ·exact h1
  ·exfalso;have hrow : ∀ z:Int,0<=z->z<(QV f.body+2:Nat)->(fm.getD z.toNat []).length=QV f.body+2:=fun z z0 z1=>by
    have hl:=hF.inv.len;rw [getD_eq_getElem?_getD,List.getElem?_eq_getElem (by omega)];exact hF.inv.rows _ (List.getElem_mem _)
   have hlt:=q6s (r:=fm.getD x.toNat []) (s:=fm.getD y.toNat []) (by rw [hrow x x0 x1,hrow y y0 y1]) (fun b hb=>by
    rcases Nat.lt_or_ge b (QV f.body+2) with hbn|hbn
    ·obtain ⟨q1,q2⟩:=JU (p:=p) (j:=j) (f:=f) (i:=(b:Int)) (by omega);have h3:folP p j f (QN p j (QV f.body+2:Nat) x) (QN p j (QV f.body+2:Nat) b):=(FH h hj hF px q1).1 (by rw [ix,q2,toNat_natCast];exact hb);have h4:=(FH h hj hF py q1).2 (h1.trans h3);rw [iy,q2,toNat_natCast] at h4;exact h4
    ·rw [getD_eq_getElem?_getD,List.getElem?_eq_none (by rw [hrow x x0 x1];exact hbn)] at hb;cases hb) (fun he=>by
    have h3:=(FH h hj hF py py).2 (folP.self _);have h4:bitF fm (ixI p j f (QN p j (QV f.body+2:Nat) x)).toNat (ixI p j f (QN p j (QV f.body+2:Nat) y)).toNat=true:=by
     rw [ix,iy] at *
     unfold bitF at h3 ⊢;rw [he];exact h3
    have h5:=(FH h hj hF px py).1 h4;have h6:=z0g h hj px h5 h1;rw [<- ix,<- iy,h6] at hne;exact hne rfl)
   omega
noncomputable def q5p (p:Pg) (j:Nat) (f:Pr) (a:Int):List Int := @Classical.epsilon _ ⟨[]⟩ (RowP p j f a)
theorem RowP.eq (h:XG p=true) (hj:p.procs[j]? = some f) {a:Int} {l:List Int} (hl:RowP p j f a l):l=q5p p j f a:=hl.uniq h hj (Classical.epsilon_spec (p:=RowP p j f a) ⟨l,hl⟩)
end
theorem z5u {p:Pg} {j:Nat} {f:Pr} {x:Int}:0<=ixI p j f x↔plP p j f x:=by
 constructor
 ·intro h;unfold ixI KX loI hiI at h;unfold plP
  (repeat' split at h)<;>omega
 ·exact fun h=>(WY h).1
section
variable {p:Pg} {j:Nat} {f:Pr}
theorem z5i (h:XG p=true) (hj:p.procs[j]? = some f) {a:Int} (ha:plP p j f a):RowP p j f a (q5p p j f a):=by
 obtain ⟨fm,hF⟩:=w1e (n:=QV f.body+2) (w2b (x5v h hj));have hra:=WY ha;have hex : ∃ l,RowP p j f a l:=by
  refine Classical.byContradiction fun hno => ?_;have : ∀ (m:List Int),m.Nodup->(∀ y∈m,plP p j f y∧folP p j f a y) -> ∃ l:List Int,l.Perm m∧l.Pairwise (folP p j f):=fun m=>by
   induction m with
   | nil=>exact fun _ _=>⟨[],.refl _,.nil⟩
   | cons x m ih =>
     intro hn hm;obtain ⟨l,hl,hc⟩:=ih (List.nodup_cons.1 hn).2 fun y hy=>hm y (mem_cons_of_mem _ hy);have ins : ∀ (l:List Int),(∀ y∈l,plP p j f y∧folP p j f a y)->l.Pairwise (folP p j f) -> ∃ l':List Int,l'.Perm (x::l)∧l'.Pairwise (folP p j f):=fun l=>by
      induction l with
      | nil=>exact fun _ _=>⟨[x],.refl _,List.pairwise_singleton _ _⟩
      | cons y l ih2 =>
        intro hl hc;rw [List.pairwise_cons] at hc;have hx:=hm x mem_cons_self;have hy:=hl y mem_cons_self;rcases folP.total h hj ha hx.2 hy.2 with h1|h1
        ·refine ⟨x::y::l,.refl _,List.pairwise_cons.2 ⟨fun z hz => ?_,List.pairwise_cons.2 hc⟩⟩;rcases List.mem_cons.1 hz with rfl|hz
         ·exact h1
         ·exact h1.trans (hc.1 z hz)
        ·obtain ⟨l',hp,hc'⟩:=ih2 (fun z hz=>hl z (mem_cons_of_mem _ hz)) hc.2;refine ⟨y::l',(hp.cons y).trans (.swap x y l),List.pairwise_cons.2 ⟨fun z hz => ?_,hc'⟩⟩;rcases List.mem_cons.1 (hp.mem_iff.1 hz) with rfl|hz
         ·exact h1
         ·exact hc.1 z hz
     obtain ⟨l',hp,hc'⟩:=ins l (fun y hy=>hm y (mem_cons_of_mem _ (hl.mem_iff.1 hy))) hc;exact ⟨l',hp.trans (hl.cons x),hc'⟩
  obtain ⟨l,hl,hc⟩:=this ((plL p j f).filter fun y => @decide (folP p j f a y) (Classical.propDecidable _)) (by
   refine List.Pairwise.filter _ ?_;unfold plL;refine List.pairwise_cons.2 ⟨fun y hy => ?_,List.pairwise_cons.2 ⟨fun y hy => ?_,HR _ _⟩⟩
   ·rcases List.mem_cons.1 hy with rfl|hy
    ·decide
    ·have:=YX hy;omega
   ·have:=YX hy;omega) (fun y hy=>by
   obtain ⟨h1,h2⟩:=List.mem_filter.1 hy;exact ⟨JP.1 h1,(@decide_eq_true_iff _ (Classical.propDecidable _)).1 h2⟩)
  refine hno ⟨l,fun y => ?_,?_,hc⟩
  ·rw [hl.mem_iff,List.mem_filter,JP];exact and_congr_right fun _ => @decide_eq_true_iff _ (Classical.propDecidable _)
  ·rw [hl.nodup_iff];refine List.Pairwise.filter _ ?_;unfold plL;refine List.pairwise_cons.2 ⟨fun y hy => ?_,List.pairwise_cons.2 ⟨fun y hy => ?_,HR _ _⟩⟩
   ·rcases List.mem_cons.1 hy with rfl|hy
    ·decide
    ·have:=YX hy;omega
   ·have:=YX hy;omega
 exact Classical.epsilon_spec (p:=RowP p j f a) hex
theorem z3f (h:XG p=true) (hj:p.procs[j]? = some f) {a:Int} (ha:plP p j f a):(q5p p j f a).length<=QV f.body+2:=by
 have hR:=z5i h hj ha;have:=ZE (m:=plL p j f) hR.nd fun y hy=>JP.2 ((hR.mem y).1 hy).1;have h2:(plL p j f).length=QV f.body+2:=by unfold plL YR;simp
 omega
end
theorem z6v {p:Pg} {j:Nat} {f:Pr} (h:XG p=true) (hj:p.procs[j]? = some f) {fm:List (List Bool)} (hF:FollowP (QV f.body+2) (KK (QV f.body+2) (GQ (QQ p j f) f)) fm) {x:Int} (hx:plP p j f x) :
  SpecP Tryz.prog 116 [.ip (QQ p j f).cells,.sl ((bmI fm).map .sl),.int .i64 (ixI p j f x)] (fun r=>r=QD (q5p p j f x)):=by
 have hT:=v1j h hj;have hr:=WY hx;have:=z1r (QQ p j f) f hT.hj hT.hc (QV f.body+2) hT.hw hT.hn2 hT.hn fm ⟨hF.inv.len,hF.inv.rows⟩ (ixI p j f x).toNat (by omega);rw [Int.toNat_of_nonneg hr.1] at this;refine this.mono fun r hr => ?_;obtain ⟨es,rfl,hp,hs⟩:=hr;rw [<- (v2b h hj hF hx hp hs).eq h hj];rfl
noncomputable def z0c (p:Pg) (n:Str) (x:Int):List Int:=match DR p n with
 | some w=>(match w.p.procs[w.j]? with
   | some f=>if 0<=ixI w.p w.j f x then q5p w.p w.j f x else []
   | none=>[])
 | none=>[]
theorem PJ {p:Pg} {n:Str} {k:Nat} {f:Pr} (hw:DR p n=some (QQ p k f)) (hk:p.procs[k]? = some f) (x:Int):z0c p n x=if 0<=ixI p k f x then q5p p k f x else []:=by
 have h:(QQ p k f).p.procs[(QQ p k f).j]? = some f:=hk;unfold z0c;rw [hw];simp only;rw [h];rfl
theorem q8u {p:Pg} {n:Str} (hw:DR p n=none) (x:Int):z0c p n x=[]:=by
 unfold z0c;rw [hw]
theorem w0g (p:Pg) (hf:Fit p) (n:Str) (x:Int):SpecP Tryz.prog 50 [.agg p.cells,.str n,.int .i64 x] (fun r=>r=QD (z0c p n x)):=by
 refine sB w6x Tryz.func50 rfl Tryz.call50 ?_;conv=>whnf
 have hW:=w7l p hf n;cases hw:DR p n with
 | none =>
   rw [q8u hw];rw [hw] at hW;repeat' (refine cP hW ?_;conv=>whnf)
   exact ⟨_,.p Sub.nils,rfl⟩
 | some w =>
   obtain ⟨k,f,hkj,rfl,hc,_⟩:=KD hw;have hT:=v1j hc hkj;have hn2:=hT.hn2;have hn5:=hT.hn;have hwn:=hT.hw;have hI:=q0t (QQ p k f) f hT.hj hT.hc (by omega) x;have he:KX (loI (QQ p k f).p (QQ p k f).j) (hiI (QQ p k f).p (QQ p k f).j f) (QQ p k f).n x=ixI p k f x:=rfl;rw [he] at hI;rw [PJ hw hkj];rw [hw] at hW;have hFo:=MT (QQ p k f) f (QV f.body+2) hT (x5v hc hkj) (Nat.le_trans (x6j hc hkj) (by decide));have hR:=fun fm hF (hx:0<=ixI p k f x)=>z6v hc hkj (fm:=fm) hF (z5u.1 hx);generalize q5p p k f x=L at hR ⊢;generalize ixI p k f x=ix at hI hR ⊢;by_cases hx:0<=ix
   ·rw [if_pos hx];repeat' (first|((first|refine cP hW ?_|refine cP hI ?_|(refine CallK.pure hFo (.cons (Sub.refl _) .nil) ?_;rintro _ ⟨fm,hF,rfl⟩)|refine cP (hR fm hF hx) ?_);conv=>whnf)|(apply bD<;>intro _<;>first|omega|conv=>whnf))
    all_goals first
     | (exfalso;omega)
     | exact RetK.p rfl
     | skip
   ·rw [if_neg hx];repeat' (first|((first|refine cP hW ?_|refine cP hI ?_);conv=>whnf)|(apply bD<;>intro _<;>first|omega|conv=>whnf))
    all_goals first
     | (exfalso;omega)
     | exact ⟨_,.p Sub.nils,rfl⟩
     | skip
theorem w5g (p:Pg) (n:Str) (x:Int):(z0c p n x).length<=1000:=by
 cases hw:DR p n with
 | none=>rw [q8u hw];simp
 | some w =>
   obtain ⟨k,f,hkj,rfl,hc,_⟩:=KD hw;obtain ⟨_,_,hcn⟩:=KU hc;obtain ⟨_,_,_,hlen,hsp⟩:=QJ p;obtain ⟨_,_,hle,_⟩:=hsp k f hkj;rw [PJ hw hkj];split
   ·rename_i hx;have:=z3f hc hkj (z5u.1 hx);omega
   ·simp
noncomputable def z6l (p:Pg) (n:Str) (x:Int):Int×Bool:=if (z0c p n x).length<2 then (0,false) else ((z0c p n x).getD 1 0,true)
theorem z3m (p:Pg) (hf:Fit p) (n:Str) (x:Int):SpecP Tryz.prog 48 [.agg p.cells,.str n,.int .i64 x] (fun r=>r = .tup [.int .i64 (z6l p n x).1,.bool (z6l p n x).2]):=by
 refine sB z8x Tryz.func48 rfl Tryz.call48 ?_;conv=>whnf
 have hO:=w0g p hf n x;unfold z6l;generalize z0c p n x=L at hO ⊢;have hlm:(L.map (AV.int .i64)).length=L.length:=length_map _;by_cases hl:L.length<2
 ·rw [if_pos hl];repeat' (first|((first|(refine iM fun _=>?_)|refine cP hO ?_);conv=>whnf)|(apply bD<;>intro _<;>first|omega|conv=>whnf))
  all_goals first
   | (exfalso;omega)
   | exact RetK.tup2 rfl (Sub.ff rfl)
   | skip
 ·rw [if_neg hl];have hg:(L.map (AV.int .i64))[1]? = some (.int .i64 (L.getD 1 0)):=UM (by omega);repeat' (first|((first|(refine iM fun _=>?_)|refine cP hO ?_|(refine IdxK.at (k:=1) rfl hg rfl ?_));conv=>whnf)|(apply bD<;>intro _<;>first|omega|conv=>whnf))
  all_goals first
   | (exfalso;omega)
   | exact RetK.tup2 rfl (Sub.tt rfl)
   | skip
theorem z6z {σ:Mem} {a b:Int} {v:Value} (h:Rep σ (.agg [.int .i64 a,.int .i64 b]) v):v = .agg #[.int .i64 a,.int .i64 b]:=by
 cases h with
 | agg cs vs u hn hc hr =>
   have hs:vs.size=2:=hn;have g : ∀ (j:Nat) (n:Int),[AV.int .i64 a,.int .i64 b][j]? = some (.int .i64 n)->vs[j]? = some (.int .i64 n):=fun j n hj=>by
    have h1:=hc j _ hj;have h2:=hr j _ hj;cases hu:u j<;>rw [hu] at h2<;>cases h2;rw [h1,hu]
   congr 1;apply Array.ext_getElem?;intro i
   match i with
   | 0=>exact g 0 _ rfl
   | 1=>exact g 1 _ rfl
   | i+2=>rw [Array.getElem?_eq_none (by omega),Array.getElem?_eq_none (by simp)]
theorem z3w {hr:Bool} {s:St} {o:Oper} {K:LV->Prop} {x y:Operand} {u:TypeId} (hop:o.op = .binOp .neq 150 x y u) {a b:Int×Int} (hx:QI s.sl x = .p (.agg [.int .i64 a.1,.int .i64 a.2])) (hy:QI s.sl y = .p (.agg [.int .i64 b.1,.int .i64 b.2]))
  (hK:K (.p (.bool (!decide (a=b))))):ValO Tryz.prog hr s o K:=by
 refine ⟨fun σ β ac w hs _=>⟨_,.bool (!decide (a=b)),hK,.p (.bool _),fun w' _ _ => ?_⟩⟩;have h1:ac.eval x = .agg #[.int .i64 a.1,.int .i64 a.2]:=by
  have:=QU hs x;rw [hx] at this;cases this with
  | p h=>exact z6z h
 have h2:ac.eval y = .agg #[.int .i64 b.1,.int .i64 b.2]:=by
  have:=QU hs y;rw [hy] at this;cases this with
  | p h=>exact z6z h
 have hu:Tryz.prog.underlying 150=some (.array 2 3):=by kernel_rfl
 have hi:Tryz.prog.underlying 3=some (.int .i64):=by kernel_rfl
 have hin:Tryz.prog.info? 3=some ((Tryz.prog.info? 3).getD default):=by kernel_rfl
 have hce:Tryz.prog.cellsOf 3=1:=by kernel_rfl
 have he:(Op.equalIn 10000 150 (.agg #[.int .i64 a.1,.int .i64 a.2]) (.agg #[.int .i64 b.1,.int .i64 b.2])).run Tryz.prog w' = .ok (decide (a=b)) w':=by
  rw [run_equalIn_array w' 9999 _ _ hu hin,hce];have p0 : ∀ x y:Int,(part 3 #[.int .i64 x,.int .i64 y] 0).run Tryz.prog w' = .ok (.int .i64 x) w':=fun x y=>run_part_plain w' (by kernel_rfl) rfl;have p1 : ∀ x y:Int,(part 3 #[.int .i64 x,.int .i64 y] 1).run Tryz.prog w' = .ok (.int .i64 y) w':=fun x y=>run_part_plain w' (by kernel_rfl) rfl;have ei : ∀ x y:Int,(Op.equalIn 9999 3 (.int .i64 x) (.int .i64 y)).run Tryz.prog w' = .ok (x==y) w':=fun a b=>run_equalIn_int (P:=Tryz.prog) w' 9998 3 .i64 .i64 a b hi;have e:decide (a=b)=((a.1==b.1)&&(a.2==b.2)):=by
   cases a;cases b;simp only [Prod.mk.injEq,Bool.decide_and];rfl
  rw [e,show List.range 2=[0,1] from rfl];simp only [Op.eqItems,Nat.zero_mul,Nat.one_mul,Sem.run_bind,p0,p1,Result.andThen_ok,ei];cases h1:(a.1==b.1)<;>cases h2:(a.2==b.2)<;>simp [p1,ei,h1,h2]
 simp only [execOp,hop,h1,h2,Sem.run_bind,run_eqGuard_agg _ _ _ _ _ _ _ (show Tryz.prog.eqGuardType Tryz.prog.depth 150=false by kernel_rfl),Result.andThen_ok,run_neq_struct,he,Sem.run_pure]
noncomputable def z8e (p:Pg) (j:Nat) (f:Pr) (a:Nat):List (Int×Int):=(List.range a).map fun (x:Nat)=>(QN p j (QV f.body+2:Nat) x,(q5p p j f (QN p j (QV f.body+2:Nat) x)).getD 1 0)
noncomputable def z9j (p:Pg) (n:Str):List (Int×Int):=match DR p n with
 | some w=>(match w.p.procs[w.j]? with
   | some f=>z8e w.p w.j f (QV f.body+1)
   | none=>[])
 | none=>[]
theorem q9j {p:Pg} {n:Str} {k:Nat} {f:Pr} (hw:DR p n=some (QQ p k f)) (hk:p.procs[k]? = some f):z9j p n=z8e p k f (QV f.body+1):=by
 have h:(QQ p k f).p.procs[(QQ p k f).j]? = some f:=hk;unfold z9j;rw [hw];simp only;rw [h];rfl
theorem x7g {p:Pg} {n:Str} (hw:DR p n=none):z9j p n=[]:=by
 unfold z9j;rw [hw]
theorem x9w (p:Pg) (j:Nat) (f:Pr) (a:Nat):z8e p j f (a+1)=z8e p j f a++[(QN p j (QV f.body+2:Nat) a,(q5p p j f (QN p j (QV f.body+2:Nat) a)).getD 1 0)]:=by
 unfold z8e;rw [List.range_succ,List.map_append];rfl
theorem x6x (p:Pg) (j:Nat) (f:Pr) (a:Nat):(z8e p j f a).length=a:=by unfold z8e;simp
theorem z3e {p:Pg} {j:Nat} {f:Pr} (h:XG p=true) (hj:p.procs[j]? = some f) {x:Int} (hx:plP p j f x) (hne:x ≠ -1):2<=(q5p p j f x).length:=by
 have hR:=z5i h hj hx;have h1:x∈q5p p j f x:=(hR.mem x).2 ⟨hx,folP.self x⟩;have h2:(-1:Int)∈q5p p j f x:=(hR.mem _).2 ⟨.inr (.inl rfl),folP.exit x (x3l h hj hx)⟩
 match hq:q5p p j f x,h1,h2 with
 | [],h1,_=>cases h1
 | [y],h1,h2 =>
   have e1:=List.mem_singleton.1 h1;have e2:=List.mem_singleton.1 h2;omega
 | _::_::_,_,_=>simp
theorem z3o (p:Pg) (hf:Fit p) (n:Str):SpecP Tryz.prog 52 [.agg p.cells,.str n] (fun r=>r = .sl (avP (z9j p n))):=by
 refine sB z8k Tryz.func52 rfl Tryz.call52 ?_;conv=>whnf
 have hW:=w7l p hf n;cases hw:DR p n with
 | none =>
   rw [x7g hw];rw [hw] at hW;repeat' (refine cP hW ?_;conv=>whnf)
   exact ⟨_,.p Sub.nils,rfl⟩
 | some w =>
   obtain ⟨k,f,hkj,rfl,hc,_⟩:=KD hw;have hT:=v1j hc hkj;have hn2:=hT.hn2;have hn5:=hT.hn;have hwn:=hT.hw;rw [q9j hw hkj];rw [hw] at hW;have hFo:=MT (QQ p k f) f (QV f.body+2) hT (x5v hc hkj) (Nat.le_trans (x6j hc hkj) (by decide));repeat' ((first|refine cP hW ?_|(refine CallK.pure hFo (.cons (Sub.refl _) .nil) ?_;rintro _ ⟨fm,hF,rfl⟩));conv=>whnf)
   refine LoopK.inv QX (fun a:Nat=>⟨[(5,.p (.ip (QQ p k f).cells)),(6,.hd 0 0 (z8e p k f a).length),(7,.p (.sl ((bmI fm).map .sl))),(8,.p (.int .i64 a))],[(0,.own 150 2 (avP (z8e p k f a)))]⟩) (fun a=>a<=QV f.body+1) (fun a=>QV f.body+1-a) 0
    (Le.mk [(0,.own 150 2 [])] (by simp [Chunk.new0];rfl) (by simp) (by simp) (.cons (.refl _) (.cons (.nil mem_cons_self) (.cons (.refl _) (.cons (.of_eq rfl) .nil)))) (.new mem_cons_self .nil)) (zero_le _) ?_
   intro a ha;have hal:=x6x p k f a;rcases Nat.lt_or_ge a (QV f.body+1) with ha2|ha2
   ·obtain ⟨q1,q2⟩:=JU (p:=p) (j:=k) (f:=f) (i:=(a:Int)) (by omega);have hne:QN p k (QV f.body+2:Nat) a ≠ -1:=fun e=>by
     rw [e,q9x] at q2;omega
    have hR:=z6v hc hkj hF q1;rw [q2] at hR;have hP:=DZ (QQ p k f) f hT.hj hT.hc (by omega) a (by omega);have heP:QN (QQ p k f).p (QQ p k f).j (QQ p k f).n a=QN p k (QV f.body+2:Nat) a:=rfl;rw [heP] at hP;have hsucc:=x9w p k f a;have htwo:=z3e hc hkj q1 hne;have hg:=UM (l:=q5p p k f (QN p k (QV f.body+2:Nat) a)) (i:=1) (by omega);have hgz:getz (q5p p k f (QN p k (QV f.body+2:Nat) a)) 1=(q5p p k f (QN p k (QV f.body+2:Nat) a)).getD 1 0:=rfl;rw [hgz] at hg;have hlen2:=z3f hc hkj q1;generalize (q5p p k f (QN p k (QV f.body+2:Nat) a)).getD 1 0=nr at hsucc hg;generalize q5p p k f (QN p k (QV f.body+2:Nat) a)=fr at hR hg htwo hlen2;generalize QN p k (QV f.body+2:Nat) a=pl at hP hsucc;generalize z8e p k f a=acc at hal hsucc ⊢;have haa:(avP acc).length=acc.length:=by unfold avP;rw [length_map]
    conv=>whnf
    repeat' (first|((first|refine And.intro rfl ?_|refine aD ?_|refine bP ?_|refine Wr.eq (m:=(QV f.body+1:Nat)) (by omega) (by omega) (by omega) ?_|refine wI ?_|refine cP hP ?_|refine cP hR ?_|(refine IdxK.at (k:=1) rfl hg rfl ?_)|refine AppK.mk haa.symm rfl (by show (acc.length+1)*16<=140737488355328;omega) (by show acc.length+1<=9223372036854775807;omega) (fun x hx=>by rcases List.mem_singleton.1 hx with rfl;exact ⟨rfl,rfl⟩) ?_);conv=>whnf)|(apply bD<;>intro _<;>first|omega|conv=>whnf))
    all_goals first
     | (exfalso;omega)
     | exact ⟨a+1,by omega,by omega,Le.of_eq (by rw [hsucc];simp only [avP,length_append,List.map_append];rfl)⟩
     | skip
   ·have hae:a=QV f.body+1:=by omega
    subst hae;conv=>whnf
    repeat' (first|(refine Wr.eq (m:=(QV f.body+1:Nat)) (by omega) (by omega) (by omega) ?_;conv=>whnf)|(apply bD<;>intro _<;>first|omega|conv=>whnf))
    all_goals first
     | (exfalso;omega)
     | exact ⟨_,.hd rfl (by unfold avP;rw [length_map]),rfl⟩
     | skip
def avF (nx:List (List Int)) (n b:Nat):Nat->Nat->Bool
 | 0,_=>false
 | k+1,a=>(decide (a=n-1)&&decide (b≠n-1))||(decide (a≠b)&&(nx.getD a []).any fun t=>decide (0<=t)&&avF nx n b k t.toNat)
theorem w1c {nx:List (List Int)} {n b:Nat} : ∀ (k a:Nat),avF nx n b k a=true->Avd nx n b a
 | 0,_,h=>by cases h
 | k+1,a,h=>by
   rw [avF,Bool.or_eq_true,Bool.and_eq_true,Bool.and_eq_true,decide_eq_true_eq,decide_eq_true_eq,decide_eq_true_eq,List.any_eq_true] at h;rcases h with ⟨rfl,h⟩|⟨h1,t,ht,h2⟩
   ·exact .exit h
   ·rw [Bool.and_eq_true,decide_eq_true_eq] at h2;exact .step h1 (by rw [Int.toNat_of_nonneg h2.1];exact ht) (w1c k _ h2.2)
theorem x8q {n:Nat} {nx:List (List Int)} {G:List (List Bool)} (hl:G.length=n) (hr : ∀ r∈G,r.length=n) (hlast:G.getD (n-1) []=filRow n (n-1))
  (hfix:((List.range (n-1)).all fun a=>decide (G.getD a []=rowF n nx G a))=true) (hmin:((List.range n).all fun a=>(List.range n).all fun b=>bitF G a b||avF nx n b n a)=true):FollowP n nx G:=by
 have hf : ∀ a,a<n-1->G.getD a []=rowF n nx G a:=fun a ha=>of_decide_eq_true (List.all_eq_true.1 hfix a (List.mem_range.2 ha));refine ⟨⟨hl,hr,hlast,fun a b ha hb h => ?_,fun a b ha hb h => ?_⟩,hf⟩
 ·unfold bitF;rw [hf a ha];exact h
 ·have h1:=List.all_eq_true.1 (List.all_eq_true.1 hmin a (List.mem_range.2 ha)) b (List.mem_range.2 hb);rw [h,Bool.false_or] at h1;exact w1c _ _ h1
theorem v3d:GQ (QQ someP 1 f1) f1=[(0,1),(0,5),(1,2),(2,3),(2,4),(3,4),(3,5),(4,5)]:=by
 unfold GQ;rw [v5a]
 kernel_rfl
theorem v3u:GQ (QQ someP 0 f0) f0=[(0,1),(0,5),(1,2),(2,3),(3,4),(4,5)]:=by
 unfold GQ;rw [v5c]
 kernel_rfl
def fol1:List (List Bool):=[[true,false,false,false,false,true],[false,true,true,false,false,true],[false,false,true,false,false,true],[false,false,false,true,false,true],[false,false,false,false,true,true],[false,false,false,false,false,true]]
def fol0:List (List Bool):=[[true,false,false,false,false,true],[false,true,true,true,true,true],[false,false,true,true,true,true],[false,false,false,true,true,true],[false,false,false,false,true,true],[false,false,false,false,false,true]]
theorem q9d {p:Pg} {n:Str} {k:Nat} {f:Pr} (hw:DR p n=some (QQ p k f)) (hk:p.procs[k]? = some f):XG p=true∧NE p n=(f,true):=by
 obtain ⟨k',f',hk',he,hc,_,hfi⟩:=KD hw;have hk2:(QQ p k f).j=(QQ p k' f').j:=by rw [he]
 have hk3:k=k':=hk2;subst hk3;rw [hk] at hk';obtain rfl:=Option.some.inj hk';refine ⟨hc,?_⟩;unfold NE UB;rw [(QF hc).1,hfi];rfl
theorem x1c {p:Pg} {n:Str} (hw:DR p n=none):XG p=false∨NE p n=(Pr0,false):=by
 cases hc:XG p with
 | false=>exact .inl rfl
 | true =>
   refine .inr ?_;unfold NE;rw [(QF hc).1,z6b hw hc];rfl
theorem FG (p:Pg) (hf:Fit p) (n:Str) (k:Nat) (f:Pr) (hw:DR p n=some (QQ p k f)) (hk:p.procs[k]? = some f):SpecP Tryz.prog 182 [.agg p.cells,.str n] (fun r=>r = .tup [KW (flatU f),.bool true]):=by
 refine sB YS Tryz.func182 rfl Tryz.call182 ?_;conv=>whnf
 obtain ⟨hc,hM⟩:=q9d hw hk;have hP:=ZD p n;rw [hM] at hP;have hR:=WZ p hf;rw [hc] at hR;have hF:=XX f;rw [JZ (QF hc).1 (List.mem_of_getElem? hk)] at hF;repeat' (first|((first|refine And.intro rfl ?_|refine cP hP ?_|refine cP hR ?_|refine cP hF ?_);conv=>whnf)|(apply bN<;>intro _<;>conv=>whnf))
 all_goals first
  | contradiction
  | exact ⟨_,.p (Sub.tup (.cons (Sub.refl _) (.cons (Sub.tt rfl) .nil))),rfl⟩
theorem FY (p:Pg) (hf:Fit p) (n:Str) (hw:DR p n=none):SpecP Tryz.prog 182 [.agg p.cells,.str n] (fun r=>r = .tup [KW [],.bool false]):=by
 refine sB YS Tryz.func182 rfl Tryz.call182 ?_;conv=>whnf
 have hP:=ZD p n;have hR:=WZ p hf;have hN:=x1c hw;generalize (NE p n).1=q at *
 have hN:XG p=false∨(NE p n).2=false:=hN.imp id fun h=>by rw [h]
 generalize (NE p n).2=ok at *
 generalize XG p=ch at *
 repeat' (first|((first|refine And.intro rfl ?_|refine cP hP ?_|refine cP hR ?_);conv=>whnf)|(apply bN<;>intro _<;>conv=>whnf))
 all_goals first
  | exact ⟨_,.p (Sub.tup (.cons Sub.nils (.cons (Sub.ff rfl) .nil))),rfl⟩
  | (exfalso;simp_all;done)
theorem HA (p:Pg) (hf:Fit p) (n:Str) (k:Nat) (f:Pr) (hw:DR p n=some (QQ p k f)) (hk:p.procs[k]? = some f):SpecP Tryz.prog 162 [.agg p.cells,.str n] (fun r=>r = .tup [z0m f,.bool true]):=by
 refine sB YZ Tryz.func162 rfl Tryz.call162 ?_;conv=>whnf
 obtain ⟨hc,hM⟩:=q9d hw hk;have hP:=ZD p n;rw [hM] at hP;have hR:=WZ p hf;rw [hc] at hR;have hF:=XX f;rw [JZ (QF hc).1 (List.mem_of_getElem? hk)] at hF;repeat' (first|((first|refine dA ?_|refine And.intro rfl ?_|refine cP hP ?_|refine cP hR ?_|refine cP hF ?_);conv=>whnf)|(apply bN<;>intro _<;>conv=>whnf))
 all_goals first
  | contradiction
  | exact ⟨_,.p (Sub.tup (.cons (Sub.refl _) (.cons (Sub.tt rfl) .nil))),rfl⟩
theorem HL (p:Pg) (hf:Fit p) (n:Str) (hw:DR p n=none):SpecP Tryz.prog 162 [.agg p.cells,.str n] (fun r=>r = .tup [.agg [KW [],QM []],.bool false]):=by
 refine sB YZ Tryz.func162 rfl Tryz.call162 ?_;conv=>whnf
 have hP:=ZD p n;have hR:=WZ p hf;have hN:=x1c hw;generalize (NE p n).1=q at *
 have hN:XG p=false∨(NE p n).2=false:=hN.imp id fun h=>by rw [h]
 generalize (NE p n).2=ok at *
 generalize XG p=ch at *
 repeat' (first|((first|refine dA ?_|refine And.intro rfl ?_|refine cP hP ?_|refine cP hR ?_);conv=>whnf)|(apply bN<;>intro _<;>conv=>whnf))
 all_goals first
  | exact ⟨_,.p (Sub.tup (.cons (Sub.agg (.cons Sub.nils (.cons Sub.nils .nil))) (.cons (Sub.ff rfl) .nil))),rfl⟩
  | (exfalso;simp_all;done)
def q6y (f:Pr):List Int:=0::(flatU f).map (fun x=>x.s.id)++[-1]
theorem q6l (f:Pr):(q6y f).length=QV f.body+2:=by
 unfold q6y;have:=ZR 1 0 false f.body;simp [flatU,this]
theorem z1u {p:Pg} (hm:VB p=true) {k:Nat} {f:Pr} (hk:p.procs[k]? = some f) {x:Nat} (hx:x<QV f.body+2):(q6y f)[x]? = some (QN p k (QV f.body+2:Nat) x):=by
 unfold q6y;rw [q1x hm hk];unfold QN loI YR;cases x with
 | zero=>rfl
 | succ x =>
   rw [List.cons_append,List.getElem?_cons_succ];rw [if_neg (by omega)];rcases Nat.lt_or_ge x (QV f.body) with h1|h1
   ·rw [List.getElem?_append_left (by simpa using h1),List.getElem?_map,List.getElem?_range' h1,if_neg (by omega)];simp only [Option.map_some];congr 1;omega
   ·obtain rfl:x=QV f.body:=by omega
    rw [List.getElem?_append_right (by simp),if_pos (by omega)];simp
theorem x5j {p:Pg} (hm:VB p=true) {k:Nat} {f:Pr} (hk:p.procs[k]? = some f) {x:Int}:x∈q6y f↔plP p k f x:=by
 unfold q6y;rw [q1x hm hk];unfold plP;simp only [List.cons_append,mem_cons,List.mem_append,not_mem_nil,or_false];constructor
 ·rintro (h|h|h)
  ·exact .inl h
  ·have:=YX h;exact .inr (.inr (by omega))
  ·exact .inr (.inl h)
 ·rintro (h|h|h)
  ·exact .inl h
  ·exact .inr (.inr h)
  ·exact .inr (.inl (x3s h.1 h.2))
theorem VG (p:Pg) (hf:Fit p) (n:Str) (k:Nat) (f:Pr) (hw:DR p n=some (QQ p k f)) (hk:p.procs[k]? = some f):SpecP Tryz.prog 110 [.agg p.cells,.str n] (fun r=>r=QD (q6y f)):=by
 refine sB UN Tryz.func110 rfl Tryz.call110 ?_;conv=>whnf
 have hF:=FG p hf n k f hw hk;have hlU:=UW (QF (q9d hw hk).1).1 hk;have hLl:=WK (flatU f);have hp:q6y f=0::(flatU f).map (fun x=>x.s.id)++[-1]:=rfl;rw [hp];generalize flatU f=L at *
 repeat' (first|((first|(refine iM fun _=>?_)|refine And.intro rfl ?_|refine aD ?_|refine cP hF ?_|refine BsK.own (fun x hx=>by rcases List.mem_singleton.1 hx with rfl;rfl) rfl ?_);conv=>whnf)|(apply bN<;>intro _<;>conv=>whnf))
 all_goals first
  | contradiction
  | skip
 refine LoopK.inv QX (fun j:Nat=>⟨[(7,.hd 0 0 (j+1)),(19,.p (KW L)),(20,.p (.int .i64 (L.map fun i=>AV.agg i.cells).length)),(21,.p (.int .i64 j))],[(0,.own 3 1 ((0::(L.take j).map (fun x=>x.s.id)).map (.int .i64)))]⟩) (fun j=>j<=L.length) (fun j=>L.length-j) 0 (Le.of_eq rfl) (zero_le _) ?_;intro j hj;have e0:(0::(L.take j).map (fun x=>x.s.id):List Int).length=j+1:=by rw [List.length_cons,length_map,length_take];omega
 rcases Nat.lt_or_ge j L.length with hj2|hj2
 ·have e1:(0::(L.take (j+1)).map (fun x=>x.s.id):List Int)=(0::(L.take j).map (fun x=>x.s.id))++[L[j].s.id]:=by rw [take_succ_eq_append_getElem hj2,List.map_append];rfl
  generalize (0::(L.take j).map (fun x=>x.s.id):List Int)=acc at *
  conv=>whnf
  repeat' (first|((first|refine And.intro rfl ?_|refine aD ?_|refine bP ?_|(refine iA fun _=>?_)|refine wI ?_|refine XO (by simp;omega) (by simp;omega) ?_);conv=>whnf)|(apply bD<;>intro _<;>first|omega|conv=>whnf))
  all_goals exact ⟨j+1,by omega,by omega,Le.of_eq (by rw [e1,List.map_append];rfl)⟩
 ·rw [take_of_length_le hj2] at e0 ⊢;have e2:(0::L.map (fun x=>x.s.id)++[-1]:List Int)=(0::L.map (fun x=>x.s.id))++[-1]:=rfl;rw [e2];generalize (0::L.map (fun x=>x.s.id):List Int)=acc at *
  conv=>whnf
  repeat' (first|((first|refine And.intro rfl ?_|refine aD ?_|refine bP ?_|refine XO (by simp;omega) (by simp;omega) ?_);conv=>whnf)|(apply bD<;>intro _<;>first|omega|conv=>whnf))
  all_goals exact ⟨_,.hd rfl (by simp;omega),by simp [QD];rfl⟩
theorem VY (p:Pg) (hf:Fit p) (n:Str) (hw:DR p n=none):SpecP Tryz.prog 110 [.agg p.cells,.str n] (fun r=>r=QD []):=by
 refine sB UN Tryz.func110 rfl Tryz.call110 ?_;conv=>whnf
 have hF:=FY p hf n hw;repeat' (first|((first|(refine iM fun _=>?_)|refine And.intro rfl ?_|refine aD ?_|refine bP ?_|refine cP hF ?_);conv=>whnf)|(apply bN<;>intro _<;>conv=>whnf))
 all_goals first
  | contradiction
  | exact ⟨_,.p Sub.nils,rfl⟩
theorem x9h {p:Pg} {j:Nat} {f:Pr} (h:XG p=true) (hj:p.procs[j]? = some f) {fm:List (List Bool)} (hF:FollowP (QV f.body+2) (KK (QV f.body+2) (GQ (QQ p j f) f)) fm) {a:Int} (ha:plP p j f a) {l:List Int}
  (h1 : ∀ y∈l,plP p j f y) (h2 : ∀ y∈plL p j f,bitF fm (ixI p j f a).toNat (ixI p j f y).toNat=decide (y∈l)) (h3:l.Nodup) (h4:l.Pairwise fun x y=>bitF fm (ixI p j f x).toNat (ixI p j f y).toNat=true):q5p p j f a=l:=by
 refine (RowP.eq h hj (l:=l) ⟨fun y=>⟨fun hy=>⟨h1 y hy,?_⟩,fun hh => ?_⟩,h3,?_⟩).symm
 ·refine (FH h hj hF ha (h1 y hy)).1 ?_;rw [h2 y (JP.2 (h1 y hy))];exact decide_eq_true hy
 ·have:=(FH h hj hF ha hh.1).2 hh.2;rw [h2 y (JP.2 hh.1)] at this;exact of_decide_eq_true this
 ·exact h4.imp_of_mem fun {x y} hx hy hb=>(FH h hj hF (h1 x hx) (h1 y hy)).1 hb
theorem v1y:FollowP (QV f1.body+2) (KK (QV f1.body+2) (GQ (QQ someP 1 f1) f1)) fol1:=by
 rw [v3d];exact x8q (by kernel_rfl) (by decide) (by kernel_rfl) (by kernel_rfl) (by kernel_rfl)
theorem v1u:FollowP (QV f0.body+2) (KK (QV f0.body+2) (GQ (QQ someP 0 f0) f0)) fol0:=by
 rw [v3u];exact x8q (by kernel_rfl) (by decide) (by kernel_rfl) (by kernel_rfl) (by kernel_rfl)
theorem z9i:z0c someP [109,97,105,110] 2=[2,3,4,-1]:=by
 rw [PJ w1j rfl,if_pos (by decide)];exact x9h q6r rfl v1u (JP.1 (by decide)) (fun y hy=>JP.1 (by revert y;decide)) (by decide) (by decide) (by decide)
theorem v1n:z0c someP [112] 6=[6,-1]:=by
 rw [PJ z4y rfl,if_pos (by decide)];exact x9h q6r rfl v1y (JP.1 (by decide)) (fun y hy=>JP.1 (by revert y;decide)) (by decide) (by decide) (by decide)
theorem ZA:SpecP Tryz.prog 46 [] (fun r=>r = .tt):=by
 have hO:=w0g someP x5o [109,97,105,110] 2;rw [z9i] at hO;have hN:=z3m someP x5o [112] 6;have hNv:z6l someP [112] 6=(-1,true):=by unfold z6l;rw [v1n];rfl
 rw [hNv] at hN;simp only at hN;have hT:=z3o someP x5o [112];have hTl:(z9j someP [112]).length=5:=by rw [q9j z4y rfl,x6x];rfl
 generalize z9j someP [112]=T at *
 have hTm:(avP T).length=5:=by unfold avP;rw [length_map];exact hTl
 refine sB GL Tryz.func46 rfl Tryz.call46 ?_;conv=>whnf
 repeat' (first|((first|(refine iM fun _=>?_)|refine And.intro rfl ?_|refine cP q4s ?_|refine cP hO ?_|refine cP hN ?_|refine cP hT ?_|(refine IdxK.at (k:=0) (e := .int .i64 2) rfl rfl rfl ?_)|(refine IdxK.at (k:=1) (e := .int .i64 3) rfl rfl rfl ?_)|(refine IdxK.at (k:=3) (e := .int .i64 (-1)) rfl rfl rfl ?_));conv=>whnf)|(apply bD<;>intro _<;>first|omega|conv=>whnf)|(apply bB<;>intro _<;>conv=>whnf))
 all_goals first
  | exact RetK.tt rfl
  | exact ⟨_,.p (z3z rfl),rfl⟩
  | exact ⟨_,.p (Sub.tt rfl),rfl⟩
  | exact ⟨_,.p (z3z (by rw [hTm];rfl)),rfl⟩
  | contradiction
  | (rename_i h;exact absurd rfl h)
  | trace_state
section
variable {p:Pg} {j:Nat} {f:Pr} {n:Str}
end
theorem q8j {F:List Step} {a b x:Int}:Rch (frR F a []) b x↔Rch (stR F) b x:=by
 have e:frR F a []=stR F:=by
  funext u v;exact propext ⟨fun h=>h.2,fun h=>⟨.inr rfl,h⟩⟩
 rw [e]
theorem w0q {steps:List Step} {at_:Int} {but es:List Int} (h : ∀ x,x∈es↔Rch (frR steps at_ but) at_ x) (hd:es.Nodup):es.length<=steps.length+1:=by
 have:=ZE hd (m:=at_::steps.map Step.dst) fun s hs=>by
  have h1:=(h s).1 hs;cases h1 with
  | refl=>exact mem_cons_self
  | tail _ h2 =>
    obtain ⟨_,t,ht,_,rfl⟩:=h2;exact mem_cons_of_mem _ (List.mem_map.2 ⟨t,ht,rfl⟩)
 simpa using this
def v6q (l:List Int) (r:AV):Prop := ∃ m,r=QD m∧m.Pairwise ordP ∧ ∀ s,s∈m↔s∈l
theorem MY (l:List Int) (hl:l.length<=1000000000):SpecP Tryz.prog 161 [QD l] (fun r=>v6q l r):=by
 refine sB DI Tryz.func161 rfl Tryz.call161 ?_;conv=>whnf
 refine iM fun _=>?_;have hll:(l.map (AV.int .i64)).length=l.length:=length_map _;conv=>whnf
 refine LoopK.inv QX (fun x:Nat×List Int=>⟨[(0,.p (QD l)),(3,.hd 0 0 x.2.length),(9,.p (.int .i64 (l.map (AV.int .i64)).length)),(10,.p (.int .i64 x.1))],[(0,.own 3 1 (x.2.map (.int .i64)))]⟩) (fun x=>x.1<=l.length∧RiseI ordP l x.2 x.1) (fun x=>l.length-x.1) (0,[])
  (Le.mk [(0,.own 3 1 [])] (by simp [Chunk.new0];rfl) (by simp) (by simp) (.cons (.refl _) (.cons (.nil mem_cons_self) (.cons (.refl _) (.cons (.refl _) .nil)))) (.new mem_cons_self .nil)) ⟨zero_le _,RiseI.zero⟩ ?_
 rintro ⟨i,out⟩ ⟨h2,h3⟩;simp only at h2 h3 ⊢;have hol:=h3.len ordP.irr;rcases Nat.lt_or_ge i l.length with hi|hi
 ·conv=>whnf
  repeat' (first|(refine iM fun _=>?_;conv=>whnf)|(apply bD<;>intro _<;>first|omega|conv=>whnf))
  refine LoopK.inv QX (fun x:Nat×Option Int=>⟨[(0,.p (QD l)),(3,.hd 0 0 out.length),(4,.p (.int .i64 (x.2.getD 0))),(5,.p (.bool x.2.isSome)),(9,.p (.int .i64 (l.map (AV.int .i64)).length)),(10,.p (.int .i64 i)),(12,.p (QD l)),(13,.p (.int .i64 (l.map (AV.int .i64)).length)),(14,.p (.int .i64 x.1))],[(0,.own 3 1 (out.map (.int .i64)))]⟩) (fun x=>x.1<=l.length∧LeastI ordP l out x.1 x.2) (fun x=>l.length-x.1) (0,none) (Le.mk [] (by simp) (by simp) (by simp) (.cons (.refl _) (.cons (.refl _) (.cons (.refl _) (.cons (.p (Sub.ff rfl)) (.cons (.refl _) (.cons (.refl _) (.cons (.refl _) (.cons (.refl _) (.cons (.refl _) .nil))))))))) (.cons rfl (.refl _) .nil)) ⟨zero_le _,LeastI.zero⟩ ?_;rintro ⟨k,o⟩ ⟨h4,h5⟩;simp only at h4 h5 ⊢;rcases Nat.lt_or_ge k l.length with hk|hk
  ·have hin:UO out l[k]=true->l[k]∈out:=XD.1;have hno:UO out l[k]=false->l[k]∉out:=fun h hm=>by rw [XD.2 hm] at h;cases h
   cases o with
   | none =>
     simp only [Option.getD_none,Option.isSome_none];conv=>whnf
     repeat' (first|((first|(refine iA fun _=>?_)|refine wI ?_|(refine QG (XQ out (l[k]'hk)) (.cons (.hd rfl (by simp)) (.cons (.p (Sub.refl _)) .nil)) (by rintro _ rfl;rfl) ?_;rintro _ rfl));conv=>whnf)|(apply bD<;>intro _<;>first|omega|conv=>whnf)|(apply bN<;>intro _<;>conv=>whnf))
     all_goals first
      | (exfalso;simp_all;done)
      | exact ⟨(k+1,none),⟨by simp only;omega,h5.old hk (hin (by assumption))⟩,by simp only;omega,Le.of_eq rfl⟩
      | exact ⟨(k+1,some l[k]),⟨by simp only;omega,h5.first hk (hno (by assumption))⟩,by simp only;omega,(Le.mk [] (by simp) (by simp) (by simp) (.cons (.refl _) (.cons (.refl _) (.cons (.refl _) (.cons (.p (Sub.tt rfl)) (.cons (.refl _) (.cons (.refl _) (.cons (.refl _) (.cons (.refl _) (.cons (.refl _) .nil))))))))) (.cons rfl (.refl _) .nil))⟩
   | some m =>
     simp only [Option.getD_some,Option.isSome_some];conv=>whnf
     repeat' (first|((first|(refine iA fun _=>?_)|refine wI ?_|(refine QG (XQ out (l[k]'hk)) (.cons (.hd rfl (by simp)) (.cons (.p (Sub.refl _)) .nil)) (by rintro _ rfl;rfl) ?_;rintro _ rfl)|refine cP (JT (l[k]'hk) m) ?_);conv=>whnf)|(apply bD<;>intro _<;>first|omega|conv=>whnf)|(apply bN<;>intro _<;>conv=>whnf)|(apply bB<;>intro _<;>conv=>whnf))
     all_goals first
      | (exfalso;simp_all;done)
      | exact ⟨(k+1,some m),⟨by simp only;omega,h5.old hk (hin (by assumption))⟩,by simp only;omega,Le.of_eq rfl⟩
      | exact ⟨(k+1,some l[k]),⟨by simp only;omega,h5.less ordP.trans hk (hno (by assumption)) (by assumption)⟩,by simp only;omega,(Le.mk [] (by simp) (by simp) (by simp) (.cons (.refl _) (.cons (.refl _) (.cons (.refl _) (.cons (.p (Sub.tt rfl)) (.cons (.refl _) (.cons (.refl _) (.cons (.refl _) (.cons (.refl _) (.cons (.refl _) .nil))))))))) (.cons rfl (.refl _) .nil))⟩
      | (have hb:w5c l[k] m=false:=by assumption
         exact ⟨(k+1,some m),⟨by simp only;omega,h5.more ordP.total hk (fun h=>by unfold ordP at h;rw [hb] at h;cases h)⟩,by simp only;omega,Le.of_eq rfl⟩)
  ·obtain rfl:k=l.length:=by omega
   cases o with
   | none =>
     simp only [Option.getD_none,Option.isSome_none];conv=>whnf
     repeat' (first|((first|refine And.intro rfl ?_|refine aD ?_|refine bP ?_|refine wI ?_);conv=>whnf)|(apply bD<;>intro _<;>first|omega|conv=>whnf)|(apply bB<;>intro _<;>conv=>whnf))
     all_goals first
      | (exfalso;simp_all;done)
      | exact ⟨(i+1,out),⟨by simp only;omega,h3.stay h5⟩,by simp only;omega,Le.of_eq rfl⟩
   | some m =>
     simp only [Option.getD_some,Option.isSome_some];conv=>whnf
     repeat' (first|((first|refine And.intro rfl ?_|refine aD ?_|refine bP ?_|refine wI ?_|refine XO (by simp) (by simp;omega) ?_);conv=>whnf)|(apply bD<;>intro _<;>first|omega|conv=>whnf)|(apply bB<;>intro _<;>conv=>whnf))
     all_goals first
      | (exfalso;simp_all;done)
      | exact ⟨(i+1,out++[m]),⟨by simp only;omega,h3.snoc h5⟩,by simp only;omega,Le.of_eq (by simp only [length_append,List.map_append];rfl)⟩
 ·obtain ⟨h6,h7⟩:=h3.all ordP.irr (by omega);conv=>whnf
  repeat' (apply bD<;>intro _<;>first|omega|conv=>whnf)
  exact ⟨_,.hd rfl (by simp),out,rfl,h6,h7⟩
theorem UI (l:List Int) (x:Int):SpecP Tryz.prog 111 [QD l,.int .i64 x] (fun r=>r = .bool (UO l x)):=by
 refine sB q0q Tryz.func111 rfl Tryz.call111 ?_;conv=>whnf
 repeat' (refine iM fun _=>?_;conv=>whnf)
 have hl:(l.map (AV.int .i64)).length=l.length:=length_map _;refine LoopK.inv QX (fun j:Nat=>⟨[(1,.p (.int .i64 x)),(7,.p (QD l)),(8,.p (.int .i64 (l.map (AV.int .i64)).length)),(9,.p (.int .i64 j))],[]⟩) (fun j=>j<=l.length∧UO (l.take j) x=false) (fun j=>l.length-j) 0 (Le.of_eq rfl) ⟨zero_le _,rfl⟩ ?_;rintro j ⟨h2,h3⟩;rcases Nat.lt_or_ge j l.length with hj|hj
 ·have hst:UO (l.take (j+1)) x=(UO (l.take j) x||decide (x=l[j])):=by unfold UO;rw [take_succ_eq_append_getElem hj,List.any_append];simp
  rw [h3,Bool.false_or] at hst;conv=>whnf
  repeat' (first|((first|(refine iA fun _=>?_)|refine wI ?_);conv=>whnf)|(apply bD<;>intro _<;>first|omega|conv=>whnf))
  all_goals first
   | (have h9:l[j]=x:=by assumption
      exact RetK.tt (XD.2 (by subst h9;exact List.getElem_mem hj)))
   | (have h9 : ¬l[j]=x:=by assumption
      exact ⟨j+1,⟨by omega,by rw [hst,decide_eq_false_iff_not];exact fun h8=>h9 h8.symm⟩,by omega,Le.of_eq rfl⟩)
   | trace_state
 ·rw [take_of_length_le hj] at h3;rw [h3];conv=>whnf
  repeat' (apply bD<;>intro _<;>first|omega|conv=>whnf)
  all_goals first
   | exact RetK.ff rfl
   | exact RetK.p rfl
   | trace_state
noncomputable def z8f (A:List Step) (a b:Int):Bool := @decide (a=b∨b = -1 ∨ ¬Rch (frR A a [b]) a (-1)) (Classical.propDecidable _)
theorem z5b {A:List Step} {a b:Int}:z8f A a b=true↔a=b∨b = -1 ∨ ¬Rch (frR A a [b]) a (-1):=by
 unfold z8f;exact @decide_eq_true_iff _ (Classical.propDecidable _)
theorem YG (A:List Step) (a b:Int) (hl:A.length<=1000000):SpecP Tryz.prog 184 [QO A,.int .i64 a,.int .i64 b] (fun r=>r = .bool (z8f A a b)):=by
 refine sB FD Tryz.func184 rfl Tryz.call184 ?_;conv=>whnf
 have hF:=GX A a [b] hl;have hx:=z5b (A:=A) (a:=a) (b:=b);generalize z8f A a b=v at *
 repeat' (first|((first|refine And.intro rfl ?_|refine aD ?_|refine bP ?_|(refine CallK.pure hF (.cons (Sub.refl _) (.cons (Sub.refl _) (.cons (Sub.refl _) .nil))) ?_;rintro _ ⟨es,rfl,hes,hnd⟩)|refine cP (UI _ (-1)) ?_);conv=>whnf)|(apply bD<;>intro _<;>first|omega|conv=>whnf))
 all_goals first
  | exact RetK.tt (hx.2 (.inl (by assumption)))
  | exact RetK.tt (hx.2 (.inr (.inl (by assumption))))
  | (have e:(!UO es (-1))=v:=by
      rw [Bool.eq_iff_iff,hx];have h1:=(XD (l:=es) (x := -1)).trans (hes (-1));constructor
      ·intro h2;refine .inr (.inr fun h3 => ?_);rw [h1.2 h3] at h2;cases h2
      ·rintro (h2|h2|h2)
       ·contradiction
       ·contradiction
       ·cases h4:UO es (-1) with
        | true=>exact absurd (h1.1 h4) h2
        | false=>rfl
     exact RetK.bool e)
  | trace_state
theorem NM (P:List Int) (x:Int) (hx:x∈P):SpecP Tryz.prog 183 [QD P,.int .i64 x] (fun r => ∃ i:Nat,r = .int .i64 i∧P[i]? = some x):=by
 refine sB BZ Tryz.func183 rfl Tryz.call183 ?_;conv=>whnf
 repeat' (refine iM fun _=>?_;conv=>whnf)
 have hl:(P.map (AV.int .i64)).length=P.length:=length_map _;refine LoopK.inv QX (fun j:Nat=>⟨[(0,.p (QD P)),(1,.p (.int .i64 x)),(7,.p (.int .i64 (P.map (AV.int .i64)).length)),(8,.p (.int .i64 j))],[]⟩) (fun j=>j<=P.length∧x∉P.take j) (fun j=>P.length-j) 0 (Le.of_eq rfl) ⟨zero_le _,by simp⟩ ?_;rintro j ⟨h2,h3⟩;rcases Nat.lt_or_ge j P.length with hj|hj
 ·conv=>whnf
  repeat' (first|((first|(refine iA fun _=>?_)|refine wI ?_);conv=>whnf)|(apply bD<;>intro _<;>first|omega|conv=>whnf))
  all_goals first
   | (have h9:P[j]=x:=by assumption
      exact ⟨_,.p (Sub.refl _),j,rfl,by rw [List.getElem?_eq_getElem hj,h9]⟩)
   | (have h9 : ¬P[j]=x:=by assumption
      exact ⟨j+1,⟨by omega,fun h4=>by
       rcases (QC hj).1 h4 with h5|h5
       ·exact h3 h5
       ·exact h9 h5.symm⟩,by omega,Le.of_eq rfl⟩)
   | trace_state
 ·rw [take_of_length_le hj] at h3;exact absurd hx h3
def fmR (F:Int->Int->Bool) (P:List Int) (a:Int):AV := .sl (P.map fun b => .bool (F a b))
def fmE (F:Int->Int->Bool) (P:List Int):AV := .sl (P.map (fmR F P))
def mxS (A:List Step) (P:List Int) (F:Int->Int->Bool) (i:Nat) (a:Int) (q:Nat):St:=⟨[(0,.p (QO A)),(1,.p (QD P)),(5,.hd 0 0 i),(7,.p (.int .i64 a)),(8,.hd 1 0 q),(11,.p (QD P)),(12,.p (.int .i64 (P.map (AV.int .i64)).length)),(13,.p (.int .i64 i)),(17,.p (QD P)),(18,.p (.int .i64 (P.map (AV.int .i64)).length)),(19,.p (.int .i64 q))],[(0,.own 137 1 ((P.take i).map (fmR F P))),(1,.own 4 1 ((P.take q).map fun b => .bool (F a b)))]⟩
def mxF (A:List Step) (P:List Int) (F:Int->Int->Bool) (i:Nat) (a:Int) (q:Nat):St:=⟨[(0,.p (QO A)),(1,.p (QD P)),(5,.hd 0 0 i),(7,.p (.int .i64 a)),(8,.p (.sl ((P.take q).map fun b => .bool (F a b)))),(11,.p (QD P)),(12,.p (.int .i64 (P.map (AV.int .i64)).length)),(13,.p (.int .i64 i)),(17,.p (QD P)),(18,.p (.int .i64 (P.map (AV.int .i64)).length)),(19,.p (.int .i64 q))],[(0,.own 137 1 ((P.take i).map (fmR F P)))]⟩
theorem v4q {N:Nat} (A:List Step) (P:List Int) (F:Int->Int->Bool) (i:Nat) (a:Int) (q:Nat) (hq:q<=P.length):Le N (mxS A P F i a q) (mxF A P F i a q):=by
 obtain ⟨s',h1,hle⟩:=Le.row (N:=N) (s:=mxS A P F i a q) (k:=1) (e:=4) (sz:=1) (es:=(P.take q).map fun b => .bool (F a b)) (zs:=[8]) rfl (K:=fun s'=>s'=mxF A P F i a q) (by
  exact ⟨by rw [length_map,length_take];omega,rfl⟩)
 rw [h1] at hle;exact hle
theorem WO (A:List Step) (P:List Int) (F:Int->Int->Bool) (hP:P.length<=1000000) (hF : ∀ a∈P,∀ b∈P,SpecP Tryz.prog 184 [QO A,.int .i64 a,.int .i64 b] (fun r=>r = .bool (F a b))):SpecP Tryz.prog 113 [QO A,QD P] (fun r=>r=fmE F P):=by
 refine sB BQ Tryz.func113 rfl Tryz.call113 ?_;conv=>whnf
 refine iM fun _=>?_;have hPl:(P.map (AV.int .i64)).length=P.length:=length_map _;conv=>whnf
 refine LoopK.inv QX (fun i:Nat=>⟨[(0,.p (QO A)),(1,.p (QD P)),(5,.hd 0 0 i),(11,.p (QD P)),(12,.p (.int .i64 (P.map (AV.int .i64)).length)),(13,.p (.int .i64 i))],[(0,.own 137 1 ((P.take i).map (fmR F P)))]⟩) (fun i=>i<=P.length) (fun i=>P.length-i) 0
  (Le.mk [(0,.own 137 1 [])] (by simp [Chunk.new0];rfl) (by simp) (by simp) (.cons (.refl _) (.cons (.refl _) (.cons (.nil mem_cons_self) (.cons (.refl _) (.cons (.refl _) (.cons (.refl _) .nil)))))) (.new mem_cons_self .nil)) (zero_le _) ?_
 intro i hi;rcases Nat.lt_or_ge i P.length with hi2|hi2;rotate_left 1
 ·obtain rfl:i=P.length:=by omega
  rw [List.take_length];conv=>whnf
  repeat' (apply bD<;>intro _<;>first|omega|conv=>whnf)
  exact ⟨_,.hd rfl (by simp),rfl⟩
 have hpos:0<P.length:=by omega
 conv=>whnf
 repeat' (first|((first|(refine iM fun _=>?_)|(refine iA fun _=>?_));conv=>whnf)|(apply bD<;>intro _<;>first|omega|conv=>whnf))
 refine LoopK.inv QX (fun x:Nat×Bool=>bif x.2 then mxF A P F i P[i] x.1 else mxS A P F i P[i] x.1) (fun x=>x.1<=P.length∧(x.2=true↔x.1=P.length)) (fun x=>P.length-x.1) (0,false) ?_ ⟨zero_le _,⟨fun h=>(by cases h),fun h=>by simp only at h;omega⟩⟩ ?_
 ·exact Le.mk [(1,.own 4 1 [])] (by simp [Chunk.new0];rfl) (by simp) (by simp) (.cons (.refl _) (.cons (.refl _) (.cons (.refl _) (.cons (.refl _) (.cons (.nil mem_cons_self) (.cons (.refl _) (.cons (.refl _) (.cons (.refl _) (.cons (.refl _) (.cons (.refl _) (.cons (.refl _) .nil))))))))))) (.cons rfl (.refl _) (.new mem_cons_self .nil))
 rintro ⟨q,fz⟩ ⟨h10,h11⟩;simp only at h10 h11 ⊢;cases fz with
 | false =>
   have hq:q<P.length:=by
    rcases Nat.lt_or_ge q P.length with h|h
    ·exact h
    ·have:=h11.2 (by omega);cases this
   have hfo:=hF P[i] (List.getElem_mem hi2) P[q] (List.getElem_mem hq);have hn1:(P.take (q+1)).map (fun b=>AV.bool (F P[i] b))=(P.take q).map (fun b=>AV.bool (F P[i] b))++[.bool (F P[i] P[q])]:=by rw [take_succ_eq_append_getElem hq,List.map_append];rfl
   have hln:((P.take q).map fun b=>AV.bool (F P[i] b)).length=q:=by rw [length_map,length_take];omega
   have fin : ∃ x:Nat×Bool,(x.1<=P.length∧(x.2=true↔x.1=P.length))∧P.length-x.1<P.length-q∧Le Tryz.f113.ntmps (mxS A P F i P[i] (q+1)) (bif x.2 then mxF A P F i P[i] x.1 else mxS A P F i P[i] x.1):=by
    rcases Nat.lt_or_ge (q+1) P.length with h|h
    ·exact ⟨(q+1,false),⟨by simp only;omega,⟨fun h=>(by cases h),fun h'=>by simp only at h';omega⟩⟩,by simp only;omega,Le.refl _⟩
    ·exact ⟨(q+1,true),⟨by simp only;omega,⟨fun _=>by simp only;omega,fun _=>rfl⟩⟩,by simp only;omega,v4q A P F i P[i] (q+1) hq⟩
   obtain ⟨x,hx,hμ,hle⟩:=fin;conv=>whnf
   repeat' (first|((first|refine And.intro rfl ?_|refine aD ?_|refine bP ?_|(refine iA fun _=>?_)|refine wI ?_|refine cP hfo ?_|refine AppK.mk (n:=q) (by omega) rfl (by show (q+1)*1<=140737488355328;omega) (by show q+1<=9223372036854775807;omega) (fun x hx=>by rcases List.mem_singleton.1 hx with rfl;exact ⟨rfl,rfl⟩) ?_);conv=>whnf)|(apply bD<;>intro _<;>first|omega|conv=>whnf))
   all_goals exact ⟨x,hx,hμ,Le.trans (Le.of_eq (by unfold mxS;rw [hn1];rfl)) hle⟩
 | true =>
   obtain rfl:q=P.length:=h11.1 rfl;have hn1:(P.take (i+1)).map (fmR F P)=(P.take i).map (fmR F P)++[fmR F P P[i]]:=by rw [take_succ_eq_append_getElem hi2,List.map_append];rfl
   have hln:((P.take i).map (fmR F P)).length=i:=by rw [length_map,length_take];omega
   rw [cond_true,mxF,List.take_length];conv=>whnf
   repeat' (first|((first|refine And.intro rfl ?_|refine aD ?_|refine bP ?_|refine wI ?_|refine AppK.mk (n:=i) (by omega) rfl (by show (i+1)*24<=140737488355328;omega) (by show i+1<=9223372036854775807;omega) (fun x hx=>by rcases List.mem_singleton.1 hx with rfl;exact ⟨rfl,rfl⟩) ?_);conv=>whnf)|(apply bD<;>intro _<;>first|omega|conv=>whnf))
   all_goals exact ⟨i+1,by omega,by omega,Le.of_eq (by rw [hn1];rfl)⟩
section
variable {p:Pg} {j:Nat} {f:Pr}
end
section
variable {p:Pg} {j:Nat} {f:Pr} {n:Str}
end
section
variable {p:Pg} {j:Nat} {f:Pr}
end
theorem z3i {p:Pg} {j:Nat} {f:Pr} {a b:Int} (hab:a≠b) (hb:b ≠ -1):Rch (frR (MX (QQ p j f) f) a [b]) a (-1)↔AvdP (z0t p j f) b a:=by
 have hno : ∀ x,UO [b] x=false↔x≠b:=fun x=>by
  unfold UO;simp
 constructor
 ·intro h;have key : ∀ {x:Int},Rch (frR (MX (QQ p j f) f) a [b]) a x->AvdP (z0t p j f) b x->AvdP (z0t p j f) b a:=fun {x} h=>by
   induction h with
   | refl=>exact id
   | @tail y x _ hs ih =>
     intro hx;obtain ⟨h1,s,h2,h3,h4⟩:=hs;refine ih (.step ?_ ⟨s,h2,h3,h4⟩ hx);rcases h1 with h1|h1
     ·rw [h1];exact hab
     ·exact (hno y).1 h1
  exact key h (.exit hb)
 ·intro h;have key : ∀ {x:Int},AvdP (z0t p j f) b x->Rch (frR (MX (QQ p j f) f) a [b]) a x->Rch (frR (MX (QQ p j f) f) a [b]) a (-1):=fun {x} h=>by
   induction h with
   | exit _=>exact id
   | @step x t hx hs _ ih =>
     obtain ⟨s,h2,h3,h4⟩:=hs;exact fun hr=>ih (.tail hr ⟨.inr ((hno x).2 hx),s,h2,h3,h4⟩)
  exact key h (.refl)
end Go.Ab
