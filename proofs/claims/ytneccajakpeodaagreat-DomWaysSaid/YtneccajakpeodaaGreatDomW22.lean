/- way: how many are marked; the comparison by that; the places that follow one, the nearer one first. -/
import Derived.Test.YtneccajakpeodaaGreatDomW16
import Derived.Test.YtneccajakpeodaaGreatDomW17
import Derived.Test.YtneccajakpeodaaGreatDomW20
import Derived.Test.YtneccajakpeodaaGreatDomW21
set_option linter.unusedSimpArgs false
set_option linter.unusedVariables false
set_option maxRecDepth 100000
set_option maxHeartbeats 16000000
namespace Go.Ab
open Go.Proofs
theorem z7b {l:List Bool} {j:Nat} (hj:j<l.length):(l.take (j+1)).count true=(l.take j).count true+(if l[j] then 1 else 0):=by
 rw [List.take_succ_eq_append_getElem hj,List.count_append]
 cases l[j]<;>rfl
theorem w0m (l:List Bool) (hl:l.length≤1000000):SpecP Tryz.prog 180 [eBs l] (fun r=>r = .int .i64 (l.count true)):=by
 refine SpecP.body z2r QQ Tryz.func180 rfl Tryz.call180 (by show 1≤_;decide) ?_
 conv=>whnf
 have hll:(l.map bv).length=l.length:=List.length_map _
 repeat' (intro (_:_≤9223372036854775807);conv=>whnf)
 refine LoopK.inv QQ (fun j:Nat=>⟨[(3,.p (.int .i64 ((l.take j).count true))),(6,.p (eBs l)),(7,.p (.int .i64 (l.map bv).length)),(8,.p (.int .i64 j))],[]⟩) (fun j=>j≤l.length) (fun j=>l.length-j) 0 (Le.of_eq rfl) (Nat.zero_le _) ?_
 intro j h2
 rcases Nat.lt_or_ge j l.length with hj|hj
 ·have e1:(l.map bv)[j]? = some (bv l[j]):=by rw [List.getElem?_map,List.getElem?_eq_getElem hj];rfl
  have hc:=z7b hj
  have hcl:(l.take j).count true≤j:=Nat.le_trans List.count_le_length (by rw [List.length_take];omega)
  generalize l[j]=x at e1 hc
  generalize (l.take j).count true=m at hc hcl ⊢
  cases x <;>
  conv=>whnf
  repeat' (first|((first|(refine Wr.i64 (by omega) (by omega) ?_)|(refine IdxK.at (k:=j) rfl e1 rfl ?_));conv=>whnf)|(refine Br.dec (fun _ => ?_) (fun _ => ?_)<;>first|(exfalso;omega)|conv=>whnf))
  all_goals first
   | exact ⟨j+1,by omega,by omega,Le.of_eq (by rw [hc];rfl)⟩
   | (exfalso;simp_all;done)
   | skip
 ·rw [List.take_of_length_le hj]
  conv=>whnf
  repeat' (refine Br.dec (fun _ => ?_) (fun _ => ?_)<;>first|(exfalso;omega)|conv=>whnf)
  exact RetK.int rfl
def z7g (M:List Int) (x:Int):Int:=getz M x.toNat
theorem w0z {M:List Int} (hM : ∀ x∈M,0≤x∧x≤1000000):CmpF 182 (.ip [XG M]) (z7g M) (fun x=>0≤x∧x<M.length):=by
 refine ⟨fun x y hx hy => ?_,fun x => ?_⟩
 ·obtain ⟨k,rfl⟩ : ∃ k:Nat,x=k:=⟨x.toNat,by omega⟩
  obtain ⟨q,rfl⟩ : ∃ q:Nat,y=q:=⟨y.toNat,by omega⟩
  have g1:=UB (l:=M) (i:=k) (by omega)
  have g2:=UB (l:=M) (i:=q) (by omega)
  have b1:=hM _ (WJ (l:=M) (i:=k) (by omega))
  have b2:=hM _ (WJ (l:=M) (i:=q) (by omega))
  have e1:z7g M k=getz M k:=by unfold z7g;rw [Int.toNat_natCast]
  have e2:z7g M q=getz M q:=by unfold z7g;rw [Int.toNat_natCast]
  rw [e1,e2]
  generalize getz M k=u at g1 b1
  generalize getz M q=v at g2 b2
  refine SpecP.body q3p QQ Tryz.func182 rfl Tryz.call182 (by show 3≤_;decide) ?_
  conv=>whnf
  repeat' ((first|(refine DrawK.auto QQ mixed (by kernel_rfl) ?_)|(refine Wr.i64 (by omega) (by omega) ?_)|(refine IdxK.at (k:=q) rfl g2 rfl ?_)|(refine IdxK.at (k:=k) rfl g1 rfl ?_));conv=>whnf)
  exact RetK.int rfl
 ·unfold z7g
  rcases Nat.lt_or_ge x.toNat M.length with h|h
  ·exact hM _ (WJ h)
  ·unfold getz
   rw [List.getD_eq_getElem?_getD,List.getElem?_eq_none h]
   exact ⟨Int.le_refl _,by decide⟩
def q8u (fm:List (List Bool)) (a j:Nat):List Int:=((List.range j).filter fun b=>bitF fm a b).map fun (b:Nat)=>(b:Int)
theorem z6c (fm:List (List Bool)) (a j:Nat):q8u fm a (j+1)=q8u fm a j++(if bitF fm a j then [(j:Int)] else []):=by
 unfold q8u
 rw [List.range_succ,List.filter_append,List.map_append]
 congr 1
 cases h:bitF fm a j<;>simp [h]
theorem x8y (fm:List (List Bool)) (a j:Nat):(q8u fm a j).length≤j:=by
 unfold q8u
 rw [List.length_map]
 exact Nat.le_trans (List.length_filter_le _ _) (by simp)
def q6q (fm:List (List Bool)) (a n j:Nat):List Int:=(List.range n).map fun b=>if b<j∧bitF fm a b=true then (((fm.getD b []).count true:Nat):Int) else 0
theorem GN (fm:List (List Bool)) (a n j:Nat):(q6q fm a n j).length=n:=by unfold q6q;simp
theorem DV {fm:List (List Bool)} {a n j b:Nat} (hb:b<n):(q6q fm a n j)[b]? = some (if b<j∧bitF fm a b=true then (((fm.getD b []).count true:Nat):Int) else 0):=by
 unfold q6q
 rw [List.getElem?_map,List.getElem?_range hb]
 rfl
theorem w1a {fm:List (List Bool)} {a n j:Nat} (h:bitF fm a j=false):q6q fm a n (j+1)=q6q fm a n j:=by
 unfold q6q
 refine List.map_congr_left fun b _ => ?_
 by_cases he:b=j
 ·subst he
  rw [if_neg (fun hh=>by rw [h] at hh;cases hh.2),if_neg (fun hh=>by rw [h] at hh;cases hh.2)]
 ·have:(b<j+1∧bitF fm a b=true)↔(b<j∧bitF fm a b=true):=by
   constructor
   ·exact fun hh=>⟨by omega,hh.2⟩
   ·exact fun hh=>⟨by omega,hh.2⟩
  by_cases hc:b<j∧bitF fm a b=true
  ·rw [if_pos hc,if_pos (this.2 hc)]
  ·rw [if_neg hc,if_neg (fun hh=>hc (this.1 hh))]
theorem z8g {fm:List (List Bool)} {a n j:Nat} (hj:j<n) (h:bitF fm a j=true):(q6q fm a n j).set j (((fm.getD j []).count true:Nat):Int)=q6q fm a n (j+1):=by
 refine List.ext_getElem? fun b => ?_
 rw [List.getElem?_set]
 by_cases he:j=b
 ·subst he
  rw [if_pos rfl,if_pos (by rw [GN];exact hj),DV hj,if_pos ⟨by omega,h⟩]
 ·rw [if_neg he]
  rcases Nat.lt_or_ge b n with hb|hb
  ·rw [DV hb,DV hb]
   have:(b<j+1∧bitF fm a b=true)↔(b<j∧bitF fm a b=true):=by
    constructor
    ·exact fun hh=>⟨by omega,hh.2⟩
    ·exact fun hh=>⟨by omega,hh.2⟩
   by_cases hc:b<j∧bitF fm a b=true
   ·rw [if_pos hc,if_pos (this.2 hc)]
   ·rw [if_neg hc,if_neg (fun hh=>hc (this.1 hh))]
  ·rw [List.getElem?_eq_none (by rw [GN];exact hb),List.getElem?_eq_none (by rw [GN];exact hb)]
theorem z3g (fm:List (List Bool)) (a n:Nat):q6q fm a n 0=List.replicate n 0:=by
 refine List.ext_getElem? fun b => ?_
 rcases Nat.lt_or_ge b n with hb|hb
 ·rw [DV hb,if_neg (by omega),List.getElem?_replicate,if_pos hb]
 ·rw [List.getElem?_eq_none (by rw [GN];exact hb),List.getElem?_eq_none (by simpa using hb)]
def z7a (w:Way) (fm:List (List Bool)) (a n j:Nat):St:=⟨[(0,.p (.ip w.cells)),(1,.p (.sl ((bmI fm).map .sl))),(7,.hd 2 0 (q8u fm a j).length),(8,.ptr 1 0),(21,.p (.sl ((fm.getD a []).map bv))),(22,.p (.int .i64 ((fm.getD a []).map bv).length)),(23,.p (.int .i64 j))],[(1,.obj 36 [.hd 0 0 n]),(0,.own 3 1 ((q6q fm a n j).map (.int .i64))),(2,.own 3 1 ((q8u fm a j).map (.int .i64)))]⟩
def w4o (w:Way) (fm:List (List Bool)) (a n j:Nat):St:=⟨[(0,.p (.ip w.cells)),(1,.p (.sl ((bmI fm).map .sl))),(7,.hd 2 0 (q8u fm a j).length),(8,.p (.ip [XG (q6q fm a n j)])),(21,.p (.sl ((fm.getD a []).map bv))),(22,.p (.int .i64 ((fm.getD a []).map bv).length)),(23,.p (.int .i64 j))],[(2,.own 3 1 ((q8u fm a j).map (.int .i64)))]⟩
theorem w6a {N:Nat} (w:Way) (fm:List (List Bool)) (a n j:Nat):Le N (z7a w fm a n j) (w4o w fm a n j):=by
 have hm:=GN fm a n j
 have h1:Le N (z7a w fm a n j) ⟨(z7a w fm a n j).sl,[(1,.obj 36 ([XG (q6q fm a n j)].map .p)),(2,.own 3 1 ((q8u fm a j).map (.int .i64)))]⟩:=by
  refine Le.rowObj (k:=0) (q:=1) (cs:=[XG (q6q fm a n j)]) rfl rfl rfl (fun i l c h1 h2 => ?_) (fun i => ?_) ?_ fun i c' hm => ?_
  ·match i,h1,h2 with
   | 0,h1,h2=>cases h1;cases h2;exact .inr ⟨_,rfl,by rw [List.length_map,hm],rfl⟩
   | i+1,h1,h2=>simp at h1
  ·refine x4o (fun x hx => ?_) i
   simp only [z7a,List.mem_cons,List.not_mem_nil,or_false] at hx
   rcases hx with rfl|rfl|rfl|rfl|rfl|rfl|rfl<;>rfl
  ·show [1,2].Sublist [1,0,2]
   decide
  ·simp only [List.mem_cons,List.not_mem_nil,or_false,Prod.mk.injEq] at hm
   rcases hm with ⟨rfl,rfl⟩|⟨rfl,rfl⟩
   ·exact ⟨by decide,.inl ⟨rfl,rfl⟩⟩
   ·exact ⟨by decide,.inr ⟨List.mem_cons_of_mem _ (List.mem_cons_of_mem _ List.mem_cons_self),rfl⟩⟩
 obtain ⟨s',hs',h2⟩:=Le.fz (N:=N) (s:=⟨(z7a w fm a n j).sl,[(1,.obj 36 ([XG (q6q fm a n j)].map .p)),(2,.own 3 1 ((q8u fm a j).map (.int .i64)))]⟩) (k:=1) (e:=36) (cs:=[XG (q6q fm a n j)]) rfl (K:=fun s'=>s'=w4o w fm a n j) rfl
 rw [hs'] at h2
 exact h1.trans h2
theorem x7q (w:Way) (f:Pr) (hj:w.p.procs[w.j]? = some f) (hc:cntP w.p.procs≤1000) (n:Nat) (hw:w.n=n) (hn:2≤n) (hn5:n≤5000) (fm:List (List Bool)) (hF:DimB n fm) (a:Nat) (ha:a<n):SpecP Tryz.prog 125 [.ip w.cells,.sl ((bmI fm).map .sl),.int .i64 a] (fun r => ∃ es:List Int,r=XG (es.map (QB w.p w.j w.n))∧es.Perm (q8u fm a n)∧srt (z7g (q6q fm a n n)) es 0 es.length):=by
 refine SpecP.body x0k QQ Tryz.func125 rfl Tryz.call125 (by show 3≤_;decide) ?_
 conv=>whnf
 obtain ⟨s1,s2⟩:=hF.row ha
 have hr1:((bmI fm).map AV.sl)[a]? = some (.sl ((fm.getD a []).map bv)):=by rw [List.getElem?_map,s1];rfl
 repeat' ((first|(intro (_:_≤9223372036854775807))|(refine And.intro rfl ?_)|(refine And.intro ⟨rfl,rfl,by decide⟩ ?_)|(refine MkK.mk n (by omega) (by show 8*_≤140737488355328;omega) (by unfold maxLen;omega) ?_)|(refine IdxK.at (k:=a) rfl hr1 rfl ?_));conv=>whnf)
 refine LoopK.inv QQ (fun x:Nat×Bool=>if x.2 then w4o w fm a n x.1 else z7a w fm a n x.1) (fun x=>x.1≤n∧(x.2=false→x.1<n)∧(x.2=true→x.1=n)) (fun x=>n-x.1) (0,false)
  (Le.mk [(2,.own 3 1 [])] (by simp [Chunk.new0];rfl) (by simp) (by simp) (.cons (.refl _) (.cons (.refl _) (.cons (.nil List.mem_cons_self) (.cons (.refl _) (.cons (.refl _) (.cons (.refl _) (.cons (.of_eq rfl) .nil))))))) (.cons rfl (.obj (.cons (.refl _) .nil)) (.cons rfl (.of_eq (by rw [z3g,List.map_replicate];rfl)) (.new List.mem_cons_self .nil))))
  ⟨Nat.zero_le _,fun _=>by simp only;omega,fun h=>by cases h⟩ ?_
 rintro ⟨j,m⟩ ⟨h2,h3,h4⟩
 simp only at h2 h3 h4
 cases m with
 | false =>
   have hj1:=h3 rfl
   have e1:=hF.bit ha hj1
   obtain ⟨u1,u2⟩:=hF.row hj1
   have hr2:((bmI fm).map AV.sl)[j]? = some (.sl ((fm.getD j []).map bv)):=by rw [List.getElem?_map,u1];rfl
   have fin : ∃ x:Nat×Bool,(x.1≤n∧(x.2=false→x.1<n)∧(x.2=true→x.1=n))∧n-x.1<n-j∧Le Tryz.f125.ntmps (z7a w fm a n (j+1)) (if x.2 then w4o w fm a n x.1 else z7a w fm a n x.1):=by
    rcases Nat.lt_or_ge (j+1) n with hj2|hj2
    ·exact ⟨(j+1,false),⟨by simp only;omega,fun _=>hj2,fun h=>by cases h⟩,by simp only;omega,Le.of_eq rfl⟩
    ·exact ⟨(j+1,true),⟨by simp only;omega,(fun h=>by cases h),fun _=>by simp only;omega⟩,by simp only;omega,w6a w fm a n (j+1)⟩
   obtain ⟨x,hx1,hx2,hx3⟩:=fin
   have hsucc:=z6c fm a j
   have hfl:=x8y fm a j
   have hyes:=fun h=>z8g (fm:=fm) (a:=a) hj1 h
   have hno:=fun h=>w1a (fm:=fm) (a:=a) (n:=n) (j:=j) h
   have hml:=GN fm a n j
   have hmg:=DV (fm:=fm) (a:=a) (j:=j) hj1
   rw [if_neg (fun h=>by omega)] at hmg
   have hSz:=w0m (fm.getD j []) (by rw [List.length_map] at u2;omega)
   unfold z7a at hx3 ⊢
   rw [hsucc] at hx3
   generalize q6q fm a n (j+1)=mn2 at hx3 hyes hno
   generalize q6q fm a n j=mn at hyes hno hml hmg ⊢
   generalize q8u fm a j=fl at hx3 hfl ⊢
   generalize (fm.getD j []).count true=cn at hyes hSz
   have hmg2:=q9p hmg
   cases hv:bitF fm a j with
   | true =>
     have hyes:=hyes hv
     rw [hv] at e1
     rw [hv,if_pos rfl] at hx3
     simp only [Bool.false_eq_true,if_false]
     conv=>whnf
     repeat' (first|((first|(refine And.intro rfl ?_)|(refine And.intro ⟨by decide,by decide⟩ ?_)|(refine BsK.pure (fun x hx=>by rcases List.mem_singleton.1 hx with rfl;rfl) rfl ?_)|(refine Wr.i64 (by omega) (by omega) ?_)|(refine DrawK.of QQ mixed (.cons 1 false (.cons 2 false (.cons 3 false (.cons 4 false (.cons 5 false (.fork 0 (.cons 6 true (.cons 7 true (.cons 8 true .nil))) 6 (.cons 0 true (.cons 7 true (.cons 8 true .nil))))))))) (by kernel_rfl) ?_)|(refine IdxK.at (k:=j) rfl e1 rfl ?_)|(refine IdxK.at (k:=j) rfl hr2 rfl ?_)|(refine AppK.int1 (by simp) (by simp;omega) ?_)|(refine IdxL.mk j rfl (by omega) ?_)|(refine CallK.pure hSz (.cons (Sub.refl _) .nil) ?_;rintro _ rfl)|(refine StOwn.mk j 0 _ (.int .i64 cn) (by omega) hmg2 (Nat.le_refl _) rfl ?_));conv=>whnf)|(refine Br.dec (fun _ => ?_) (fun _ => ?_)<;>first|(exfalso;omega)|conv=>whnf)|(refine And.intro ?_ ?_<;>conv=>whnf))
     all_goals first
      | exact ⟨x,hx1,hx2,Le.trans (Le.of_eq (by rw [← hyes,List.map_set];simp only [List.length_append,List.map_append,List.length_map];rfl)) hx3⟩
      | skip
   | false =>
     have hno:=hno hv
     rw [hv] at e1
     rw [hv,if_neg (by decide),List.append_nil,hno] at hx3
     simp only [Bool.false_eq_true,if_false]
     conv=>whnf
     repeat' (first|((first|(refine Wr.i64 (by omega) (by omega) ?_)|(refine IdxK.at (k:=j) rfl e1 rfl ?_));conv=>whnf)|(refine Br.dec (fun _ => ?_) (fun _ => ?_)<;>first|(exfalso;omega)|conv=>whnf))
     all_goals first
      | exact ⟨x,hx1,hx2,hx3⟩
      | (exfalso;simp_all;done)
      | skip
 | true =>
   have hje:=h4 rfl
   subst hje
   simp only [if_true]
   unfold w4o
   have hml:=GN fm a j j
   have hmr : ∀ x∈q6q fm a j j,0≤x∧x≤1000000:=fun x hx=>by
    obtain ⟨b,hb,rfl⟩:=List.mem_map.1 hx
    rw [List.mem_range] at hb
    obtain ⟨_,u2⟩:=hF.row hb
    rw [List.length_map] at u2
    have:=List.count_le_length (a:=true) (l:=fm.getD b [])
    split<;>omega
   have hfl:=x8y fm a j
   have hfm : ∀ x∈q8u fm a j,0≤x∧x<((q6q fm a j j).length:Int):=fun x hx=>by
    obtain ⟨b,hb,rfl⟩:=List.mem_map.1 hx
    have:=List.mem_range.1 (List.mem_filter.1 hb).1
    omega
   have hS:=q4i (w0z hmr) (q8u fm a j) (q8u fm a j).length rfl (by omega) hfm
   conv=>whnf
   repeat' (first|((first|(intro (_:_≤9223372036854775807))|(refine CallK.heap [(1000,2)] 5 (ArgsH.cons (LSub.refl _) (ArgsH.cons (LSub.refl _) ArgsH.nil)) (by refine BlksH.cons (j:=2) rfl rfl ?_ ?_;exact CSub.refl _;exact BlksH.nil) hS rfl rfl ?_;rintro l' H' ⟨rfl,es,rfl,p1,s1⟩));conv=>whnf)|(refine Br.dec (fun _ => ?_) (fun _ => ?_)<;>first|(exfalso;omega)|conv=>whnf))
   have hel:=p1.len.1
   have hpm:=p1.perm
   have hin : ∀ x∈es,0≤x∧x<(j:Int):=fun x hx=>by
    have:=hfm x (hpm.mem_iff.1 hx)
    omega
   generalize q8u fm a j=fl at hel hfl hpm s1 ⊢
   generalize hplc:QB w.p w.j w.n=plc
   refine LoopK.inv QQ (fun i:Nat=>⟨[(0,.p (.ip w.cells)),(7,.hd 2 0 fl.length),(45,.hd 2 0 fl.length),(46,.p (.int .i64 fl.length)),(47,.p (.int .i64 i))],[(2,.own 3 1 (((es.take i).map plc++es.drop i).map (.int .i64)))]⟩) (fun i=>i≤es.length) (fun i=>es.length-i) 0 (Le.of_eq rfl) (Nat.zero_le _) ?_
   intro i hi
   rcases Nat.lt_or_ge i es.length with hi2|hi2
   ·have tl:((es.take i).map plc).length=i:=by rw [List.length_map,List.length_take];omega
    have hd:es.drop i=es[i]::es.drop (i+1):=List.drop_eq_getElem_cons hi2
    have hrow:(es.take i).map plc++es.drop i=(es.take i).map plc++es[i]::es.drop (i+1):=by rw [hd]
    have g1:(((es.take i).map plc++es.drop i).map (AV.int .i64))[i]? = some (.int .i64 es[i]):=by
     rw [List.getElem?_map,List.getElem?_append_right (by omega),tl,Nat.sub_self,hd]
     rfl
    have hst:((es.take i).map plc++es.drop i).set i (plc es[i])=(es.take (i+1)).map plc++es.drop (i+1):=by
     rw [hrow,q6x _ _ _ _ tl.symm,List.take_succ_eq_append_getElem hi2,List.map_append,List.append_assoc]
     rfl
    have hr:=hin _ (List.getElem_mem hi2)
    have hP:=GM w f hj hc (by omega) es[i] (by omega)
    rw [hplc] at hP
    generalize (es.take i).map plc++es.drop i=row at g1 hst ⊢
    generalize es[i]=x at g1 hst hP
    conv=>whnf
    repeat' (first|((first|(refine And.intro rfl ?_)|(refine Wr.i64 (by omega) (by omega) ?_)|(refine IdxL.mk i rfl (by omega) ?_)|(refine LdOwn.mk i 0 _ (by omega) g1 ?_)|(refine CallK.pure hP (.cons (Sub.refl _) (.cons (Sub.refl _) .nil)) ?_;rintro _ rfl)|(refine StOwn.mk i 0 _ (.int .i64 (plc x)) (by omega) g1 (Nat.le_refl _) rfl ?_));conv=>whnf)|(refine Br.dec (fun _ => ?_) (fun _ => ?_)<;>first|(exfalso;omega)|conv=>whnf))
    all_goals first
     | (exfalso;omega)
     | exact ⟨i+1,by omega,by omega,Le.of_eq (by rw [← hst,List.map_set];rfl)⟩
     | skip
   ·rw [List.take_of_length_le hi2,List.drop_of_length_le hi2,List.append_nil]
    conv=>whnf
    repeat' (refine Br.dec (fun _ => ?_) (fun _ => ?_)<;>first|(exfalso;omega)|conv=>whnf)
    all_goals first
     | (exfalso;omega)
     | exact ⟨_,.hd rfl (by simp [hel]),es,rfl,hpm,by rw [hel];exact s1⟩
     | skip
open Go.Proofs
theorem q7r {R:Int→Int→Prop} (anti : ∀ a b,R a b→R b a→a=b) : ∀ {l m:List Int},l.Perm m→l.Nodup→l.Pairwise R→m.Pairwise R→l=m
 | [],m,h,_,_,_=>(List.nil_perm.1 h).symm
 | a::l,[],h,_,_,_=>absurd h.length_eq (by simp)
 | a::l,b::m,h,hn,hl,hm=>by
   rw [List.pairwise_cons] at hl hm
   have hab:a=b:=by
    rcases List.mem_cons.1 (h.mem_iff.1 List.mem_cons_self) with h1|h1
    ·exact h1
    rcases List.mem_cons.1 (h.mem_iff.2 List.mem_cons_self) with h2|h2
    ·exact h2.symm
    exact anti a b (hl.1 b h2) (hm.1 a h1)
   subst hab
   rw [q7r anti (List.Perm.cons_inv h) (List.nodup_cons.1 hn).2 hl.2 hm.2]
theorem w3z {R:Int→Int→Prop} {b c a:Int} (h:AvdP R c a):AvdP R b a∨AvdP R c b:=by
 induction h with
 | exit h =>
   by_cases hb:b = -1
   ·rw [hb];exact .inr (.exit h)
   ·exact .inl (.exit hb)
 | @step a t hac hs h ih =>
   by_cases hab:a=b
   ·subst hab
    exact .inr (.step hac hs h)
   ·rcases ih with ih|ih
    ·exact .inl (.step hab hs ih)
    ·exact .inr ih
inductive ToX (R:Int→Int→Prop):Int→Prop
 | exit:ToX R (-1)
 | step {a t:Int} (hs:R a t) (h:ToX R t):ToX R a
theorem w5u {R:Int→Int→Prop} {a:Int} (h:Rch R a (-1)):ToX R a:=by
 have key : ∀ {x y:Int},Rch R x y→ToX R y→ToX R x:=fun {x y} hr=>by
  induction hr with
  | refl=>exact fun h=>h
  | tail _ h2 ih=>exact fun h=>ih (.step h2 h)
 exact key h .exit
theorem z5z {R:Int→Int→Prop} {b c:Int} (hne:b≠c) (hb:AvdP R c b) (hc:AvdP R b c) {x:Int} (h:ToX R x):AvdP R b x∨AvdP R c x:=by
 induction h with
 | exit =>
   by_cases he:b = -1
   ·exact .inr (.exit fun e=>hne (by rw [he,e]))
   ·exact .inl (.exit he)
 | @step a t hs _ ih =>
   by_cases h1:a=b
   ·subst h1;exact .inr hb
   ·by_cases h2:a=c
    ·subst h2;exact .inl hc
    ·rcases ih with ih|ih
     ·exact .inl (.step h1 hs ih)
     ·exact .inr (.step h2 hs ih)
theorem z8s {R:Int→Int→Prop} {b c:Int} (hc : ¬AvdP R b c) (hcx:c ≠ -1) {x:Int} (h:AvdP R b x):AvdP R c x:=by
 induction h with
 | exit h=>exact .exit hcx
 | @step a t hab hs h ih=>exact .step (fun e=>hc (by subst e;exact .step hab hs h)) hs ih
theorem z7e {R:Int→Int→Prop} {b c:Int} (hb : ¬AvdP R c b) (hc : ¬AvdP R b c) (hx:ToX R b):b=c:=by
 refine Classical.byContradiction fun hne => ?_
 by_cases hcx:c = -1
 ·subst hcx
  exact hc (.exit hne)
 by_cases hbx:b = -1
 ·subst hbx
  exact hb (.exit hcx)
 have key : ∀ {x:Int},ToX R x→AvdP R c x:=fun {x} h=>by
  induction h with
  | exit=>exact .exit hcx
  | @step a t hs _ ih =>
    by_cases h2:a=c
    ·subst h2
     have ih2:=z8s hb hbx ih
     exact absurd (.step (fun e=>hne e.symm) hs ih2) hc
    ·exact .step h2 hs ih
 exact hb (key hx)
section
variable {p:Pg} {j:Nat} {f:Pr}
theorem q3j (h:ZV p=true) (hj:p.procs[j]? = some f) {x:Int} (hx:plP p j f x):ToX (aR p j f) x:=by
 refine w5u ((z4v h hj hx).mono fun a b ⟨s,hs,h1,h2⟩ => ?_)
 rcases List.mem_append.1 ((DX (x5u h hj)).2.1 s hs) with h3|h3
 ·obtain ⟨l,hl,t,ht,hid,hk,rfl⟩:=(MA h hj).1 h3
  exact (z5e h hj).2 (.inr (.inr (.inl ⟨l,hl,t,ht,hid,hk,h1.symm,h2.symm⟩)))
 ·exact (z5e h hj).2 (.inl ⟨s,h3,h1,h2⟩)
theorem folP.self (b:Int):folP p j f b b:=x6l
theorem folP.exit (a:Int) (h:ToX (aR p j f) a):folP p j f a (-1):=fun ha=>by
 clear h
 have key : ∀ {b x:Int},b = -1 → ¬AvdP (aR p j f) b x:=fun {b x} hb ha=>by
  induction ha with
  | exit h=>exact h hb
  | step _ _ _ ih=>exact ih
 exact key rfl ha
theorem folP.trans {a b c:Int} (h1:folP p j f a b) (h2:folP p j f b c):folP p j f a c:=fun h=>by
 rcases w3z (b:=b) h with h3|h3
 ·exact h1 h3
 ·exact h2 h3
theorem folP.anti (h:ZV p=true) (hj:p.procs[j]? = some f) {b c:Int} (hb:plP p j f b) (h1:folP p j f b c) (h2:folP p j f c b):b=c:=z7e h1 h2 (q3j h hj hb)
theorem folP.total (h:ZV p=true) (hj:p.procs[j]? = some f) {a b c:Int} (ha:plP p j f a) (h1:folP p j f a b) (h2:folP p j f a c):folP p j f b c∨folP p j f c b:=by
 refine Classical.byContradiction fun hno => ?_
 rw [not_or] at hno
 have hb:=Classical.not_not.1 hno.1
 have hc:=Classical.not_not.1 hno.2
 have hne:b≠c:=fun e=>hno.1 (by rw [e];exact folP.self c)
 rcases z5z hne hb hc (q3j h hj ha) with h3|h3
 ·exact h1 h3
 ·exact h2 h3
structure RowP (p:Pg) (j:Nat) (f:Pr) (a:Int) (l:List Int):Prop where
 mem : ∀ y,y∈l↔plP p j f y∧folP p j f a y
 nd:l.Nodup
 chain:l.Pairwise (folP p j f)
theorem RowP.uniq (h:ZV p=true) (hj:p.procs[j]? = some f) {a:Int} {l m:List Int} (hl:RowP p j f a l) (hm:RowP p j f a m):l=m:=by
 have hp:l.Perm m:=(List.perm_iff_count.2 fun x=>by
  by_cases hx:x∈l
  ·rw [List.Nodup.count hl.nd,if_pos hx,List.Nodup.count hm.nd,if_pos ((hm.mem x).2 ((hl.mem x).1 hx))]
  ·rw [List.Nodup.count hl.nd,if_neg hx,List.Nodup.count hm.nd,if_neg (fun h=>hx ((hl.mem x).2 ((hm.mem x).1 h)))])
 have:=q7r (R:=fun x y=>plP p j f x∧plP p j f y∧folP p j f x y) (fun x y h1 h2=>folP.anti h hj h1.1 h1.2.2 h2.2.2) hp hl.nd
  (hl.chain.imp_of_mem fun {x y} hx hy hxy=>⟨((hl.mem x).1 hx).1,((hl.mem y).1 hy).1,hxy⟩) (hm.chain.imp_of_mem fun {x y} hx hy hxy=>⟨((hm.mem x).1 hx).1,((hm.mem y).1 hy).1,hxy⟩)
 exact this
theorem x9c {K:Int→Int} : ∀ {l:List Int},srt K l 0 l.length→l.Pairwise fun x y=>K y≤K x
 | [],_ => .nil
 | a::l,h=>by
   refine List.pairwise_cons.2 ⟨fun b hb => ?_,x9c fun i k h1 h2 h3 => ?_⟩
   ·obtain ⟨i,hi,rfl⟩:=List.mem_iff_getElem.1 hb
    have:=h 0 (i+1) (Nat.le_refl _) (by omega) (by simpa using hi)
    have e:getz (a::l) (i+1)=l[i]:=by
     unfold getz
     rw [List.getD_cons_succ,List.getD_eq_getElem?_getD,List.getElem?_eq_getElem hi]
     rfl
    rw [e] at this
    exact this
   ·exact h (i+1) (k+1) (Nat.zero_le _) (by omega) (by simpa using h3)
theorem w5x (h:ZV p=true) (hj:p.procs[j]? = some f) {fm:List (List Bool)} (hF:FollowP (QY f.body+2) (YT (QY f.body+2) (JU (QX p j f) f)) fm) {a:Int} (ha:plP p j f a) {es:List Int}
  (hp:es.Perm (q8u fm (ixI p j f a).toNat (QY f.body+2))) (hs:srt (z7g (q6q fm (ixI p j f a).toNat (QY f.body+2) (QY f.body+2))) es 0 es.length):RowP p j f a (es.map (QB p j (QY f.body+2:Nat))):=by
 have hra:=ZY ha
 have hmem : ∀ x:Int,x∈es ↔ ∃ b:Nat,b<QY f.body+2∧bitF fm (ixI p j f a).toNat b=true∧x=b:=fun x=>by
  rw [hp.mem_iff]
  unfold q8u
  rw [List.mem_map]
  constructor
  ·rintro ⟨b,hb,rfl⟩
   obtain ⟨h1,h2⟩:=List.mem_filter.1 hb
   exact ⟨b,List.mem_range.1 h1,h2,rfl⟩
  ·rintro ⟨b,h1,h2,rfl⟩
   exact ⟨b,List.mem_filter.2 ⟨List.mem_range.2 h1,h2⟩,rfl⟩
 have hplc : ∀ x∈es,plP p j f (QB p j (QY f.body+2:Nat) x)∧ixI p j f (QB p j (QY f.body+2:Nat) x)=x∧0≤x∧x<(QY f.body+2:Nat):=fun x hx=>by
  obtain ⟨b,h1,_,rfl⟩:=(hmem x).1 hx
  obtain ⟨q1,q2⟩:=JX (p:=p) (j:=j) (f:=f) (i:=(b:Int)) (by omega)
  exact ⟨q1,q2,by omega,by omega⟩
 have hfol : ∀ x∈es,folP p j f a (QB p j (QY f.body+2:Nat) x):=fun x hx=>by
  obtain ⟨b,h1,h2,rfl⟩:=(hmem x).1 hx
  obtain ⟨q1,q2,_⟩:=hplc _ hx
  refine (GB h hj hF ha q1).1 ?_
  rw [q2,Int.toNat_natCast]
  exact h2
 have hnd:es.Nodup:=by
  rw [hp.nodup_iff]
  unfold q8u
  show List.Pairwise _ _
  rw [List.pairwise_map]
  exact (List.Pairwise.filter _ List.nodup_range).imp fun hne he=>hne (by omega)
 have hndm:(es.map (QB p j (QY f.body+2:Nat))).Nodup:=by
  show List.Pairwise _ _
  rw [List.pairwise_map]
  refine hnd.imp_of_mem fun {x y} hx hy hne he=>hne ?_
  rw [← (hplc x hx).2.1,← (hplc y hy).2.1,he]
 have hkey : ∀ x∈es,z7g (q6q fm (ixI p j f a).toNat (QY f.body+2) (QY f.body+2)) x=(((fm.getD x.toNat []).count true:Nat):Int):=fun x hx=>by
  obtain ⟨b,h1,h2,rfl⟩:=(hmem x).1 hx
  unfold z7g getz
  rw [Int.toNat_natCast,List.getD_eq_getElem?_getD,DV h1,if_pos ⟨h1,h2⟩]
  rfl
 refine ⟨fun y => ?_,hndm,?_⟩
 ·rw [List.mem_map]
  constructor
  ·rintro ⟨x,hx,rfl⟩
   exact ⟨(hplc x hx).1,hfol x hx⟩
  ·rintro ⟨h1,h2⟩
   have hr:=ZY h1
   have hb:=(GB h hj hF ha h1).2 h2
   refine ⟨ixI p j f y,(hmem _).2 ⟨(ixI p j f y).toNat,by omega,hb,by omega⟩,x9z h1⟩
 ·rw [List.pairwise_map]
  refine (List.pairwise_and_iff.2 ⟨x9c hs,hnd⟩).imp_of_mem fun {x y} hx hy hxy => ?_
  obtain ⟨hk,hne⟩:=hxy
  rw [hkey x hx,hkey y hy] at hk
  obtain ⟨px,ix,x0,x1⟩:=hplc x hx
  obtain ⟨py,iy,y0,y1⟩:=hplc y hy
  rcases folP.total h hj ha (hfol x hx) (hfol y hy) with h1|h1
  ·exact h1
  ·exfalso
   have hrow : ∀ z:Int,0≤z→z<(QY f.body+2:Nat)→(fm.getD z.toNat []).length=QY f.body+2:=fun z z0 z1=>by
    have hl:=hF.inv.len
    rw [List.getD_eq_getElem?_getD,List.getElem?_eq_getElem (by omega)]
    exact hF.inv.rows _ (List.getElem_mem _)
   have hlt:=q3u (r:=fm.getD x.toNat []) (s:=fm.getD y.toNat []) (by rw [hrow x x0 x1,hrow y y0 y1]) (fun b hb=>by
    rcases Nat.lt_or_ge b (QY f.body+2) with hbn|hbn
    ·obtain ⟨q1,q2⟩:=JX (p:=p) (j:=j) (f:=f) (i:=(b:Int)) (by omega)
     have h3:folP p j f (QB p j (QY f.body+2:Nat) x) (QB p j (QY f.body+2:Nat) b):=(GB h hj hF px q1).1 (by rw [ix,q2,Int.toNat_natCast];exact hb)
     have h4:=(GB h hj hF py q1).2 (h1.trans h3)
     rw [iy,q2,Int.toNat_natCast] at h4
     exact h4
    ·rw [List.getD_eq_getElem?_getD,List.getElem?_eq_none (by rw [hrow x x0 x1];exact hbn)] at hb
     cases hb) (fun he=>by
    have h3:=(GB h hj hF py py).2 (folP.self _)
    have h4:bitF fm (ixI p j f (QB p j (QY f.body+2:Nat) x)).toNat (ixI p j f (QB p j (QY f.body+2:Nat) y)).toNat=true:=by
     rw [ix,iy] at *
     unfold bitF at h3 ⊢
     rw [he]
     exact h3
    have h5:=(GB h hj hF px py).1 h4
    have h6:=folP.anti h hj px h5 h1
    rw [← ix,← iy,h6] at hne
    exact hne rfl)
   omega
noncomputable def x1g (p:Pg) (j:Nat) (f:Pr) (a:Int):List Int := @Classical.epsilon _ ⟨[]⟩ (RowP p j f a)
theorem RowP.eq (h:ZV p=true) (hj:p.procs[j]? = some f) {a:Int} {l:List Int} (hl:RowP p j f a l):l=x1g p j f a:=hl.uniq h hj (Classical.epsilon_spec (p:=RowP p j f a) ⟨l,hl⟩)
end
open Go.Proofs
theorem w4i {p:Pg} {j:Nat} {f:Pr} {x:Int}:0≤ixI p j f x↔plP p j f x:=by
 constructor
 ·intro h
  unfold ixI YG loI hiI at h
  unfold plP
  (repeat' split at h)<;>omega
 ·exact fun h=>(ZY h).1
section
variable {p:Pg} {j:Nat} {f:Pr}
theorem x1q (h:ZV p=true) (hj:p.procs[j]? = some f) {a:Int} (ha:plP p j f a):RowP p j f a (x1g p j f a):=by
 obtain ⟨fm,hF⟩:=z6g (n:=QY f.body+2) (z4q (x0i h hj))
 have hra:=ZY ha
 have hex : ∃ l,RowP p j f a l:=by
  refine Classical.byContradiction fun hno => ?_
  have : ∀ (m:List Int),m.Nodup→(∀ y∈m,plP p j f y∧folP p j f a y) → ∃ l:List Int,l.Perm m∧l.Pairwise (folP p j f):=fun m=>by
   induction m with
   | nil=>exact fun _ _=>⟨[],.refl _,.nil⟩
   | cons x m ih =>
     intro hn hm
     obtain ⟨l,hl,hc⟩:=ih (List.nodup_cons.1 hn).2 fun y hy=>hm y (List.mem_cons_of_mem _ hy)
     have ins : ∀ (l:List Int),(∀ y∈l,plP p j f y∧folP p j f a y)→l.Pairwise (folP p j f) → ∃ l':List Int,l'.Perm (x::l)∧l'.Pairwise (folP p j f):=fun l=>by
      induction l with
      | nil=>exact fun _ _=>⟨[x],.refl _,List.pairwise_singleton _ _⟩
      | cons y l ih2 =>
        intro hl hc
        rw [List.pairwise_cons] at hc
        have hx:=hm x List.mem_cons_self
        have hy:=hl y List.mem_cons_self
        rcases folP.total h hj ha hx.2 hy.2 with h1|h1
        ·refine ⟨x::y::l,.refl _,List.pairwise_cons.2 ⟨fun z hz => ?_,List.pairwise_cons.2 hc⟩⟩
         rcases List.mem_cons.1 hz with rfl|hz
         ·exact h1
         ·exact h1.trans (hc.1 z hz)
        ·obtain ⟨l',hp,hc'⟩:=ih2 (fun z hz=>hl z (List.mem_cons_of_mem _ hz)) hc.2
         refine ⟨y::l',(hp.cons y).trans (.swap x y l),List.pairwise_cons.2 ⟨fun z hz => ?_,hc'⟩⟩
         rcases List.mem_cons.1 (hp.mem_iff.1 hz) with rfl|hz
         ·exact h1
         ·exact hc.1 z hz
     obtain ⟨l',hp,hc'⟩:=ins l (fun y hy=>hm y (List.mem_cons_of_mem _ (hl.mem_iff.1 hy))) hc
     exact ⟨l',hp.trans (hl.cons x),hc'⟩
  obtain ⟨l,hl,hc⟩:=this ((plL p j f).filter fun y => @decide (folP p j f a y) (Classical.propDecidable _)) (by
   refine List.Pairwise.filter _ ?_
   unfold plL
   refine List.pairwise_cons.2 ⟨fun y hy => ?_,List.pairwise_cons.2 ⟨fun y hy => ?_,q0q _ _⟩⟩
   ·rcases List.mem_cons.1 hy with rfl|hy
    ·decide
    ·have:=JZ hy
     omega
   ·have:=JZ hy
    omega) (fun y hy=>by
   obtain ⟨h1,h2⟩:=List.mem_filter.1 hy
   exact ⟨YJ.1 h1,(@decide_eq_true_iff _ (Classical.propDecidable _)).1 h2⟩)
  refine hno ⟨l,fun y => ?_,?_,hc⟩
  ·rw [hl.mem_iff,List.mem_filter,YJ]
   exact and_congr_right fun _ => @decide_eq_true_iff _ (Classical.propDecidable _)
  ·rw [hl.nodup_iff]
   refine List.Pairwise.filter _ ?_
   unfold plL
   refine List.pairwise_cons.2 ⟨fun y hy => ?_,List.pairwise_cons.2 ⟨fun y hy => ?_,q0q _ _⟩⟩
   ·rcases List.mem_cons.1 hy with rfl|hy
    ·decide
    ·have:=JZ hy
     omega
   ·have:=JZ hy
    omega
 exact Classical.epsilon_spec (p:=RowP p j f a) hex
theorem z8u (h:ZV p=true) (hj:p.procs[j]? = some f) {a:Int} (ha:plP p j f a):(x1g p j f a).length≤QY f.body+2:=by
 have hR:=x1q h hj ha
 have:=YX (m:=plL p j f) hR.nd fun y hy=>YJ.2 ((hR.mem y).1 hy).1
 have h2:(plL p j f).length=QY f.body+2:=by unfold plL YC;simp
 omega
end
theorem x8v {p:Pg} {j:Nat} {f:Pr} (h:ZV p=true) (hj:p.procs[j]? = some f) {fm:List (List Bool)} (hF:FollowP (QY f.body+2) (YT (QY f.body+2) (JU (QX p j f) f)) fm) {x:Int} (hx:plP p j f x) :
  SpecP Tryz.prog 125 [.ip (QX p j f).cells,.sl ((bmI fm).map .sl),.int .i64 (ixI p j f x)] (fun r=>r=XG (x1g p j f x)):=by
 have hT:=w3o h hj
 have hr:=ZY hx
 have:=x7q (QX p j f) f hT.hj hT.hc (QY f.body+2) hT.hw hT.hn2 hT.hn fm ⟨hF.inv.len,hF.inv.rows⟩ (ixI p j f x).toNat (by omega)
 rw [Int.toNat_of_nonneg hr.1] at this
 refine this.mono fun r hr => ?_
 obtain ⟨es,rfl,hp,hs⟩:=hr
 rw [← (w5x h hj hF hx hp hs).eq h hj]
 rfl
noncomputable def z0c (p:Pg) (n:Str) (x:Int):List Int:=match BB p n with
 | some w=>(match w.p.procs[w.j]? with
   | some f=>if 0≤ixI w.p w.j f x then x1g w.p w.j f x else []
   | none=>[])
 | none=>[]
theorem LG {p:Pg} {n:Str} {k:Nat} {f:Pr} (hw:BB p n=some (QX p k f)) (hk:p.procs[k]? = some f) (x:Int):z0c p n x=if 0≤ixI p k f x then x1g p k f x else []:=by
 have h:(QX p k f).p.procs[(QX p k f).j]? = some f:=hk
 unfold z0c
 rw [hw]
 simp only
 rw [h]
 rfl
theorem z5l {p:Pg} {n:Str} (hw:BB p n=none) (x:Int):z0c p n x=[]:=by
 unfold z0c
 rw [hw]
theorem z4e (p:Pg) (hf:Fit p) (n:Str) (x:Int):SpecP Tryz.prog 65 [.agg p.cells,.str n,.int .i64 x] (fun r=>r=XG (z0c p n x)):=by
 refine SpecP.body z8r QQ Tryz.func65 rfl Tryz.call65 (by show 3≤_;decide) ?_
 conv=>whnf
 have hW:=z5h p hf n
 cases hw:BB p n with
 | none =>
   rw [z5l hw]
   rw [hw] at hW
   repeat' (refine CallK.pure hW (.cons (Sub.refl _) (.cons (Sub.refl _) .nil)) ?_;rintro _ rfl;conv=>whnf)
   exact ⟨_,.p Sub.nils,rfl⟩
 | some w =>
   obtain ⟨k,f,hkj,rfl,hc,_⟩:=HL hw
   have hT:=w3o hc hkj
   have hn2:=hT.hn2
   have hn5:=hT.hn
   have hwn:=hT.hw
   have hI:=MO (QX p k f) f hT.hj hT.hc (by omega) x
   have he:YG (loI (QX p k f).p (QX p k f).j) (hiI (QX p k f).p (QX p k f).j f) (QX p k f).n x=ixI p k f x:=rfl
   rw [he] at hI
   rw [LG hw hkj]
   rw [hw] at hW
   have hFo:=BG (QX p k f) f (QY f.body+2) hT (x0i hc hkj) (Nat.le_trans (x5e hc hkj) (by decide))
   have hR:=fun fm hF (hx:0≤ixI p k f x)=>x8v hc hkj (fm:=fm) hF (w4i.1 hx)
   generalize x1g p k f x=L at hR ⊢
   generalize ixI p k f x=ix at hI hR ⊢
   by_cases hx:0≤ix
   ·rw [if_pos hx]
    repeat' (first|((first|(refine CallK.pure hW (.cons (Sub.refl _) (.cons (Sub.refl _) .nil)) ?_;rintro _ rfl)|(refine CallK.pure hI (.cons (Sub.refl _) (.cons (Sub.refl _) .nil)) ?_;rintro _ rfl)|(refine CallK.pure hFo (.cons (Sub.refl _) .nil) ?_;rintro _ ⟨fm,hF,rfl⟩)|(refine CallK.pure (hR fm hF hx) (.cons (Sub.refl _) (.cons (Sub.refl _) (.cons (Sub.refl _) .nil))) ?_;rintro _ rfl));conv=>whnf)|(refine Br.dec (fun _ => ?_) (fun _ => ?_)<;>first|(exfalso;omega)|conv=>whnf))
    all_goals first
     | (exfalso;omega)
     | exact RetK.p rfl
     | skip
   ·rw [if_neg hx]
    repeat' (first|((first|(refine CallK.pure hW (.cons (Sub.refl _) (.cons (Sub.refl _) .nil)) ?_;rintro _ rfl)|(refine CallK.pure hI (.cons (Sub.refl _) (.cons (Sub.refl _) .nil)) ?_;rintro _ rfl));conv=>whnf)|(refine Br.dec (fun _ => ?_) (fun _ => ?_)<;>first|(exfalso;omega)|conv=>whnf))
    all_goals first
     | (exfalso;omega)
     | exact ⟨_,.p Sub.nils,rfl⟩
     | skip
noncomputable def z5p (p:Pg) (n:Str) (x:Int):Int×Bool:=if (z0c p n x).length<2 then (0,false) else ((z0c p n x).getD 1 0,true)
theorem z8q (p:Pg) (hf:Fit p) (n:Str) (x:Int):SpecP Tryz.prog 64 [.agg p.cells,.str n,.int .i64 x] (fun r=>r = .tup [.int .i64 (z5p p n x).1,.bool (z5p p n x).2]):=by
 refine SpecP.body z2z QQ Tryz.func64 rfl Tryz.call64 (by show 3≤_;decide) ?_
 conv=>whnf
 have hO:=z4e p hf n x
 unfold z5p
 generalize z0c p n x=L at hO ⊢
 have hlm:(L.map (AV.int .i64)).length=L.length:=List.length_map _
 by_cases hl:L.length<2
 ·rw [if_pos hl]
  repeat' (first|((first|(intro (_:_≤9223372036854775807))|(refine CallK.pure hO (.cons (Sub.refl _) (.cons (Sub.refl _) (.cons (Sub.refl _) .nil))) ?_;rintro _ rfl));conv=>whnf)|(refine Br.dec (fun _ => ?_) (fun _ => ?_)<;>first|(exfalso;omega)|conv=>whnf))
  all_goals first
   | (exfalso;omega)
   | exact RetK.tup2 rfl (Sub.ff rfl)
   | skip
 ·rw [if_neg hl]
  have hg:(L.map (AV.int .i64))[1]? = some (.int .i64 (L.getD 1 0)):=UB (by omega)
  repeat' (first|((first|(intro (_:_≤9223372036854775807))|(refine CallK.pure hO (.cons (Sub.refl _) (.cons (Sub.refl _) (.cons (Sub.refl _) .nil))) ?_;rintro _ rfl)|(refine IdxK.at (k:=1) rfl hg rfl ?_));conv=>whnf)|(refine Br.dec (fun _ => ?_) (fun _ => ?_)<;>first|(exfalso;omega)|conv=>whnf))
  all_goals first
   | (exfalso;omega)
   | exact RetK.tup2 rfl (Sub.tt rfl)
   | skip
open Go.Proofs
noncomputable def z7h (p:Pg) (j:Nat) (f:Pr) (a:Nat):List (Int×Int):=(List.range a).map fun (x:Nat)=>(QB p j (QY f.body+2:Nat) x,(x1g p j f (QB p j (QY f.body+2:Nat) x)).getD 1 0)
noncomputable def w2c (p:Pg) (n:Str):List (Int×Int):=match BB p n with
 | some w=>(match w.p.procs[w.j]? with
   | some f=>z7h w.p w.j f (QY f.body+1)
   | none=>[])
 | none=>[]
theorem x2n {p:Pg} {n:Str} {k:Nat} {f:Pr} (hw:BB p n=some (QX p k f)) (hk:p.procs[k]? = some f):w2c p n=z7h p k f (QY f.body+1):=by
 have h:(QX p k f).p.procs[(QX p k f).j]? = some f:=hk
 unfold w2c
 rw [hw]
 simp only
 rw [h]
 rfl
theorem z3w {p:Pg} {n:Str} (hw:BB p n=none):w2c p n=[]:=by
 unfold w2c
 rw [hw]
theorem z7x (p:Pg) (j:Nat) (f:Pr) (a:Nat):z7h p j f (a+1)=z7h p j f a++[(QB p j (QY f.body+2:Nat) a,(x1g p j f (QB p j (QY f.body+2:Nat) a)).getD 1 0)]:=by
 unfold z7h
 rw [List.range_succ,List.map_append]
 rfl
theorem x8b (p:Pg) (j:Nat) (f:Pr) (a:Nat):(z7h p j f a).length=a:=by unfold z7h;simp
theorem z9o {p:Pg} {j:Nat} {f:Pr} (h:ZV p=true) (hj:p.procs[j]? = some f) {x:Int} (hx:plP p j f x) (hne:x ≠ -1):2≤(x1g p j f x).length:=by
 have hR:=x1q h hj hx
 have h1:x∈x1g p j f x:=(hR.mem x).2 ⟨hx,folP.self x⟩
 have h2:(-1:Int)∈x1g p j f x:=(hR.mem _).2 ⟨.inr (.inl rfl),folP.exit x (q3j h hj hx)⟩
 match hq:x1g p j f x,h1,h2 with
 | [],h1,_=>cases h1
 | [y],h1,h2 =>
   have e1:=List.mem_singleton.1 h1
   have e2:=List.mem_singleton.1 h2
   omega
 | _::_::_,_,_=>simp
theorem w0f (p:Pg) (hf:Fit p) (n:Str):SpecP Tryz.prog 67 [.agg p.cells,.str n] (fun r=>r = .sl (avP (w2c p n))):=by
 refine SpecP.body z1e QQ Tryz.func67 rfl Tryz.call67 (by show 2≤_;decide) ?_
 conv=>whnf
 have hW:=z5h p hf n
 cases hw:BB p n with
 | none =>
   rw [z3w hw]
   rw [hw] at hW
   repeat' (first|((first|(intro (_:_≤9223372036854775807))|(refine DrawK.auto QQ mixed (by kernel_rfl) ?_)|(refine And.intro rfl ?_)|(refine And.intro ⟨by decide,by decide⟩ ?_)|(refine And.intro ⟨rfl,rfl,by decide⟩ ?_)|(refine BsK.pure (fun x hx=>by rcases List.mem_singleton.1 hx with rfl;rfl) rfl ?_)|(refine IdxK.map (by omega) (fun _=>rfl) ?_)|(refine IdxK.xs (by omega) ?_)|(refine IdxK.ss (by omega) ?_)|(refine ByteK.at (by omega) ?_)|(refine Wr.i64 (by omega) (by omega) ?_)|(refine CallK.pure hW (.cons (Sub.refl _) (.cons (Sub.refl _) .nil)) ?_;rintro _ rfl));conv=>whnf)|(refine Br.dec (fun _ => ?_) (fun _ => ?_)<;>first|(exfalso;omega)|conv=>whnf)|(refine Br.dec2 (fun _ => ?_) (fun _ => ?_)<;>first|(exfalso;omega)|conv=>whnf)|(refine Br.n (fun _ => ?_) (fun _ => ?_)<;>conv=>whnf)|(refine Br.b (fun _ => ?_) (fun _ => ?_)<;>conv=>whnf))
   exact ⟨_,.p Sub.nils,rfl⟩
 | some w =>
   obtain ⟨k,f,hkj,rfl,hc,_⟩:=HL hw
   have hT:=w3o hc hkj
   have hn2:=hT.hn2
   have hn5:=hT.hn
   have hwn:=hT.hw
   rw [x2n hw hkj]
   rw [hw] at hW
   have hFo:=BG (QX p k f) f (QY f.body+2) hT (x0i hc hkj) (Nat.le_trans (x5e hc hkj) (by decide))
   repeat' (first|((first|(intro (_:_≤9223372036854775807))|(refine DrawK.auto QQ mixed (by kernel_rfl) ?_)|(refine And.intro rfl ?_)|(refine And.intro ⟨by decide,by decide⟩ ?_)|(refine And.intro ⟨rfl,rfl,by decide⟩ ?_)|(refine BsK.pure (fun x hx=>by rcases List.mem_singleton.1 hx with rfl;rfl) rfl ?_)|(refine IdxK.map (by omega) (fun _=>rfl) ?_)|(refine IdxK.xs (by omega) ?_)|(refine IdxK.ss (by omega) ?_)|(refine ByteK.at (by omega) ?_)|(refine Wr.i64 (by omega) (by omega) ?_)|(refine CallK.pure hW (.cons (Sub.refl _) (.cons (Sub.refl _) .nil)) ?_;rintro _ rfl)|(refine CallK.pure hFo (.cons (Sub.refl _) .nil) ?_;rintro _ ⟨fm,hF,rfl⟩));conv=>whnf)|(refine Br.dec (fun _ => ?_) (fun _ => ?_)<;>first|(exfalso;omega)|conv=>whnf)|(refine Br.dec2 (fun _ => ?_) (fun _ => ?_)<;>first|(exfalso;omega)|conv=>whnf)|(refine Br.n (fun _ => ?_) (fun _ => ?_)<;>conv=>whnf)|(refine Br.b (fun _ => ?_) (fun _ => ?_)<;>conv=>whnf))
   refine LoopK.inv QQ (fun a:Nat=>⟨[(5,.p (.ip (QX p k f).cells)),(6,.hd 0 0 (z7h p k f a).length),(7,.p (.sl ((bmI fm).map .sl))),(8,.p (.int .i64 a))],[(0,.own 47 2 (avP (z7h p k f a)))]⟩) (fun a=>a≤QY f.body+1) (fun a=>QY f.body+1-a) 0
    (Le.mk [(0,.own 47 2 [])] (by simp [Chunk.new0];rfl) (by simp) (by simp) (.cons (.refl _) (.cons (.nil List.mem_cons_self) (.cons (.refl _) (.cons (.of_eq rfl) .nil)))) (.new List.mem_cons_self .nil)) (Nat.zero_le _) ?_
   intro a ha
   have hal:=x8b p k f a
   rcases Nat.lt_or_ge a (QY f.body+1) with ha2|ha2
   ·obtain ⟨q1,q2⟩:=JX (p:=p) (j:=k) (f:=f) (i:=(a:Int)) (by omega)
    have hne:QB p k (QY f.body+2:Nat) a ≠ -1:=fun e=>by
     rw [e,q4u] at q2
     omega
    have hR:=x8v hc hkj hF q1
    rw [q2] at hR
    have hP:=GM (QX p k f) f hT.hj hT.hc (by omega) a (by omega)
    have heP:QB (QX p k f).p (QX p k f).j (QX p k f).n a=QB p k (QY f.body+2:Nat) a:=rfl
    rw [heP] at hP
    have hsucc:=z7x p k f a
    have htwo:=z9o hc hkj q1 hne
    have hg:=UB (l:=x1g p k f (QB p k (QY f.body+2:Nat) a)) (i:=1) (by omega)
    have hgz:getz (x1g p k f (QB p k (QY f.body+2:Nat) a)) 1=(x1g p k f (QB p k (QY f.body+2:Nat) a)).getD 1 0:=rfl
    rw [hgz] at hg
    have hlen2:=z8u hc hkj q1
    generalize (x1g p k f (QB p k (QY f.body+2:Nat) a)).getD 1 0=nr at hsucc hg
    generalize x1g p k f (QB p k (QY f.body+2:Nat) a)=fr at hR hg htwo hlen2
    generalize QB p k (QY f.body+2:Nat) a=pl at hP hsucc
    generalize z7h p k f a=acc at hal hsucc ⊢
    have haa:(avP acc).length=acc.length:=by unfold avP;rw [List.length_map]
    conv=>whnf
    repeat' (first|((first|(intro (_:_≤9223372036854775807))|(refine DrawK.auto QQ mixed (by kernel_rfl) ?_)|(refine And.intro rfl ?_)|(refine And.intro ⟨by decide,by decide⟩ ?_)|(refine And.intro ⟨rfl,rfl,by decide⟩ ?_)|(refine BsK.pure (fun x hx=>by rcases List.mem_singleton.1 hx with rfl;rfl) rfl ?_)|(refine IdxK.map (by omega) (fun _=>rfl) ?_)|(refine IdxK.xs (by omega) ?_)|(refine IdxK.ss (by omega) ?_)|(refine ByteK.at (by omega) ?_)|(refine Wr.eq (m:=(QY f.body+1:Nat)) (by omega) (by omega) (by omega) ?_)|(refine Wr.i64 (by omega) (by omega) ?_)|(refine CallK.pure hP (.cons (Sub.refl _) (.cons (Sub.refl _) .nil)) ?_;rintro _ rfl)|(refine CallK.pure hR (.cons (Sub.refl _) (.cons (Sub.refl _) (.cons (Sub.refl _) .nil))) ?_;rintro _ rfl)|(refine IdxK.at (k:=1) rfl hg rfl ?_)|(refine BsK.pureL rfl rfl ?_)|(refine AppK.mk haa.symm rfl (by show (acc.length+1)*16≤140737488355328;omega) (by show acc.length+1≤9223372036854775807;omega) (fun x hx=>by rcases List.mem_singleton.1 hx with rfl;exact ⟨rfl,rfl⟩) ?_));conv=>whnf)|(refine Br.dec (fun _ => ?_) (fun _ => ?_)<;>first|(exfalso;omega)|conv=>whnf)|(refine Br.dec2 (fun _ => ?_) (fun _ => ?_)<;>first|(exfalso;omega)|conv=>whnf)|(refine Br.n (fun _ => ?_) (fun _ => ?_)<;>conv=>whnf)|(refine Br.b (fun _ => ?_) (fun _ => ?_)<;>conv=>whnf))
    all_goals first
     | (exfalso;omega)
     | exact ⟨a+1,by omega,by omega,Le.of_eq (by rw [hsucc];simp only [avP,List.length_append,List.map_append];rfl)⟩
     | skip
   ·have hae:a=QY f.body+1:=by omega
    subst hae
    conv=>whnf
    repeat' (first|((first|(intro (_:_≤9223372036854775807))|(refine DrawK.auto QQ mixed (by kernel_rfl) ?_)|(refine And.intro rfl ?_)|(refine And.intro ⟨by decide,by decide⟩ ?_)|(refine And.intro ⟨rfl,rfl,by decide⟩ ?_)|(refine BsK.pure (fun x hx=>by rcases List.mem_singleton.1 hx with rfl;rfl) rfl ?_)|(refine IdxK.map (by omega) (fun _=>rfl) ?_)|(refine IdxK.xs (by omega) ?_)|(refine IdxK.ss (by omega) ?_)|(refine ByteK.at (by omega) ?_)|(refine Wr.eq (m:=(QY f.body+1:Nat)) (by omega) (by omega) (by omega) ?_)|(refine Wr.i64 (by omega) (by omega) ?_));conv=>whnf)|(refine Br.dec (fun _ => ?_) (fun _ => ?_)<;>first|(exfalso;omega)|conv=>whnf)|(refine Br.dec2 (fun _ => ?_) (fun _ => ?_)<;>first|(exfalso;omega)|conv=>whnf)|(refine Br.n (fun _ => ?_) (fun _ => ?_)<;>conv=>whnf)|(refine Br.b (fun _ => ?_) (fun _ => ?_)<;>conv=>whnf))
    all_goals first
     | (exfalso;omega)
     | exact ⟨_,.hd rfl (by unfold avP;rw [List.length_map]),rfl⟩
     | skip
open Go.Proofs
def avF (nx:List (List Int)) (n b:Nat):Nat→Nat→Bool
 | 0,_=>false
 | k+1,a=>(decide (a=n-1)&&decide (b≠n-1))||(decide (a≠b)&&(nx.getD a []).any fun t=>decide (0≤t)&&avF nx n b k t.toNat)
theorem z3f {nx:List (List Int)} {n b:Nat} : ∀ (k a:Nat),avF nx n b k a=true→Avd nx n b a
 | 0,_,h=>by cases h
 | k+1,a,h=>by
   rw [avF,Bool.or_eq_true,Bool.and_eq_true,Bool.and_eq_true,decide_eq_true_eq,decide_eq_true_eq,decide_eq_true_eq,List.any_eq_true] at h
   rcases h with ⟨rfl,h⟩|⟨h1,t,ht,h2⟩
   ·exact .exit h
   ·rw [Bool.and_eq_true,decide_eq_true_eq] at h2
    exact .step h1 (by rw [Int.toNat_of_nonneg h2.1];exact ht) (z3f k _ h2.2)
theorem x1e {n:Nat} {nx:List (List Int)} {G:List (List Bool)} (hl:G.length=n) (hr : ∀ r∈G,r.length=n) (hlast:G.getD (n-1) []=filRow n (n-1))
  (hfix:((List.range (n-1)).all fun a=>decide (G.getD a []=rowF n nx G a))=true) (hmin:((List.range n).all fun a=>(List.range n).all fun b=>bitF G a b||avF nx n b n a)=true):FollowP n nx G:=by
 have hf : ∀ a,a<n-1→G.getD a []=rowF n nx G a:=fun a ha=>of_decide_eq_true (List.all_eq_true.1 hfix a (List.mem_range.2 ha))
 refine ⟨⟨hl,hr,hlast,fun a b ha hb h => ?_,fun a b ha hb h => ?_⟩,hf⟩
 ·unfold bitF
  rw [hf a ha]
  exact h
 ·have h1:=List.all_eq_true.1 (List.all_eq_true.1 hmin a (List.mem_range.2 ha)) b (List.mem_range.2 hb)
  rw [h,Bool.false_or] at h1
  exact z3f _ _ h1
theorem w7z:JU (QX someP 1 f1) f1=[(0,1),(0,5),(1,2),(2,3),(2,4),(3,4),(3,5),(4,5)]:=by
 unfold JU
 rw [w8f]
 kernel_rfl
theorem w7w:JU (QX someP 0 f0) f0=[(0,1),(0,5),(1,2),(2,3),(3,4),(4,5)]:=by
 unfold JU
 rw [w8n]
 kernel_rfl
def fol1:List (List Bool):=[[true,false,false,false,false,true],[false,true,true,false,false,true],[false,false,true,false,false,true],[false,false,false,true,false,true],[false,false,false,false,true,true],[false,false,false,false,false,true]]
def fol0:List (List Bool):=[[true,false,false,false,false,true],[false,true,true,true,true,true],[false,false,true,true,true,true],[false,false,false,true,true,true],[false,false,false,false,true,true],[false,false,false,false,false,true]]
open Go.Proofs
theorem x2p {p:Pg} {n:Str} {k:Nat} {f:Pr} (hw:BB p n=some (QX p k f)) (hk:p.procs[k]? = some f):ZV p=true∧x2f p n=(f,true):=by
 obtain ⟨k',f',hk',he,hc,_,hfi⟩:=HL hw
 have hk2:(QX p k f).j=(QX p k' f').j:=by rw [he]
 have hk3:k=k':=hk2
 subst hk3
 rw [hk] at hk'
 obtain rfl:=Option.some.inj hk'
 refine ⟨hc,?_⟩
 unfold x2f VJ
 rw [(XZ hc).1,hfi]
 rfl
theorem GG (p:Pg) (hf:Fit p) (n:Str) (k:Nat) (f:Pr) (hw:BB p n=some (QX p k f)) (hk:p.procs[k]? = some f):SpecP Tryz.prog 86 [.agg p.cells,.str n] (fun r=>r = .tup [x0m (flatU f),.bool true]):=by
 refine SpecP.body DM QQ Tryz.func86 rfl Tryz.call86 (by show 2≤_;decide) ?_
 conv=>whnf
 obtain ⟨hc,hM⟩:=x2p hw hk
 have hP:=BK p n
 rw [hM] at hP
 have hR:=LK p hf
 rw [hc] at hR
 have hF:=XQ f
 rw [YE (XZ hc).1 (List.mem_of_getElem? hk)] at hF
 repeat' (first|((first|(intro (_:_≤9223372036854775807))|(refine DrawK.auto QQ mixed (by kernel_rfl) ?_)|(refine And.intro rfl ?_)|(refine And.intro ⟨by decide,by decide⟩ ?_)|(refine And.intro ⟨rfl,rfl,by decide⟩ ?_)|(refine BsK.pure (fun x hx=>by rcases List.mem_singleton.1 hx with rfl;rfl) rfl ?_)|(refine IdxK.map (by omega) (fun _=>rfl) ?_)|(refine IdxK.xs (by omega) ?_)|(refine IdxK.ss (by omega) ?_)|(refine ByteK.at (by omega) ?_)|(refine Wr.i64 (by omega) (by omega) ?_)|(refine CallK.pure hP (.cons (Sub.refl _) (.cons (Sub.refl _) .nil)) ?_;rintro _ rfl)|(refine CallK.pure hR (.cons (Sub.refl _) .nil) ?_;rintro _ rfl)|(refine CallK.pure hF (.cons (Sub.refl _) .nil) ?_;rintro _ rfl));conv=>whnf)|(refine Br.dec (fun _ => ?_) (fun _ => ?_)<;>first|(exfalso;omega)|conv=>whnf)|(refine Br.dec2 (fun _ => ?_) (fun _ => ?_)<;>first|(exfalso;omega)|conv=>whnf)|(refine Br.n (fun _ => ?_) (fun _ => ?_)<;>conv=>whnf)|(refine Br.b (fun _ => ?_) (fun _ => ?_)<;>conv=>whnf))
 all_goals first
  | contradiction
  | exact ⟨_,.p (Sub.tup (.cons (Sub.refl _) (.cons (Sub.tt rfl) .nil))),rfl⟩
def q6i (f:Pr):List Int:=0::(flatU f).map (fun x=>x.s.id)++[-1]
theorem w0d (f:Pr):(q6i f).length=QY f.body+2:=by
 unfold q6i
 have:=YY 1 0 false f.body
 simp [flatU,this]
theorem x9y {p:Pg} (hm:VH p=true) {k:Nat} {f:Pr} (hk:p.procs[k]? = some f) {x:Int}:x∈q6i f↔plP p k f x:=by
 unfold q6i
 rw [x7t hm hk]
 unfold plP
 simp only [List.cons_append,List.mem_cons,List.mem_append,List.not_mem_nil,or_false]
 constructor
 ·rintro (h|h|h)
  ·exact .inl h
  ·have:=JZ h
   exact .inr (.inr (by omega))
  ·exact .inr (.inl h)
 ·rintro (h|h|h)
  ·exact .inl h
  ·exact .inr (.inr h)
  ·exact .inr (.inl (x0l h.1 h.2))
theorem JH (p:Pg) (hf:Fit p) (n:Str) (k:Nat) (f:Pr) (hw:BB p n=some (QX p k f)) (hk:p.procs[k]? = some f):SpecP Tryz.prog 70 [.agg p.cells,.str n] (fun r=>r=XG (q6i f)):=by
 refine SpecP.body HD QQ Tryz.func70 rfl Tryz.call70 (by show 2≤_;decide) ?_
 conv=>whnf
 have hF:=GG p hf n k f hw hk
 have hlU:=z6x (XZ (x2p hw hk).1).1 hk
 have hLl:=JJ (flatU f)
 have hp:q6i f=0::(flatU f).map (fun x=>x.s.id)++[-1]:=rfl
 rw [hp]
 generalize flatU f=L at *
 repeat' (first|((first|(intro (_:_≤9223372036854775807))|(refine DrawK.auto QQ mixed (by kernel_rfl) ?_)|(refine And.intro rfl ?_)|(refine And.intro ⟨by decide,by decide⟩ ?_)|(refine And.intro ⟨rfl,rfl,by decide⟩ ?_)|(refine IdxK.map (by omega) (fun _=>rfl) ?_)|(refine IdxK.xs (by omega) ?_)|(refine IdxK.ss (by omega) ?_)|(refine ByteK.at (by omega) ?_)|(refine Wr.i64 (by omega) (by omega) ?_)|(refine CallK.pure hF (.cons (Sub.refl _) (.cons (Sub.refl _) .nil)) ?_;rintro _ rfl)|(refine BsK.own (fun x hx=>by rcases List.mem_singleton.1 hx with rfl;rfl) rfl ?_));conv=>whnf)|(refine Br.dec (fun _ => ?_) (fun _ => ?_)<;>first|(exfalso;omega)|conv=>whnf)|(refine Br.dec2 (fun _ => ?_) (fun _ => ?_)<;>first|(exfalso;omega)|conv=>whnf)|(refine Br.n (fun _ => ?_) (fun _ => ?_)<;>conv=>whnf)|(refine Br.b (fun _ => ?_) (fun _ => ?_)<;>conv=>whnf))
 all_goals first
  | contradiction
  | skip
 refine LoopK.inv QQ (fun j:Nat=>⟨[(7,.hd 0 0 (j+1)),(19,.p (x0m L)),(20,.p (.int .i64 (L.map fun i=>AV.agg i.cells).length)),(21,.p (.int .i64 j))],[(0,.own 3 1 ((0::(L.take j).map (fun x=>x.s.id)).map (.int .i64)))]⟩) (fun j=>j≤L.length) (fun j=>L.length-j) 0 (Le.of_eq rfl) (Nat.zero_le _) ?_
 intro j hj
 have e0:(0::(L.take j).map (fun x=>x.s.id):List Int).length=j+1:=by rw [List.length_cons,List.length_map,List.length_take];omega
 rcases Nat.lt_or_ge j L.length with hj2|hj2
 ·have e1:(0::(L.take (j+1)).map (fun x=>x.s.id):List Int)=(0::(L.take j).map (fun x=>x.s.id))++[L[j].s.id]:=by rw [List.take_succ_eq_append_getElem hj2,List.map_append];rfl
  generalize (0::(L.take j).map (fun x=>x.s.id):List Int)=acc at *
  conv=>whnf
  repeat' (first|((first|(intro (_:_≤9223372036854775807))|(refine DrawK.auto QQ mixed (by kernel_rfl) ?_)|(refine And.intro rfl ?_)|(refine And.intro ⟨by decide,by decide⟩ ?_)|(refine And.intro ⟨rfl,rfl,by decide⟩ ?_)|(refine BsK.pure (fun x hx=>by rcases List.mem_singleton.1 hx with rfl;rfl) rfl ?_)|(refine IdxK.map (by omega) (fun _=>rfl) ?_)|(refine IdxK.xs (by omega) ?_)|(refine IdxK.ss (by omega) ?_)|(refine ByteK.at (by omega) ?_)|(refine Wr.i64 (by omega) (by omega) ?_)|(refine AppK.int1 (by simp;omega) (by simp;omega) ?_));conv=>whnf)|(refine Br.dec (fun _ => ?_) (fun _ => ?_)<;>first|(exfalso;omega)|conv=>whnf)|(refine Br.dec2 (fun _ => ?_) (fun _ => ?_)<;>first|(exfalso;omega)|conv=>whnf)|(refine Br.n (fun _ => ?_) (fun _ => ?_)<;>conv=>whnf)|(refine Br.b (fun _ => ?_) (fun _ => ?_)<;>conv=>whnf))
  all_goals exact ⟨j+1,by omega,by omega,Le.of_eq (by rw [e1,List.map_append];rfl)⟩
 ·rw [List.take_of_length_le hj2] at e0 ⊢
  have e2:(0::L.map (fun x=>x.s.id)++[-1]:List Int)=(0::L.map (fun x=>x.s.id))++[-1]:=rfl
  rw [e2]
  generalize (0::L.map (fun x=>x.s.id):List Int)=acc at *
  conv=>whnf
  repeat' (first|((first|(intro (_:_≤9223372036854775807))|(refine DrawK.auto QQ mixed (by kernel_rfl) ?_)|(refine And.intro rfl ?_)|(refine And.intro ⟨by decide,by decide⟩ ?_)|(refine And.intro ⟨rfl,rfl,by decide⟩ ?_)|(refine BsK.pure (fun x hx=>by rcases List.mem_singleton.1 hx with rfl;rfl) rfl ?_)|(refine IdxK.map (by omega) (fun _=>rfl) ?_)|(refine IdxK.xs (by omega) ?_)|(refine IdxK.ss (by omega) ?_)|(refine ByteK.at (by omega) ?_)|(refine Wr.i64 (by omega) (by omega) ?_)|(refine AppK.int1 (by simp;omega) (by simp;omega) ?_));conv=>whnf)|(refine Br.dec (fun _ => ?_) (fun _ => ?_)<;>first|(exfalso;omega)|conv=>whnf)|(refine Br.dec2 (fun _ => ?_) (fun _ => ?_)<;>first|(exfalso;omega)|conv=>whnf)|(refine Br.n (fun _ => ?_) (fun _ => ?_)<;>conv=>whnf)|(refine Br.b (fun _ => ?_) (fun _ => ?_)<;>conv=>whnf))
  all_goals exact ⟨_,.hd rfl (by simp;omega),by simp [XG];rfl⟩
theorem PC (p:Pg) (hf:Fit p) (most:Int):SpecP Tryz.prog 69 [.agg p.cells,.int .i64 most] (fun r=>r = .bool (x2w p most)):=by
 refine SpecP.body FO QQ Tryz.func69 rfl Tryz.call69 (by show 2≤_;decide) ?_
 conv=>whnf
 have hC:=NL p hf
 unfold x2w
 cases hc:ZV p with
 | false =>
   rw [hc] at hC
   repeat' (first|((first|(intro (_:_≤9223372036854775807))|(refine DrawK.auto QQ mixed (by kernel_rfl) ?_)|(refine And.intro rfl ?_)|(refine And.intro ⟨by decide,by decide⟩ ?_)|(refine And.intro ⟨rfl,rfl,by decide⟩ ?_)|(refine BsK.pure (fun x hx=>by rcases List.mem_singleton.1 hx with rfl;rfl) rfl ?_)|(refine IdxK.map (by omega) (fun _=>rfl) ?_)|(refine IdxK.xs (by omega) ?_)|(refine IdxK.ss (by omega) ?_)|(refine ByteK.at (by omega) ?_)|(refine Wr.i64 (by omega) (by omega) ?_)|(refine CallK.pure hC (.cons (Sub.refl _) .nil) ?_;rintro _ rfl));conv=>whnf)|(refine Br.dec (fun _ => ?_) (fun _ => ?_)<;>first|(exfalso;omega)|conv=>whnf)|(refine Br.dec2 (fun _ => ?_) (fun _ => ?_)<;>first|(exfalso;omega)|conv=>whnf)|(refine Br.n (fun _ => ?_) (fun _ => ?_)<;>conv=>whnf)|(refine Br.b (fun _ => ?_) (fun _ => ?_)<;>conv=>whnf))
   all_goals first
    | contradiction
    | exact RetK.ff (by simp)
 | true =>
   rw [hc] at hC
   have hcn:=(FH hc).2.2
   repeat' (first|((first|(intro (_:_≤9223372036854775807))|(refine DrawK.auto QQ mixed (by kernel_rfl) ?_)|(refine And.intro rfl ?_)|(refine And.intro ⟨by decide,by decide⟩ ?_)|(refine And.intro ⟨rfl,rfl,by decide⟩ ?_)|(refine BsK.pure (fun x hx=>by rcases List.mem_singleton.1 hx with rfl;rfl) rfl ?_)|(refine IdxK.map (by omega) (fun _=>rfl) ?_)|(refine IdxK.xs (by omega) ?_)|(refine IdxK.ss (by omega) ?_)|(refine ByteK.at (by omega) ?_)|(refine Wr.i64 (by omega) (by omega) ?_)|(refine CallK.pure hC (.cons (Sub.refl _) .nil) ?_;rintro _ rfl)|(refine CallK.pure (z0b p (by omega)) (.cons (Sub.refl _) .nil) ?_;rintro _ rfl));conv=>whnf)|(refine Br.dec (fun _ => ?_) (fun _ => ?_)<;>first|(exfalso;omega)|conv=>whnf)|(refine Br.dec2 (fun _ => ?_) (fun _ => ?_)<;>first|(exfalso;omega)|conv=>whnf)|(refine Br.n (fun _ => ?_) (fun _ => ?_)<;>conv=>whnf)|(refine Br.b (fun _ => ?_) (fun _ => ?_)<;>conv=>whnf))
   all_goals first
    | contradiction
    | exact RetK.bool (by simp)
theorem x4g {p:Pg} {j:Nat} {f:Pr} (h:ZV p=true) (hj:p.procs[j]? = some f) {fm:List (List Bool)} (hF:FollowP (QY f.body+2) (YT (QY f.body+2) (JU (QX p j f) f)) fm) {a:Int} (ha:plP p j f a) {l:List Int}
  (h1 : ∀ y∈l,plP p j f y) (h2 : ∀ y∈plL p j f,bitF fm (ixI p j f a).toNat (ixI p j f y).toNat=decide (y∈l)) (h3:l.Nodup) (h4:l.Pairwise fun x y=>bitF fm (ixI p j f x).toNat (ixI p j f y).toNat=true):x1g p j f a=l:=by
 refine (RowP.eq h hj (l:=l) ⟨fun y=>⟨fun hy=>⟨h1 y hy,?_⟩,fun hh => ?_⟩,h3,?_⟩).symm
 ·refine (GB h hj hF ha (h1 y hy)).1 ?_
  rw [h2 y (YJ.2 (h1 y hy))]
  exact decide_eq_true hy
 ·have:=(GB h hj hF ha hh.1).2 hh.2
  rw [h2 y (YJ.2 hh.1)] at this
  exact of_decide_eq_true this
 ·exact h4.imp_of_mem fun {x y} hx hy hb=>(GB h hj hF (h1 x hx) (h1 y hy)).1 hb
theorem w5h:FollowP (QY f1.body+2) (YT (QY f1.body+2) (JU (QX someP 1 f1) f1)) fol1:=by
 rw [w7z]
 exact x1e (by kernel_rfl) (by decide) (by kernel_rfl) (by kernel_rfl) (by kernel_rfl)
theorem w5b:FollowP (QY f0.body+2) (YT (QY f0.body+2) (JU (QX someP 0 f0) f0)) fol0:=by
 rw [w7w]
 exact x1e (by kernel_rfl) (by decide) (by kernel_rfl) (by kernel_rfl) (by kernel_rfl)
theorem z6b:z0c someP [109,97,105,110] 2=[2,3,4,-1]:=by
 rw [LG z5x rfl,if_pos (by decide)]
 exact x4g q3h rfl w5b (YJ.1 (by decide)) (fun y hy=>YJ.1 (by revert y;decide)) (by decide) (by decide) (by decide)
theorem w4c:z0c someP [112] 6=[6,-1]:=by
 rw [LG x7i rfl,if_pos (by decide)]
 exact x4g q3h rfl w5h (YJ.1 (by decide)) (fun y hy=>YJ.1 (by revert y;decide)) (by decide) (by decide) (by decide)
theorem XF:SpecP Tryz.prog 62 [] (fun r=>r = .tt):=by
 have hO:=z4e someP q9o [109,97,105,110] 2
 rw [z6b] at hO
 have hN:=z8q someP q9o [112] 6
 have hNv:z5p someP [112] 6=(-1,true):=by unfold z5p;rw [w4c];rfl
 rw [hNv] at hN
 simp only at hN
 have hT:=w0f someP q9o [112]
 have hTl:(w2c someP [112]).length=5:=by rw [x2n x7i rfl,x8b];rfl
 generalize w2c someP [112]=T at *
 have hTm:(avP T).length=5:=by unfold avP;rw [List.length_map];exact hTl
 refine SpecP.body JL QQ Tryz.func62 rfl Tryz.call62 (by show 0≤_;decide) ?_
 conv=>whnf
 repeat' (first|((first|(intro (_:_≤9223372036854775807))|(refine DrawK.auto QQ mixed (by kernel_rfl) ?_)|(refine And.intro rfl ?_)|(refine And.intro ⟨by decide,by decide⟩ ?_)|(refine And.intro ⟨rfl,rfl,by decide⟩ ?_)|(refine BsK.pure (fun x hx=>by rcases List.mem_singleton.1 hx with rfl;rfl) rfl ?_)|(refine IdxK.map (by omega) (fun _=>rfl) ?_)|(refine IdxK.xs (by omega) ?_)|(refine IdxK.ss (by omega) ?_)|(refine ByteK.at (by omega) ?_)|(refine Wr.i64 (by omega) (by omega) ?_)|(refine CallK.pure q0k .nil ?_;rintro _ rfl)|(refine CallK.pure hO (.cons (Sub.refl _) (.cons (Sub.refl _) (.cons (Sub.refl _) .nil))) ?_;rintro _ rfl)|(refine CallK.pure hN (.cons (Sub.refl _) (.cons (Sub.refl _) (.cons (Sub.refl _) .nil))) ?_;rintro _ rfl)|(refine CallK.pure hT (.cons (Sub.refl _) (.cons (Sub.refl _) .nil)) ?_;rintro _ rfl)|(refine IdxK.at (k:=0) (e := .int .i64 2) rfl rfl rfl ?_)|(refine IdxK.at (k:=1) (e := .int .i64 3) rfl rfl rfl ?_)|(refine IdxK.at (k:=3) (e := .int .i64 (-1)) rfl rfl rfl ?_));conv=>whnf)|(refine Br.dec (fun _ => ?_) (fun _ => ?_)<;>first|(exfalso;omega)|conv=>whnf)|(refine Br.dec2 (fun _ => ?_) (fun _ => ?_)<;>first|(exfalso;omega)|conv=>whnf)|(refine Br.n (fun _ => ?_) (fun _ => ?_)<;>conv=>whnf)|(refine Br.b (fun _ => ?_) (fun _ => ?_)<;>conv=>whnf))
 all_goals first
  | exact RetK.tt rfl
  | exact ⟨_,.p (Sub.tt' rfl),rfl⟩
  | exact ⟨_,.p (Sub.tt rfl),rfl⟩
  | exact ⟨_,.p (Sub.tt' (by rw [hTm];rfl)),rfl⟩
  | contradiction
  | (rename_i h;exact absurd rfl h)
  | trace_state
open Go.Proofs
section
variable {p:Pg} {j:Nat} {f:Pr} {n:Str}
end
theorem z4w {l:List Int} (n:Int) (h:l≠[]):FN l n∈l:=by
 unfold FN
 have hl:0<(l.length:Int):=by
  have:=List.length_pos_iff.2 h
  omega
 have:=MG (n:=n) hl
 rw [if_neg h,List.getD_eq_getElem?_getD,List.getElem?_eq_getElem (by omega)]
 exact List.getElem_mem _
open Go.Proofs
theorem z7z {p:Pg} {m:Int} (h:x2w p m=true):ZV p=true:=by
 unfold x2w at h
 rw [Bool.and_eq_true] at h
 exact h.1
open Go.Proofs
section
variable {p:Pg} {j:Nat} {f:Pr}
end
open Go.Proofs
open Go.Proofs
open Go.Proofs
open Go.Proofs
open Go.Proofs
open Go.Proofs
open Go.Proofs
section
variable {p:Pg} {j:Nat} {f:Pr} {n:Str}
end
open Go.Proofs
section
variable {p:Pg} {j:Nat} {f:Pr}
theorem w1s (h:ZV p=true) (hj:p.procs[j]? = some f) {n:Str} (hw:BB p n=some (QX p j f)) {t b:Int} (ht:plP p j f t) (hb:plP p j f b):x2d (z0c p n t) b=true↔folP p j f t b:=by
 rw [q2i,LG hw hj,if_pos (ZY ht).1,(x1q h hj ht).mem]
 exact ⟨fun h=>h.2,fun h=>⟨hb,h⟩⟩
end
open Go.Proofs
theorem z8n {p:Pg} {j:Nat} {f:Pr} {a b:Int} (hab:a≠b) (hb:b ≠ -1):Rch (frR (q6f (QX p j f) f) a [b]) a (-1)↔AvdP (aR p j f) b a:=by
 have hno : ∀ x,x2d [b] x=false↔x≠b:=fun x=>by
  unfold x2d
  simp
 constructor
 ·intro h
  have key : ∀ {x:Int},Rch (frR (q6f (QX p j f) f) a [b]) a x→AvdP (aR p j f) b x→AvdP (aR p j f) b a:=fun {x} h=>by
   induction h with
   | refl=>exact id
   | @tail y x _ hs ih =>
     intro hx
     obtain ⟨h1,s,h2,h3,h4⟩:=hs
     refine ih (.step ?_ ⟨s,h2,h3,h4⟩ hx)
     rcases h1 with h1|h1
     ·rw [h1];exact hab
     ·exact (hno y).1 h1
  exact key h (.exit hb)
 ·intro h
  have key : ∀ {x:Int},AvdP (aR p j f) b x→Rch (frR (q6f (QX p j f) f) a [b]) a x→Rch (frR (q6f (QX p j f) f) a [b]) a (-1):=fun {x} h=>by
   induction h with
   | exit _=>exact id
   | @step x t hx hs _ ih =>
     obtain ⟨s,h2,h3,h4⟩:=hs
     exact fun hr=>ih (.tail hr ⟨.inr ((hno x).2 hx),s,h2,h3,h4⟩)
  exact key h (.refl)
theorem FK (p:Pg) (n x y:Int):SpecP Tryz.prog 12 [.agg p.cells,.int .i64 n,.int .i64 x,.int .i64 y] (fun r=>r = .tt):=by
 refine SpecP.body GF QQ Tryz.func12 rfl Tryz.call12 (by show 4≤_;decide) ?_
 conv=>whnf
 cases hfb:w1r p with
 | false =>
   have hno : ¬gPg p≤20000:=by unfold w1r at hfb;simpa using hfb
   repeat' (first|((first|(intro (_:_≤9223372036854775807))|(refine CallK.pure (ZN _) (by repeat' (first|exact ArgP.nil|refine ArgP.cons ?_ ?_|exact Sub.refl _|exact Sub.tt rfl|exact Sub.ff rfl)) ?_;rintro _ rfl)|(refine DrawK.auto QQ mixed (by kernel_rfl) ?_)|(refine And.intro rfl ?_)|(refine And.intro ⟨by decide,by decide⟩ ?_)|(refine And.intro ⟨rfl,rfl,by decide⟩ ?_)|(refine BsK.pure (fun x hx=>by rcases List.mem_singleton.1 hx with rfl;rfl) rfl ?_)|(refine IdxK.map (by omega) (fun _=>rfl) ?_)|(refine IdxK.xs (by omega) ?_)|(refine IdxK.ss (by omega) ?_)|(refine ByteK.at (by omega) ?_)|(refine Wr.i64 (by omega) (by omega) ?_)|(refine CallK.pure XF .nil ?_;rintro _ rfl));conv=>whnf)|(refine Br.dec (fun _ => ?_) (fun _ => ?_)<;>first|(exfalso;omega)|conv=>whnf)|(refine Br.dec2 (fun _ => ?_) (fun _ => ?_)<;>first|(exfalso;omega)|conv=>whnf)|(refine Br.n (fun _ => ?_) (fun _ => ?_)<;>conv=>whnf)|(refine Br.b (fun _ => ?_) (fun _ => ?_)<;>conv=>whnf))
   all_goals first
    | contradiction
    | exact ⟨_,.p (Sub.refl _),rfl⟩
    | (exfalso;simp_all;done)
 | true =>
   have hf:Fit p:=w4z hfb
   have hfit:gPg p≤20000:=by unfold w1r at hfb;simpa using hfb
   have hC:=PC p hf 60
   cases hs:x2w p 60 with
   | false =>
     rw [hs] at hC
     repeat' (first|((first|(intro (_:_≤9223372036854775807))|(refine CallK.pure (ZN _) (by repeat' (first|exact ArgP.nil|refine ArgP.cons ?_ ?_|exact Sub.refl _|exact Sub.tt rfl|exact Sub.ff rfl)) ?_;rintro _ rfl)|(refine DrawK.auto QQ mixed (by kernel_rfl) ?_)|(refine And.intro rfl ?_)|(refine And.intro ⟨by decide,by decide⟩ ?_)|(refine And.intro ⟨rfl,rfl,by decide⟩ ?_)|(refine BsK.pure (fun x hx=>by rcases List.mem_singleton.1 hx with rfl;rfl) rfl ?_)|(refine IdxK.map (by omega) (fun _=>rfl) ?_)|(refine IdxK.xs (by omega) ?_)|(refine IdxK.ss (by omega) ?_)|(refine ByteK.at (by omega) ?_)|(refine Wr.i64 (by omega) (by omega) ?_)|(refine CallK.pure XF .nil ?_;rintro _ rfl)|(refine CallK.pure hC (.cons (Sub.refl _) (.cons (Sub.refl _) .nil)) ?_;rintro _ rfl));conv=>whnf)|(refine Br.dec (fun _ => ?_) (fun _ => ?_)<;>first|(exfalso;omega)|conv=>whnf)|(refine Br.dec2 (fun _ => ?_) (fun _ => ?_)<;>first|(exfalso;omega)|conv=>whnf)|(refine Br.n (fun _ => ?_) (fun _ => ?_)<;>conv=>whnf)|(refine Br.b (fun _ => ?_) (fun _ => ?_)<;>conv=>whnf))
     all_goals first
      | contradiction
      | exact ⟨_,.p (Sub.refl _),rfl⟩
   | true =>
     rw [hs] at hC
     have hc:=z7z hs
     have hm:=(XZ hc).1
     have hP1:=BR p n (z3l hc)
     obtain ⟨k,f,hkj,hw,_⟩:=z1d hc n
     have hPl:=JH p hf (WK p n) k f hw hkj
     have hcn:=(FH hc).2.2
     have hcf:=DG _ _ (List.mem_of_getElem? hkj)
     have hpl:=w0d f
     have hne:q6i f≠[]:=fun e=>by rw [e] at hpl;simp at hpl
     have hPx:=KC (q6i f) x (by omega)
     have hPy:=KC (q6i f) y (by omega)
     have hax:=(x9y hm hkj).1 (z4w x hne)
     have hay:=(x9y hm hkj).1 (z4w y hne)
     have hO:=z4e p hf (WK p n) (FN (q6i f) x)
     have hA:=w4h p hf (WK p n)
     rw [x4x hw hkj] at hA
     have hlen:=x5e hc hkj
     have hFr:=NM (q6f (QX p k f) f) (FN (q6i f) x) [FN (q6i f) y] (by omega)
     have hH1:=fun es:List Int=>KM es (-1)
     have hH2:=KM (z0c p (WK p n) (FN (q6i f) x)) (FN (q6i f) y)
     have hdh:=w1s hc hkj hw hax hay
     have hav:=fun h1 h2=>z8n (p:=p) (j:=k) (f:=f) (a:=FN (q6i f) x) (b:=FN (q6i f) y) h1 h2
     have hself:=folP.self (p:=p) (j:=k) (f:=f) (FN (q6i f) x)
     have hexit:=folP.exit (p:=p) (j:=k) (f:=f) (FN (q6i f) x) (q3j hc hkj hax)
     generalize FN (q6i f) x=a at *
     generalize FN (q6i f) y=b at *
     generalize z0c p (WK p n) a=D at *
     generalize q6f (QX p k f) f=A at *
     have hyes:(a=b∨b = -1)→x2d D b=true:=fun h=>by
      rw [hdh]
      rcases h with rfl|rfl
      ·exact hself
      ·exact hexit
     have hno : ∀ es:List Int,(∀ x,x∈es↔Rch (frR A a [b]) a x)→a≠b→b ≠ -1→(x2d D b != x2d es (-1))=true:=fun es he h1 h2=>by
      have h3:x2d es (-1)=true↔AvdP (aR p k f) b a:=by rw [q2i,he,hav h1 h2]
      have h4:x2d D b=true ↔ ¬AvdP (aR p k f) b a:=hdh
      by_cases hq:AvdP (aR p k f) b a
      ·rw [h3.2 hq,Bool.eq_false_iff.2 (fun h=>h4.1 h hq)]
       rfl
      ·rw [h4.2 hq,Bool.eq_false_iff.2 (fun h=>hq (h3.1 h))]
       rfl
     have hint:XG [b] = .sl [.int .i64 b]:=rfl
     rw [hint] at hFr
     clear hav hdh hself hexit
     generalize WK p n=pn at *
     generalize q6i f=P at *
     by_cases hor:a=b∨b = -1
     ·have hy:=hyes hor
      rw [hy] at hH2
      repeat' (first|((first|(intro (_:_≤9223372036854775807))|(refine CallK.pure (ZN _) (by repeat' (first|exact ArgP.nil|refine ArgP.cons ?_ ?_|exact Sub.refl _|exact Sub.tt rfl|exact Sub.ff rfl)) ?_;rintro _ rfl)|(refine DrawK.auto QQ mixed (by kernel_rfl) ?_)|(refine And.intro rfl ?_)|(refine And.intro ⟨by decide,by decide⟩ ?_)|(refine And.intro ⟨rfl,rfl,by decide⟩ ?_)|(refine BsK.pure (fun x hx=>by rcases List.mem_singleton.1 hx with rfl;rfl) rfl ?_)|(refine IdxK.map (by omega) (fun _=>rfl) ?_)|(refine IdxK.xs (by omega) ?_)|(refine IdxK.ss (by omega) ?_)|(refine ByteK.at (by omega) ?_)|(refine Wr.i64 (by omega) (by omega) ?_)|(refine CallK.pure XF .nil ?_;rintro _ rfl)|(refine CallK.pure hC (.cons (Sub.refl _) (.cons (Sub.refl _) .nil)) ?_;rintro _ rfl)|(refine CallK.pure hP1 (.cons (Sub.refl _) (.cons (Sub.refl _) .nil)) ?_;rintro _ rfl)|(refine CallK.pure hPl (.cons (Sub.refl _) (.cons (Sub.refl _) .nil)) ?_;rintro _ rfl)|(refine CallK.pure hPx (.cons (Sub.refl _) (.cons (Sub.refl _) .nil)) ?_;rintro _ rfl)|(refine CallK.pure hPy (.cons (Sub.refl _) (.cons (Sub.refl _) .nil)) ?_;rintro _ rfl)|(refine CallK.pure hO (.cons (Sub.refl _) (.cons (Sub.refl _) (.cons (Sub.refl _) .nil))) ?_;rintro _ rfl)|(refine CallK.pure hH2 (.cons (Sub.refl _) (.cons (Sub.refl _) .nil)) ?_;rintro _ rfl));conv=>whnf)|(refine Br.dec (fun _ => ?_) (fun _ => ?_)<;>first|(exfalso;omega)|conv=>whnf)|(refine Br.dec2 (fun _ => ?_) (fun _ => ?_)<;>first|(exfalso;omega)|conv=>whnf)|(refine Br.n (fun _ => ?_) (fun _ => ?_)<;>conv=>whnf)|(refine Br.b (fun _ => ?_) (fun _ => ?_)<;>conv=>whnf))
      all_goals first
       | contradiction
       | exact ⟨_,.p (Sub.refl _),rfl⟩
       | exact ⟨_,.p (Sub.tt' rfl),rfl⟩
       | trace_state
     ·rw [not_or] at hor
      repeat' (first|((first|(intro (_:_≤9223372036854775807))|(refine CallK.pure (ZN _) (by repeat' (first|exact ArgP.nil|refine ArgP.cons ?_ ?_|exact Sub.refl _|exact Sub.tt rfl|exact Sub.ff rfl)) ?_;rintro _ rfl)|(refine DrawK.auto QQ mixed (by kernel_rfl) ?_)|(refine And.intro rfl ?_)|(refine And.intro ⟨by decide,by decide⟩ ?_)|(refine And.intro ⟨rfl,rfl,by decide⟩ ?_)|(refine BsK.pure (fun x hx=>by rcases List.mem_singleton.1 hx with rfl;rfl) rfl ?_)|(refine IdxK.map (by omega) (fun _=>rfl) ?_)|(refine IdxK.xs (by omega) ?_)|(refine IdxK.ss (by omega) ?_)|(refine ByteK.at (by omega) ?_)|(refine Wr.i64 (by omega) (by omega) ?_)|(refine CallK.pure XF .nil ?_;rintro _ rfl)|(refine CallK.pure hC (.cons (Sub.refl _) (.cons (Sub.refl _) .nil)) ?_;rintro _ rfl)|(refine CallK.pure hP1 (.cons (Sub.refl _) (.cons (Sub.refl _) .nil)) ?_;rintro _ rfl)|(refine CallK.pure hPl (.cons (Sub.refl _) (.cons (Sub.refl _) .nil)) ?_;rintro _ rfl)|(refine CallK.pure hPx (.cons (Sub.refl _) (.cons (Sub.refl _) .nil)) ?_;rintro _ rfl)|(refine CallK.pure hPy (.cons (Sub.refl _) (.cons (Sub.refl _) .nil)) ?_;rintro _ rfl)|(refine CallK.pure hA (.cons (Sub.refl _) (.cons (Sub.refl _) .nil)) ?_;rintro _ rfl)|(refine BsK.pureL rfl rfl ?_)|(refine CallK.pure hFr (.cons (Sub.refl _) (.cons (Sub.refl _) (.cons (Sub.refl _) .nil))) ?_;rintro _ ⟨es,rfl,he,_⟩)|(refine CallK.pure (hH1 es) (.cons (Sub.refl _) (.cons (Sub.refl _) .nil)) ?_;rintro _ rfl)|(refine CallK.pure hO (.cons (Sub.refl _) (.cons (Sub.refl _) (.cons (Sub.refl _) .nil))) ?_;rintro _ rfl)|(refine CallK.pure hH2 (.cons (Sub.refl _) (.cons (Sub.refl _) .nil)) ?_;rintro _ rfl)|(refine ValO.boolNeq QQ rfl rfl rfl rfl rfl ?_));conv=>whnf)|(refine Br.dec (fun _ => ?_) (fun _ => ?_)<;>first|(exfalso;omega)|conv=>whnf)|(refine Br.dec2 (fun _ => ?_) (fun _ => ?_)<;>first|(exfalso;omega)|conv=>whnf)|(refine Br.n (fun _ => ?_) (fun _ => ?_)<;>conv=>whnf)|(refine Br.b (fun _ => ?_) (fun _ => ?_)<;>conv=>whnf))
      all_goals first
       | contradiction
       | exact absurd (by assumption) hor.1
       | exact absurd (by assumption) hor.2
       | exact ⟨_,.p (Sub.refl _),rfl⟩
       | exact ⟨_,.p (Sub.tt' (hno _ he hor.1 hor.2)),rfl⟩
       | trace_state
end Go.Ab
