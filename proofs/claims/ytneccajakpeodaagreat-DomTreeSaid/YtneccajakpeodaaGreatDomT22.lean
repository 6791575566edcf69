/- way: how many are marked; the comparison by that; the places that follow one, the nearer one first. -/
import Derived.Test.YtneccajakpeodaaGreatDomT16
import Derived.Test.YtneccajakpeodaaGreatDomT17
import Derived.Test.YtneccajakpeodaaGreatDomT20
import Derived.Test.YtneccajakpeodaaGreatDomT21
set_option linter.unusedSimpArgs false
set_option linter.unusedVariables false
set_option maxRecDepth 100000
set_option maxHeartbeats 16000000
namespace Go.Ab
open Go.Proofs
theorem z7p {l:List Bool} {j:Nat} (hj:j<l.length):(l.take (j+1)).count true=(l.take j).count true+(if l[j] then 1 else 0):=by
 rw [List.take_succ_eq_append_getElem hj,List.count_append]
 cases l[j]<;>rfl
theorem z9d (l:List Bool) (hl:l.length≤1000000):SpecP Tryz.prog 180 [eBs l] (fun r=>r = .int .i64 (l.count true)):=by
 refine SpecP.body z2y QQ Tryz.func180 rfl Tryz.call180 (by show 1≤_;decide) ?_
 conv=>whnf
 have hll:(l.map bv).length=l.length:=List.length_map _
 repeat' (intro (_:_≤9223372036854775807);conv=>whnf)
 refine LoopK.inv QQ (fun j:Nat=>⟨[(3,.p (.int .i64 ((l.take j).count true))),(6,.p (eBs l)),(7,.p (.int .i64 (l.map bv).length)),(8,.p (.int .i64 j))],[]⟩) (fun j=>j≤l.length) (fun j=>l.length-j) 0 (Le.of_eq rfl) (Nat.zero_le _) ?_
 intro j h2
 rcases Nat.lt_or_ge j l.length with hj|hj
 ·have e1:(l.map bv)[j]? = some (bv l[j]):=by rw [List.getElem?_map,List.getElem?_eq_getElem hj];rfl
  have hc:=z7p hj
  have hcl:(l.take j).count true≤j:=Nat.le_trans List.count_le_length (by rw [List.length_take];omega)
  generalize l[j]=x at e1 hc
  generalize (l.take j).count true=m at hc hcl ⊢
  cases x <;>
  conv=>whnf
  repeat' (first|((first|(refine Wr.i64 (by omega) (by omega) ?_)|(refine IdxK.at (k:=j) rfl e1 rfl ?_));conv=>whnf)|(refine Br.dec (fun _ => ?_) (fun _ => ?_)<;>first|(exfalso;omega)|conv=>whnf))
  all_goals first
   | exact ⟨j+1,by omega,by omega,Le.of_eq (by rw [hc];rfl)⟩
   | (exfalso;simp_all;done)
   | skip
 ·rw [List.take_of_length_le hj]
  conv=>whnf
  repeat' (refine Br.dec (fun _ => ?_) (fun _ => ?_)<;>first|(exfalso;omega)|conv=>whnf)
  exact RetK.int rfl
def z6o (M:List Int) (x:Int):Int:=getz M x.toNat
theorem z8c {M:List Int} (hM : ∀ x∈M,0≤x∧x≤1000000):CmpF 182 (.ip [XS M]) (z6o M) (fun x=>0≤x∧x<M.length):=by
 refine ⟨fun x y hx hy => ?_,fun x => ?_⟩
 ·obtain ⟨k,rfl⟩ : ∃ k:Nat,x=k:=⟨x.toNat,by omega⟩
  obtain ⟨q,rfl⟩ : ∃ q:Nat,y=q:=⟨y.toNat,by omega⟩
  have g1:=UD (l:=M) (i:=k) (by omega)
  have g2:=UD (l:=M) (i:=q) (by omega)
  have b1:=hM _ (WU (l:=M) (i:=k) (by omega))
  have b2:=hM _ (WU (l:=M) (i:=q) (by omega))
  have e1:z6o M k=getz M k:=by unfold z6o;rw [Int.toNat_natCast]
  have e2:z6o M q=getz M q:=by unfold z6o;rw [Int.toNat_natCast]
  rw [e1,e2]
  generalize getz M k=u at g1 b1
  generalize getz M q=v at g2 b2
  refine SpecP.body q5i QQ Tryz.func182 rfl Tryz.call182 (by show 3≤_;decide) ?_
  conv=>whnf
  repeat' ((first|(refine DrawK.auto QQ mixed (by kernel_rfl) ?_)|(refine Wr.i64 (by omega) (by omega) ?_)|(refine IdxK.at (k:=q) rfl g2 rfl ?_)|(refine IdxK.at (k:=k) rfl g1 rfl ?_));conv=>whnf)
  exact RetK.int rfl
 ·unfold z6o
  rcases Nat.lt_or_ge x.toNat M.length with h|h
  ·exact hM _ (WU h)
  ·unfold getz
   rw [List.getD_eq_getElem?_getD,List.getElem?_eq_none h]
   exact ⟨Int.le_refl _,by decide⟩
def q8u (fm:List (List Bool)) (a j:Nat):List Int:=((List.range j).filter fun b=>bitF fm a b).map fun (b:Nat)=>(b:Int)
theorem z3z (fm:List (List Bool)) (a j:Nat):q8u fm a (j+1)=q8u fm a j++(if bitF fm a j then [(j:Int)] else []):=by
 unfold q8u
 rw [List.range_succ,List.filter_append,List.map_append]
 congr 1
 cases h:bitF fm a j<;>simp [h]
theorem x8z (fm:List (List Bool)) (a j:Nat):(q8u fm a j).length≤j:=by
 unfold q8u
 rw [List.length_map]
 exact Nat.le_trans (List.length_filter_le _ _) (by simp)
def q4f (fm:List (List Bool)) (a n j:Nat):List Int:=(List.range n).map fun b=>if b<j∧bitF fm a b=true then (((fm.getD b []).count true:Nat):Int) else 0
theorem GK (fm:List (List Bool)) (a n j:Nat):(q4f fm a n j).length=n:=by unfold q4f;simp
theorem DX {fm:List (List Bool)} {a n j b:Nat} (hb:b<n):(q4f fm a n j)[b]? = some (if b<j∧bitF fm a b=true then (((fm.getD b []).count true:Nat):Int) else 0):=by
 unfold q4f
 rw [List.getElem?_map,List.getElem?_range hb]
 rfl
theorem w2a {fm:List (List Bool)} {a n j:Nat} (h:bitF fm a j=false):q4f fm a n (j+1)=q4f fm a n j:=by
 unfold q4f
 refine List.map_congr_left fun b _ => ?_
 by_cases he:b=j
 ·subst he
  rw [if_neg (fun hh=>by rw [h] at hh;cases hh.2),if_neg (fun hh=>by rw [h] at hh;cases hh.2)]
 ·have:(b<j+1∧bitF fm a b=true)↔(b<j∧bitF fm a b=true):=by
   constructor
   ·exact fun hh=>⟨by omega,hh.2⟩
   ·exact fun hh=>⟨by omega,hh.2⟩
  by_cases hc:b<j∧bitF fm a b=true
  ·rw [if_pos hc,if_pos (this.2 hc)]
  ·rw [if_neg hc,if_neg (fun hh=>hc (this.1 hh))]
theorem z7c {fm:List (List Bool)} {a n j:Nat} (hj:j<n) (h:bitF fm a j=true):(q4f fm a n j).set j (((fm.getD j []).count true:Nat):Int)=q4f fm a n (j+1):=by
 refine List.ext_getElem? fun b => ?_
 rw [List.getElem?_set]
 by_cases he:j=b
 ·subst he
  rw [if_pos rfl,if_pos (by rw [GK];exact hj),DX hj,if_pos ⟨by omega,h⟩]
 ·rw [if_neg he]
  rcases Nat.lt_or_ge b n with hb|hb
  ·rw [DX hb,DX hb]
   have:(b<j+1∧bitF fm a b=true)↔(b<j∧bitF fm a b=true):=by
    constructor
    ·exact fun hh=>⟨by omega,hh.2⟩
    ·exact fun hh=>⟨by omega,hh.2⟩
   by_cases hc:b<j∧bitF fm a b=true
   ·rw [if_pos hc,if_pos (this.2 hc)]
   ·rw [if_neg hc,if_neg (fun hh=>hc (this.1 hh))]
  ·rw [List.getElem?_eq_none (by rw [GK];exact hb),List.getElem?_eq_none (by rw [GK];exact hb)]
theorem z4a (fm:List (List Bool)) (a n:Nat):q4f fm a n 0=List.replicate n 0:=by
 refine List.ext_getElem? fun b => ?_
 rcases Nat.lt_or_ge b n with hb|hb
 ·rw [DX hb,if_neg (by omega),List.getElem?_replicate,if_pos hb]
 ·rw [List.getElem?_eq_none (by rw [GK];exact hb),List.getElem?_eq_none (by simpa using hb)]
def w0w (w:Way) (fm:List (List Bool)) (a n j:Nat):St:=⟨[(0,.p (.ip w.cells)),(1,.p (.sl ((bmI fm).map .sl))),(7,.hd 2 0 (q8u fm a j).length),(8,.ptr 1 0),(21,.p (.sl ((fm.getD a []).map bv))),(22,.p (.int .i64 ((fm.getD a []).map bv).length)),(23,.p (.int .i64 j))],[(1,.obj 36 [.hd 0 0 n]),(0,.own 3 1 ((q4f fm a n j).map (.int .i64))),(2,.own 3 1 ((q8u fm a j).map (.int .i64)))]⟩
def w4e (w:Way) (fm:List (List Bool)) (a n j:Nat):St:=⟨[(0,.p (.ip w.cells)),(1,.p (.sl ((bmI fm).map .sl))),(7,.hd 2 0 (q8u fm a j).length),(8,.p (.ip [XS (q4f fm a n j)])),(21,.p (.sl ((fm.getD a []).map bv))),(22,.p (.int .i64 ((fm.getD a []).map bv).length)),(23,.p (.int .i64 j))],[(2,.own 3 1 ((q8u fm a j).map (.int .i64)))]⟩
theorem w6s {N:Nat} (w:Way) (fm:List (List Bool)) (a n j:Nat):Le N (w0w w fm a n j) (w4e w fm a n j):=by
 have hm:=GK fm a n j
 have h1:Le N (w0w w fm a n j) ⟨(w0w w fm a n j).sl,[(1,.obj 36 ([XS (q4f fm a n j)].map .p)),(2,.own 3 1 ((q8u fm a j).map (.int .i64)))]⟩:=by
  refine Le.rowObj (k:=0) (q:=1) (cs:=[XS (q4f fm a n j)]) rfl rfl rfl (fun i l c h1 h2 => ?_) (fun i => ?_) ?_ fun i c' hm => ?_
  ·match i,h1,h2 with
   | 0,h1,h2=>cases h1;cases h2;exact .inr ⟨_,rfl,by rw [List.length_map,hm],rfl⟩
   | i+1,h1,h2=>simp at h1
  ·refine x2v (fun x hx => ?_) i
   simp only [w0w,List.mem_cons,List.not_mem_nil,or_false] at hx
   rcases hx with rfl|rfl|rfl|rfl|rfl|rfl|rfl<;>rfl
  ·show [1,2].Sublist [1,0,2]
   decide
  ·simp only [List.mem_cons,List.not_mem_nil,or_false,Prod.mk.injEq] at hm
   rcases hm with ⟨rfl,rfl⟩|⟨rfl,rfl⟩
   ·exact ⟨by decide,.inl ⟨rfl,rfl⟩⟩
   ·exact ⟨by decide,.inr ⟨List.mem_cons_of_mem _ (List.mem_cons_of_mem _ List.mem_cons_self),rfl⟩⟩
 obtain ⟨s',hs',h2⟩:=Le.fz (N:=N) (s:=⟨(w0w w fm a n j).sl,[(1,.obj 36 ([XS (q4f fm a n j)].map .p)),(2,.own 3 1 ((q8u fm a j).map (.int .i64)))]⟩) (k:=1) (e:=36) (cs:=[XS (q4f fm a n j)]) rfl (K:=fun s'=>s'=w4e w fm a n j) rfl
 rw [hs'] at h2
 exact h1.trans h2
theorem x5f (w:Way) (f:Pr) (hj:w.p.procs[w.j]? = some f) (hc:cntP w.p.procs≤1000) (n:Nat) (hw:w.n=n) (hn:2≤n) (hn5:n≤5000) (fm:List (List Bool)) (hF:DimB n fm) (a:Nat) (ha:a<n):SpecP Tryz.prog 125 [.ip w.cells,.sl ((bmI fm).map .sl),.int .i64 a] (fun r => ∃ es:List Int,r=XS (es.map (QH w.p w.j w.n))∧es.Perm (q8u fm a n)∧srt (z6o (q4f fm a n n)) es 0 es.length):=by
 refine SpecP.body q9h QQ Tryz.func125 rfl Tryz.call125 (by show 3≤_;decide) ?_
 conv=>whnf
 obtain ⟨s1,s2⟩:=hF.row ha
 have hr1:((bmI fm).map AV.sl)[a]? = some (.sl ((fm.getD a []).map bv)):=by rw [List.getElem?_map,s1];rfl
 repeat' ((first|(intro (_:_≤9223372036854775807))|(refine And.intro rfl ?_)|(refine And.intro ⟨rfl,rfl,by decide⟩ ?_)|(refine MkK.mk n (by omega) (by show 8*_≤140737488355328;omega) (by unfold maxLen;omega) ?_)|(refine IdxK.at (k:=a) rfl hr1 rfl ?_));conv=>whnf)
 refine LoopK.inv QQ (fun x:Nat×Bool=>if x.2 then w4e w fm a n x.1 else w0w w fm a n x.1) (fun x=>x.1≤n∧(x.2=false→x.1<n)∧(x.2=true→x.1=n)) (fun x=>n-x.1) (0,false)
  (Le.mk [(2,.own 3 1 [])] (by simp [Chunk.new0];rfl) (by simp) (by simp) (.cons (.refl _) (.cons (.refl _) (.cons (.nil List.mem_cons_self) (.cons (.refl _) (.cons (.refl _) (.cons (.refl _) (.cons (.of_eq rfl) .nil))))))) (.cons rfl (.obj (.cons (.refl _) .nil)) (.cons rfl (.of_eq (by rw [z4a,List.map_replicate];rfl)) (.new List.mem_cons_self .nil))))
  ⟨Nat.zero_le _,fun _=>by simp only;omega,fun h=>by cases h⟩ ?_
 rintro ⟨j,m⟩ ⟨h2,h3,h4⟩
 simp only at h2 h3 h4
 cases m with
 | false =>
   have hj1:=h3 rfl
   have e1:=hF.bit ha hj1
   obtain ⟨u1,u2⟩:=hF.row hj1
   have hr2:((bmI fm).map AV.sl)[j]? = some (.sl ((fm.getD j []).map bv)):=by rw [List.getElem?_map,u1];rfl
   have fin : ∃ x:Nat×Bool,(x.1≤n∧(x.2=false→x.1<n)∧(x.2=true→x.1=n))∧n-x.1<n-j∧Le Tryz.f125.ntmps (w0w w fm a n (j+1)) (if x.2 then w4e w fm a n x.1 else w0w w fm a n x.1):=by
    rcases Nat.lt_or_ge (j+1) n with hj2|hj2
    ·exact ⟨(j+1,false),⟨by simp only;omega,fun _=>hj2,fun h=>by cases h⟩,by simp only;omega,Le.of_eq rfl⟩
    ·exact ⟨(j+1,true),⟨by simp only;omega,(fun h=>by cases h),fun _=>by simp only;omega⟩,by simp only;omega,w6s w fm a n (j+1)⟩
   obtain ⟨x,hx1,hx2,hx3⟩:=fin
   have hsucc:=z3z fm a j
   have hfl:=x8z fm a j
   have hyes:=fun h=>z7c (fm:=fm) (a:=a) hj1 h
   have hno:=fun h=>w2a (fm:=fm) (a:=a) (n:=n) (j:=j) h
   have hml:=GK fm a n j
   have hmg:=DX (fm:=fm) (a:=a) (j:=j) hj1
   rw [if_neg (fun h=>by omega)] at hmg
   have hSz:=z9d (fm.getD j []) (by rw [List.length_map] at u2;omega)
   unfold w0w at hx3 ⊢
   rw [hsucc] at hx3
   generalize q4f fm a n (j+1)=mn2 at hx3 hyes hno
   generalize q4f fm a n j=mn at hyes hno hml hmg ⊢
   generalize q8u fm a j=fl at hx3 hfl ⊢
   generalize (fm.getD j []).count true=cn at hyes hSz
   have hmg2:=q9f hmg
   cases hv:bitF fm a j with
   | true =>
     have hyes:=hyes hv
     rw [hv] at e1
     rw [hv,if_pos rfl] at hx3
     simp only [Bool.false_eq_true,if_false]
     conv=>whnf
     repeat' (first|((first|(refine And.intro rfl ?_)|(refine And.intro ⟨by decide,by decide⟩ ?_)|(refine BsK.pure (fun x hx=>by rcases List.mem_singleton.1 hx with rfl;rfl) rfl ?_)|(refine Wr.i64 (by omega) (by omega) ?_)|(refine DrawK.of QQ mixed (.cons 1 false (.cons 2 false (.cons 3 false (.cons 4 false (.cons 5 false (.fork 0 (.cons 6 true (.cons 7 true (.cons 8 true .nil))) 6 (.cons 0 true (.cons 7 true (.cons 8 true .nil))))))))) (by kernel_rfl) ?_)|(refine IdxK.at (k:=j) rfl e1 rfl ?_)|(refine IdxK.at (k:=j) rfl hr2 rfl ?_)|(refine AppK.int1 (by simp) (by simp;omega) ?_)|(refine IdxL.mk j rfl (by omega) ?_)|(refine CallK.pure hSz (.cons (Sub.refl _) .nil) ?_;rintro _ rfl)|(refine StOwn.mk j 0 _ (.int .i64 cn) (by omega) hmg2 (Nat.le_refl _) rfl ?_));conv=>whnf)|(refine Br.dec (fun _ => ?_) (fun _ => ?_)<;>first|(exfalso;omega)|conv=>whnf)|(refine And.intro ?_ ?_<;>conv=>whnf))
     all_goals first
      | exact ⟨x,hx1,hx2,Le.trans (Le.of_eq (by rw [← hyes,List.map_set];simp only [List.length_append,List.map_append,List.length_map];rfl)) hx3⟩
      | skip
   | false =>
     have hno:=hno hv
     rw [hv] at e1
     rw [hv,if_neg (by decide),List.append_nil,hno] at hx3
     simp only [Bool.false_eq_true,if_false]
     conv=>whnf
     repeat' (first|((first|(refine Wr.i64 (by omega) (by omega) ?_)|(refine IdxK.at (k:=j) rfl e1 rfl ?_));conv=>whnf)|(refine Br.dec (fun _ => ?_) (fun _ => ?_)<;>first|(exfalso;omega)|conv=>whnf))
     all_goals first
      | exact ⟨x,hx1,hx2,hx3⟩
      | (exfalso;simp_all;done)
      | skip
 | true =>
   have hje:=h4 rfl
   subst hje
   simp only [if_true]
   unfold w4e
   have hml:=GK fm a j j
   have hmr : ∀ x∈q4f fm a j j,0≤x∧x≤1000000:=fun x hx=>by
    obtain ⟨b,hb,rfl⟩:=List.mem_map.1 hx
    rw [List.mem_range] at hb
    obtain ⟨_,u2⟩:=hF.row hb
    rw [List.length_map] at u2
    have:=List.count_le_length (a:=true) (l:=fm.getD b [])
    split<;>omega
   have hfl:=x8z fm a j
   have hfm : ∀ x∈q8u fm a j,0≤x∧x<((q4f fm a j j).length:Int):=fun x hx=>by
    obtain ⟨b,hb,rfl⟩:=List.mem_map.1 hx
    have:=List.mem_range.1 (List.mem_filter.1 hb).1
    omega
   have hS:=q5x (z8c hmr) (q8u fm a j) (q8u fm a j).length rfl (by omega) hfm
   conv=>whnf
   repeat' (first|((first|(intro (_:_≤9223372036854775807))|(refine CallK.heap [(1000,2)] 5 (ArgsH.cons (LSub.refl _) (ArgsH.cons (LSub.refl _) ArgsH.nil)) (by refine BlksH.cons (j:=2) rfl rfl ?_ ?_;exact CSub.refl _;exact BlksH.nil) hS rfl rfl ?_;rintro l' H' ⟨rfl,es,rfl,p1,s1⟩));conv=>whnf)|(refine Br.dec (fun _ => ?_) (fun _ => ?_)<;>first|(exfalso;omega)|conv=>whnf))
   have hel:=p1.len.1
   have hpm:=p1.perm
   have hin : ∀ x∈es,0≤x∧x<(j:Int):=fun x hx=>by
    have:=hfm x (hpm.mem_iff.1 hx)
    omega
   generalize q8u fm a j=fl at hel hfl hpm s1 ⊢
   generalize hplc:QH w.p w.j w.n=plc
   refine LoopK.inv QQ (fun i:Nat=>⟨[(0,.p (.ip w.cells)),(7,.hd 2 0 fl.length),(45,.hd 2 0 fl.length),(46,.p (.int .i64 fl.length)),(47,.p (.int .i64 i))],[(2,.own 3 1 (((es.take i).map plc++es.drop i).map (.int .i64)))]⟩) (fun i=>i≤es.length) (fun i=>es.length-i) 0 (Le.of_eq rfl) (Nat.zero_le _) ?_
   intro i hi
   rcases Nat.lt_or_ge i es.length with hi2|hi2
   ·have tl:((es.take i).map plc).length=i:=by rw [List.length_map,List.length_take];omega
    have hd:es.drop i=es[i]::es.drop (i+1):=List.drop_eq_getElem_cons hi2
    have hrow:(es.take i).map plc++es.drop i=(es.take i).map plc++es[i]::es.drop (i+1):=by rw [hd]
    have g1:(((es.take i).map plc++es.drop i).map (AV.int .i64))[i]? = some (.int .i64 es[i]):=by
     rw [List.getElem?_map,List.getElem?_append_right (by omega),tl,Nat.sub_self,hd]
     rfl
    have hst:((es.take i).map plc++es.drop i).set i (plc es[i])=(es.take (i+1)).map plc++es.drop (i+1):=by
     rw [hrow,q4v _ _ _ _ tl.symm,List.take_succ_eq_append_getElem hi2,List.map_append,List.append_assoc]
     rfl
    have hr:=hin _ (List.getElem_mem hi2)
    have hP:=GV w f hj hc (by omega) es[i] (by omega)
    rw [hplc] at hP
    generalize (es.take i).map plc++es.drop i=row at g1 hst ⊢
    generalize es[i]=x at g1 hst hP
    conv=>whnf
    repeat' (first|((first|(refine And.intro rfl ?_)|(refine Wr.i64 (by omega) (by omega) ?_)|(refine IdxL.mk i rfl (by omega) ?_)|(refine LdOwn.mk i 0 _ (by omega) g1 ?_)|(refine CallK.pure hP (.cons (Sub.refl _) (.cons (Sub.refl _) .nil)) ?_;rintro _ rfl)|(refine StOwn.mk i 0 _ (.int .i64 (plc x)) (by omega) g1 (Nat.le_refl _) rfl ?_));conv=>whnf)|(refine Br.dec (fun _ => ?_) (fun _ => ?_)<;>first|(exfalso;omega)|conv=>whnf))
    all_goals first
     | (exfalso;omega)
     | exact ⟨i+1,by omega,by omega,Le.of_eq (by rw [← hst,List.map_set];rfl)⟩
     | skip
   ·rw [List.take_of_length_le hi2,List.drop_of_length_le hi2,List.append_nil]
    conv=>whnf
    repeat' (refine Br.dec (fun _ => ?_) (fun _ => ?_)<;>first|(exfalso;omega)|conv=>whnf)
    all_goals first
     | (exfalso;omega)
     | exact ⟨_,.hd rfl (by simp [hel]),es,rfl,hpm,by rw [hel];exact s1⟩
     | skip
open Go.Proofs
theorem q6s {R:Int→Int→Prop} (anti : ∀ a b,R a b→R b a→a=b) : ∀ {l m:List Int},l.Perm m→l.Nodup→l.Pairwise R→m.Pairwise R→l=m
 | [],m,h,_,_,_=>(List.nil_perm.1 h).symm
 | a::l,[],h,_,_,_=>absurd h.length_eq (by simp)
 | a::l,b::m,h,hn,hl,hm=>by
   rw [List.pairwise_cons] at hl hm
   have hab:a=b:=by
    rcases List.mem_cons.1 (h.mem_iff.1 List.mem_cons_self) with h1|h1
    ·exact h1
    rcases List.mem_cons.1 (h.mem_iff.2 List.mem_cons_self) with h2|h2
    ·exact h2.symm
    exact anti a b (hl.1 b h2) (hm.1 a h1)
   subst hab
   rw [q6s anti (List.Perm.cons_inv h) (List.nodup_cons.1 hn).2 hl.2 hm.2]
theorem w2z {R:Int→Int→Prop} {b c a:Int} (h:AvdP R c a):AvdP R b a∨AvdP R c b:=by
 induction h with
 | exit h =>
   by_cases hb:b = -1
   ·rw [hb];exact .inr (.exit h)
   ·exact .inl (.exit hb)
 | @step a t hac hs h ih =>
   by_cases hab:a=b
   ·subst hab
    exact .inr (.step hac hs h)
   ·rcases ih with ih|ih
    ·exact .inl (.step hab hs ih)
    ·exact .inr ih
inductive ToX (R:Int→Int→Prop):Int→Prop
 | exit:ToX R (-1)
 | step {a t:Int} (hs:R a t) (h:ToX R t):ToX R a
theorem w4c {R:Int→Int→Prop} {a:Int} (h:Rch R a (-1)):ToX R a:=by
 have key : ∀ {x y:Int},Rch R x y→ToX R y→ToX R x:=fun {x y} hr=>by
  induction hr with
  | refl=>exact fun h=>h
  | tail _ h2 ih=>exact fun h=>ih (.step h2 h)
 exact key h .exit
theorem z4o {R:Int→Int→Prop} {b c:Int} (hne:b≠c) (hb:AvdP R c b) (hc:AvdP R b c) {x:Int} (h:ToX R x):AvdP R b x∨AvdP R c x:=by
 induction h with
 | exit =>
   by_cases he:b = -1
   ·exact .inr (.exit fun e=>hne (by rw [he,e]))
   ·exact .inl (.exit he)
 | @step a t hs _ ih =>
   by_cases h1:a=b
   ·subst h1;exact .inr hb
   ·by_cases h2:a=c
    ·subst h2;exact .inl hc
    ·rcases ih with ih|ih
     ·exact .inl (.step h1 hs ih)
     ·exact .inr (.step h2 hs ih)
theorem z8m {R:Int→Int→Prop} {b c:Int} (hc : ¬AvdP R b c) (hcx:c ≠ -1) {x:Int} (h:AvdP R b x):AvdP R c x:=by
 induction h with
 | exit h=>exact .exit hcx
 | @step a t hab hs h ih=>exact .step (fun e=>hc (by subst e;exact .step hab hs h)) hs ih
theorem z8q {R:Int→Int→Prop} {b c:Int} (hb : ¬AvdP R c b) (hc : ¬AvdP R b c) (hx:ToX R b):b=c:=by
 refine Classical.byContradiction fun hne => ?_
 by_cases hcx:c = -1
 ·subst hcx
  exact hc (.exit hne)
 by_cases hbx:b = -1
 ·subst hbx
  exact hb (.exit hcx)
 have key : ∀ {x:Int},ToX R x→AvdP R c x:=fun {x} h=>by
  induction h with
  | exit=>exact .exit hcx
  | @step a t hs _ ih =>
    by_cases h2:a=c
    ·subst h2
     have ih2:=z8m hb hbx ih
     exact absurd (.step (fun e=>hne e.symm) hs ih2) hc
    ·exact .step h2 hs ih
 exact hb (key hx)
section
variable {p:Pg} {j:Nat} {f:Pr}
theorem q9i (h:ZQ p=true) (hj:p.procs[j]? = some f) {x:Int} (hx:plP p j f x):ToX (aR p j f) x:=by
 refine w4c ((z3h h hj hx).mono fun a b ⟨s,hs,h1,h2⟩ => ?_)
 rcases List.mem_append.1 ((FW (x5m h hj)).2.1 s hs) with h3|h3
 ·obtain ⟨l,hl,t,ht,hid,hk,rfl⟩:=(MH h hj).1 h3
  exact (z5s h hj).2 (.inr (.inr (.inl ⟨l,hl,t,ht,hid,hk,h1.symm,h2.symm⟩)))
 ·exact (z5s h hj).2 (.inl ⟨s,h3,h1,h2⟩)
theorem folP.self (b:Int):folP p j f b b:=x4o
theorem folP.exit (a:Int) (h:ToX (aR p j f) a):folP p j f a (-1):=fun ha=>by
 clear h
 have key : ∀ {b x:Int},b = -1 → ¬AvdP (aR p j f) b x:=fun {b x} hb ha=>by
  induction ha with
  | exit h=>exact h hb
  | step _ _ _ ih=>exact ih
 exact key rfl ha
theorem folP.trans {a b c:Int} (h1:folP p j f a b) (h2:folP p j f b c):folP p j f a c:=fun h=>by
 rcases w2z (b:=b) h with h3|h3
 ·exact h1 h3
 ·exact h2 h3
theorem folP.anti (h:ZQ p=true) (hj:p.procs[j]? = some f) {b c:Int} (hb:plP p j f b) (h1:folP p j f b c) (h2:folP p j f c b):b=c:=z8q h1 h2 (q9i h hj hb)
theorem folP.total (h:ZQ p=true) (hj:p.procs[j]? = some f) {a b c:Int} (ha:plP p j f a) (h1:folP p j f a b) (h2:folP p j f a c):folP p j f b c∨folP p j f c b:=by
 refine Classical.byContradiction fun hno => ?_
 rw [not_or] at hno
 have hb:=Classical.not_not.1 hno.1
 have hc:=Classical.not_not.1 hno.2
 have hne:b≠c:=fun e=>hno.1 (by rw [e];exact folP.self c)
 rcases z4o hne hb hc (q9i h hj ha) with h3|h3
 ·exact h1 h3
 ·exact h2 h3
structure RowP (p:Pg) (j:Nat) (f:Pr) (a:Int) (l:List Int):Prop where
 mem : ∀ y,y∈l↔plP p j f y∧folP p j f a y
 nd:l.Nodup
 chain:l.Pairwise (folP p j f)
theorem RowP.uniq (h:ZQ p=true) (hj:p.procs[j]? = some f) {a:Int} {l m:List Int} (hl:RowP p j f a l) (hm:RowP p j f a m):l=m:=by
 have hp:l.Perm m:=(List.perm_iff_count.2 fun x=>by
  by_cases hx:x∈l
  ·rw [List.Nodup.count hl.nd,if_pos hx,List.Nodup.count hm.nd,if_pos ((hm.mem x).2 ((hl.mem x).1 hx))]
  ·rw [List.Nodup.count hl.nd,if_neg hx,List.Nodup.count hm.nd,if_neg (fun h=>hx ((hl.mem x).2 ((hm.mem x).1 h)))])
 have:=q6s (R:=fun x y=>plP p j f x∧plP p j f y∧folP p j f x y) (fun x y h1 h2=>folP.anti h hj h1.1 h1.2.2 h2.2.2) hp hl.nd
  (hl.chain.imp_of_mem fun {x y} hx hy hxy=>⟨((hl.mem x).1 hx).1,((hl.mem y).1 hy).1,hxy⟩) (hm.chain.imp_of_mem fun {x y} hx hy hxy=>⟨((hm.mem x).1 hx).1,((hm.mem y).1 hy).1,hxy⟩)
 exact this
theorem x7i {K:Int→Int} : ∀ {l:List Int},srt K l 0 l.length→l.Pairwise fun x y=>K y≤K x
 | [],_ => .nil
 | a::l,h=>by
   refine List.pairwise_cons.2 ⟨fun b hb => ?_,x7i fun i k h1 h2 h3 => ?_⟩
   ·obtain ⟨i,hi,rfl⟩:=List.mem_iff_getElem.1 hb
    have:=h 0 (i+1) (Nat.le_refl _) (by omega) (by simpa using hi)
    have e:getz (a::l) (i+1)=l[i]:=by
     unfold getz
     rw [List.getD_cons_succ,List.getD_eq_getElem?_getD,List.getElem?_eq_getElem hi]
     rfl
    rw [e] at this
    exact this
   ·exact h (i+1) (k+1) (Nat.zero_le _) (by omega) (by simpa using h3)
theorem w4k (h:ZQ p=true) (hj:p.procs[j]? = some f) {fm:List (List Bool)} (hF:FollowP (QV f.body+2) (YM (QV f.body+2) (YE (QX p j f) f)) fm) {a:Int} (ha:plP p j f a) {es:List Int}
  (hp:es.Perm (q8u fm (ixI p j f a).toNat (QV f.body+2))) (hs:srt (z6o (q4f fm (ixI p j f a).toNat (QV f.body+2) (QV f.body+2))) es 0 es.length):RowP p j f a (es.map (QH p j (QV f.body+2:Nat))):=by
 have hra:=ZY ha
 have hmem : ∀ x:Int,x∈es ↔ ∃ b:Nat,b<QV f.body+2∧bitF fm (ixI p j f a).toNat b=true∧x=b:=fun x=>by
  rw [hp.mem_iff]
  unfold q8u
  rw [List.mem_map]
  constructor
  ·rintro ⟨b,hb,rfl⟩
   obtain ⟨h1,h2⟩:=List.mem_filter.1 hb
   exact ⟨b,List.mem_range.1 h1,h2,rfl⟩
  ·rintro ⟨b,h1,h2,rfl⟩
   exact ⟨b,List.mem_filter.2 ⟨List.mem_range.2 h1,h2⟩,rfl⟩
 have hplc : ∀ x∈es,plP p j f (QH p j (QV f.body+2:Nat) x)∧ixI p j f (QH p j (QV f.body+2:Nat) x)=x∧0≤x∧x<(QV f.body+2:Nat):=fun x hx=>by
  obtain ⟨b,h1,_,rfl⟩:=(hmem x).1 hx
  obtain ⟨q1,q2⟩:=UM (p:=p) (j:=j) (f:=f) (i:=(b:Int)) (by omega)
  exact ⟨q1,q2,by omega,by omega⟩
 have hfol : ∀ x∈es,folP p j f a (QH p j (QV f.body+2:Nat) x):=fun x hx=>by
  obtain ⟨b,h1,h2,rfl⟩:=(hmem x).1 hx
  obtain ⟨q1,q2,_⟩:=hplc _ hx
  refine (GZ h hj hF ha q1).1 ?_
  rw [q2,Int.toNat_natCast]
  exact h2
 have hnd:es.Nodup:=by
  rw [hp.nodup_iff]
  unfold q8u
  show List.Pairwise _ _
  rw [List.pairwise_map]
  exact (List.Pairwise.filter _ List.nodup_range).imp fun hne he=>hne (by omega)
 have hndm:(es.map (QH p j (QV f.body+2:Nat))).Nodup:=by
  show List.Pairwise _ _
  rw [List.pairwise_map]
  refine hnd.imp_of_mem fun {x y} hx hy hne he=>hne ?_
  rw [← (hplc x hx).2.1,← (hplc y hy).2.1,he]
 have hkey : ∀ x∈es,z6o (q4f fm (ixI p j f a).toNat (QV f.body+2) (QV f.body+2)) x=(((fm.getD x.toNat []).count true:Nat):Int):=fun x hx=>by
  obtain ⟨b,h1,h2,rfl⟩:=(hmem x).1 hx
  unfold z6o getz
  rw [Int.toNat_natCast,List.getD_eq_getElem?_getD,DX h1,if_pos ⟨h1,h2⟩]
  rfl
 refine ⟨fun y => ?_,hndm,?_⟩
 ·rw [List.mem_map]
  constructor
  ·rintro ⟨x,hx,rfl⟩
   exact ⟨(hplc x hx).1,hfol x hx⟩
  ·rintro ⟨h1,h2⟩
   have hr:=ZY h1
   have hb:=(GZ h hj hF ha h1).2 h2
   refine ⟨ixI p j f y,(hmem _).2 ⟨(ixI p j f y).toNat,by omega,hb,by omega⟩,q8c h1⟩
 ·rw [List.pairwise_map]
  refine (List.pairwise_and_iff.2 ⟨x7i hs,hnd⟩).imp_of_mem fun {x y} hx hy hxy => ?_
  obtain ⟨hk,hne⟩:=hxy
  rw [hkey x hx,hkey y hy] at hk
  obtain ⟨px,ix,x0,x1⟩:=hplc x hx
  obtain ⟨py,iy,y0,y1⟩:=hplc y hy
  rcases folP.total h hj ha (hfol x hx) (hfol y hy) with h1|h1
  ·exact h1
  ·exfalso
   have hrow : ∀ z:Int,0≤z→z<(QV f.body+2:Nat)→(fm.getD z.toNat []).length=QV f.body+2:=fun z z0 z1=>by
    have hl:=hF.inv.len
    rw [List.getD_eq_getElem?_getD,List.getElem?_eq_getElem (by omega)]
    exact hF.inv.rows _ (List.getElem_mem _)
   have hlt:=q2l (r:=fm.getD x.toNat []) (s:=fm.getD y.toNat []) (by rw [hrow x x0 x1,hrow y y0 y1]) (fun b hb=>by
    rcases Nat.lt_or_ge b (QV f.body+2) with hbn|hbn
    ·obtain ⟨q1,q2⟩:=UM (p:=p) (j:=j) (f:=f) (i:=(b:Int)) (by omega)
     have h3:folP p j f (QH p j (QV f.body+2:Nat) x) (QH p j (QV f.body+2:Nat) b):=(GZ h hj hF px q1).1 (by rw [ix,q2,Int.toNat_natCast];exact hb)
     have h4:=(GZ h hj hF py q1).2 (h1.trans h3)
     rw [iy,q2,Int.toNat_natCast] at h4
     exact h4
    ·rw [List.getD_eq_getElem?_getD,List.getElem?_eq_none (by rw [hrow x x0 x1];exact hbn)] at hb
     cases hb) (fun he=>by
    have h3:=(GZ h hj hF py py).2 (folP.self _)
    have h4:bitF fm (ixI p j f (QH p j (QV f.body+2:Nat) x)).toNat (ixI p j f (QH p j (QV f.body+2:Nat) y)).toNat=true:=by
     rw [ix,iy] at *
     unfold bitF at h3 ⊢
     rw [he]
     exact h3
    have h5:=(GZ h hj hF px py).1 h4
    have h6:=folP.anti h hj px h5 h1
    rw [← ix,← iy,h6] at hne
    exact hne rfl)
   omega
noncomputable def BY (p:Pg) (j:Nat) (f:Pr) (a:Int):List Int := @Classical.epsilon _ ⟨[]⟩ (RowP p j f a)
theorem RowP.eq (h:ZQ p=true) (hj:p.procs[j]? = some f) {a:Int} {l:List Int} (hl:RowP p j f a l):l=BY p j f a:=hl.uniq h hj (Classical.epsilon_spec (p:=RowP p j f a) ⟨l,hl⟩)
end
open Go.Proofs
theorem w5w {p:Pg} {j:Nat} {f:Pr} {x:Int}:0≤ixI p j f x↔plP p j f x:=by
 constructor
 ·intro h
  unfold ixI YB loI hiI at h
  unfold plP
  (repeat' split at h)<;>omega
 ·exact fun h=>(ZY h).1
section
variable {p:Pg} {j:Nat} {f:Pr}
theorem q2s (h:ZQ p=true) (hj:p.procs[j]? = some f) {a:Int} (ha:plP p j f a):RowP p j f a (BY p j f a):=by
 obtain ⟨fm,hF⟩:=z4d (n:=QV f.body+2) (z4v (x0j h hj))
 have hra:=ZY ha
 have hex : ∃ l,RowP p j f a l:=by
  refine Classical.byContradiction fun hno => ?_
  have : ∀ (m:List Int),m.Nodup→(∀ y∈m,plP p j f y∧folP p j f a y) → ∃ l:List Int,l.Perm m∧l.Pairwise (folP p j f):=fun m=>by
   induction m with
   | nil=>exact fun _ _=>⟨[],.refl _,.nil⟩
   | cons x m ih =>
     intro hn hm
     obtain ⟨l,hl,hc⟩:=ih (List.nodup_cons.1 hn).2 fun y hy=>hm y (List.mem_cons_of_mem _ hy)
     have ins : ∀ (l:List Int),(∀ y∈l,plP p j f y∧folP p j f a y)→l.Pairwise (folP p j f) → ∃ l':List Int,l'.Perm (x::l)∧l'.Pairwise (folP p j f):=fun l=>by
      induction l with
      | nil=>exact fun _ _=>⟨[x],.refl _,List.pairwise_singleton _ _⟩
      | cons y l ih2 =>
        intro hl hc
        rw [List.pairwise_cons] at hc
        have hx:=hm x List.mem_cons_self
        have hy:=hl y List.mem_cons_self
        rcases folP.total h hj ha hx.2 hy.2 with h1|h1
        ·refine ⟨x::y::l,.refl _,List.pairwise_cons.2 ⟨fun z hz => ?_,List.pairwise_cons.2 hc⟩⟩
         rcases List.mem_cons.1 hz with rfl|hz
         ·exact h1
         ·exact h1.trans (hc.1 z hz)
        ·obtain ⟨l',hp,hc'⟩:=ih2 (fun z hz=>hl z (List.mem_cons_of_mem _ hz)) hc.2
         refine ⟨y::l',(hp.cons y).trans (.swap x y l),List.pairwise_cons.2 ⟨fun z hz => ?_,hc'⟩⟩
         rcases List.mem_cons.1 (hp.mem_iff.1 hz) with rfl|hz
         ·exact h1
         ·exact hc.1 z hz
     obtain ⟨l',hp,hc'⟩:=ins l (fun y hy=>hm y (List.mem_cons_of_mem _ (hl.mem_iff.1 hy))) hc
     exact ⟨l',hp.trans (hl.cons x),hc'⟩
  obtain ⟨l,hl,hc⟩:=this ((plL p j f).filter fun y => @decide (folP p j f a y) (Classical.propDecidable _)) (by
   refine List.Pairwise.filter _ ?_
   unfold plL
   refine List.pairwise_cons.2 ⟨fun y hy => ?_,List.pairwise_cons.2 ⟨fun y hy => ?_,LT _ _⟩⟩
   ·rcases List.mem_cons.1 hy with rfl|hy
    ·decide
    ·have:=JQ hy
     omega
   ·have:=JQ hy
    omega) (fun y hy=>by
   obtain ⟨h1,h2⟩:=List.mem_filter.1 hy
   exact ⟨UE.1 h1,(@decide_eq_true_iff _ (Classical.propDecidable _)).1 h2⟩)
  refine hno ⟨l,fun y => ?_,?_,hc⟩
  ·rw [hl.mem_iff,List.mem_filter,UE]
   exact and_congr_right fun _ => @decide_eq_true_iff _ (Classical.propDecidable _)
  ·rw [hl.nodup_iff]
   refine List.Pairwise.filter _ ?_
   unfold plL
   refine List.pairwise_cons.2 ⟨fun y hy => ?_,List.pairwise_cons.2 ⟨fun y hy => ?_,LT _ _⟩⟩
   ·rcases List.mem_cons.1 hy with rfl|hy
    ·decide
    ·have:=JQ hy
     omega
   ·have:=JQ hy
    omega
 exact Classical.epsilon_spec (p:=RowP p j f a) hex
theorem x9z (h:ZQ p=true) (hj:p.procs[j]? = some f) {a:Int} (ha:plP p j f a):(BY p j f a).length≤QV f.body+2:=by
 have hR:=q2s h hj ha
 have:=KG (m:=plL p j f) hR.nd fun y hy=>UE.2 ((hR.mem y).1 hy).1
 have h2:(plL p j f).length=QV f.body+2:=by unfold plL YR;simp
 omega
end
theorem x7r {p:Pg} {j:Nat} {f:Pr} (h:ZQ p=true) (hj:p.procs[j]? = some f) {fm:List (List Bool)} (hF:FollowP (QV f.body+2) (YM (QV f.body+2) (YE (QX p j f) f)) fm) {x:Int} (hx:plP p j f x) :
  SpecP Tryz.prog 125 [.ip (QX p j f).cells,.sl ((bmI fm).map .sl),.int .i64 (ixI p j f x)] (fun r=>r=XS (BY p j f x)):=by
 have hT:=w3i h hj
 have hr:=ZY hx
 have:=x5f (QX p j f) f hT.hj hT.hc (QV f.body+2) hT.hw hT.hn2 hT.hn fm ⟨hF.inv.len,hF.inv.rows⟩ (ixI p j f x).toNat (by omega)
 rw [Int.toNat_of_nonneg hr.1] at this
 refine this.mono fun r hr => ?_
 obtain ⟨es,rfl,hp,hs⟩:=hr
 rw [← (w4k h hj hF hx hp hs).eq h hj]
 rfl
noncomputable def z7z (p:Pg) (n:Str) (x:Int):List Int:=match LE p n with
 | some w=>(match w.p.procs[w.j]? with
   | some f=>if 0≤ixI w.p w.j f x then BY w.p w.j f x else []
   | none=>[])
 | none=>[]
theorem q6z {p:Pg} {n:Str} {k:Nat} {f:Pr} (hw:LE p n=some (QX p k f)) (hk:p.procs[k]? = some f) (x:Int):z7z p n x=if 0≤ixI p k f x then BY p k f x else []:=by
 have h:(QX p k f).p.procs[(QX p k f).j]? = some f:=hk
 unfold z7z
 rw [hw]
 simp only
 rw [h]
 rfl
theorem z6j {p:Pg} {n:Str} (hw:LE p n=none) (x:Int):z7z p n x=[]:=by
 unfold z7z
 rw [hw]
theorem w0n (p:Pg) (hf:Fit p) (n:Str) (x:Int):SpecP Tryz.prog 65 [.agg p.cells,.str n,.int .i64 x] (fun r=>r=XS (z7z p n x)):=by
 refine SpecP.body z8x QQ Tryz.func65 rfl Tryz.call65 (by show 3≤_;decide) ?_
 conv=>whnf
 have hW:=w0s p hf n
 cases hw:LE p n with
 | none =>
   rw [z6j hw]
   rw [hw] at hW
   repeat' (refine CallK.pure hW (.cons (Sub.refl _) (.cons (Sub.refl _) .nil)) ?_;rintro _ rfl;conv=>whnf)
   exact ⟨_,.p Sub.nils,rfl⟩
 | some w =>
   obtain ⟨k,f,hkj,rfl,hc,_⟩:=NP hw
   have hT:=w3i hc hkj
   have hn2:=hT.hn2
   have hn5:=hT.hn
   have hwn:=hT.hw
   have hI:=NM (QX p k f) f hT.hj hT.hc (by omega) x
   have he:YB (loI (QX p k f).p (QX p k f).j) (hiI (QX p k f).p (QX p k f).j f) (QX p k f).n x=ixI p k f x:=rfl
   rw [he] at hI
   rw [q6z hw hkj]
   rw [hw] at hW
   have hFo:=BW (QX p k f) f (QV f.body+2) hT (x0j hc hkj) (Nat.le_trans (z5i hc hkj) (by decide))
   have hR:=fun fm hF (hx:0≤ixI p k f x)=>x7r hc hkj (fm:=fm) hF (w5w.1 hx)
   generalize BY p k f x=L at hR ⊢
   generalize ixI p k f x=ix at hI hR ⊢
   by_cases hx:0≤ix
   ·rw [if_pos hx]
    repeat' (first|((first|(refine CallK.pure hW (.cons (Sub.refl _) (.cons (Sub.refl _) .nil)) ?_;rintro _ rfl)|(refine CallK.pure hI (.cons (Sub.refl _) (.cons (Sub.refl _) .nil)) ?_;rintro _ rfl)|(refine CallK.pure hFo (.cons (Sub.refl _) .nil) ?_;rintro _ ⟨fm,hF,rfl⟩)|(refine CallK.pure (hR fm hF hx) (.cons (Sub.refl _) (.cons (Sub.refl _) (.cons (Sub.refl _) .nil))) ?_;rintro _ rfl));conv=>whnf)|(refine Br.dec (fun _ => ?_) (fun _ => ?_)<;>first|(exfalso;omega)|conv=>whnf))
    all_goals first
     | (exfalso;omega)
     | exact RetK.p rfl
     | skip
   ·rw [if_neg hx]
    repeat' (first|((first|(refine CallK.pure hW (.cons (Sub.refl _) (.cons (Sub.refl _) .nil)) ?_;rintro _ rfl)|(refine CallK.pure hI (.cons (Sub.refl _) (.cons (Sub.refl _) .nil)) ?_;rintro _ rfl));conv=>whnf)|(refine Br.dec (fun _ => ?_) (fun _ => ?_)<;>first|(exfalso;omega)|conv=>whnf))
    all_goals first
     | (exfalso;omega)
     | exact ⟨_,.p Sub.nils,rfl⟩
     | skip
noncomputable def z2t (p:Pg) (n:Str) (x:Int):Int×Bool:=if (z7z p n x).length<2 then (0,false) else ((z7z p n x).getD 1 0,true)
theorem z8y (p:Pg) (hf:Fit p) (n:Str) (x:Int):SpecP Tryz.prog 64 [.agg p.cells,.str n,.int .i64 x] (fun r=>r = .tup [.int .i64 (z2t p n x).1,.bool (z2t p n x).2]):=by
 refine SpecP.body z0d QQ Tryz.func64 rfl Tryz.call64 (by show 3≤_;decide) ?_
 conv=>whnf
 have hO:=w0n p hf n x
 unfold z2t
 generalize z7z p n x=L at hO ⊢
 have hlm:(L.map (AV.int .i64)).length=L.length:=List.length_map _
 by_cases hl:L.length<2
 ·rw [if_pos hl]
  repeat' (first|((first|(intro (_:_≤9223372036854775807))|(refine CallK.pure hO (.cons (Sub.refl _) (.cons (Sub.refl _) (.cons (Sub.refl _) .nil))) ?_;rintro _ rfl));conv=>whnf)|(refine Br.dec (fun _ => ?_) (fun _ => ?_)<;>first|(exfalso;omega)|conv=>whnf))
  all_goals first
   | (exfalso;omega)
   | exact RetK.tup2 rfl (Sub.ff rfl)
   | skip
 ·rw [if_neg hl]
  have hg:(L.map (AV.int .i64))[1]? = some (.int .i64 (L.getD 1 0)):=UD (by omega)
  repeat' (first|((first|(intro (_:_≤9223372036854775807))|(refine CallK.pure hO (.cons (Sub.refl _) (.cons (Sub.refl _) (.cons (Sub.refl _) .nil))) ?_;rintro _ rfl)|(refine IdxK.at (k:=1) rfl hg rfl ?_));conv=>whnf)|(refine Br.dec (fun _ => ?_) (fun _ => ?_)<;>first|(exfalso;omega)|conv=>whnf))
  all_goals first
   | (exfalso;omega)
   | exact RetK.tup2 rfl (Sub.tt rfl)
   | skip
open Go.Proofs
noncomputable def z0v (p:Pg) (j:Nat) (f:Pr) (a:Nat):List (Int×Int):=(List.range a).map fun (x:Nat)=>(QH p j (QV f.body+2:Nat) x,(BY p j f (QH p j (QV f.body+2:Nat) x)).getD 1 0)
noncomputable def w1r (p:Pg) (n:Str):List (Int×Int):=match LE p n with
 | some w=>(match w.p.procs[w.j]? with
   | some f=>z0v w.p w.j f (QV f.body+1)
   | none=>[])
 | none=>[]
theorem q5j {p:Pg} {n:Str} {k:Nat} {f:Pr} (hw:LE p n=some (QX p k f)) (hk:p.procs[k]? = some f):w1r p n=z0v p k f (QV f.body+1):=by
 have h:(QX p k f).p.procs[(QX p k f).j]? = some f:=hk
 unfold w1r
 rw [hw]
 simp only
 rw [h]
 rfl
theorem z6m {p:Pg} {n:Str} (hw:LE p n=none):w1r p n=[]:=by
 unfold w1r
 rw [hw]
theorem z5t (p:Pg) (j:Nat) (f:Pr) (a:Nat):z0v p j f (a+1)=z0v p j f a++[(QH p j (QV f.body+2:Nat) a,(BY p j f (QH p j (QV f.body+2:Nat) a)).getD 1 0)]:=by
 unfold z0v
 rw [List.range_succ,List.map_append]
 rfl
theorem x0q (p:Pg) (j:Nat) (f:Pr) (a:Nat):(z0v p j f a).length=a:=by unfold z0v;simp
theorem x8k {p:Pg} {j:Nat} {f:Pr} (h:ZQ p=true) (hj:p.procs[j]? = some f) {x:Int} (hx:plP p j f x) (hne:x ≠ -1):2≤(BY p j f x).length:=by
 have hR:=q2s h hj hx
 have h1:x∈BY p j f x:=(hR.mem x).2 ⟨hx,folP.self x⟩
 have h2:(-1:Int)∈BY p j f x:=(hR.mem _).2 ⟨.inr (.inl rfl),folP.exit x (q9i h hj hx)⟩
 match hq:BY p j f x,h1,h2 with
 | [],h1,_=>cases h1
 | [y],h1,h2 =>
   have e1:=List.mem_singleton.1 h1
   have e2:=List.mem_singleton.1 h2
   omega
 | _::_::_,_,_=>simp
theorem x8q (p:Pg) (hf:Fit p) (n:Str):SpecP Tryz.prog 67 [.agg p.cells,.str n] (fun r=>r = .sl (avP (w1r p n))):=by
 refine SpecP.body z1b QQ Tryz.func67 rfl Tryz.call67 (by show 2≤_;decide) ?_
 conv=>whnf
 have hW:=w0s p hf n
 cases hw:LE p n with
 | none =>
   rw [z6m hw]
   rw [hw] at hW
   repeat' (first|((first|(intro (_:_≤9223372036854775807))|(refine DrawK.auto QQ mixed (by kernel_rfl) ?_)|(refine And.intro rfl ?_)|(refine And.intro ⟨by decide,by decide⟩ ?_)|(refine And.intro ⟨rfl,rfl,by decide⟩ ?_)|(refine BsK.pure (fun x hx=>by rcases List.mem_singleton.1 hx with rfl;rfl) rfl ?_)|(refine IdxK.map (by omega) (fun _=>rfl) ?_)|(refine IdxK.xs (by omega) ?_)|(refine IdxK.ss (by omega) ?_)|(refine ByteK.at (by omega) ?_)|(refine Wr.i64 (by omega) (by omega) ?_)|(refine CallK.pure hW (.cons (Sub.refl _) (.cons (Sub.refl _) .nil)) ?_;rintro _ rfl));conv=>whnf)|(refine Br.dec (fun _ => ?_) (fun _ => ?_)<;>first|(exfalso;omega)|conv=>whnf)|(refine Br.dec2 (fun _ => ?_) (fun _ => ?_)<;>first|(exfalso;omega)|conv=>whnf)|(refine Br.n (fun _ => ?_) (fun _ => ?_)<;>conv=>whnf)|(refine Br.b (fun _ => ?_) (fun _ => ?_)<;>conv=>whnf))
   exact ⟨_,.p Sub.nils,rfl⟩
 | some w =>
   obtain ⟨k,f,hkj,rfl,hc,_⟩:=NP hw
   have hT:=w3i hc hkj
   have hn2:=hT.hn2
   have hn5:=hT.hn
   have hwn:=hT.hw
   rw [q5j hw hkj]
   rw [hw] at hW
   have hFo:=BW (QX p k f) f (QV f.body+2) hT (x0j hc hkj) (Nat.le_trans (z5i hc hkj) (by decide))
   repeat' (first|((first|(intro (_:_≤9223372036854775807))|(refine DrawK.auto QQ mixed (by kernel_rfl) ?_)|(refine And.intro rfl ?_)|(refine And.intro ⟨by decide,by decide⟩ ?_)|(refine And.intro ⟨rfl,rfl,by decide⟩ ?_)|(refine BsK.pure (fun x hx=>by rcases List.mem_singleton.1 hx with rfl;rfl) rfl ?_)|(refine IdxK.map (by omega) (fun _=>rfl) ?_)|(refine IdxK.xs (by omega) ?_)|(refine IdxK.ss (by omega) ?_)|(refine ByteK.at (by omega) ?_)|(refine Wr.i64 (by omega) (by omega) ?_)|(refine CallK.pure hW (.cons (Sub.refl _) (.cons (Sub.refl _) .nil)) ?_;rintro _ rfl)|(refine CallK.pure hFo (.cons (Sub.refl _) .nil) ?_;rintro _ ⟨fm,hF,rfl⟩));conv=>whnf)|(refine Br.dec (fun _ => ?_) (fun _ => ?_)<;>first|(exfalso;omega)|conv=>whnf)|(refine Br.dec2 (fun _ => ?_) (fun _ => ?_)<;>first|(exfalso;omega)|conv=>whnf)|(refine Br.n (fun _ => ?_) (fun _ => ?_)<;>conv=>whnf)|(refine Br.b (fun _ => ?_) (fun _ => ?_)<;>conv=>whnf))
   refine LoopK.inv QQ (fun a:Nat=>⟨[(5,.p (.ip (QX p k f).cells)),(6,.hd 0 0 (z0v p k f a).length),(7,.p (.sl ((bmI fm).map .sl))),(8,.p (.int .i64 a))],[(0,.own 47 2 (avP (z0v p k f a)))]⟩) (fun a=>a≤QV f.body+1) (fun a=>QV f.body+1-a) 0
    (Le.mk [(0,.own 47 2 [])] (by simp [Chunk.new0];rfl) (by simp) (by simp) (.cons (.refl _) (.cons (.nil List.mem_cons_self) (.cons (.refl _) (.cons (.of_eq rfl) .nil)))) (.new List.mem_cons_self .nil)) (Nat.zero_le _) ?_
   intro a ha
   have hal:=x0q p k f a
   rcases Nat.lt_or_ge a (QV f.body+1) with ha2|ha2
   ·obtain ⟨q1,q2⟩:=UM (p:=p) (j:=k) (f:=f) (i:=(a:Int)) (by omega)
    have hne:QH p k (QV f.body+2:Nat) a ≠ -1:=fun e=>by
     rw [e,q0g] at q2
     omega
    have hR:=x7r hc hkj hF q1
    rw [q2] at hR
    have hP:=GV (QX p k f) f hT.hj hT.hc (by omega) a (by omega)
    have heP:QH (QX p k f).p (QX p k f).j (QX p k f).n a=QH p k (QV f.body+2:Nat) a:=rfl
    rw [heP] at hP
    have hsucc:=z5t p k f a
    have htwo:=x8k hc hkj q1 hne
    have hg:=UD (l:=BY p k f (QH p k (QV f.body+2:Nat) a)) (i:=1) (by omega)
    have hgz:getz (BY p k f (QH p k (QV f.body+2:Nat) a)) 1=(BY p k f (QH p k (QV f.body+2:Nat) a)).getD 1 0:=rfl
    rw [hgz] at hg
    have hlen2:=x9z hc hkj q1
    generalize (BY p k f (QH p k (QV f.body+2:Nat) a)).getD 1 0=nr at hsucc hg
    generalize BY p k f (QH p k (QV f.body+2:Nat) a)=fr at hR hg htwo hlen2
    generalize QH p k (QV f.body+2:Nat) a=pl at hP hsucc
    generalize z0v p k f a=acc at hal hsucc ⊢
    have haa:(avP acc).length=acc.length:=by unfold avP;rw [List.length_map]
    conv=>whnf
    repeat' (first|((first|(intro (_:_≤9223372036854775807))|(refine DrawK.auto QQ mixed (by kernel_rfl) ?_)|(refine And.intro rfl ?_)|(refine And.intro ⟨by decide,by decide⟩ ?_)|(refine And.intro ⟨rfl,rfl,by decide⟩ ?_)|(refine BsK.pure (fun x hx=>by rcases List.mem_singleton.1 hx with rfl;rfl) rfl ?_)|(refine IdxK.map (by omega) (fun _=>rfl) ?_)|(refine IdxK.xs (by omega) ?_)|(refine IdxK.ss (by omega) ?_)|(refine ByteK.at (by omega) ?_)|(refine Wr.eq (m:=(QV f.body+1:Nat)) (by omega) (by omega) (by omega) ?_)|(refine Wr.i64 (by omega) (by omega) ?_)|(refine CallK.pure hP (.cons (Sub.refl _) (.cons (Sub.refl _) .nil)) ?_;rintro _ rfl)|(refine CallK.pure hR (.cons (Sub.refl _) (.cons (Sub.refl _) (.cons (Sub.refl _) .nil))) ?_;rintro _ rfl)|(refine IdxK.at (k:=1) rfl hg rfl ?_)|(refine BsK.pureL rfl rfl ?_)|(refine AppK.mk haa.symm rfl (by show (acc.length+1)*16≤140737488355328;omega) (by show acc.length+1≤9223372036854775807;omega) (fun x hx=>by rcases List.mem_singleton.1 hx with rfl;exact ⟨rfl,rfl⟩) ?_));conv=>whnf)|(refine Br.dec (fun _ => ?_) (fun _ => ?_)<;>first|(exfalso;omega)|conv=>whnf)|(refine Br.dec2 (fun _ => ?_) (fun _ => ?_)<;>first|(exfalso;omega)|conv=>whnf)|(refine Br.n (fun _ => ?_) (fun _ => ?_)<;>conv=>whnf)|(refine Br.b (fun _ => ?_) (fun _ => ?_)<;>conv=>whnf))
    all_goals first
     | (exfalso;omega)
     | exact ⟨a+1,by omega,by omega,Le.of_eq (by rw [hsucc];simp only [avP,List.length_append,List.map_append];rfl)⟩
     | skip
   ·have hae:a=QV f.body+1:=by omega
    subst hae
    conv=>whnf
    repeat' (first|((first|(intro (_:_≤9223372036854775807))|(refine DrawK.auto QQ mixed (by kernel_rfl) ?_)|(refine And.intro rfl ?_)|(refine And.intro ⟨by decide,by decide⟩ ?_)|(refine And.intro ⟨rfl,rfl,by decide⟩ ?_)|(refine BsK.pure (fun x hx=>by rcases List.mem_singleton.1 hx with rfl;rfl) rfl ?_)|(refine IdxK.map (by omega) (fun _=>rfl) ?_)|(refine IdxK.xs (by omega) ?_)|(refine IdxK.ss (by omega) ?_)|(refine ByteK.at (by omega) ?_)|(refine Wr.eq (m:=(QV f.body+1:Nat)) (by omega) (by omega) (by omega) ?_)|(refine Wr.i64 (by omega) (by omega) ?_));conv=>whnf)|(refine Br.dec (fun _ => ?_) (fun _ => ?_)<;>first|(exfalso;omega)|conv=>whnf)|(refine Br.dec2 (fun _ => ?_) (fun _ => ?_)<;>first|(exfalso;omega)|conv=>whnf)|(refine Br.n (fun _ => ?_) (fun _ => ?_)<;>conv=>whnf)|(refine Br.b (fun _ => ?_) (fun _ => ?_)<;>conv=>whnf))
    all_goals first
     | (exfalso;omega)
     | exact ⟨_,.hd rfl (by unfold avP;rw [List.length_map]),rfl⟩
     | skip
open Go.Proofs
def avF (nx:List (List Int)) (n b:Nat):Nat→Nat→Bool
 | 0,_=>false
 | k+1,a=>(decide (a=n-1)&&decide (b≠n-1))||(decide (a≠b)&&(nx.getD a []).any fun t=>decide (0≤t)&&avF nx n b k t.toNat)
theorem z6s {nx:List (List Int)} {n b:Nat} : ∀ (k a:Nat),avF nx n b k a=true→Avd nx n b a
 | 0,_,h=>by cases h
 | k+1,a,h=>by
   rw [avF,Bool.or_eq_true,Bool.and_eq_true,Bool.and_eq_true,decide_eq_true_eq,decide_eq_true_eq,decide_eq_true_eq,List.any_eq_true] at h
   rcases h with ⟨rfl,h⟩|⟨h1,t,ht,h2⟩
   ·exact .exit h
   ·rw [Bool.and_eq_true,decide_eq_true_eq] at h2
    exact .step h1 (by rw [Int.toNat_of_nonneg h2.1];exact ht) (z6s k _ h2.2)
theorem x3s {n:Nat} {nx:List (List Int)} {G:List (List Bool)} (hl:G.length=n) (hr : ∀ r∈G,r.length=n) (hlast:G.getD (n-1) []=filRow n (n-1))
  (hfix:((List.range (n-1)).all fun a=>decide (G.getD a []=rowF n nx G a))=true) (hmin:((List.range n).all fun a=>(List.range n).all fun b=>bitF G a b||avF nx n b n a)=true):FollowP n nx G:=by
 have hf : ∀ a,a<n-1→G.getD a []=rowF n nx G a:=fun a ha=>of_decide_eq_true (List.all_eq_true.1 hfix a (List.mem_range.2 ha))
 refine ⟨⟨hl,hr,hlast,fun a b ha hb h => ?_,fun a b ha hb h => ?_⟩,hf⟩
 ·unfold bitF
  rw [hf a ha]
  exact h
 ·have h1:=List.all_eq_true.1 (List.all_eq_true.1 hmin a (List.mem_range.2 ha)) b (List.mem_range.2 hb)
  rw [h,Bool.false_or] at h1
  exact z6s _ _ h1
theorem w5s:YE (QX someP 1 f1) f1=[(0,1),(0,5),(1,2),(2,3),(2,4),(3,4),(3,5),(4,5)]:=by
 unfold YE
 rw [w8d]
 kernel_rfl
theorem w6d:YE (QX someP 0 f0) f0=[(0,1),(0,5),(1,2),(2,3),(3,4),(4,5)]:=by
 unfold YE
 rw [w8q]
 kernel_rfl
def fol1:List (List Bool):=[[true,false,false,false,false,true],[false,true,true,false,false,true],[false,false,true,false,false,true],[false,false,false,true,false,true],[false,false,false,false,true,true],[false,false,false,false,false,true]]
def fol0:List (List Bool):=[[true,false,false,false,false,true],[false,true,true,true,true,true],[false,false,true,true,true,true],[false,false,false,true,true,true],[false,false,false,false,true,true],[false,false,false,false,false,true]]
open Go.Proofs
theorem x3a {p:Pg} {n:Str} {k:Nat} {f:Pr} (hw:LE p n=some (QX p k f)) (hk:p.procs[k]? = some f):ZQ p=true∧x1a p n=(f,true):=by
 obtain ⟨k',f',hk',he,hc,_,hfi⟩:=NP hw
 have hk2:(QX p k f).j=(QX p k' f').j:=by rw [he]
 have hk3:k=k':=hk2
 subst hk3
 rw [hk] at hk'
 obtain rfl:=Option.some.inj hk'
 refine ⟨hc,?_⟩
 unfold x1a VY
 rw [(XZ hc).1,hfi]
 rfl
theorem GC (p:Pg) (hf:Fit p) (n:Str) (k:Nat) (f:Pr) (hw:LE p n=some (QX p k f)) (hk:p.procs[k]? = some f):SpecP Tryz.prog 86 [.agg p.cells,.str n] (fun r=>r = .tup [q8t (flatU f),.bool true]):=by
 refine SpecP.body DL QQ Tryz.func86 rfl Tryz.call86 (by show 2≤_;decide) ?_
 conv=>whnf
 obtain ⟨hc,hM⟩:=x3a hw hk
 have hP:=DA p n
 rw [hM] at hP
 have hR:=LX p hf
 rw [hc] at hR
 have hF:=XQ f
 rw [JZ (XZ hc).1 (List.mem_of_getElem? hk)] at hF
 repeat' (first|((first|(intro (_:_≤9223372036854775807))|(refine DrawK.auto QQ mixed (by kernel_rfl) ?_)|(refine And.intro rfl ?_)|(refine And.intro ⟨by decide,by decide⟩ ?_)|(refine And.intro ⟨rfl,rfl,by decide⟩ ?_)|(refine BsK.pure (fun x hx=>by rcases List.mem_singleton.1 hx with rfl;rfl) rfl ?_)|(refine IdxK.map (by omega) (fun _=>rfl) ?_)|(refine IdxK.xs (by omega) ?_)|(refine IdxK.ss (by omega) ?_)|(refine ByteK.at (by omega) ?_)|(refine Wr.i64 (by omega) (by omega) ?_)|(refine CallK.pure hP (.cons (Sub.refl _) (.cons (Sub.refl _) .nil)) ?_;rintro _ rfl)|(refine CallK.pure hR (.cons (Sub.refl _) .nil) ?_;rintro _ rfl)|(refine CallK.pure hF (.cons (Sub.refl _) .nil) ?_;rintro _ rfl));conv=>whnf)|(refine Br.dec (fun _ => ?_) (fun _ => ?_)<;>first|(exfalso;omega)|conv=>whnf)|(refine Br.dec2 (fun _ => ?_) (fun _ => ?_)<;>first|(exfalso;omega)|conv=>whnf)|(refine Br.n (fun _ => ?_) (fun _ => ?_)<;>conv=>whnf)|(refine Br.b (fun _ => ?_) (fun _ => ?_)<;>conv=>whnf))
 all_goals first
  | contradiction
  | exact ⟨_,.p (Sub.tup (.cons (Sub.refl _) (.cons (Sub.tt rfl) .nil))),rfl⟩
def z2h (f:Pr):List Int:=0::(flatU f).map (fun x=>x.s.id)++[-1]
theorem z8s (f:Pr):(z2h f).length=QV f.body+2:=by
 unfold z2h
 have:=YF 1 0 false f.body
 simp [flatU,this]
theorem w3f {p:Pg} (hm:VJ p=true) {k:Nat} {f:Pr} (hk:p.procs[k]? = some f) {x:Nat} (hx:x<QV f.body+2):(z2h f)[x]? = some (QH p k (QV f.body+2:Nat) x):=by
 unfold z2h
 rw [q9m hm hk]
 unfold QH loI YR
 cases x with
 | zero=>rfl
 | succ x =>
   rw [List.cons_append,List.getElem?_cons_succ]
   rw [if_neg (by omega)]
   rcases Nat.lt_or_ge x (QV f.body) with h1|h1
   ·rw [List.getElem?_append_left (by simpa using h1),List.getElem?_map,List.getElem?_range' h1,if_neg (by omega)]
    simp only [Option.map_some]
    congr 1
    omega
   ·obtain rfl:x=QV f.body:=by omega
    rw [List.getElem?_append_right (by simp),if_pos (by omega)]
    simp
theorem z8b {p:Pg} (hm:VJ p=true) {k:Nat} {f:Pr} (hk:p.procs[k]? = some f) {x:Int}:x∈z2h f↔plP p k f x:=by
 unfold z2h
 rw [q9m hm hk]
 unfold plP
 simp only [List.cons_append,List.mem_cons,List.mem_append,List.not_mem_nil,or_false]
 constructor
 ·rintro (h|h|h)
  ·exact .inl h
  ·have:=JQ h
   exact .inr (.inr (by omega))
  ·exact .inr (.inl h)
 ·rintro (h|h|h)
  ·exact .inl h
  ·exact .inr (.inr h)
  ·exact .inr (.inl (q8a h.1 h.2))
theorem JS (p:Pg) (hf:Fit p) (n:Str) (k:Nat) (f:Pr) (hw:LE p n=some (QX p k f)) (hk:p.procs[k]? = some f):SpecP Tryz.prog 70 [.agg p.cells,.str n] (fun r=>r=XS (z2h f)):=by
 refine SpecP.body HG QQ Tryz.func70 rfl Tryz.call70 (by show 2≤_;decide) ?_
 conv=>whnf
 have hF:=GC p hf n k f hw hk
 have hlU:=z6p (XZ (x3a hw hk).1).1 hk
 have hLl:=YA (flatU f)
 have hp:z2h f=0::(flatU f).map (fun x=>x.s.id)++[-1]:=rfl
 rw [hp]
 generalize flatU f=L at *
 repeat' (first|((first|(intro (_:_≤9223372036854775807))|(refine DrawK.auto QQ mixed (by kernel_rfl) ?_)|(refine And.intro rfl ?_)|(refine And.intro ⟨by decide,by decide⟩ ?_)|(refine And.intro ⟨rfl,rfl,by decide⟩ ?_)|(refine IdxK.map (by omega) (fun _=>rfl) ?_)|(refine IdxK.xs (by omega) ?_)|(refine IdxK.ss (by omega) ?_)|(refine ByteK.at (by omega) ?_)|(refine Wr.i64 (by omega) (by omega) ?_)|(refine CallK.pure hF (.cons (Sub.refl _) (.cons (Sub.refl _) .nil)) ?_;rintro _ rfl)|(refine BsK.own (fun x hx=>by rcases List.mem_singleton.1 hx with rfl;rfl) rfl ?_));conv=>whnf)|(refine Br.dec (fun _ => ?_) (fun _ => ?_)<;>first|(exfalso;omega)|conv=>whnf)|(refine Br.dec2 (fun _ => ?_) (fun _ => ?_)<;>first|(exfalso;omega)|conv=>whnf)|(refine Br.n (fun _ => ?_) (fun _ => ?_)<;>conv=>whnf)|(refine Br.b (fun _ => ?_) (fun _ => ?_)<;>conv=>whnf))
 all_goals first
  | contradiction
  | skip
 refine LoopK.inv QQ (fun j:Nat=>⟨[(7,.hd 0 0 (j+1)),(19,.p (q8t L)),(20,.p (.int .i64 (L.map fun i=>AV.agg i.cells).length)),(21,.p (.int .i64 j))],[(0,.own 3 1 ((0::(L.take j).map (fun x=>x.s.id)).map (.int .i64)))]⟩) (fun j=>j≤L.length) (fun j=>L.length-j) 0 (Le.of_eq rfl) (Nat.zero_le _) ?_
 intro j hj
 have e0:(0::(L.take j).map (fun x=>x.s.id):List Int).length=j+1:=by rw [List.length_cons,List.length_map,List.length_take];omega
 rcases Nat.lt_or_ge j L.length with hj2|hj2
 ·have e1:(0::(L.take (j+1)).map (fun x=>x.s.id):List Int)=(0::(L.take j).map (fun x=>x.s.id))++[L[j].s.id]:=by rw [List.take_succ_eq_append_getElem hj2,List.map_append];rfl
  generalize (0::(L.take j).map (fun x=>x.s.id):List Int)=acc at *
  conv=>whnf
  repeat' (first|((first|(intro (_:_≤9223372036854775807))|(refine DrawK.auto QQ mixed (by kernel_rfl) ?_)|(refine And.intro rfl ?_)|(refine And.intro ⟨by decide,by decide⟩ ?_)|(refine And.intro ⟨rfl,rfl,by decide⟩ ?_)|(refine BsK.pure (fun x hx=>by rcases List.mem_singleton.1 hx with rfl;rfl) rfl ?_)|(refine IdxK.map (by omega) (fun _=>rfl) ?_)|(refine IdxK.xs (by omega) ?_)|(refine IdxK.ss (by omega) ?_)|(refine ByteK.at (by omega) ?_)|(refine Wr.i64 (by omega) (by omega) ?_)|(refine AppK.int1 (by simp;omega) (by simp;omega) ?_));conv=>whnf)|(refine Br.dec (fun _ => ?_) (fun _ => ?_)<;>first|(exfalso;omega)|conv=>whnf)|(refine Br.dec2 (fun _ => ?_) (fun _ => ?_)<;>first|(exfalso;omega)|conv=>whnf)|(refine Br.n (fun _ => ?_) (fun _ => ?_)<;>conv=>whnf)|(refine Br.b (fun _ => ?_) (fun _ => ?_)<;>conv=>whnf))
  all_goals exact ⟨j+1,by omega,by omega,Le.of_eq (by rw [e1,List.map_append];rfl)⟩
 ·rw [List.take_of_length_le hj2] at e0 ⊢
  have e2:(0::L.map (fun x=>x.s.id)++[-1]:List Int)=(0::L.map (fun x=>x.s.id))++[-1]:=rfl
  rw [e2]
  generalize (0::L.map (fun x=>x.s.id):List Int)=acc at *
  conv=>whnf
  repeat' (first|((first|(intro (_:_≤9223372036854775807))|(refine DrawK.auto QQ mixed (by kernel_rfl) ?_)|(refine And.intro rfl ?_)|(refine And.intro ⟨by decide,by decide⟩ ?_)|(refine And.intro ⟨rfl,rfl,by decide⟩ ?_)|(refine BsK.pure (fun x hx=>by rcases List.mem_singleton.1 hx with rfl;rfl) rfl ?_)|(refine IdxK.map (by omega) (fun _=>rfl) ?_)|(refine IdxK.xs (by omega) ?_)|(refine IdxK.ss (by omega) ?_)|(refine ByteK.at (by omega) ?_)|(refine Wr.i64 (by omega) (by omega) ?_)|(refine AppK.int1 (by simp;omega) (by simp;omega) ?_));conv=>whnf)|(refine Br.dec (fun _ => ?_) (fun _ => ?_)<;>first|(exfalso;omega)|conv=>whnf)|(refine Br.dec2 (fun _ => ?_) (fun _ => ?_)<;>first|(exfalso;omega)|conv=>whnf)|(refine Br.n (fun _ => ?_) (fun _ => ?_)<;>conv=>whnf)|(refine Br.b (fun _ => ?_) (fun _ => ?_)<;>conv=>whnf))
  all_goals exact ⟨_,.hd rfl (by simp;omega),by simp [XS];rfl⟩
theorem NX (p:Pg) (hf:Fit p) (most:Int):SpecP Tryz.prog 69 [.agg p.cells,.int .i64 most] (fun r=>r = .bool (x3q p most)):=by
 refine SpecP.body FS QQ Tryz.func69 rfl Tryz.call69 (by show 2≤_;decide) ?_
 conv=>whnf
 have hC:=ND p hf
 unfold x3q
 cases hc:ZQ p with
 | false =>
   rw [hc] at hC
   repeat' (first|((first|(intro (_:_≤9223372036854775807))|(refine DrawK.auto QQ mixed (by kernel_rfl) ?_)|(refine And.intro rfl ?_)|(refine And.intro ⟨by decide,by decide⟩ ?_)|(refine And.intro ⟨rfl,rfl,by decide⟩ ?_)|(refine BsK.pure (fun x hx=>by rcases List.mem_singleton.1 hx with rfl;rfl) rfl ?_)|(refine IdxK.map (by omega) (fun _=>rfl) ?_)|(refine IdxK.xs (by omega) ?_)|(refine IdxK.ss (by omega) ?_)|(refine ByteK.at (by omega) ?_)|(refine Wr.i64 (by omega) (by omega) ?_)|(refine CallK.pure hC (.cons (Sub.refl _) .nil) ?_;rintro _ rfl));conv=>whnf)|(refine Br.dec (fun _ => ?_) (fun _ => ?_)<;>first|(exfalso;omega)|conv=>whnf)|(refine Br.dec2 (fun _ => ?_) (fun _ => ?_)<;>first|(exfalso;omega)|conv=>whnf)|(refine Br.n (fun _ => ?_) (fun _ => ?_)<;>conv=>whnf)|(refine Br.b (fun _ => ?_) (fun _ => ?_)<;>conv=>whnf))
   all_goals first
    | contradiction
    | exact RetK.ff (by simp)
 | true =>
   rw [hc] at hC
   have hcn:=(FE hc).2.2
   repeat' (first|((first|(intro (_:_≤9223372036854775807))|(refine DrawK.auto QQ mixed (by kernel_rfl) ?_)|(refine And.intro rfl ?_)|(refine And.intro ⟨by decide,by decide⟩ ?_)|(refine And.intro ⟨rfl,rfl,by decide⟩ ?_)|(refine BsK.pure (fun x hx=>by rcases List.mem_singleton.1 hx with rfl;rfl) rfl ?_)|(refine IdxK.map (by omega) (fun _=>rfl) ?_)|(refine IdxK.xs (by omega) ?_)|(refine IdxK.ss (by omega) ?_)|(refine ByteK.at (by omega) ?_)|(refine Wr.i64 (by omega) (by omega) ?_)|(refine CallK.pure hC (.cons (Sub.refl _) .nil) ?_;rintro _ rfl)|(refine CallK.pure (z2v p (by omega)) (.cons (Sub.refl _) .nil) ?_;rintro _ rfl));conv=>whnf)|(refine Br.dec (fun _ => ?_) (fun _ => ?_)<;>first|(exfalso;omega)|conv=>whnf)|(refine Br.dec2 (fun _ => ?_) (fun _ => ?_)<;>first|(exfalso;omega)|conv=>whnf)|(refine Br.n (fun _ => ?_) (fun _ => ?_)<;>conv=>whnf)|(refine Br.b (fun _ => ?_) (fun _ => ?_)<;>conv=>whnf))
   all_goals first
    | contradiction
    | exact RetK.bool (by simp)
theorem x3j {p:Pg} {j:Nat} {f:Pr} (h:ZQ p=true) (hj:p.procs[j]? = some f) {fm:List (List Bool)} (hF:FollowP (QV f.body+2) (YM (QV f.body+2) (YE (QX p j f) f)) fm) {a:Int} (ha:plP p j f a) {l:List Int}
  (h1 : ∀ y∈l,plP p j f y) (h2 : ∀ y∈plL p j f,bitF fm (ixI p j f a).toNat (ixI p j f y).toNat=decide (y∈l)) (h3:l.Nodup) (h4:l.Pairwise fun x y=>bitF fm (ixI p j f x).toNat (ixI p j f y).toNat=true):BY p j f a=l:=by
 refine (RowP.eq h hj (l:=l) ⟨fun y=>⟨fun hy=>⟨h1 y hy,?_⟩,fun hh => ?_⟩,h3,?_⟩).symm
 ·refine (GZ h hj hF ha (h1 y hy)).1 ?_
  rw [h2 y (UE.2 (h1 y hy))]
  exact decide_eq_true hy
 ·have:=(GZ h hj hF ha hh.1).2 hh.2
  rw [h2 y (UE.2 hh.1)] at this
  exact of_decide_eq_true this
 ·exact h4.imp_of_mem fun {x y} hx hy hb=>(GZ h hj hF (h1 x hx) (h1 y hy)).1 hb
theorem w4x:FollowP (QV f1.body+2) (YM (QV f1.body+2) (YE (QX someP 1 f1) f1)) fol1:=by
 rw [w5s]
 exact x3s (by kernel_rfl) (by decide) (by kernel_rfl) (by kernel_rfl) (by kernel_rfl)
theorem w4d:FollowP (QV f0.body+2) (YM (QV f0.body+2) (YE (QX someP 0 f0) f0)) fol0:=by
 rw [w6d]
 exact x3s (by kernel_rfl) (by decide) (by kernel_rfl) (by kernel_rfl) (by kernel_rfl)
theorem z4z:z7z someP [109,97,105,110] 2=[2,3,4,-1]:=by
 rw [q6z z3v rfl,if_pos (by decide)]
 exact x3j q2d rfl w4d (UE.1 (by decide)) (fun y hy=>UE.1 (by revert y;decide)) (by decide) (by decide) (by decide)
theorem w5x:z7z someP [112] 6=[6,-1]:=by
 rw [q6z x7c rfl,if_pos (by decide)]
 exact x3j q2d rfl w4x (UE.1 (by decide)) (fun y hy=>UE.1 (by revert y;decide)) (by decide) (by decide) (by decide)
theorem ZZ:SpecP Tryz.prog 62 [] (fun r=>r = .tt):=by
 have hO:=w0n someP x0x [109,97,105,110] 2
 rw [z4z] at hO
 have hN:=z8y someP x0x [112] 6
 have hNv:z2t someP [112] 6=(-1,true):=by unfold z2t;rw [w5x];rfl
 rw [hNv] at hN
 simp only at hN
 have hT:=x8q someP x0x [112]
 have hTl:(w1r someP [112]).length=5:=by rw [q5j x7c rfl,x0q];rfl
 generalize w1r someP [112]=T at *
 have hTm:(avP T).length=5:=by unfold avP;rw [List.length_map];exact hTl
 refine SpecP.body JM QQ Tryz.func62 rfl Tryz.call62 (by show 0≤_;decide) ?_
 conv=>whnf
 repeat' (first|((first|(intro (_:_≤9223372036854775807))|(refine DrawK.auto QQ mixed (by kernel_rfl) ?_)|(refine And.intro rfl ?_)|(refine And.intro ⟨by decide,by decide⟩ ?_)|(refine And.intro ⟨rfl,rfl,by decide⟩ ?_)|(refine BsK.pure (fun x hx=>by rcases List.mem_singleton.1 hx with rfl;rfl) rfl ?_)|(refine IdxK.map (by omega) (fun _=>rfl) ?_)|(refine IdxK.xs (by omega) ?_)|(refine IdxK.ss (by omega) ?_)|(refine ByteK.at (by omega) ?_)|(refine Wr.i64 (by omega) (by omega) ?_)|(refine CallK.pure LN .nil ?_;rintro _ rfl)|(refine CallK.pure hO (.cons (Sub.refl _) (.cons (Sub.refl _) (.cons (Sub.refl _) .nil))) ?_;rintro _ rfl)|(refine CallK.pure hN (.cons (Sub.refl _) (.cons (Sub.refl _) (.cons (Sub.refl _) .nil))) ?_;rintro _ rfl)|(refine CallK.pure hT (.cons (Sub.refl _) (.cons (Sub.refl _) .nil)) ?_;rintro _ rfl)|(refine IdxK.at (k:=0) (e := .int .i64 2) rfl rfl rfl ?_)|(refine IdxK.at (k:=1) (e := .int .i64 3) rfl rfl rfl ?_)|(refine IdxK.at (k:=3) (e := .int .i64 (-1)) rfl rfl rfl ?_));conv=>whnf)|(refine Br.dec (fun _ => ?_) (fun _ => ?_)<;>first|(exfalso;omega)|conv=>whnf)|(refine Br.dec2 (fun _ => ?_) (fun _ => ?_)<;>first|(exfalso;omega)|conv=>whnf)|(refine Br.n (fun _ => ?_) (fun _ => ?_)<;>conv=>whnf)|(refine Br.b (fun _ => ?_) (fun _ => ?_)<;>conv=>whnf))
 all_goals first
  | exact RetK.tt rfl
  | exact ⟨_,.p (Sub.tt' rfl),rfl⟩
  | exact ⟨_,.p (Sub.tt rfl),rfl⟩
  | exact ⟨_,.p (Sub.tt' (by rw [hTm];rfl)),rfl⟩
  | contradiction
  | (rename_i h;exact absurd rfl h)
  | trace_state
open Go.Proofs
section
variable {p:Pg} {j:Nat} {f:Pr} {n:Str}
end
theorem w3q {l:List Int} (n:Int) (h:l≠[]):x5o l n∈l:=by
 unfold x5o
 have hl:0<(l.length:Int):=by
  have:=List.length_pos_iff.2 h
  omega
 have:=LG (n:=n) hl
 rw [if_neg h,List.getD_eq_getElem?_getD,List.getElem?_eq_getElem (by omega)]
 exact List.getElem_mem _
open Go.Proofs
theorem z3r {p:Pg} {m:Int} (h:x3q p m=true):ZQ p=true:=by
 unfold x3q at h
 rw [Bool.and_eq_true] at h
 exact h.1
open Go.Proofs
section
variable {p:Pg} {j:Nat} {f:Pr}
theorem z4b (h:ZQ p=true) (hj:p.procs[j]? = some f) {a:Int} (ha:plP p j f a) : ∃ r,BY p j f a=a::r:=by
 have hR:=q2s h hj ha
 have h1:a∈BY p j f a:=(hR.mem a).2 ⟨ha,folP.self a⟩
 have hc:=hR.chain
 have hm:=hR.mem
 generalize BY p j f a=l at *
 match l,h1 with
 | x::r,h1 =>
   have hx:=(hm x).1 List.mem_cons_self
   rcases List.mem_cons.1 h1 with rfl|h2
   ·exact ⟨r,rfl⟩
   ·rw [List.pairwise_cons] at hc
    have:=folP.anti h hj hx.1 (hc.1 a h2) hx.2
    exact ⟨r,by rw [this]⟩
theorem z3i (h:ZQ p=true) (hj:p.procs[j]? = some f) {a:Int} (ha:plP p j f a) (hne:a ≠ -1) : ∃ y r,BY p j f a=a::y::r∧plP p j f y∧BY p j f y=y::r:=by
 have hR:=q2s h hj ha
 have h2:=x8k h hj ha hne
 obtain ⟨r,hr⟩:=z4b h hj ha
 rw [hr] at hR h2
 match r,hr,hR,h2 with
 | [],_,_,h2=>simp at h2
 | y::r,hr,hR,_ =>
   have hy:=(hR.mem y).1 (List.mem_cons_of_mem _ List.mem_cons_self)
   have hnd:=List.nodup_cons.1 hR.nd
   have hc:=List.pairwise_cons.1 hR.chain
   refine ⟨y,r,hr,hy.1,(RowP.eq h hj (l:=y::r) ⟨fun z=>⟨fun hz=>⟨((hR.mem z).1 (List.mem_cons_of_mem _ hz)).1,?_⟩,fun hh => ?_⟩,hnd.2,hc.2⟩).symm⟩
   ·rcases List.mem_cons.1 hz with rfl|hz
    ·exact folP.self _
    ·exact (List.pairwise_cons.1 hc.2).1 z hz
   ·have h5:=(hR.mem z).2 ⟨hh.1,hy.2.trans hh.2⟩
    rcases List.mem_cons.1 h5 with rfl|h5
    ·have:=folP.anti h hj ha hy.2 hh.2
     exact absurd (by rw [this];exact List.mem_cons_self) hnd.1
    ·exact h5
end
theorem w1d {l:List Int} {i:Nat} {x:Int} (h:l[i]? = some x):(l.map (AV.int .i64))[i]? = some (.int .i64 x):=by rw [List.getElem?_map,h];rfl
open Go.Proofs
def nrI (b:Bool) (y:Int):Int:=if b then y else 0
theorem HL (p:Pg) (n m:Int):SpecP Tryz.prog 11 [.agg p.cells,.int .i64 n,.int .i64 m] (fun r=>r = .tt):=by
 refine SpecP.body GP QQ Tryz.func11 rfl Tryz.call11 (by show 3≤_;decide) ?_
 conv=>whnf
 cases hfb:w0g p with
 | false =>
   have hno : ¬gPg p≤20000:=by unfold w0g at hfb;simpa using hfb
   repeat' (first|((first|(intro (_:_≤9223372036854775807))|(refine CallK.pure (VP _) (by repeat' (first|exact ArgP.nil|refine ArgP.cons ?_ ?_|exact Sub.refl _|exact Sub.tt rfl|exact Sub.ff rfl)) ?_;rintro _ rfl)|(refine DrawK.auto QQ mixed (by kernel_rfl) ?_)|(refine And.intro rfl ?_)|(refine And.intro ⟨by decide,by decide⟩ ?_)|(refine And.intro ⟨rfl,rfl,by decide⟩ ?_)|(refine BsK.pure (fun x hx=>by rcases List.mem_singleton.1 hx with rfl;rfl) rfl ?_)|(refine IdxK.map (by omega) (fun _=>rfl) ?_)|(refine IdxK.xs (by omega) ?_)|(refine IdxK.ss (by omega) ?_)|(refine ByteK.at (by omega) ?_)|(refine Wr.i64 (by omega) (by omega) ?_)|(refine CallK.pure ZZ .nil ?_;rintro _ rfl));conv=>whnf)|(refine Br.dec (fun _ => ?_) (fun _ => ?_)<;>first|(exfalso;omega)|conv=>whnf)|(refine Br.dec2 (fun _ => ?_) (fun _ => ?_)<;>first|(exfalso;omega)|conv=>whnf)|(refine Br.n (fun _ => ?_) (fun _ => ?_)<;>conv=>whnf)|(refine Br.b (fun _ => ?_) (fun _ => ?_)<;>conv=>whnf))
   all_goals first
    | contradiction
    | exact ⟨_,.p (Sub.refl _),rfl⟩
    | (exfalso;simp_all;done)
 | true =>
   have hf:Fit p:=w4j hfb
   have hfit:gPg p≤20000:=by unfold w0g at hfb;simpa using hfb
   have hC:=NX p hf 60
   cases hs:x3q p 60 with
   | false =>
     rw [hs] at hC
     repeat' (first|((first|(intro (_:_≤9223372036854775807))|(refine CallK.pure (VP _) (by repeat' (first|exact ArgP.nil|refine ArgP.cons ?_ ?_|exact Sub.refl _|exact Sub.tt rfl|exact Sub.ff rfl)) ?_;rintro _ rfl)|(refine DrawK.auto QQ mixed (by kernel_rfl) ?_)|(refine And.intro rfl ?_)|(refine And.intro ⟨by decide,by decide⟩ ?_)|(refine And.intro ⟨rfl,rfl,by decide⟩ ?_)|(refine BsK.pure (fun x hx=>by rcases List.mem_singleton.1 hx with rfl;rfl) rfl ?_)|(refine IdxK.map (by omega) (fun _=>rfl) ?_)|(refine IdxK.xs (by omega) ?_)|(refine IdxK.ss (by omega) ?_)|(refine ByteK.at (by omega) ?_)|(refine Wr.i64 (by omega) (by omega) ?_)|(refine CallK.pure ZZ .nil ?_;rintro _ rfl)|(refine CallK.pure hC (.cons (Sub.refl _) (.cons (Sub.refl _) .nil)) ?_;rintro _ rfl));conv=>whnf)|(refine Br.dec (fun _ => ?_) (fun _ => ?_)<;>first|(exfalso;omega)|conv=>whnf)|(refine Br.dec2 (fun _ => ?_) (fun _ => ?_)<;>first|(exfalso;omega)|conv=>whnf)|(refine Br.n (fun _ => ?_) (fun _ => ?_)<;>conv=>whnf)|(refine Br.b (fun _ => ?_) (fun _ => ?_)<;>conv=>whnf))
     all_goals first
      | contradiction
      | exact ⟨_,.p (Sub.refl _),rfl⟩
   | true =>
     rw [hs] at hC
     have hc:=z3r hs
     have hm:=(XZ hc).1
     have hP1:=BF p n (z5r hc)
     obtain ⟨k,f,hkj,hw,_⟩:=z2z hc n
     have hPl:=JS p hf (UW p n) k f hw hkj
     have hcn:=(FE hc).2.2
     have hcf:=DY _ _ (List.mem_of_getElem? hkj)
     have hpl:=z8s f
     have hpa:=fun x hx=>w3f hm hkj (x:=x) hx
     have hPk:=q0f (z2h f) m (by omega)
     have hat:=(z8b hm hkj).1 (w3q m (l:=z2h f) (fun e=>by rw [e] at hpl;simp at hpl))
     have hT:=x8q p hf (UW p n)
     rw [q5j hw hkj] at hT
     have hTl:=x0q p k f (QV f.body+1)
     have hTa : ∀ x,x<QV f.body+1→(z0v p k f (QV f.body+1))[x]? = some (QH p k (QV f.body+2:Nat) x,(BY p k f (QH p k (QV f.body+2:Nat) x)).getD 1 0):=fun x hx=>by
      unfold z0v
      rw [List.getElem?_map,List.getElem?_range hx]
      rfl
     generalize x5o (z2h f) m=at0 at *
     generalize z0v p k f (QV f.body+1)=T at *
     generalize z2h f=P at *
     generalize UW p n=pn at *
     have hTm:(avP T).length=T.length:=by unfold avP;rw [List.length_map]
     have hPm:(P.map (AV.int .i64)).length=P.length:=List.length_map _
     repeat' (first|((first|(intro (_:_≤9223372036854775807))|(refine CallK.pure (VP _) (by repeat' (first|exact ArgP.nil|refine ArgP.cons ?_ ?_|exact Sub.refl _|exact Sub.tt rfl|exact Sub.ff rfl)) ?_;rintro _ rfl)|(refine DrawK.auto QQ mixed (by kernel_rfl) ?_)|(refine And.intro rfl ?_)|(refine And.intro ⟨by decide,by decide⟩ ?_)|(refine And.intro ⟨rfl,rfl,by decide⟩ ?_)|(refine BsK.pure (fun x hx=>by rcases List.mem_singleton.1 hx with rfl;rfl) rfl ?_)|(refine IdxK.map (by omega) (fun _=>rfl) ?_)|(refine IdxK.xs (by omega) ?_)|(refine IdxK.ss (by omega) ?_)|(refine ByteK.at (by omega) ?_)|(refine CallK.pure ZZ .nil ?_;rintro _ rfl)|(refine CallK.pure hC (.cons (Sub.refl _) (.cons (Sub.refl _) .nil)) ?_;rintro _ rfl)|(refine CallK.pure hP1 (.cons (Sub.refl _) (.cons (Sub.refl _) .nil)) ?_;rintro _ rfl)|(refine CallK.pure hPl (.cons (Sub.refl _) (.cons (Sub.refl _) .nil)) ?_;rintro _ rfl)|(refine CallK.pure hT (.cons (Sub.refl _) (.cons (Sub.refl _) .nil)) ?_;rintro _ rfl)|(refine CallK.pure hPk (.cons (Sub.refl _) (.cons (Sub.refl _) .nil)) ?_;rintro _ rfl)|(refine Wr.i64 (by omega) (by omega) ?_));conv=>whnf)|(refine Br.dec (fun _ => ?_) (fun _ => ?_)<;>first|(exfalso;omega)|conv=>whnf)|(refine Br.dec2 (fun _ => ?_) (fun _ => ?_)<;>first|(exfalso;omega)|conv=>whnf)|(refine Br.n (fun _ => ?_) (fun _ => ?_)<;>conv=>whnf)|(refine Br.b (fun _ => ?_) (fun _ => ?_)<;>conv=>whnf))
     all_goals first
      | contradiction
      | exact ⟨_,.p (Sub.refl _),rfl⟩
      | (exfalso;omega)
      | skip
     clear hP1 hPl hT hPk hC
     refine LoopK.inv QQ (fun x:Nat×Int=>⟨[(8,.p (XS P)),(9,.p (.sl (avP T))),(10,.p (.int .i64 x.2)),(11,.p (.int .i64 x.1))],[]⟩) (fun x=>x.1≤P.length∧plP p k f x.2∧(BY p k f x.2).length+x.1≤P.length) (fun x=>P.length-x.1) (0,at0) (Le.of_eq rfl) ⟨Nat.zero_le _,hat,by have:=x9z hc hkj hat;simp only;omega⟩ ?_
     rintro ⟨i,a⟩ ⟨h2,ha,h3⟩
     simp only at h2 ha h3 ⊢
     obtain ⟨r0,hr0⟩:=z4b hc hkj ha
     have hln:1≤(BY p k f a).length:=by rw [hr0];simp
     by_cases hx:a = -1
     ·subst hx
      conv=>whnf
      repeat' (first|((first|(intro (_:_≤9223372036854775807))|(refine DrawK.auto QQ mixed (by kernel_rfl) ?_)|(refine And.intro rfl ?_)|(refine And.intro ⟨by decide,by decide⟩ ?_)|(refine And.intro ⟨rfl,rfl,by decide⟩ ?_)|(refine BsK.pure (fun x hx=>by rcases List.mem_singleton.1 hx with rfl;rfl) rfl ?_)|(refine IdxK.map (by omega) (fun _=>rfl) ?_)|(refine IdxK.xs (by omega) ?_)|(refine IdxK.ss (by omega) ?_)|(refine ByteK.at (by omega) ?_)|(refine Wr.i64 (by omega) (by omega) ?_));conv=>whnf)|(refine Br.dec (fun _ => ?_) (fun _ => ?_)<;>first|(exfalso;omega)|conv=>whnf)|(refine Br.dec2 (fun _ => ?_) (fun _ => ?_)<;>first|(exfalso;omega)|conv=>whnf)|(refine Br.n (fun _ => ?_) (fun _ => ?_)<;>conv=>whnf)|(refine Br.b (fun _ => ?_) (fun _ => ?_)<;>conv=>whnf))
      all_goals first
       | contradiction
       | (exfalso;omega)
       | exact ⟨_,.p (Sub.refl _),rfl⟩
       | exact ⟨_,.p (Sub.tt' rfl),rfl⟩
       | trace_state
     ·obtain ⟨y,r,h4,h5,h6⟩:=z3i hc hkj ha hx
      have hixr:=ZY ha
      have hixe:(ixI p k f a).toNat<QV f.body+1:=by
       refine Classical.byContradiction fun hq=>hx ?_
       have:ixI p k f a=ixI p k f (-1):=by rw [q0g];omega
       exact BV ha (.inr (.inl rfl)) this
      have hpix:QH p k (QV f.body+2:Nat) ((ixI p k f a).toNat:Nat)=a:=by rw [Int.toNat_of_nonneg hixr.1];exact q8c ha
      have hpne : ∀ q:Nat,q<QV f.body+2→q≠(ixI p k f a).toNat→QH p k (QV f.body+2:Nat) q≠a:=fun q hq hne he=>by
       have:=(UM (p:=p) (j:=k) (f:=f) (i:=(q:Int)) (by omega)).2
       rw [he] at this
       omega
      have hnx:(BY p k f a).getD 1 0=y:=by rw [h4];rfl
      have hdec:(BY p k f y).length+1=(BY p k f a).length:=by rw [h4,h6];rfl
      generalize (ixI p k f a).toNat=ix at *
      conv=>whnf
      repeat' (first|((first|(intro (_:_≤9223372036854775807))|(refine DrawK.auto QQ mixed (by kernel_rfl) ?_)|(refine And.intro rfl ?_)|(refine And.intro ⟨by decide,by decide⟩ ?_)|(refine And.intro ⟨rfl,rfl,by decide⟩ ?_)|(refine BsK.pure (fun x hx=>by rcases List.mem_singleton.1 hx with rfl;rfl) rfl ?_)|(refine IdxK.map (by omega) (fun _=>rfl) ?_)|(refine IdxK.xs (by omega) ?_)|(refine IdxK.ss (by omega) ?_)|(refine ByteK.at (by omega) ?_)|(refine Wr.i64 (by omega) (by omega) ?_));conv=>whnf)|(refine Br.dec (fun _ => ?_) (fun _ => ?_)<;>first|(exfalso;omega)|conv=>whnf)|(refine Br.dec2 (fun _ => ?_) (fun _ => ?_)<;>first|(exfalso;omega)|conv=>whnf)|(refine Br.n (fun _ => ?_) (fun _ => ?_)<;>conv=>whnf)|(refine Br.b (fun _ => ?_) (fun _ => ?_)<;>conv=>whnf))
      all_goals first
       | contradiction
       | (exfalso;omega)
       | skip
      refine LoopK.inv QQ (fun x:Nat×Bool=>⟨[(8,.p (XS P)),(9,.p (.sl (avP T))),(10,.p (.int .i64 a)),(11,.p (.int .i64 i)),(12,.p (.int .i64 (nrI x.2 y))),(13,.p (.bool x.2)),(52,.p (.sl (avP T))),(53,.p (.int .i64 (avP T).length)),(54,.p (.int .i64 x.1))],[]⟩) (fun x=>x.1≤T.length∧x.2=decide (ix<x.1)) (fun x=>T.length-x.1) (0,false)
       (Le.mk [] (by simp) (by simp) (by simp) (by repeat' (first|exact .nil|refine .cons ?_ ?_|exact .refl _|exact .p (Sub.ff rfl))) .nil) ⟨Nat.zero_le _,rfl⟩ ?_
      rintro ⟨q,b⟩ ⟨h7,h8⟩
      simp only at h7 h8 ⊢
      rcases Nat.lt_or_ge q T.length with hq|hq
      ·have e1:(avP T)[q]? = some (.agg [.int .i64 (QH p k (QV f.body+2:Nat) q),.int .i64 ((BY p k f (QH p k (QV f.body+2:Nat) q)).getD 1 0)]):=by
        unfold avP
        rw [List.getElem?_map,hTa q (by omega)]
        rfl
       have e2:=w1d (hpa q (by omega))
       have hPq : ∀ h:q<P.length,P[q]=QH p k (QV f.body+2:Nat) q:=fun h=>by
        have:=hpa q (by omega)
        rw [List.getElem?_eq_getElem h] at this
        exact Option.some.inj this
       by_cases hqi:q=ix
       ·subst hqi
        rw [hpix,hnx] at e1
        rw [hpix] at e2 hPq
        have hb:b=false:=by rw [h8];simp
        subst hb
        have hnext:decide (q<q+1)=true:=by simp
        conv=>whnf
        repeat' (first|((first|(intro (_:_≤9223372036854775807))|(refine DrawK.auto QQ mixed (by kernel_rfl) ?_)|(refine And.intro rfl ?_)|(refine And.intro ⟨by decide,by decide⟩ ?_)|(refine And.intro ⟨rfl,rfl,by decide⟩ ?_)|(refine BsK.pure (fun x hx=>by rcases List.mem_singleton.1 hx with rfl;rfl) rfl ?_)|(refine IdxK.map (by omega) (fun _=>rfl) ?_)|(refine IdxK.xs (by omega) ?_)|(refine IdxK.ss (by omega) ?_)|(refine ByteK.at (by omega) ?_)|(refine Wr.i64 (by omega) (by omega) ?_)|(refine IdxK.at (k:=q) rfl e1 rfl ?_)|(refine IdxK.at (k:=q) rfl e2 rfl ?_)|(refine IdxL.mk 0 rfl (by decide) ?_)|(refine IdxL.mk 1 rfl (by decide) ?_));conv=>whnf)|(refine Br.dec (fun _ => ?_) (fun _ => ?_)<;>first|(exfalso;omega)|conv=>whnf)|(refine Br.dec2 (fun _ => ?_) (fun _ => ?_)<;>first|(exfalso;omega)|conv=>whnf)|(refine Br.n (fun _ => ?_) (fun _ => ?_)<;>conv=>whnf)|(refine Br.b (fun _ => ?_) (fun _ => ?_)<;>conv=>whnf))
        all_goals first
         | contradiction
         | exact absurd (hPq _).symm (by assumption)
         | exact ⟨(q+1,true),⟨by simp only;omega,hnext.symm⟩,by simp only;omega,Le.mk [] (by simp) (by simp) (by simp) (by repeat' (first|exact .nil|refine .cons ?_ ?_|exact .refl _|exact .p (Sub.tt rfl))) .nil⟩
         | trace_state
       ·have hne:=hpne q (by omega) hqi
        generalize QH p k (QV f.body+2:Nat) q=pq at *
        generalize (BY p k f pq).getD 1 0=nq at *
        have hnext:b=decide (ix<q+1):=by rw [h8];exact decide_eq_decide.2 (by omega)
        clear h8
        conv=>whnf
        repeat' (first|((first|(intro (_:_≤9223372036854775807))|(refine DrawK.auto QQ mixed (by kernel_rfl) ?_)|(refine And.intro rfl ?_)|(refine And.intro ⟨by decide,by decide⟩ ?_)|(refine And.intro ⟨rfl,rfl,by decide⟩ ?_)|(refine BsK.pure (fun x hx=>by rcases List.mem_singleton.1 hx with rfl;rfl) rfl ?_)|(refine IdxK.map (by omega) (fun _=>rfl) ?_)|(refine IdxK.xs (by omega) ?_)|(refine IdxK.ss (by omega) ?_)|(refine ByteK.at (by omega) ?_)|(refine Wr.i64 (by omega) (by omega) ?_)|(refine IdxK.at (k:=q) rfl e1 rfl ?_)|(refine IdxK.at (k:=q) rfl e2 rfl ?_)|(refine IdxL.mk 0 rfl (by decide) ?_)|(refine IdxL.mk 1 rfl (by decide) ?_));conv=>whnf)|(refine Br.dec (fun _ => ?_) (fun _ => ?_)<;>first|(exfalso;omega)|conv=>whnf)|(refine Br.dec2 (fun _ => ?_) (fun _ => ?_)<;>first|(exfalso;omega)|conv=>whnf)|(refine Br.n (fun _ => ?_) (fun _ => ?_)<;>conv=>whnf)|(refine Br.b (fun _ => ?_) (fun _ => ?_)<;>conv=>whnf))
        all_goals first
         | contradiction
         | exact absurd (hPq _).symm (by assumption)
         | exact ⟨(q+1,b),⟨by simp only;omega,hnext⟩,by simp only;omega,Le.of_eq rfl⟩
         | trace_state
      ·have hb:b=true:=by rw [h8];exact decide_eq_true (by omega)
       subst hb
       conv=>whnf
       repeat' (first|((first|(intro (_:_≤9223372036854775807))|(refine DrawK.auto QQ mixed (by kernel_rfl) ?_)|(refine And.intro rfl ?_)|(refine And.intro ⟨by decide,by decide⟩ ?_)|(refine And.intro ⟨rfl,rfl,by decide⟩ ?_)|(refine BsK.pure (fun x hx=>by rcases List.mem_singleton.1 hx with rfl;rfl) rfl ?_)|(refine IdxK.map (by omega) (fun _=>rfl) ?_)|(refine IdxK.xs (by omega) ?_)|(refine IdxK.ss (by omega) ?_)|(refine ByteK.at (by omega) ?_)|(refine Wr.i64 (by omega) (by omega) ?_));conv=>whnf)|(refine Br.dec (fun _ => ?_) (fun _ => ?_)<;>first|(exfalso;omega)|conv=>whnf)|(refine Br.dec2 (fun _ => ?_) (fun _ => ?_)<;>first|(exfalso;omega)|conv=>whnf)|(refine Br.n (fun _ => ?_) (fun _ => ?_)<;>conv=>whnf)|(refine Br.b (fun _ => ?_) (fun _ => ?_)<;>conv=>whnf))
       all_goals first
        | contradiction
        | exact ⟨(i+1,y),⟨by simp only;omega,h5,by simp only;omega⟩,by simp only;omega,Le.of_eq rfl⟩
        | trace_state
end Go.Ab
