/- way: the traps. -/
import Derived.Test.YtiaikoimoonlmaaGreatInoB10
import Derived.Test.YtiaikoimoonlmaaGreatInoB14
import Derived.Test.YtiaikoimoonlmaaGreatInoB15
set_option linter.unusedSimpArgs false
set_option linter.unusedVariables false
set_option maxRecDepth 100000
set_option maxHeartbeats 16000000
namespace Go.Ab
open Go.Proofs.Tryz
open Go.Proofs
theorem OpK.frz {P:Program} {T:Tab} {N:Nat} {o:Oper} {K:St->Prop} {s:St} (hT:TabOK P T) (gs:List (List Nat)) (h:v8f gs s fun s'=>opW P T N s' o K):OpK P N s o K:=⟨fun σ β a w hr Q=>by
 obtain ⟨s1,h1,hle⟩:=x1m (N:=N) h;obtain ⟨σ1,β1,hr1,hl1⟩:=hle σ β a w hr;exact Oper.wp_mono (fun a' w' ⟨σ',β',s2,hK,hr',hl⟩=>⟨σ',β',s2,hK,hr',hl1.trans hl⟩) (q4u hT h1 hr1 Q)⟩
theorem z9x {N:List (List Int)} {a:Nat} (ha:a<N.length) {b y:Int} {k:Nat}:y∈(x6q N a b).getD k []↔y∈N.getD k []∨(a=k∧y=b):=by
 unfold x6q;rw [WS ha];split
 ·rename_i h;rw [z8x,h];simp
 ·rename_i h;simp [h]
theorem w3x {n:Nat} {g:List (List Int)×List (List Int)} (hl:g.2.length=n) (e:Int×Int):(z0x n g e).2.length=n:=by
 rw [x4d];cases (WP n e.1&&WP n e.2 && !(g.1.getD e.1.toNat []).contains e.2) with
 | true=>rw [u4y];unfold x6q;rw [u6i];exact hl
 | false=>exact hl
structure MirG (n:Nat) (g:List (List Int)×List (List Int)):Prop where
 l1:g.1.length=n
 l2:g.2.length=n
 m : ∀ x y:Int,0<=x∧x<n->0<=y∧y<n->(y∈g.1.getD x.toNat []↔x∈g.2.getD y.toNat [])
theorem MirG.add {n:Nat} {g:List (List Int)×List (List Int)} (h:MirG n g) (e:Int×Int):MirG n (z0x n g e):=by
 refine ⟨z7z h.l1 e,w3x h.l2 e,fun x y hx hy => ?_⟩;rw [x0c,x4d];cases hc:(WP n e.1&&WP n e.2 && !(g.1.getD e.1.toNat []).contains e.2) with
 | true =>
   simp only [u4u] at hc;have h1:=ZN hc.1.1;have h2:=ZN hc.1.2;rw [u4y,u4y,z9x (by rw [h.l1];omega),z9x (by rw [h.l2];omega),h.m x y hx hy];constructor
   ·rintro (h3|⟨h3,h4⟩)
    ·exact .inl h3
    ·exact .inr ⟨by omega,by omega⟩
   ·rintro (h3|⟨h3,h4⟩)
    ·exact .inl h3
    ·exact .inr ⟨by omega,by omega⟩
 | false=>exact h.m x y hx hy
theorem MirG.fold {n:Nat} : ∀ (l:List (Int×Int)) {g:List (List Int)×List (List Int)},MirG n g->MirG n (l.foldl (z0x n) g)
 | [],_,h=>h
 | e::r,_,h=>MirG.fold r (h.add e)
theorem z2j (n:Nat) (l:List (Int×Int)):MirG n (XJ n l):=by
 refine MirG.fold l ⟨by simp,by simp,fun x y _ _ => ?_⟩;have : ∀ k,(List.replicate n ([]:List Int)).getD k []=[]:=fun k=>by
  rw [u3m,u4r];split<;>rfl
 simp only [this];simp
theorem z6w {n:Nat} {rows:List (List Int)} (hl:rows.length=n) {x y:Int} (h:rowE rows x y):0<=x∧x<n:=by
 refine ⟨h.1,?_⟩;have h2:=h.2;unfold x8o at h2;rcases u3r x.toNat rows.length with h3|h3
 ·omega
 ·rw [u3m,u5d h3] at h2;simp at h2
theorem w1z (n:Nat) (l:List (Int×Int)) (x y:Int):rowE (XJ n l).2 x y↔rowE (XJ n l).1 y x:=by
 obtain ⟨h1,h2⟩:=FA n l;have hm:=z2j n l;constructor
 ·intro h;have hx:=z6w hm.l2 h;have hy:=NI h2 h.2;exact ⟨hy.1,(hm.m y x hy hx).2 h.2⟩
 ·intro h;have hx:=z6w hm.l1 h;have hy:=NI h1 h.2;exact ⟨hy.1,(hm.m y x hx hy).1 h.2⟩
theorem w1w {n:Nat} {l:List (Int×Int)} {x y:Int}:rowE (XJ n l).1 x y↔(x,y)∈l∧WP n x=true∧WP n y=true:=by
 constructor
 ·intro h;have hx:=z6w (z2j n l).l1 h;have:=(MB hx).1 h.2;exact ⟨this.1,x8z hx,this.2⟩
 ·rintro ⟨h1,h2,h3⟩;have hx:=ZN h2;exact ⟨hx.1,(MB hx).2 ⟨h1,h3⟩⟩
def q6r (part:List Int) (o:List Bool) (t:Int×Int):List Bool:=if part.getD t.1.toNat 0=part.getD t.2.toNat 0 then o else o.set (part.getD t.1.toNat 0).toNat true
def x4y (n:Nat) (part:List Int):List Bool:=((List.replicate n false).set (part.getD 0 0).toNat true).set (part.getD (n-1) 0).toNat true
def q9y (n:Nat) (part:List Int) (prs:List (Int×Int)):List Bool:=prs.foldl (q6r part) (x4y n part)
def DV (plc:Int->Int) (part:List Int) (i q:Nat):List Int:=((List.range q).filter fun j=>part.getD j 0==(i:Int)).map fun (j:Nat)=>plc j
def q4s (part:List Int) (op:List Bool) (i:Nat):Bool:=part.getD i 0==(i:Int) && !op.getD i false
def q2z (plc:Int->Int) (part:List Int) (op:List Bool) (q:Nat):List (List Int):=((List.range q).filter (q4s part op)).map fun i=>DV plc part i part.length
def prsW (w:Way) (f:Pr):List (Int×Int):=w.real.map (ixP w.p w.j f w.n)
def WT (w:Way) (f:Pr):List Int:=q6t w.n.toNat (XJ w.n.toNat (prsW w f)).1
def trapsW (w:Way) (f:Pr):List (List Int):=q2z (XY w.p w.j w.n) (WT w f) (q9y w.n.toNat (WT w f) (prsW w f)) (WT w f).length
theorem z3w (part:List Int) (o:List Bool) (t:Int×Int):(q6r part o t).length=o.length:=by
 unfold q6r;split<;>simp
theorem z8t {n:Nat} {rows:List (List Int)} (hr:XT n rows) {k:Nat} (hk:k<n):0<=(q6t n rows).getD k 0∧(q6t n rows).getD k 0<n:=by
 have hx:0<=(k:Int)∧(k:Int)<n:=by omega
 have:=q6s hr hx;exact z9w hr hx this.scc.1
theorem w2p (plc:Int->Int) (part:List Int) (i q:Nat):DV plc part i (q+1)=if part.getD q 0=(i:Int) then DV plc part i q++[plc q] else DV plc part i q:=by
 unfold DV;rw [List.range_succ,u4a,u3t];by_cases h:part.getD q 0=(i:Int)
 ·rw [if_pos h,u5u (by rw [h];simp)];rfl
 ·rw [if_neg h,u5v (by simpa using h)];simp
theorem w2b (plc:Int->Int) (part:List Int) (op:List Bool) (q:Nat):q2z plc part op (q+1)=if q4s part op q=true then q2z plc part op q++[DV plc part q part.length] else q2z plc part op q:=by
 unfold q2z;rw [List.range_succ,u4a,u3t];by_cases h:q4s part op q=true
 ·rw [if_pos h,u5u h];rfl
 ·rw [if_neg h,u5v h];simp
theorem z3i (plc:Int->Int) (part:List Int) (i q:Nat):(DV plc part i q).length<=q:=by
 unfold DV;rw [u3k];exact u5r (u5c _ _) (by simp)
theorem z3e (plc:Int->Int) (part:List Int) (op:List Bool) (q:Nat):(q2z plc part op q).length<=q:=by
 unfold q2z;rw [u3k];exact u5r (u5c _ _) (by simp)
theorem z3z (part:List Int) : ∀ (l:List (Int×Int)) (o:List Bool),(l.foldl (q6r part) o).length=o.length
 | [],_=>rfl
 | t::r,o=>by rw [u6e,z3z part r,z3w]
theorem w5a (n:Nat) (part:List Int) (l:List (Int×Int)):(l.foldl (q6r part) (x4y n part)).length=n:=by
 rw [z3z];simp [x4y]
theorem x9a (w:Way) (f:Pr) (n:Nat) (hw:w.n=n) (hj:w.p.procs[w.j]? = some f) (hc:cntP w.p.procs<=1000) (hn:n<=5000) (hn2:2<=n) (hlen:w.real.length<=1000000) (hr : ∀ t∈prsW w f,(0<=t.1∧t.1<n)∧0<=t.2∧t.2<n):SpecP prog 295 [.ip w.cells] (fun r=>r=q8z (trapsW w f)):=by
 refine sB x0r func295 rfl call295 ?_;conv=>whnf
 have hgi:=FA n (prsW w f);have hpart:WT w f=q6t n (XJ n (prsW w f)).1:=by unfold WT;rw [hw];rfl
 have htr:trapsW w f=q2z (XY w.p w.j w.n) (WT w f) (q9y n (WT w f) (prsW w f)) n:=by unfold trapsW;rw [hpart,NT,hw];rfl
 have hpin : ∀ k,k<n->0<=(WT w f).getD k 0∧(WT w f).getD k 0<n:=fun k hk=>by rw [hpart];exact z8t hgi.1 hk
 have hpl:(WT w f).length=n:=by rw [hpart,NT]
 have hcp:=q6h n hn (XJ n (prsW w f)) hgi.1 hgi.2 (w1z n (prsW w f));rw [<- hpart] at hcp;rw [htr];clear htr hpart hgi;generalize WT w f=part at hpin hpl hcp ⊢;have ha0:=hpin 0 (by omega);have ha1:=hpin (n-1) (by omega);have hp0:=z2d (l:=part) (i:=0) (by omega);have hp1:=z2d (l:=part) (i:=n-1) (by omega);have e0:(List.replicate n AV.ff)[(part.getD 0 0).toNat]? = some .ff:=by rw [u4r,if_pos (by omega)]
 have e1:((List.replicate n AV.ff).set (part.getD 0 0).toNat .tt)[(part.getD (n-1) 0).toNat]? = some (bv (((List.replicate n false).set (part.getD 0 0).toNat true).getD (part.getD (n-1) 0).toNat false)):=by
  have:(List.replicate n AV.ff).set (part.getD 0 0).toNat .tt=((List.replicate n false).set (part.getD 0 0).toNat true).map bv:=by
   rw [u6k,u6t];rfl
  rw [this];exact v1r (by rw [u6i,u5m];omega)
 have hplm:(part.map (AV.int .i64)).length=n:=by rw [u3k,hpl]
 repeat' ((first|(refine iM fun _=>?_)|refine dA ?_|refine u3d rfl ?_|refine aR ?_|refine wI ?_|refine cP (x9e w f n hw hj hc hn w.real hlen) ?_|refine cP hcp ?_|refine MkK.mk n hw (by show 1*n<=140737488355328;omega) (by unfold maxLen;omega) ?_|(refine IdxK.at (k:=0) rfl hp0 rfl ?_)|(refine IdxK.at (k:=n-1) (by omega) hp1 rfl ?_)|refine u5q (part.getD 0 0).toNat (by omega) (by omega) ?_|refine u5q (part.getD (n-1) 0).toNat (by omega) (by omega) ?_|refine u6o (part.getD 0 0).toNat 0 .ff .tt (show (0+(part.getD 0 0).toNat)*1=(part.getD 0 0).toNat*1+0 by omega) e0 (u4j 1) rfl ?_|(refine CallK.pure (BP w f hj hc (by omega) w.real hlen) (.cons (Sub.refl _) (.cons (Sub.refl _) .nil)) ?_;rintro _ rfl)|(refine u6o (part.getD (n-1) 0).toNat 0 _ .tt (show (0+(part.getD (n-1) 0).toNat)*1=(part.getD (n-1) 0).toNat*1+0 by omega) e1 (u4j 1) (by cases ((List.replicate n false).set (part.getD 0 0).toNat true).getD (part.getD (n-1) 0).toNat false<;>rfl) ?_));conv=>whnf)
 have hprl:(prsW w f).length<=1000000:=by unfold prsW;rw [u3k];exact hlen
 have hpl2:(avP (prsW w f)).length=(prsW w f).length:=by simp [avP]
 refine LoopK.inv QX (fun x:Nat×List Bool=>⟨[(0,.p (.ip w.cells)),(3,.p (QR part)),(4,.hd 0 0 n),(43,.p (.sl (avP (prsW w f)))),(44,.p (.int .i64 (avP (prsW w f)).length)),(45,.p (.int .i64 x.1))],[(0,.own 4 1 (x.2.map bv))]⟩)
  (fun x=>x.1<=(prsW w f).length∧x.2=((prsW w f).take x.1).foldl (q6r part) (x4y n part)) (fun x=>(prsW w f).length-x.1) (0,x4y n part)
  (Le.mk [] (by simp) (by simp) (by simp) (.cons (.refl _) (.cons (.refl _) (.cons (.refl _) (.cons (.refl _) (.cons (.refl _) (.cons (.refl _) .nil)))))) (.cons rfl (.of_eq (by unfold x4y;rw [u6k,u6k,u6t];rfl)) .nil))
  ⟨u3l _,rfl⟩ ?_
 rintro ⟨m,o⟩ ⟨h1,h2⟩;simp only at h1 h2 ⊢;have hol:o.length=n:=by rw [h2];exact w5a n part _
 rcases u3r m (prsW w f).length with hm|hm
 ·obtain ⟨⟨h3,h4⟩,h5,h6⟩:=hr _ (u3i hm);have h7:=hpin (prsW w f)[m].1.toNat (by omega);have h8:=hpin (prsW w f)[m].2.toNat (by omega);have e2:=z2d (l:=part) (i:=(prsW w f)[m].1.toNat) (by omega);have e3:=z2d (l:=part) (i:=(prsW w f)[m].2.toNat) (by omega);have e4:=v1r (l:=o) (i:=(part.getD (prsW w f)[m].1.toNat 0).toNat) (by omega);have hme:(avP (prsW w f))[m]? = some (.agg [.int .i64 (prsW w f)[m].1,.int .i64 (prsW w f)[m].2]):=by simp [avP,hm]
  have e5:((prsW w f).take (m+1)).foldl (q6r part) (x4y n part)=q6r part o (prsW w f)[m]:=by rw [u3a hm,List.foldl_append,<- h2];rfl
  conv=>whnf
  repeat' (first|((first|refine dA ?_|refine u3d rfl ?_|refine wI ?_|(refine IdxK.at (k:=m) rfl hme rfl ?_)|refine u5q 0 rfl (by decide) ?_|refine u5q 1 rfl (by decide) ?_|(refine IdxK.at (k:=(prsW w f)[m].1.toNat) (by omega) e2 rfl ?_)|(refine IdxK.at (k:=(prsW w f)[m].2.toNat) (by omega) e3 rfl ?_)|refine u5q (part.getD (prsW w f)[m].1.toNat 0).toNat (by omega) (by omega) ?_|refine u6o (part.getD (prsW w f)[m].1.toNat 0).toNat 0 _ .tt (by omega) e4 (u4j 1) (by cases o.getD (part.getD (prsW w f)[m].1.toNat 0).toNat false<;>rfl) ?_);conv=>whnf)|(apply bD<;>intro _<;>first|omega|conv=>whnf)|(apply bE<;>intro _<;>first|omega|conv=>whnf))
  all_goals first
   | (have hq:part.getD (prsW w f)[m].1.toNat 0=part.getD (prsW w f)[m].2.toNat 0:=by assumption
      exact ⟨(m+1,o),⟨by simp only;omega,by simp only;rw [e5];unfold q6r;rw [if_pos hq]⟩,by simp only;omega,Le.of_eq rfl⟩)
   | (have hq : ¬part.getD (prsW w f)[m].1.toNat 0=part.getD (prsW w f)[m].2.toNat 0:=by assumption
      exact ⟨(m+1,o.set (part.getD (prsW w f)[m].1.toNat 0).toNat true),⟨by simp only;omega,by simp only;rw [e5];unfold q6r;rw [if_neg hq]⟩,by simp only;omega,Le.of_eq (by simp only [u6k];rfl)⟩)
 ·rw [u3o hm] at h2;have hop:q9y n part (prsW w f)=o:=h2.symm;rw [hop];clear hop h2 e0 e1 hp0 hp1 hcp;conv=>whnf
  repeat' (first|(refine iM fun _=>?_;conv=>whnf)|(apply bD<;>intro _<;>first|omega|conv=>whnf))
  refine LoopK.inv QX (fun q:Nat=>⟨[(0,.p (.ip w.cells)),(3,.p (QR part)),(4,.hd 0 0 n),(7,.hd 1 0 (q2z (XY w.p w.j w.n) part o q).length),(69,.p (.int .i64 (part.map (AV.int .i64)).length)),(70,.p (.int .i64 q))],[(0,.own 4 1 (o.map bv)),(1,.own 70 1 ((avI (q2z (XY w.p w.j w.n) part o q)).map AV.sl))]⟩)
   (fun q=>q<=n) (fun q=>n-q) 0
   (Le.mk [(1,.own 70 1 [])] (by simp [Chunk.new0];rfl) (by simp) (by simp) (.cons (.refl _) (.cons (.refl _) (.cons (.refl _) (.cons (.nil u3g) (.cons (.refl _) (.cons (.refl _) .nil)))))) (.cons rfl (.refl _) (.new u3g .nil)))
   (u3l _) ?_
  intro q hqn;have hLl:=z3e (XY w.p w.j w.n) part o q;rcases u3r q n with hq|hq
  ·have e2:=z2d (l:=part) (i:=q) (by omega);have e3:=v1r (l:=o) (i:=q) (by omega);have hsucc:=w2b (XY w.p w.j w.n) part o q;generalize q2z (XY w.p w.j w.n) part o q=acc at hLl hsucc ⊢;have hpe:part[q]=part.getD q 0:=by rw [u3m,u3h];rfl
   cases hb:o.getD q false with
   | true =>
     rw [hb] at e3;have ht : ¬q4s part o q=true:=by unfold q4s;rw [hb];simp
     rw [if_neg ht] at hsucc;conv=>whnf
     repeat' (first|((first|refine u3d rfl ?_|(refine iA fun _=>?_)|refine wI ?_|refine u5q q rfl (by omega) ?_|refine u5y q 0 .tt (by omega) e3 ?_);conv=>whnf)|(apply bD<;>intro _<;>first|omega|conv=>whnf)|(apply bE<;>intro _<;>first|omega|conv=>whnf))
     all_goals exact ⟨q+1,hq,by omega,Le.of_eq (by rw [hsucc];rfl)⟩
   | false =>
     rw [hb] at e3;conv=>whnf
     repeat' (first|((first|(refine iM fun _=>?_)|refine u3d rfl ?_|(refine iA fun _=>?_)|refine wI ?_|refine u5q q rfl (by omega) ?_|refine u5y q 0 .ff (by omega) e3 ?_);conv=>whnf)|(apply bD<;>intro _<;>first|omega|conv=>whnf)|(apply bE<;>intro _<;>first|omega|conv=>whnf))
     all_goals try
      have hne : ¬part.getD q 0=(q:Int):=by omega
      have ht : ¬q4s part o q=true:=fun h=>by
       unfold q4s at h;rw [u4u,u6m] at h;exact hne h.1
      rw [if_neg ht] at hsucc;exact ⟨q+1,hq,by omega,Le.of_eq (by rw [hsucc];rfl)⟩
     have hpq:part.getD q 0=(q:Int):=by omega
     have ht:q4s part o q=true:=by unfold q4s;rw [hb,hpq];simp
     rw [if_pos ht,hpl] at hsucc;refine LoopK.inv QX (fun z:Nat=>⟨[(0,.p (.ip w.cells)),(3,.p (QR part)),(4,.hd 0 0 n),(7,.hd 1 0 acc.length),(8,.p (.int .i64 q)),(9,.hd 2 0 (DV (XY w.p w.j w.n) part q z).length),(69,.p (.int .i64 (part.map (AV.int .i64)).length)),(70,.p (.int .i64 q)),(86,.p (.int .i64 (part.map (AV.int .i64)).length)),(87,.p (.int .i64 z))],[(0,.own 4 1 (o.map bv)),(1,.own 70 1 ((avI acc).map AV.sl)),(2,.own 3 1 ((DV (XY w.p w.j w.n) part q z).map (.int .i64)))]⟩)
      (fun z=>z<=n) (fun z=>n-z) 0
      (Le.mk [(2,.own 3 1 [])] (by simp [Chunk.new0];rfl) (by simp) (by simp) (.cons (.refl _) (.cons (.refl _) (.cons (.refl _) (.cons (.refl _) (.cons (.refl _) (.cons (.nil u3g) (.cons (.refl _) (.cons (.refl _) (.cons (.refl _) (.cons (.refl _) .nil)))))))))) (.cons rfl (.refl _) (.cons rfl (.refl _) (.new u3g .nil))))
      (u3l _) ?_
     intro z hzn;have hRl:=z3i (XY w.p w.j w.n) part q z;rcases u3r z n with hz|hz
     ·have e4:=z2d (l:=part) (i:=z) (by omega);have hs2:=w2p (XY w.p w.j w.n) part q z;generalize DV (XY w.p w.j w.n) part q z=l at hRl hs2 ⊢;conv=>whnf
      repeat' (first|((first|refine u3d rfl ?_|refine aD ?_|refine bP ?_|(refine iA fun _=>?_)|refine wI ?_|(refine CallK.pure (q4o w f hj hc (by omega) z (by omega)) (.cons (Sub.refl _) (.cons (Sub.refl _) .nil)) ?_;rintro _ rfl)|refine ZZ (by simp) (by simp;omega) ?_);conv=>whnf)|(apply bD<;>intro _<;>first|omega|conv=>whnf))
      have hpz:part[z]=part.getD z 0:=by rw [u3m,u3h];rfl
      ·rw [if_pos (by omega)] at hs2;exact ⟨z+1,hz,by omega,Le.of_eq (by rw [hs2,u3f,u3t];rfl)⟩
      ·have hpz:part[z]=part.getD z 0:=by rw [u3m,u3h];rfl
       rw [if_neg (by omega)] at hs2;exact ⟨z+1,hz,by omega,Le.of_eq (by rw [hs2];rfl)⟩
     ·have hze:z=n:=by omega
      subst hze;conv=>whnf
      repeat' (apply bD<;>intro _<;>first|omega|conv=>whnf)
      have hfl:(DV (XY w.p w.j w.n) part q z).length=((DV (XY w.p w.j w.n) part q z).map (AV.int .i64)).length:=by simp
      refine OpK.frz QX [[9,104]] ?_;conv=>whnf
      refine LenK.mk hfl ?_;conv=>whnf
      refine LenK.mk hfl ?_;conv=>whnf
      repeat' ((first|refine u3d rfl ?_|refine aD ?_|refine bP ?_|refine wI ?_|refine u6q (by simp [avI]) rfl (by show (acc.length+1)*24<=140737488355328;omega) (by show acc.length+1<=9223372036854775807;omega) (fun x hx=>by rcases u3b.1 hx with rfl;exact ⟨rfl,rfl⟩) ?_);conv=>whnf)
      exact ⟨q+1,hq,by omega,Le.of_eq (by rw [hsucc];simp only [avI,u3f,u3t];rfl)⟩
  ·have hqe:q=n:=by omega
   subst hqe;conv=>whnf
   repeat' (apply bD<;>intro _<;>first|omega|conv=>whnf)
   exact ⟨_,.hd rfl (by simp [avI]),rfl⟩
def vOf (p:Pg) (id:Int):List Step:=match v2b p id with
 | some s=>if s.kind=10 then [⟨id,-1,3⟩] else []
 | none=>[]
def UN (w:Way) (f:Pr):List Step:=(trapsW w f).flatMap fun l=>l.flatMap (vOf w.p)
theorem v5b (p:Pg) (id:Int):(vOf p id).length<=1:=by
 unfold vOf;split
 ·split<;>simp
 ·simp
theorem WF {α β:Type} {g:α->List β} {c:Nat} : ∀ (l:List α),(∀ x∈l,(g x).length<=c)->(l.flatMap g).length<=l.length*c
 | [],_=>by simp
 | a::r,h=>by
   have h1:=h a u3g;have h2:=WF r fun x hx=>h x (u3n _ hx);rw [u5b,u3f,u4t,u6j];omega
theorem z6i (w:Way) (f:Pr) (n:Nat) (hw:w.n=n) (hj:w.p.procs[w.j]? = some f) (hc:cntP w.p.procs<=1000) (hn:n<=5000) (hn2:2<=n) (hlen:w.real.length<=1000000) (hr : ∀ t∈prsW w f,(0<=t.1∧t.1<n)∧0<=t.2∧t.2<n)
  (htl:(trapsW w f).length<=5000) (hti : ∀ l∈trapsW w f,l.length<=5000 ∧ ∀ id∈l,1<=id∧id<=(sheetOf w.p).l.length) :
  SpecH prog 232 [.p (.ip w.cells)] [] (fun r H=>r = .hd 0 0 (UN w f).length∧H=[(0,.own 139 3 (avS (UN w f)))]):=by
 refine sH q5t func232 rfl call232 ?_;conv=>whnf
 repeat' ((first|(refine iM fun _=>?_)|refine cP (x9a w f n hw hj hc hn hn2 hlen hr) ?_);conv=>whnf)
 unfold UN;generalize trapsW w f=ts at htl hti ⊢;have hml:((avI ts).map AV.sl).length=ts.length:=by simp [avI]
 refine LoopK.inv QX (fun x:Nat×List Step=>⟨[(0,.p (.ip w.cells)),(3,.hd 0 0 x.2.length),(9,.p (q8z ts)),(10,.p (.int .i64 ((avI ts).map AV.sl).length)),(11,.p (.int .i64 x.1))],[(0,.own 139 3 (avS x.2))]⟩)
  (fun x=>x.1<=ts.length∧x.2.length<=x.1*5000∧x.2++(ts.drop x.1).flatMap (fun l=>l.flatMap (vOf w.p))=ts.flatMap fun l=>l.flatMap (vOf w.p)) (fun x=>ts.length-x.1) (0,[])
  (Le.mk [(0,.own 139 3 [])] (by simp [Chunk.new0];rfl) (by simp) (by simp) (.cons (.refl _) (.cons (.nil u3g) (.cons (.refl _) (.cons (.refl _) (.cons (.refl _) .nil))))) (.new u3g .nil))
  ⟨u3l _,by simp,rfl⟩ ?_
 rintro ⟨m,acc⟩ ⟨h1,h2,h3⟩;simp only at h1 h2 h3 ⊢;rcases u3r m ts.length with hm|hm;rotate_left 1
 ·rw [u4z hm,List.flatMap_nil,u4e] at h3;conv=>whnf
  repeat' (apply bD<;>intro _<;>first|omega|conv=>whnf)
  exact ⟨_,u4v _,by rw [h3],by rw [h3]⟩
 obtain ⟨hl1,hl2⟩:=hti _ (u3i hm);have hrow:((avI ts).map AV.sl)[m]? = some (.sl (ts[m].map (.int .i64))):=by simp [avI,hm]
 rw [JF hm] at h3;conv=>whnf
 repeat' (first|((first|(refine iM fun _=>?_)|(refine iA fun _=>?_));conv=>whnf)|(apply bD<;>intro _<;>first|omega|conv=>whnf))
 have hav:(avI ts)[m]'(by simp [avI];exact hm)=ts[m].map (.int .i64):=by simp [avI]
 rw [hav];generalize ts[m]=l at hl1 hl2 h3 ⊢;have hll:(l.map (AV.int .i64)).length=l.length:=u3k _;generalize htot:(ts.flatMap fun l=>l.flatMap (vOf w.p))=tot at h3 ⊢;refine LoopK.inv QX (fun x:Nat×List Step=>⟨[(0,.p (.ip w.cells)),(3,.hd 0 0 x.2.length),(9,.p (q8z ts)),(10,.p (.int .i64 ((avI ts).map AV.sl).length)),(11,.p (.int .i64 m)),(15,.p (QR l)),(16,.p (.int .i64 (l.map (AV.int .i64)).length)),(17,.p (.int .i64 x.1))],[(0,.own 139 3 (avS x.2))]⟩)
  (fun x=>x.1<=l.length∧x.2.length<=m*5000+x.1∧x.2++((l.drop x.1).flatMap (vOf w.p)++(ts.drop (m+1)).flatMap (fun l=>l.flatMap (vOf w.p)))=tot) (fun x=>l.length-x.1) (0,acc) (Le.of_eq rfl) ⟨u3l _,by simp only;omega,h3⟩ ?_
 rintro ⟨k,acc2⟩ ⟨h4,h5,h6⟩;simp only at h4 h5 h6 ⊢;rcases u3r k l.length with hk|hk;rotate_left 1
 ·rw [u4z hk] at h6;conv=>whnf
  repeat' (first|(refine wI ?_;conv=>whnf)|(apply bD<;>intro _<;>first|omega|conv=>whnf))
  exact ⟨(m+1,acc2),⟨hm,by simp only;omega,by simpa using h6⟩,by simp only;omega,Le.of_eq rfl⟩
 obtain ⟨h7,h8⟩:=hl2 _ (u3i hk);obtain ⟨_,_,_,hsl,_⟩:=QJ w.p;have hlt:(l[k]-1).toNat<(sheetOf w.p).l.length:=by omega
 have hu : ∃ u:Item,((sheetOf w.p).l.map fun i=>AV.agg i.cells)[(l[k]-1).toNat]? = some (.agg u.cells)∧v2b w.p l[k]=some u.s:=⟨_,by rw [u4q,u3h hlt];rfl,by unfold v2b;rw [u3h hlt];rfl⟩;obtain ⟨u,hu1,hu2⟩:=hu;rw [JF hk] at h6;have hv:vOf w.p l[k]=if u.s.kind=10 then [⟨l[k],-1,3⟩] else []:=by unfold vOf;rw [hu2]
 rw [hv] at h6;conv=>whnf
 repeat' (first|((first|refine u3d rfl ?_|refine aD ?_|refine bP ?_|(refine iA fun _=>?_)|refine wI ?_|(refine IdxK.at (by omega) hu1 rfl ?_)|refine u6q (by simp [avS]) rfl (by show (acc2.length+1)*24<=140737488355328;omega) (by show acc2.length+1<=9223372036854775807;omega) (fun x hx=>by rcases u3b.1 hx with rfl;exact ⟨rfl,rfl⟩) ?_);conv=>whnf)|(apply bD<;>intro _<;>first|omega|conv=>whnf))
 ·rw [if_pos (by assumption)] at h6;exact ⟨(k+1,acc2++[⟨l[k],-1,3⟩]),⟨hk,by simp;omega,by simpa using h6⟩,by simp only;omega,Le.of_eq (by simp only [avS,u3f,u3t];rfl)⟩
 ·rw [if_neg (by assumption)] at h6;exact ⟨(k+1,acc2),⟨hk,by simp only;omega,by simpa using h6⟩,by simp only;omega,Le.of_eq rfl⟩
def fOf (it:Item):List Step:=if it.s.kind=7∨it.s.kind=8∨it.s.kind=9∨it.s.kind=10 then [⟨it.s.id,it.next,2⟩] else []
structure WayT (w:Way) (f:Pr) (n:Nat):Prop where
 hw:w.n=n
 hj:w.p.procs[w.j]? = some f
 hc:cntP w.p.procs<=1000
 hn:n<=5000
 hn2:2<=n
 hlen:w.real.length<=1000000
 hr : ∀ t∈prsW w f,(0<=t.1∧t.1<n)∧0<=t.2∧t.2<n
 htl:(trapsW w f).length<=5000
 hti : ∀ l∈trapsW w f,l.length<=5000 ∧ ∀ id∈l,1<=id∧id<=(sheetOf w.p).l.length
 hok : ∀ s∈w.real,okSt s
 hfk : ∀ it∈itsOf w.p w.j f,∀ s∈fOf it,okSt s
theorem v5p {p:Pg} {id:Int} {s:Step} (h:s∈vOf p id):s=⟨id,-1,3⟩:=by
 unfold vOf at h;split at h
 ·split at h
  ·simpa using h
  ·simp at h
 ·simp at h
theorem WayT.virt_ok {w:Way} {f:Pr} {n:Nat} (h:WayT w f n) : ∀ s∈UN w f,okSt s:=fun s hs=>by
 unfold UN at hs;obtain ⟨l,hl,hs⟩:=u4o.1 hs;obtain ⟨id,hid,hs⟩:=u4o.1 hs;obtain ⟨_,_,_,hsl,_⟩:=QJ w.p;have h1:=(h.hti l hl).2 id hid;have h2:=h.hc;rw [v5p hs];exact ⟨by show id≠_;omega,by show (-1:Int)≠_;decide⟩
theorem WayT.virt_len {w:Way} {f:Pr} {n:Nat} (h:WayT w f n):(UN w f).length<=25000000:=by
 have h1:=WF (g:=fun l=>l.flatMap (vOf w.p)) (c:=5000) (trapsW w f) fun l hl=>by
  have h2:=WF (g:=vOf w.p) (c:=1) l fun id _=>v5b w.p id;have h3:=(h.hti l hl).1;omega
 have h2:=h.htl;unfold UN;omega
def GU (w:Way) (f:Pr):List Step:=WZ (UN w f++w.real)
def x4m (w:Way) (f:Pr):List Step:=UN w f++w.real++[⟨0,-1,2⟩]++(itsOf w.p w.j f).flatMap fOf
def u2z (w:Way) (f:Pr):List Step:=WZ (x4m w f)
theorem z4z (w:Way) (f:Pr) (n:Nat) (h:WayT w f n):SpecP prog 157 [.ip w.cells] (fun r=>r=QL (GU w f)):=by
 refine sB x3t func157 rfl call157 ?_;conv=>whnf
 have hlen:=h.hlen;have hvl:=h.virt_len;have hvok:=h.virt_ok;repeat' (first|((first|refine dA ?_|refine aD ?_);conv=>whnf)|(refine CallK.heap [] 0 (u4w (u4v _) u4s) u4c (z6i w f n h.hw h.hj h.hc h.hn h.hn2 h.hlen h.hr h.htl h.hti) rfl rfl ?_;rintro l' H' ⟨rfl,rfl⟩;conv=>whnf))
 have hml:(w.real.map fun s=>AV.agg s.cells).length=w.real.length:=u3k _;have hvm:(avS (UN w f)).length=(UN w f).length:=by simp [avS]
 refine u6q hvm.symm rfl (by rw [hml];show ((UN w f).length+w.real.length)*24<=140737488355328;omega) (by rw [hml];show (UN w f).length+w.real.length<=9223372036854775807;omega) (fun x hx=>by obtain ⟨s,_,rfl⟩:=u3s.1 hx;exact ⟨rfl,rfl⟩) ?_;conv=>whnf
 have happ:avS (UN w f)++(w.real.map fun s=>AV.agg s.cells)=avS (UN w f++w.real):=by simp [avS]
 have hlp:(UN w f).length+(w.real.map fun s=>AV.agg s.cells).length=(UN w f++w.real).length:=by simp
 rw [happ,hlp];repeat' (refine CallK.heap [(1000,0)] 0 (by repeat' (first|exact u4s|refine u4w ?_ ?_|exact u4v _|exact u4p Sub.nils|exact u4p (Sub.tt rfl)|exact u4p (Sub.ff rfl)|exact u4p (Sub.int (by omega)))) (by refine u4x (j:=0) rfl rfl ?_ ?_;exact CSub.refl _;exact u4c) (z1r (UN w f++w.real) (fun s hs=>(u3p.1 hs).elim (hvok s) (h.hok s)) (by rw [u3f];omega)) rfl rfl ?_;rintro l' H' ⟨rfl,rfl⟩;conv=>whnf)
 exact ⟨_,.hd rfl (by simp [avS]),rfl⟩
theorem JR : ∀ (k:Nat) (x:X) (_:wX x<k) (_:k<=20002),SpecP prog 229 [.agg x.cells] (fun r=>r = .agg x.cells):=by
 intro k;induction k with
 | zero=>intro x h;omega
 | succ k ih =>
   intro x hx hk;have hxe:wX x=1+wXs x.kids:=by cases x;rw [wX];rfl
   have hkl:=X.avs_len x.kids;have hkn:=w7i x.kids;refine sB DN func229 rfl call229 ?_;conv=>whnf
   repeat' ((first|(refine iM fun _=>?_)|refine u3d rfl ?_);conv=>whnf)
   all_goals
    refine LoopK.inv QX (fun j:Nat=>⟨[(1,.p (.ip x.cells)),(2,.ptr 1 0),(3,.ptr 0 0),(14,.p (.int .i64 (X.avs x.kids).length)),(15,.p (.int .i64 j))],[(0,.obj 36 [.p (.int .i64 x.op),.p (.int .i64 x.n),.p (.str (x.name)),.hd 2 0 j]),(1,.obj 36 [.p (.int .i64 0),.p (.int .i64 0),.p (.str []),.p .nils]),(2,.own 36 4 (X.avs (x.kids.take j)))]⟩) (fun j=>j<=x.kids.length) (fun j=>x.kids.length-j) 0
     (Le.mk [(2,.own 36 4 [])] (by simp [Chunk.new0];rfl) (by simp) (by simp) (.cons (.refl _) (.cons (.refl _) (.cons (.refl _) (.cons (.refl _) (.cons (.refl _) .nil))))) (.cons rfl (.obj (.cons (.refl _) (.cons (.refl _) (.cons (.refl _) (.cons (.nil u3g) .nil))))) (.cons rfl (.refl _) (.new u3g .nil)))) (u3l _) ?_
    intro j h2;rcases u3r j x.kids.length with hj|hj
    ·have hkw:=v2e (u3i hj);have hih:=ih x.kids[j] (by omega) (by omega);have htk:X.avs (x.kids.take (j+1))=X.avs (x.kids.take j)++[.agg (x.kids[j]).cells]:=by
      rw [X.avs_eq,X.avs_eq,u3a hj,u3t];rfl
     have hal:(X.avs (x.kids.take j)).length=j:=by rw [X.avs_len,u4k];omega
     generalize X.avs (x.kids.take j)=acc at htk hal ⊢;conv=>whnf
     repeat' (first|((first|refine dA ?_|refine u3d rfl ?_|refine aD ?_|refine bP ?_|refine IdxK.xs (by omega) ?_|refine wI ?_|refine cP hih ?_|refine u6q hal.symm rfl (by show (j+1)*56<=140737488355328;omega) (by show j+1<=9223372036854775807;omega) (fun x hx=>by rcases u3b.1 hx with rfl;exact ⟨rfl,rfl⟩) ?_);conv=>whnf)|(apply bD<;>intro _<;>first|omega|conv=>whnf)|(refine u3d ?_ ?_<;>conv=>whnf))
     all_goals exact ⟨j+1,hj,by omega,Le.of_eq (by rw [htk];rfl)⟩
    ·have hall:X.avs (x.kids.take j)=X.avs x.kids:=by rw [u3o hj]
     have hal:(X.avs (x.kids.take j)).length=j:=by rw [X.avs_len,u4k];omega
     conv=>whnf
     repeat' (first|(refine u3d rfl ?_;conv=>whnf)|(apply bD<;>intro _<;>first|omega|conv=>whnf))
     refine ⟨_,.agg (cs:=x.cells) rfl fun i l c h1 h3 => ?_,rfl⟩
     match i,h1,h3 with
     | 0,h1,h3=>cases h1;cases h3;exact .p (Sub.refl _)
     | 1,h1,h3=>cases h1;cases h3;exact .p (Sub.refl _)
     | 2,h1,h3=>cases h1;cases h3;exact .p (Sub.refl _)
     | 3,h1,h3 =>
       cases h1;cases h3;show Frz _ _ (.sl (X.avs x.kids));rw [<- hall];exact .hd rfl hal.symm
     | i+4,h1,h3=>simp at h1
def u1a (s:S):S := .mk s.id s.kind s.labels s.name s.proc s.x s.has s.args [] []
theorem KH (s:S) (hx:wX s.x<=20000) (hl:s.labels.length<=1000000) (ha:s.args.length<=1000000) (hax : ∀ a∈s.args,wX a.x<=20000):SpecP prog 150 [.agg s.cells] (fun r=>r = .agg (u1a s).cells):=by
 refine sB PK func150 rfl call150 ?_;conv=>whnf
 have hal:(s.args.map fun a=>AV.agg a.cells).length=s.args.length:=u3k _;have hC:=JR 20001 s.x (by omega) (by omega);repeat' (first|((first|(refine iM fun _=>?_)|refine dA ?_|refine u3d rfl ?_|refine cP hC ?_|refine cP (WI s.labels hl) ?_);conv=>whnf)|(refine u3d ?_ ?_<;>conv=>whnf))
 all_goals
  refine LoopK.inv QX (fun j:Nat=>⟨[(2,.ptr 1 0),(3,.ptr 0 0),(24,.p (w3t s.args)),(25,.p (.int .i64 (s.args.map fun a=>AV.agg a.cells).length)),(26,.p (.int .i64 j))],[(0,.obj 40 [.p (.int .i64 s.id),.p (.int .i64 s.kind),.p (eStrs s.labels),.p (.str s.name),.p (.str s.proc),.p (.int .i64 s.x.op),.p (.int .i64 s.x.n),.p (.str s.x.name),.p (.sl (X.avs s.x.kids)),.p (.bool s.has),.hd 2 0 j,.p .nils,.p .nils]),(1,.obj 40 [.p (.int .i64 0),.p (.int .i64 0),.p .nils,.p (.str []),.p (.str []),.p (.int .i64 0),.p (.int .i64 0),.p (.str []),.p .nils,.p .ff,.p .nils,.p .nils,.p .nils]),(2,.own 126 6 ((s.args.take j).map fun a => .agg a.cells))]⟩) (fun j=>j<=s.args.length) (fun j=>s.args.length-j) 0
   (Le.mk [(2,.own 126 6 [])] (by simp [Chunk.new0];rfl) (by simp) (by simp) (.cons (.refl _) (.cons (.refl _) (.cons (.refl _) (.cons (.refl _) (.cons (.refl _) .nil))))) (.cons rfl (.obj (.cons (.refl _) (.cons (.refl _) (.cons (.refl _) (.cons (.refl _) (.cons (.refl _) (.cons (.refl _) (.cons (.refl _) (.cons (.refl _) (.cons (.refl _) (.cons (.refl _) (.cons (.nil u3g) (.cons (.refl _) (.cons (.refl _) .nil)))))))))))))) (.cons rfl (.refl _) (.new u3g .nil)))) (u3l _) ?_
  intro j h2;rcases u3r j s.args.length with hj|hj
  ·have hax1:=hax _ (u3i hj);have hD:=JR 20001 s.args[j].x (by omega) (by omega);have htk:((s.args.take (j+1)).map fun a=>AV.agg a.cells)=((s.args.take j).map fun a=>AV.agg a.cells)++[.agg s.args[j].cells]:=by
    rw [u3a hj,u3t];rfl
   have hcl:((s.args.take j).map fun a=>AV.agg a.cells).length=j:=by rw [u3k,u4k];omega
   generalize ((s.args.take j).map fun a=>AV.agg a.cells)=acc at htk hcl ⊢;conv=>whnf
   repeat' (first|((first|refine dA ?_|refine u3d rfl ?_|refine aD ?_|refine bP ?_|(refine iA fun _=>?_)|refine wI ?_|refine cP hD ?_|refine u6q hcl.symm rfl (by show (j+1)*80<=140737488355328;omega) (by show j+1<=9223372036854775807;omega) (fun x hx=>by rcases u3b.1 hx with rfl;exact ⟨rfl,rfl⟩) ?_);conv=>whnf)|(apply bD<;>intro _<;>first|omega|conv=>whnf)|(refine u3d ?_ ?_<;>conv=>whnf))
   all_goals exact ⟨j+1,hj,by omega,Le.of_eq (by rw [htk];rfl)⟩
  ·have hall:((s.args.take j).map fun a=>AV.agg a.cells)=s.args.map fun a => .agg a.cells:=by rw [u3o hj]
   have hcl:((s.args.take j).map fun a=>AV.agg a.cells).length=j:=by rw [u3k,u4k];omega
   conv=>whnf
   repeat' (first|(refine u3d rfl ?_;conv=>whnf)|(apply bD<;>intro _<;>first|omega|conv=>whnf))
   refine ⟨_,.agg (cs:=(u1a s).cells) rfl fun i l c h1 h3 => ?_,rfl⟩
   match i,h1,h3 with
   | 0,h1,h3=>cases h1;cases h3;exact .p (Sub.refl _)
   | 1,h1,h3=>cases h1;cases h3;exact .p (Sub.refl _)
   | 2,h1,h3=>cases h1;cases h3;exact .p (Sub.refl _)
   | 3,h1,h3=>cases h1;cases h3;exact .p (Sub.refl _)
   | 4,h1,h3=>cases h1;cases h3;exact .p (Sub.refl _)
   | 5,h1,h3=>cases h1;cases h3;exact .p (Sub.refl _)
   | 6,h1,h3=>cases h1;cases h3;exact .p (Sub.refl _)
   | 7,h1,h3=>cases h1;cases h3;exact .p (Sub.refl _)
   | 8,h1,h3=>cases h1;cases h3;exact .p (Sub.refl _)
   | 9,h1,h3=>cases h1;cases h3;exact .p (Sub.refl _)
   | 10,h1,h3 =>
     cases h1;cases h3;show Frz _ _ (.sl (s.args.map fun a => .agg a.cells));rw [<- hall];exact .hd rfl hcl.symm
   | 11,h1,h3=>cases h1;cases h3;exact .p Sub.nils
   | 12,h1,h3=>cases h1;cases h3;exact .p Sub.nils
   | i+13,h1,h3=>simp at h1
mutual
def nmS (n:Nat):S->S
 | .mk _ kind labels name proc x has args thn els => .mk ((n+1:Nat):Int) kind labels name proc x has args (nmL (n+1) thn) (nmL (n+1+cntL thn) els)
def nmL (n:Nat):List S->List S
 | []=>[]
 | t::r=>nmS n t::nmL (n+ZA t) r
end
theorem v7b (n:Nat) (t:S):nmS n t = .mk ((n+1:Nat):Int) t.kind t.labels t.name t.proc t.x t.has t.args (nmL (n+1) t.thn) (nmL (n+1+cntL t.thn) t.els):=by
 cases t;rw [nmS];rfl
theorem x8b (n:Nat) : ∀ l:List S,(nmL n l).length=l.length
 | []=>by rw [nmL]
 | t::r=>by rw [nmL,u4t,u4t,x8b _ r]
theorem w5p : ∀ (l:List S) (n j:Nat) (h:j<l.length),(nmL n l)[j]? = some (nmS (n+cntL (l.take j)) l[j])
 | t::r,n,0,h=>by rw [nmL];simp [cntL]
 | t::r,n,j+1,h=>by
   rw [nmL,u9q,w5p r (n+ZA t) j (by simpa using h),u8o,cntL,u6g];rfl
theorem z1h : ∀ (l:List S) (j:Nat) (h:j<l.length),cntL (l.take (j+1))=cntL (l.take j)+ZA l[j]
 | t::r,0,h=>by simp [cntL]
 | t::r,j+1,h=>by
   rw [u8o,u8o,cntL,cntL,z1h r j (by simpa using h),u6g];rfl
theorem x7n : ∀ l:List S,l.length<=cntL l
 | []=>by simp
 | t::r=>by
   rw [cntL,u4t];have:=x7n r;have:1<=ZA t:=by cases t;rw [ZA];omega
   omega
def okC (t:S):Prop:=wX t.x<=20000∧t.labels.length<=1000000∧t.args.length<=1000000 ∧ ∀ a∈t.args,wX a.x<=20000
theorem x7m : ∀ {l:List S} {t:S},t∈l->ZA t<=cntL l
 | a::r,t,h=>by
   rw [cntL];rcases u3c.1 h with rfl|h
   ·omega
   ·have:=x7m h;omega
theorem MV : ∀ (k:Nat) (l:List S) (_:cntL l<k) (n:Nat) (_:n+cntL l<=1000000) (_ : ∀ t∈flL l,okC t),SpecP prog 151 [eSs l,.int .i64 (n:Nat)] (fun r=>r = .tup [eSs (nmL n l),.int .i64 (n+cntL l:Nat)]):=by
 intro k;induction k with
 | zero=>intro l h;omega
 | succ k ih =>
   intro l hk n hn hok;have hsl:(S.avs l).length=l.length:=by rw [S.avs_eq,u3k]
   have hcl:=x7n l;refine sB DM func151 rfl call151 ?_;conv=>whnf
   repeat' (refine iM fun _=>?_;conv=>whnf)
   refine LoopK.inv QX (fun j:Nat=>⟨[(1,.p (.int .i64 (n+cntL (l.take j):Nat))),(6,.hd 0 0 j),(10,.p (eSs l)),(11,.p (.int .i64 (S.avs l).length)),(12,.p (.int .i64 j))],[(0,.own 40 13 (S.avs ((nmL n l).take j)))]⟩) (fun j=>j<=l.length) (fun j=>l.length-j) 0
    (Le.mk [(0,.own 40 13 [])] (by simp [Chunk.new0];rfl) (by simp) (by simp) (.cons (.of_eq (by simp [cntL];rfl)) (.cons (.nil u3g) (.cons (.refl _) (.cons (.refl _) (.cons (.refl _) .nil))))) (.new u3g .nil)) (u3l _) ?_
   intro j h2;rcases u3r j l.length with hj|hj
   ·have htk:=z1h l j hj;have htm:=x7m (u3i hj);have hcs:=WK l[j];have hget:=w5p l n j hj;have hlb:cntL (l.take (j+1))<=cntL l:=by
     conv=>rhs;rw [<- u8m (j+1) l]
     have : ∀ a b:List S,cntL (a++b)=cntL a+cntL b:=fun a b=>by
      induction a with
      | nil=>simp [cntL]
      | cons x r ih=>rw [u7i,cntL,cntL,ih,u6g]
     rw [this];omega
    have hself:=hok _ (q3d l _ (u3i hj));have hsub : ∀ t,t∈flL l[j].thn∨t∈flL l[j].els->okC t:=fun t ht=>hok t (by
     have:t∈flS l[j]:=by
      rw [z7n];exact u3n _ (u3p.2 ht)
     have key : ∀ (m:List S) (i:Nat) (h:i<m.length),t∈flS m[i]->t∈flL m:=fun m=>by
      induction m with
      | nil=>intro i h;simp at h
      | cons a r ih =>
        intro i h ht;rw [flL];cases i with
        | zero=>exact u3p.2 (.inl ht)
        | succ i=>exact u3p.2 (.inr (ih i (by simpa using h) ht))
     exact key l j hj this)
    have h5:=KH l[j] hself.1 hself.2.1 hself.2.2.1 hself.2.2.2;have h6:=ih l[j].thn (by omega) (n+cntL (l.take j)+1) (by omega) fun t ht=>hsub t (.inl ht);have h7:=ih l[j].els (by omega) (n+cntL (l.take j)+1+cntL l[j].thn) (by omega) fun t ht=>hsub t (.inr ht);have hacl:j=(S.avs ((nmL n l).take j)).length:=by rw [S.avs_eq,u3k,u4k,x8b];omega
    have hav:S.avs ((nmL n l).take (j+1))=S.avs ((nmL n l).take j)++[.agg (nmS (n+cntL (l.take j)) l[j]).cells]:=by
     rw [S.avs_eq,S.avs_eq,List.take_add_one,hget,u3t];rfl
    conv=>whnf
    repeat' (first|((first|refine u3d rfl ?_|refine aD ?_|refine bP ?_|refine GZ (by omega) ?_|refine wI ?_|refine cP h5 ?_|(refine CallK.pure h6 (.cons (Sub.refl _) (.cons (Sub.int (by omega)) .nil)) ?_;rintro _ rfl)|(refine CallK.pure h7 (.cons (Sub.refl _) (.cons (Sub.int (by omega)) .nil)) ?_;rintro _ rfl)|refine u6q hacl rfl (by show (j+1)*208<=140737488355328;omega) (by show j+1<=9223372036854775807;omega) (fun x hx=>by rcases u3b.1 hx with rfl;exact ⟨rfl,rfl⟩) ?_);conv=>whnf)|(apply bD<;>intro _<;>first|omega|conv=>whnf))
    exact ⟨j+1,hj,by omega,Le.mk [] (by simp) (by simp) (by simp) (.cons (.of_eq (by rw [htk,hcs,show n+(cntL (l.take j)+(1+cntL l[j].thn+cntL l[j].els))=n+cntL (l.take j)+1+cntL l[j].thn+cntL l[j].els by omega];rfl)) (.cons (.refl _) (.cons (.refl _) (.cons (.refl _) (.cons (.refl _) .nil))))) (.cons rfl (.of_eq (by rw [hav,v7b];rfl)) .nil)⟩
   ·have hall:(nmL n l).take j=nmL n l:=u3o (by rw [x8b];exact hj);have hall2:l.take j=l:=u3o hj;have hjl:j=(S.avs (nmL n l)).length:=by rw [S.avs_eq,u3k,x8b];omega
    rw [hall,hall2];conv=>whnf
    repeat' (apply bD<;>intro _<;>first|omega|conv=>whnf)
    refine ⟨_,.tup (cs:=[eSs (nmL n l),.int .i64 (n+cntL l:Nat)]) rfl fun i l' c h1 h3 => ?_,rfl⟩
    match i,h1,h3 with
    | 0,h1,h3=>cases h1;cases h3;exact .hd rfl hjl
    | 1,h1,h3=>cases h1;cases h3;exact .p (Sub.refl _)
    | i+2,h1,h3=>simp at h1
def ElS (es es':List AV):Prop:=es'.length=es.length ∧ ∀ (m:Nat) (x':AV),es'[m]? = some x' -> ∃ x,es[m]? = some x∧x'.cells.length=x.cells.length ∧ ∀ (j:Nat) (c':AV),x'.cells[j]? = some c' -> ∃ c,x.cells[j]? = some c∧Sub c c'
inductive SubH:Heap->Heap->Prop
 | nil:SubH [] []
 | same {c:Nat×Chunk} {H H':Heap} (h:SubH H H'):SubH (c::H) (c::H')
 | els {k:Nat} {e:TypeId} {sz:Nat} {es es':List AV} {H H':Heap} (hp:ElS es es') (h:SubH H H'):SubH ((k,.own e sz es)::H) ((k,.own e sz es')::H')
theorem SubH.get {H H':Heap} (h:SubH H H'):H'.map (·.1)=H.map (·.1) ∧ ∀ j c',(j,c')∈H'->(j,c')∈H ∨ ∃ e sz es es',(j,Chunk.own e sz es)∈H∧c' = .own e sz es'∧ElS es es':=by
 induction h with
 | nil=>exact ⟨rfl,by simp⟩
 | same h ih =>
   refine ⟨by simp [ih.1],fun j c' hj => ?_⟩;rcases u3c.1 hj with rfl|hj
   ·exact .inl u3g
   ·rcases ih.2 j c' hj with h1|⟨e,sz,es,es',h1,h2⟩
    ·exact .inl (u3n _ h1)
    ·exact .inr ⟨e,sz,es,es',u3n _ h1,h2⟩
 | @els k e sz es es' H H' hp h ih =>
   refine ⟨by simp [ih.1],fun j c' hj => ?_⟩;rcases u3c.1 hj with hj|hj
   ·cases hj;exact .inr ⟨e,sz,es,es',u3g,rfl,hp⟩
   ·rcases ih.2 j c' hj with h1|⟨e,sz,es,es',h1,h2⟩
    ·exact .inl (u3n _ h1)
    ·exact .inr ⟨e,sz,es,es',u3n _ h1,h2⟩
theorem Le.els {N:Nat} {sl:List (Nat×LV)} {H H':Heap} (h:SubH H H'):Le N ⟨sl,H⟩ ⟨sl,H'⟩:=fun σ β a w hr=>by
 obtain ⟨hk,hc⟩:=h.get;refine ⟨σ,β,⟨hr.size,hr.defers,hr.slots,⟨hr.heap.mem,fun j c' hj => ?_,by show (H'.map (·.1)).Nodup;rw [hk];exact hr.heap.nodup,fun j hj=>hr.heap.apart j (by rw [<- hk];exact hj),fun j hj j' hj'=>hr.heap.inj j (by rw [<- hk];exact hj) j' (by rw [<- hk];exact hj')⟩⟩,Mem.le_refl σ,Frm.refl _ w,fun b h0 h1=>absurd h0 h1,fun b ⟨j,hj,r⟩ => .inl ⟨j,by rw [<- hk];exact hj,r⟩,fun _ _ _=>rfl⟩;rcases hc j c' hj with h1|⟨e,sz,es,es',h1,rfl,h2⟩
 ·exact hr.heap.chunks j c' h1
 ·rcases hr.heap.chunks j _ h1 with ⟨h3,h4⟩|⟨i,vs,h3,h4,h5,h6,h7,h8,h9⟩
  ·refine .inl ⟨h3,?_⟩;have:=h2.1;rw [h4] at this;exact u6x this
  ·refine .inr ⟨i,vs,h3,h4,h5,h6,by rw [h2.1];exact h7,h8,fun m x' hx => ?_⟩;obtain ⟨x,g1,g2,g3⟩:=h2.2 m x' hx;refine ⟨by rw [g2];exact (h9 m x g1).1,fun j c' hc => ?_⟩;obtain ⟨c,g4,g5⟩:=g3 j c' hc;obtain ⟨u,g6,g7⟩:=(h9 m x g1).2 j c g4;exact ⟨u,g6,g5 _ _ g7⟩
def nxE (rows:List (List Int)) (t:Int×Int):List (List Int):=rows.set t.1.toNat (rows.getD t.1.toNat []++[t.2])
def q4v (n:Nat) (l:List (Int×Int)):List (List Int):=l.foldl nxE (List.replicate n [])
theorem w5l (rows:List (List Int)) (t:Int×Int):(nxE rows t).length=rows.length:=u6i
theorem z1c : ∀ (l:List (Int×Int)) (rows:List (List Int)),(l.foldl nxE rows).length=rows.length
 | [],_=>rfl
 | t::r,rows=>by rw [u6e,z1c r,w5l]
theorem x2m (n:Nat) (l:List (Int×Int)):(q4v n l).length=n:=by
 unfold q4v;rw [z1c,u5m]
theorem z1s : ∀ (l:List (Int×Int)) (rows:List (List Int)) (a:Nat),((l.foldl nxE rows).getD a []).length<=(rows.getD a []).length+l.length
 | [],_,_=>u4j _
 | t::r,rows,a=>by
   rw [u6e];have h1:=z1s r (nxE rows t) a;have h2:((nxE rows t).getD a []).length<=(rows.getD a []).length+1:=by
    unfold nxE;simp only [u3m,u7c];by_cases he:t.1.toNat=a
    ·subst he;by_cases hl:t.1.toNat<rows.length
     ·simp [hl]
     ·simp [hl]
    ·simp [he]
   rw [u4t];omega
theorem z2e (n:Nat) (l:List (Int×Int)) (a:Nat):((q4v n l).getD a []).length<=l.length:=by
 have:=z1s l (List.replicate n []) a;have e:((List.replicate n ([]:List Int)).getD a []).length=0:=by
  rw [u3m,u4r];split<;>rfl
 unfold q4v;omega
theorem w5g {N':Nat} {sl:List (Nat×LV)} (n:Nat) (h0:(sl.all fun x=>x.2.xfree 0)=true) :
  Le N' ⟨sl,[(0,.own 70 1 (List.replicate n .nils))]⟩ ⟨sl,[(0,.ext (.mat 70 3 1 (List.replicate n []) []))]⟩:=by
 have hm:=x7g (N:=N') (sl:=sl) (H:=[(0,.own 70 1 (List.replicate n .nils))])
  (H':=[(0,.ext (.mat 70 3 1 (List.replicate (List.replicate n AV.nils).length []) []))])
  0 3 1 (e:=70) (es:=List.replicate n .nils) rfl (fun x hx=>u6b hx) rfl h0 rfl rfl (by simp [BW])
 simpa using hm
theorem z9g {p:Pg} (h:QM p=true) {j:Nat} {f:Pr} (hj:p.procs[j]? = some f) {k:Nat} {it:Item} (h1:QN p.procs j<=k) (h2:k<QN p.procs j+cntL f.body) (hk:(sheetOf p).l[k]? = some it):it.s.id=(k:Int)+1:=by
 obtain ⟨t,_,h4,h5⟩:=BH h hj (a:=(k:Int)+1) (by omega) (by omega);unfold v2b at h4;rw [show ((k:Int)+1-1).toNat=k by omega,hk] at h4;cases h4;exact h5
theorem z3x {n:Nat} {part:List Int} (hp : ∀ k,k<n->0<=part.getD k 0∧part.getD k 0<n) {i:Nat} (hi:i<n) : ∀ (l:List (Int×Int)) {o:List Bool},o.length=n->(∀ t∈l,0<=t.1∧t.1<n) ->
  ((l.foldl (q6r part) o).getD i false=true↔o.getD i false=true ∨ ∃ t∈l,part.getD t.1.toNat 0≠part.getD t.2.toNat 0∧part.getD t.1.toNat 0=i)
 | [],o,_,_=>by simp
 | t::r,o,ho,hr=>by
   rw [u6e,z3x hp hi r (by rw [z3w];exact ho) fun u hu=>hr u (u3n _ hu)];have h1:=hr t u3g;have h2:=hp t.1.toNat (by omega);have key:(q6r part o t).getD i false=true↔o.getD i false=true∨(part.getD t.1.toNat 0≠part.getD t.2.toNat 0∧part.getD t.1.toNat 0=i):=by
    unfold q6r;split
    ·rename_i he;constructor
     ·exact .inl
     ·rintro (h3|⟨h3,_⟩)
      ·exact h3
      ·exact absurd he h3
    ·rename_i he;rw [WS (by omega)];split
     ·rename_i h3;constructor
      ·intro _;exact .inr ⟨he,by omega⟩
      ·intro _;rfl
     ·rename_i h3;constructor
      ·exact .inl
      ·rintro (h4|⟨_,h4⟩)
       ·exact h4
       ·exact absurd (by omega) h3
   rw [key,or_assoc];constructor
   ·rintro (h3|⟨h3,h4⟩|⟨u,hu,h3⟩)
    ·exact .inl h3
    ·exact .inr ⟨t,u3g,h3,h4⟩
    ·exact .inr ⟨u,u3n _ hu,h3⟩
   ·rintro (h3|⟨u,hu,h3⟩)
    ·exact .inl h3
    ·rcases u3c.1 hu with rfl|hu
     ·exact .inr (.inl h3)
     ·exact .inr (.inr ⟨u,hu,h3⟩)
theorem v0j {n:Nat} {part:List Int} (hn:0<n) (hp : ∀ k,k<n->0<=part.getD k 0∧part.getD k 0<n) {i:Nat} (hi:i<n) {l:List (Int×Int)} (hr : ∀ t∈l,0<=t.1∧t.1<n) :
  (q9y n part l).getD i false=true↔part.getD 0 0=i∨part.getD (n-1) 0=i ∨ ∃ t∈l,part.getD t.1.toNat 0≠part.getD t.2.toNat 0∧part.getD t.1.toNat 0=i:=by
 have h0:=hp 0 hn;have h1:=hp (n-1) (by omega);unfold q9y;rw [z3x hp hi l (by simp [x4y]) hr];have key:(x4y n part).getD i false=true↔part.getD 0 0=i∨part.getD (n-1) 0=i:=by
  unfold x4y;rw [WS (by rw [u6i,u5m];omega),WS (by rw [u5m];omega)];split
  ·exact ⟨fun _ => .inr (by omega),fun _=>rfl⟩
  ·split
   ·exact ⟨fun _ => .inl (by omega),fun _=>rfl⟩
   ·have:(List.replicate n false).getD i false=false:=by
     rw [u3m,u4r];split<;>rfl
    rw [this];constructor
    ·intro h;cases h
    ·rintro (h|h)<;>omega
 rw [key,or_assoc]
section
variable {p:Pg} {j:Nat} {f:Pr}
theorem q3c {i:Int} (h:0<=i∧i<(cntL f.body+2:Nat)):plP p j f (XY p j (cntL f.body+2:Nat) i)∧ixI p j f (XY p j (cntL f.body+2:Nat) i)=i:=by
 unfold XY ixI VL plP loI hiI;constructor
 ·(repeat' split)<;>omega
 ·(repeat' split)<;>omega
theorem z8a {x:Int} (h:plP p j f x):XY p j (cntL f.body+2:Nat) (ixI p j f x)=x:=by
 have h1:=q3c (p:=p) (j:=j) (f:=f) (JD h);exact KZ h1.1 h h1.2
theorem x8c:prsW (QQ p j f) f=(QQ p j f).real.map (ixP p j f (cntL f.body+2:Nat)):=rfl
theorem v2j (h:QM p=true) (hj:p.procs[j]? = some f) : ∀ t∈prsW (QQ p j f) f,(0<=t.1∧t.1<(cntL f.body+2:Nat))∧0<=t.2∧t.2<(cntL f.body+2:Nat):=fun t ht=>by
 rw [x8c] at ht;obtain ⟨s,hs,rfl⟩:=u3s.1 ht;obtain ⟨h1,h2⟩:=UP h hj s hs;exact ⟨JD h1,JD h2⟩
def wE (p:Pg) (j:Nat) (f:Pr):Int->Int->Prop:=rowE (XJ (cntL f.body+2) (prsW (QQ p j f) f)).1
def wR (p:Pg) (j:Nat) (f:Pr):Int->Int->Prop:=stR (QQ p j f).real
theorem v5o (h:QM p=true) (hj:p.procs[j]? = some f) {i k:Int}:wE p j f i k ↔ ∃ a b,wR p j f a b∧ixI p j f a=i∧ixI p j f b=k:=by
 unfold wE wR;rw [w1w];constructor
 ·rintro ⟨h1,_,_⟩;rw [x8c] at h1;obtain ⟨s,hs,he⟩:=u3s.1 h1;exact ⟨s.src,s.dst,⟨s,hs,rfl,rfl⟩,u5j Prod.fst he,u5j Prod.snd he⟩
 ·rintro ⟨a,b,⟨s,hs,rfl,rfl⟩,rfl,rfl⟩;obtain ⟨h1,h2⟩:=UP h hj s hs;exact ⟨u3s.2 ⟨s,hs,rfl⟩,x8z (JD h1),x8z (JD h2)⟩
theorem v5t (h:QM p=true) (hj:p.procs[j]? = some f) {a b:Int} (hr:wR p j f a b):plP p j f a∧plP p j f b:=by
 obtain ⟨s,hs,rfl,rfl⟩:=hr;exact UP h hj s hs
theorem v7s (h:QM p=true) (hj:p.procs[j]? = some f) {a b:Int} (ha:plP p j f a) (hr:Rch (wR p j f) a b):plP p j f b :=
 hr.closed (S:=plP p j f) (fun _ _ _ h1=>(v5t h hj h1).2) ha
theorem v2g (h:QM p=true) (hj:p.procs[j]? = some f) {a b:Int} (ha:plP p j f a) (hb:plP p j f b):Rch (wE p j f) (ixI p j f a) (ixI p j f b)↔Rch (wR p j f) a b:=by
 constructor
 ·intro hr;obtain ⟨c,h1,h2,h3⟩:=hr.closed (S:=fun k => ∃ c,plP p j f c∧ixI p j f c=k∧Rch (wR p j f) a c) (by
   rintro i k ⟨c,h1,h2,h3⟩ h4;obtain ⟨x,y,h5,h6,h7⟩:=(v5o h hj).1 h4;have h8:=v5t h hj h5;have:x=c:=KZ h8.1 h1 (by rw [h6,h2]);subst this;exact ⟨y,h8.2,h7,.tail h3 h5⟩) ⟨a,ha,rfl,.refl⟩
  rw [<- KZ h1 hb h2];exact h3
 ·intro hr;exact (hr.closed (S:=fun c=>plP p j f c∧Rch (wE p j f) (ixI p j f a) (ixI p j f c)) (fun x y ⟨h1,h2⟩ h3=>⟨(v5t h hj h3).2,.tail h2 ((v5o h hj).2 ⟨x,y,h3,rfl,rfl⟩)⟩) ⟨ha,.refl⟩).2
theorem v2f (h:QM p=true) (hj:p.procs[j]? = some f) {a b:Int} (ha:plP p j f a) (hb:plP p j f b):sccP (wE p j f) (ixI p j f a) (ixI p j f b)↔sccP (wR p j f) a b:=by
 unfold sccP;rw [v2g h hj ha hb,v2g h hj hb ha]
def FZ (p:Pg) (j:Nat) (f:Pr) (i:Int):Int:=(WT (QQ p j f) f).getD i.toNat 0
theorem x2t:WT (QQ p j f) f=q6t (cntL f.body+2) (XJ (cntL f.body+2) (prsW (QQ p j f) f)).1:=rfl
theorem q4y {i:Int} (hi:0<=i∧i<(cntL f.body+2:Nat)):MinP (wE p j f) i (FZ p j f i):=by
 unfold FZ;rw [x2t];exact q6s (FA _ _).1 hi
theorem z8s {k:Nat} (hk:k<cntL f.body+2):0<=(WT (QQ p j f) f).getD k 0∧(WT (QQ p j f) f).getD k 0<(cntL f.body+2:Nat):=by
 rw [x2t];exact z8t (FA _ _).1 hk
theorem x0x:(WT (QQ p j f) f).length=cntL f.body+2:=by rw [x2t,NT]
theorem MinP.same {E:Int->Int->Prop} {x y v:Int} (h:MinP E x v) (hs:sccP E x y):MinP E y v:=⟨hs.symm.trans h.scc,fun z hz=>h.le z (hs.trans hz)⟩
theorem v0f {i k:Int} (hi:0<=i∧i<(cntL f.body+2:Nat)) (hk:0<=k∧k<(cntL f.body+2:Nat)):FZ p j f i=FZ p j f k↔sccP (wE p j f) i k:=by
 have h1:=q4y (p:=p) (j:=j) hi;have h2:=q4y (p:=p) (j:=j) hk;constructor
 ·intro he;rw [<- he] at h2;exact h1.scc.trans h2.scc.symm
 ·intro hs;exact (h1.same hs).uniq h2
theorem FW (h:QM p=true) (hj:p.procs[j]? = some f) {a b:Int} (ha:plP p j f a) (hb:plP p j f b):FZ p j f (ixI p j f a)=FZ p j f (ixI p j f b)↔sccP (wR p j f) a b:=by
 rw [v0f (JD ha) (JD hb),v2f h hj ha hb]
structure TrapP (p:Pg) (j:Nat) (f:Pr) (l:List Int) (r:Int):Prop where
 pl:plP p j f r
 mem : ∀ b,b∈l↔plP p j f b∧sccP (wR p j f) r b
 cl : ∀ b c,sccP (wR p j f) r b->wR p j f b c->sccP (wR p j f) r c
 n0 : ¬sccP (wR p j f) r 0
 nx : ¬sccP (wR p j f) r (-1)
theorem x3j {plc:Int->Int} {part:List Int} {i q:Nat} {b:Int}:b∈DV plc part i q ↔ ∃ k:Nat,k<q∧part.getD k 0=i∧plc k=b:=by
 unfold DV;constructor
 ·intro h;obtain ⟨k,hk,rfl⟩:=u3s.1 h;obtain ⟨h1,h2⟩:=u4i.1 hk;exact ⟨k,u6c.1 h1,u6m.1 h2,rfl⟩
 ·rintro ⟨k,h1,h2,rfl⟩;exact u3s.2 ⟨k,u4i.2 ⟨u6c.2 h1,u6m.2 h2⟩,rfl⟩
theorem ix0:ixI p j f 0=0:=by unfold ixI VL;rw [if_pos rfl]
theorem ix1:ixI p j f (-1)=((cntL f.body+2:Nat):Int)-1:=by unfold ixI VL;rw [if_neg (by omega),if_pos rfl]
theorem pl0:plP p j f 0 := .inl rfl
theorem pl1:plP p j f (-1) := .inr (.inl rfl)
theorem q4j (k:Nat):(WT (QQ p j f) f).getD k 0=FZ p j f k:=by
 unfold FZ;rw [Int.toNat_natCast]
theorem w5e (h:QM p=true) (hj:p.procs[j]? = some f) {i:Nat} (hi:i<cntL f.body+2):(q9y (cntL f.body+2) (WT (QQ p j f) f) (prsW (QQ p j f) f)).getD i false=true ↔
  FZ p j f (ixI p j f 0)=i∨FZ p j f (ixI p j f (-1))=i ∨ ∃ a b,wR p j f a b ∧ ¬sccP (wR p j f) a b∧FZ p j f (ixI p j f a)=i:=by
 rw [v0j (by omega) (fun k hk=>z8s hk) hi fun t ht=>(v2j h hj t ht).1,ix0,ix1];have e1:(WT (QQ p j f) f).getD (cntL f.body+2-1) 0=FZ p j f (((cntL f.body+2:Nat):Int)-1):=by
  unfold FZ;congr 1;omega
 have e0:(WT (QQ p j f) f).getD 0 0=FZ p j f 0:=rfl;rw [e0,e1];refine or_congr u9n (or_congr u9n ?_);constructor
 ·rintro ⟨t,ht,h1,h2⟩;rw [x8c] at ht;obtain ⟨s,hs,rfl⟩:=u3s.1 ht;obtain ⟨h3,h4⟩:=UP h hj s hs;exact ⟨s.src,s.dst,⟨s,hs,rfl,rfl⟩,fun hsc=>h1 ((FW h hj h3 h4).2 hsc),h2⟩
 ·rintro ⟨a,b,⟨s,hs,rfl,rfl⟩,h1,h2⟩;obtain ⟨h3,h4⟩:=UP h hj s hs;exact ⟨ixP p j f (cntL f.body+2:Nat) s,by rw [x8c];exact u3s.2 ⟨s,hs,rfl⟩,fun he=>h1 ((FW h hj h3 h4).1 he),h2⟩
theorem q4c {l:List Int}:l∈trapsW (QQ p j f) f ↔ ∃ i:Nat,i<cntL f.body+2∧FZ p j f i=i∧(q9y (cntL f.body+2) (WT (QQ p j f) f) (prsW (QQ p j f) f)).getD i false=false∧l=DV (XY p j (cntL f.body+2:Nat)) (WT (QQ p j f) f) i (cntL f.body+2):=by
 unfold trapsW q2z;rw [x0x];constructor
 ·intro hl;obtain ⟨i,hi,rfl⟩:=u3s.1 hl;obtain ⟨h1,h2⟩:=u4i.1 hi;unfold q4s at h2;rw [u4u,u6m,u7x,q4j] at h2;exact ⟨i,u6c.1 h1,h2.1,h2.2,rfl⟩
 ·rintro ⟨i,h1,h2,h3,rfl⟩;refine u3s.2 ⟨i,u4i.2 ⟨u6c.2 h1,?_⟩,rfl⟩;unfold q4s;rw [u4u,u6m,u7x,q4j];exact ⟨h2,h3⟩
theorem z9s (h:QM p=true) (hj:p.procs[j]? = some f) {i:Nat} (hi:i<cntL f.body+2) (hp:FZ p j f i=i) (b:Int) :
  b∈DV (XY p j (cntL f.body+2:Nat)) (WT (QQ p j f) f) i (cntL f.body+2)↔plP p j f b∧sccP (wR p j f) (XY p j (cntL f.body+2:Nat) i) b:=by
 obtain ⟨h1,h2⟩:=q3c (p:=p) (j:=j) (f:=f) (i:=i) (by omega);rw [x3j];constructor
 ·rintro ⟨k,h3,h4,rfl⟩;obtain ⟨h5,h6⟩:=q3c (p:=p) (j:=j) (f:=f) (i:=k) (by omega);refine ⟨h5,(FW h hj h1 h5).1 ?_⟩;rw [h2,h6,hp,<- q4j,h4]
 ·rintro ⟨h3,h4⟩;have h5:=JD h3;refine ⟨(ixI p j f b).toNat,by omega,?_,?_⟩
  ·rw [q4j,show (((ixI p j f b).toNat:Nat):Int)=ixI p j f b by omega,<- (FW h hj h1 h3).2 h4,h2,hp]
  ·rw [show (((ixI p j f b).toNat:Nat):Int)=ixI p j f b by omega,z8a h3]
theorem z3o (h:QM p=true) (hj:p.procs[j]? = some f) {l:List Int} (hl:l∈trapsW (QQ p j f) f) : ∃ r,TrapP p j f l r:=by
 obtain ⟨i,hi,hp,ho,rfl⟩:=q4c.1 hl;obtain ⟨h1,h2⟩:=q3c (p:=p) (j:=j) (f:=f) (i:=i) (by omega);have ho2 : ¬_:=fun hx=>by
  have:=(w5e h hj hi).2 hx;rw [ho] at this;cases this
 have hpr:FZ p j f (ixI p j f (XY p j (cntL f.body+2:Nat) i))=i:=by rw [h2,hp]
 refine ⟨_,h1,z9s h hj hi hp,fun b c hb hbc => ?_,fun hs=>ho2 (.inl ?_),fun hs=>ho2 (.inr (.inl ?_))⟩
 ·have h3:=v5t h hj hbc;by_cases hsc:sccP (wR p j f) b c
  ·exact hb.trans hsc
  ·refine absurd (.inr (.inr ⟨b,c,hbc,hsc,?_⟩)) ho2;rw [<- (FW h hj h1 h3.1).2 hb,hpr]
 ·rw [<- (FW h hj h1 pl0).2 hs,hpr]
 ·rw [<- (FW h hj h1 pl1).2 hs,hpr]
theorem v5u (h:QM p=true) (hj:p.procs[j]? = some f) {r:Int} (hr:plP p j f r) (hcl : ∀ b c,sccP (wR p j f) r b->wR p j f b c->sccP (wR p j f) r c) (h0 : ¬sccP (wR p j f) r 0) (hx : ¬sccP (wR p j f) r (-1)) :
  ∃ l∈trapsW (QQ p j f) f,∀ b,b∈l↔plP p j f b∧sccP (wR p j f) r b:=by
 have h1:=JD hr;have h2:=q4y (p:=p) (j:=j) (f:=f) h1;have h3:=z8s (p:=p) (j:=j) (f:=f) (k:=(ixI p j f r).toNat) (by omega);have h4:0<=FZ p j f (ixI p j f r)∧FZ p j f (ixI p j f r)<(cntL f.body+2:Nat):=h3;generalize hi:FZ p j f (ixI p j f r)=v at h2 h4;obtain ⟨h5,h6⟩:=q3c (p:=p) (j:=j) (f:=f) (i:=v) h4;have hs:sccP (wR p j f) r (XY p j (cntL f.body+2:Nat) v):=(v2f h hj hr h5).1 (by rw [h6];exact h2.scc);have hpv:FZ p j f v=v:=(q4y (p:=p) (j:=j) (f:=f) h4).uniq (h2.same h2.scc);have ev:((v.toNat:Nat):Int)=v:=by omega
 refine ⟨_,q4c.2 ⟨v.toNat,by omega,by rw [ev];exact hpv,?_,rfl⟩,fun b => ?_⟩
 ·cases ho:(q9y (cntL f.body+2) (WT (QQ p j f) f) (prsW (QQ p j f) f)).getD v.toNat false with
  | false=>rfl
  | true =>
    have:=(w5e h hj (by omega)).1 ho;rw [ev,<- hi] at this;rcases this with h7|h7|⟨a,b,h7,h8,h9⟩
    ·exact absurd ((FW h hj hr pl0).1 h7.symm) h0
    ·exact absurd ((FW h hj hr pl1).1 h7.symm) hx
    ·have h10:=v5t h hj h7;have h11:=(FW h hj hr h10.1).1 h9.symm;exact absurd (h11.symm.trans (hcl a b h11 h7)) h8
 ·rw [z9s h hj (by omega) (by rw [ev];exact hpv),ev];exact and_congr u9n ⟨fun h7=>hs.trans h7,fun h7=>hs.symm.trans h7⟩
end
theorem z9y {p:Pg} {j:Nat} {f:Pr} (hj:p.procs[j]? = some f) (hcn:cntP p.procs<=200):(QQ p j f).real.length<=100000:=by
 obtain ⟨_,_,_,hlen,hsp⟩:=QJ p;obtain ⟨_,_,hle,_⟩:=hsp j f hj;have h9:=z2o (QG p j f);have h10:=MX p j f;show (WZ (QG p j f)).length<=100000;omega
theorem z8m {p:Pg} (h:QM p=true) {j:Nat} {f:Pr} (hj:p.procs[j]? = some f) : ∀ it∈itsOf p j f,∀ s∈fOf it,okSt s:=fun it hi s hs=>by
 obtain ⟨hm,_⟩:=QK h;obtain ⟨_,_,hcn⟩:=ZV h;obtain ⟨_,_,_,hlen,hsp⟩:=QJ p;obtain ⟨_,_,hle,_⟩:=hsp j f hj;have h1:=ZW hm hj (q1m hi);have h2:=(q6p hi).1;unfold fOf at hs;split at hs
 ·rw [u3b.1 hs];unfold okI at h2;unfold okSt;constructor
  ·show it.s.id≠_;omega
  ·show it.next≠_;omega
 ·cases hs
theorem x9b {p:Pg} (h:QM p=true) {j:Nat} {f:Pr} (hj:p.procs[j]? = some f) {l:List Int} (hl:l∈trapsW (QQ p j f) f):l.length<=cntL f.body+2 ∧ ∀ id∈l,(QN p.procs j:Int)+1<=id∧id<=(QN p.procs j+cntL f.body:Nat):=by
 constructor
 ·obtain ⟨i,_,_,_,rfl⟩:=q4c.1 hl;exact z3i _ _ _ _
 ·intro id hid;obtain ⟨r,ht⟩:=z3o h hj hl;obtain ⟨h1,h2⟩:=(ht.mem id).1 hid;rcases h1 with rfl|rfl|h1
  ·exact absurd h2 ht.n0
  ·exact absurd h2 ht.nx
  ·exact h1
theorem v8t {p:Pg} (h:QM p=true) {j:Nat} {f:Pr} (hj:p.procs[j]? = some f):WayT (QQ p j f) f (cntL f.body+2):=by
 obtain ⟨_,_,hcn⟩:=ZV h;obtain ⟨_,_,_,hlen,hsp⟩:=QJ p;obtain ⟨_,_,hle,_⟩:=hsp j f hj;refine ⟨rfl,hj,by show cntP p.procs<=1000;omega,by omega,by omega,u5r (z9y hj hcn) (by decide),v2j h hj,?_,fun l hl => ?_,fun s hs=>(NU h hj).2.2 s (((GH h hj).2 s).1 hs),z8m h hj⟩
 ·have:=z3e (XY p j (cntL f.body+2:Nat)) (WT (QQ p j f) f) (q9y (cntL f.body+2) (WT (QQ p j f) f) (prsW (QQ p j f) f)) (cntL f.body+2);have e:trapsW (QQ p j f) f=q2z (XY p j (cntL f.body+2:Nat)) (WT (QQ p j f) f) (q9y (cntL f.body+2) (WT (QQ p j f) f) (prsW (QQ p j f) f)) (cntL f.body+2):=by
   unfold trapsW;rw [x0x];rfl
  rw [e];omega
 ·obtain ⟨h1,h2⟩:=x9b h hj hl;refine ⟨by omega,fun id hid => ?_⟩;have:=h2 id hid;show 1<=id∧id<=(sheetOf p).l.length;omega
def VT (p:Pg) (n:Str):List Step:=match q9j p n with
 | some w=>(match w.p.procs[w.j]? with
   | some f=>GU w f
   | none=>[])
 | none=>[]
theorem x4a {p:Pg} {n:Str} {k:Nat} {f:Pr} (hw:q9j p n=some (QQ p k f)) (hk:p.procs[k]? = some f):VT p n=GU (QQ p k f) f:=by
 have h:(QQ p k f).p.procs[(QQ p k f).j]? = some f:=hk;unfold VT;rw [hw];simp only;rw [h]
theorem w0s {p:Pg} {n:Str} (hw:q9j p n=none):VT p n=[]:=by
 unfold VT;rw [hw]
instance (a b:Step):Decidable (q4q a b):=inferInstanceAs (Decidable (_∨_))
instance:DecidableEq Step:=fun a b=>decidable_of_iff (a.src=b.src∧a.dst=b.dst∧a.kind=b.kind) ⟨fun h=>JZ h.1 h.2.1 h.2.2,fun h=>by rw [h];exact ⟨rfl,rfl,rfl⟩⟩
theorem v5q {a b:Step} (ha:okSt a) (hb:okSt b) (h:PX b a=false):(a.src=b.src∧a.dst=b.dst∧a.kind<=b.kind)∨q4q a b:=by
 rw [u8r,ne_eq,DW] at h;unfold q4q;by_cases h1:ZD a.src=ZD b.src
 ·by_cases h2:ZD a.dst=ZD b.dst
  ·exact .inl ⟨DX ha.1 hb.1 h1,DX ha.2 hb.2 h2,by omega⟩
  ·exact .inr (by omega)
 ·exact .inr (by omega)
theorem q8q : ∀ (l:List Step) (a:Step),okSt a->(∀ s∈l,okSt s)->(a::l).Pairwise (fun a b=>PX b a=false) ->
  (∀ s∈XH a l,q4q a s)∧(XH a l).Pairwise q4q∧(∀ s∈XH a l,s∈l) ∧ ∀ s∈l,(s.src=a.src∧s.dst=a.dst∧a.kind<=s.kind) ∨ ∃ s'∈XH a l,s'.src=s.src∧s'.dst=s.dst∧s'.kind<=s.kind
 | [],a,_,_,_=>by simp [XH]
 | b::r,a,ha,hl,h=>by
   have hb:=hl b u3g;have hr : ∀ s∈r,okSt s:=fun s hs=>hl s (u3n _ hs);rw [u6s] at h;obtain ⟨h1,h2⟩:=h;obtain ⟨i1,i2,i3,i4⟩:=q8q r b hb hr h2;have hab:=v5q ha hb (h1 b u3g);rw [XH];cases hs:ZO b a with
   | true =>
     unfold ZO at hs;simp only [u4u,u4b] at hs;have hk:a.kind<=b.kind:=by
      rcases hab with h3|h3
      ·exact h3.2.2
      ·unfold q4q at h3;rw [hs.1,hs.2] at h3;omega
     rw [u4y];refine ⟨fun s hs' => ?_,i2,fun s hs'=>u3n _ (i3 s hs'),fun s hs' => ?_⟩
     ·have:=i1 s hs';unfold q4q at this ⊢
      rwa [<- hs.1,<- hs.2]
     ·rcases u3c.1 hs' with rfl|hs'
      ·exact .inl ⟨hs.1,hs.2,hk⟩
      ·rcases i4 s hs' with ⟨h3,h4,h5⟩|h3
       ·exact .inl ⟨by rw [h3,hs.1],by rw [h4,hs.2],by omega⟩
       ·exact .inr h3
   | false =>
     have hlt:q4q a b:=by
      rcases hab with h3|h3
      ·unfold ZO at hs;simp [h3.1,h3.2.1] at hs
      ·exact h3
     rw [u4h];refine ⟨fun s hs' => ?_,u6s.2 ⟨i1,i2⟩,fun s hs' => ?_,fun s hs' => ?_⟩
     ·rcases u3c.1 hs' with rfl|hs'
      ·exact hlt
      ·exact q6n hlt (i1 s hs')
     ·rcases u3c.1 hs' with rfl|hs'
      ·exact u3g
      ·exact u3n _ (i3 s hs')
     ·rcases u3c.1 hs' with rfl|hs'
      ·exact .inr ⟨s,u3g,rfl,rfl,Int.le_refl _⟩
      ·rcases i4 s hs' with ⟨h3,h4,h5⟩|⟨s',h3,h4⟩
       ·exact .inr ⟨b,u3g,h3.symm,h4.symm,h5⟩
       ·exact .inr ⟨s',u3n _ h3,h4⟩
theorem FO {l:List Step} (hok : ∀ s∈l,okSt s):(WZ l).Pairwise q4q∧(∀ s∈WZ l,s∈l) ∧ ∀ s∈l,∃ s'∈WZ l,s'.src=s.src∧s'.dst=s.dst∧s'.kind<=s.kind:=by
 have hp : ∀ s,s∈KJ l↔s∈l:=fun s=>(x3u l).mem_iff;have hs:=q4r l;unfold WZ;cases hq:KJ l with
 | nil =>
   rw [hq] at hp;refine ⟨by simp [q1k],by simp [q1k],fun s hs => ?_⟩;have:=(hp s).2 hs;cases this
 | cons a r =>
   rw [hq] at hp hs;have hok' : ∀ s∈a::r,okSt s:=fun s h=>hok s ((hp s).1 h);obtain ⟨h1,h2,h3,h4⟩:=q8q r a (hok' a u3g) (fun s h=>hok' s (u3n _ h)) hs;rw [q1k];refine ⟨u6s.2 ⟨h1,h2⟩,fun s hs' => ?_,fun s hs' => ?_⟩
   ·rcases u3c.1 hs' with rfl|hs'
    ·exact (hp s).1 u3g
    ·exact (hp s).1 (u3n _ (h3 s hs'))
   ·rcases u3c.1 ((hp s).2 hs') with rfl|hs'
    ·exact ⟨s,u3g,rfl,rfl,Int.le_refl _⟩
    ·rcases h4 s hs' with ⟨h5,h6,h7⟩|⟨s',h5,h6⟩
     ·exact ⟨a,u3g,h5.symm,h6.symm,h7⟩
     ·exact ⟨s',u3n _ h5,h6⟩
theorem w5j {l:List Step} (h:l.Pairwise q4q) {a b:Step} (ha:a∈l) (hb:b∈l) (h1:a.src=b.src) (h2:a.dst=b.dst):a=b:=by
 have hn : ∀ {x y:Step},x.src=y.src->x.dst=y.dst -> ¬q4q x y:=fun {x y} e1 e2 hlt=>by
  unfold q4q at hlt;rw [e1,e2] at hlt;omega
 induction h with
 | nil=>cases ha
 | @cons c r hc hr ih =>
   rcases u3c.1 ha with e1|ha'
   ·rcases u3c.1 hb with e2|hb'
    ·rw [e1,e2]
    ·exact absurd (hc b hb') (by rw [<- e1];exact hn h1 h2)
   ·rcases u3c.1 hb with e2|hb'
    ·exact absurd (hc a ha') (by rw [<- e2];exact hn h1.symm h2.symm)
    ·exact ih ha' hb'
theorem HJ {l m:List Step} (hok : ∀ s∈l,okSt s) (h1:m.Pairwise q4q) (h2 : ∀ s∈m,s∈l) (h3 : ∀ s∈l,∃ s'∈m,s'.src=s.src∧s'.dst=s.dst∧s'.kind<=s.kind):WZ l=m:=by
 obtain ⟨g1,g2,g3⟩:=FO hok;refine x6h g1 h1 fun s=>⟨fun hs => ?_,fun hs => ?_⟩
 ·obtain ⟨a,ha,h4,h5,h6⟩:=h3 s (g2 s hs);obtain ⟨b,hb,h7,h8,h9⟩:=g3 a (h2 a ha);have:=w5j g1 hb hs (h7.trans h4) (h8.trans h5);subst this;have:a=b:=JZ h4 h5 (by omega);rw [<- this];exact ha
 ·obtain ⟨a,ha,h4,h5,h6⟩:=g3 s (h2 s hs);obtain ⟨b,hb,h7,h8,h9⟩:=h3 a (g2 a ha);have:=w5j h1 hb hs (h7.trans h4) (h8.trans h5);subst this;have:a=b:=JZ h4 h5 (by omega);rw [<- this];exact ha
theorem v7e:(QQ someP 1 f1).real=[⟨0,5,1⟩,⟨5,6,1⟩,⟨6,7,1⟩,⟨6,8,1⟩,⟨7,-1,1⟩,⟨8,-1,1⟩]:=v7n
theorem v7a:(QQ someP 0 f0).real=[⟨0,1,1⟩,⟨1,2,1⟩,⟨2,3,1⟩,⟨3,4,1⟩,⟨4,-1,1⟩]:=v7p
theorem v8m:prsW (QQ someP 1 f1) f1=[(0,1),(1,2),(2,3),(2,4),(3,5),(4,5)]:=by
 unfold prsW;rw [v7e]
 kernel_rfl
theorem v8n:prsW (QQ someP 0 f0) f0=[(0,1),(1,2),(2,3),(3,4),(4,5)]:=by
 unfold prsW;rw [v7a]
 kernel_rfl
theorem v7o:trapsW (QQ someP 1 f1) f1=[]:=by
 unfold trapsW WT;rw [v8m]
 kernel_rfl
theorem v7i:trapsW (QQ someP 0 f0) f0=[]:=by
 unfold trapsW WT;rw [v8n]
 kernel_rfl
theorem v9q:GU (QQ someP 1 f1) f1=[⟨0,5,1⟩,⟨5,6,1⟩,⟨6,7,1⟩,⟨6,8,1⟩,⟨7,-1,1⟩,⟨8,-1,1⟩]:=by
 unfold GU UN;rw [v7o,v7e];exact HJ (by unfold okSt;decide) (by decide) (by decide) (by decide)
theorem v0u {p:Pg} (h:QM p=true) {j:Nat} {f:Pr} (hj:p.procs[j]? = some f) {a:Int} : ¬wR p j f a 0:=fun ⟨s,hs,_,hd⟩=>by
 have h1:=((NU h hj).2.1 s (((GH h hj).2 s).1 hs)).2;unfold okI at h1;omega
theorem w6a {p:Pg} (h:QM p=true) {j:Nat} {f:Pr} (hj:p.procs[j]? = some f) {t:S} (ht:t∈flL f.body):v2b p t.id=some t:=by
 have hb:=ZW (QK h).1 hj ht;obtain ⟨u,hu,h1,h2⟩:=BH h hj hb.1 hb.2;obtain ⟨it,hi,rfl⟩:=v4y (p:=p) (j:=j) ht;obtain ⟨iu,hiu,rfl⟩:=v4y (p:=p) (j:=j) hu;rw [v2w (QK h).1 hj hiu hi h2] at h1;exact h1
theorem q4e {p:Pg} (h:QM p=true) {j:Nat} {f:Pr} (hj:p.procs[j]? = some f) {s:Step}:s∈UN (QQ p j f) f ↔ ∃ l∈trapsW (QQ p j f) f,∃ t∈flL f.body,t.id∈l∧t.kind=10∧s=⟨t.id,-1,3⟩:=by
 unfold UN;constructor
 ·intro hs;obtain ⟨l,hl,hs⟩:=u4o.1 hs;obtain ⟨id,hid,hs⟩:=u4o.1 hs;have hb:=(x9b h hj hl).2 id hid;obtain ⟨t,ht,h1,h2⟩:=BH h hj hb.1 hb.2;have e:(QQ p j f).p=p:=rfl;unfold vOf at hs;rw [e,h1] at hs;simp only at hs;split at hs
  ·rename_i hk;exact ⟨l,hl,t,ht,by rw [h2];exact hid,hk,by rw [h2];simpa using hs⟩
  ·cases hs
 ·rintro ⟨l,hl,t,ht,hid,hk,rfl⟩;refine u4o.2 ⟨l,hl,u4o.2 ⟨t.id,hid,?_⟩⟩;have e:(QQ p j f).p=p:=rfl;unfold vOf;rw [e,w6a h hj ht];simp [hk]
theorem x7r {p:Pg} (h:QM p=true) {j:Nat} {f:Pr} (hj:p.procs[j]? = some f) : ∀ s∈UN (QQ p j f) f++(QQ p j f).real,okSt s:=fun s hs =>
 (u3p.1 hs).elim ((v8t h hj).virt_ok s) ((v8t h hj).hok s)
theorem w3n {p:Pg} (h:QM p=true) {j:Nat} {f:Pr} (hj:p.procs[j]? = some f) {s:Step} (hs:s∈UN (QQ p j f) f++(QQ p j f).real):stR (GU (QQ p j f) f) s.src s.dst:=by
 obtain ⟨s',h1,h2,h3,_⟩:=(FO (x7r h hj)).2.2 s hs;exact ⟨s',h1,h2,h3⟩
theorem x7l {p:Pg} (h:QM p=true) {j:Nat} {f:Pr} (hj:p.procs[j]? = some f):(GU (QQ p j f) f).length<=200000:=by
 obtain ⟨_,_,hcn⟩:=ZV h;obtain ⟨_,_,_,hlen,hsp⟩:=QJ p;obtain ⟨_,_,hle,_⟩:=hsp j f hj;obtain ⟨h1,h2,_⟩:=FO (x7r h hj);have h3:=UZ (l:=GU (QQ p j f) f) (m:=(QQ p j f).real++(KT (QN p.procs j) (cntL f.body)).map fun id=>⟨id,-1,3⟩) (z8d h1) fun s hs=>by
  rcases u3p.1 (h2 s hs) with h4|h4
  ·obtain ⟨l,hl,t,ht,hid,hk,rfl⟩:=(q4e h hj).1 h4;have hb:=ZW (QK h).1 hj ht;exact u3p.2 (.inr (u3s.2 ⟨t.id,w9g hb.1 hb.2,rfl⟩))
  ·exact u3p.2 (.inl h4)
 rw [u3f,u3k] at h3;have h4:=z9y hj hcn;have h5:(KT (QN p.procs j) (cntL f.body)).length=cntL f.body:=by unfold KT;simp
 omega
theorem w4v {p:Pg} (h:QM p=true) {j:Nat} {f:Pr} (hj:p.procs[j]? = some f) {x:RI} (hx:x∈WL f):x.s∈flL f.body:=by
 rw [VH (QK h).1 (u4d hj)] at hx;rw [<- show (flatU f).map RI.s=flL f.body from PH 1 0 false f.body];exact u3s.2 ⟨x,hx,rfl⟩
def RI0:RI:=⟨.mk 0 0 [] [] [] (.mk 0 0 [] []) false [] [] [],0,0,false⟩
def z1p (id:Int) (f:Pr):Option (RI×Str):=((WL f).find? fun x=>decide (x.s.id=id)).map fun x=>(x,f.name)
def x1j (p:Pg) (id:Int):Option (RI×Str):=p.procs.findSome? (z1p id)
def UQ (p:Pg) (id:Int):RI×Str×Bool:=match x1j p id with
 | some (x,n)=>(x,n,true)
 | none=>(RI0,[],false)
theorem w7q:Sub (.agg [.int .i64 0,.int .i64 0,.nils,.str [],.str [],.int .i64 0,.int .i64 0,.str [],.nils,.ff,.nils,.nils,.nils,.int .i64 0,.int .i64 0,.ff]) (.agg RI0.cells) :=
 Sub.agg (by repeat' (first|exact SubL.nil|refine SubL.cons ?_ ?_|exact Sub.nils|exact Sub.ff rfl|exact Sub.refl _))
theorem x1u {l:List RI} {q:RI->Bool} {k:Nat} (hk:k<l.length):(l.drop k).find? q=if q l[k] then some l[k] else (l.drop (k+1)).find? q:=by
 rw [QF hk,u9r];cases q l[k]<;>rfl
theorem q7n (p:Pg) (id:Int):SpecP prog 26 [.agg p.cells,.int .i64 id] (fun r=>r = .tup [.agg (UQ p id).1.cells,.str (UQ p id).2.1,.bool (UQ p id).2.2]):=by
 refine sB q1q func26 rfl call26 ?_;conv=>whnf
 have hpl:(p.procs.map fun f=>AV.agg f.cells).length=p.procs.length:=u3k _;repeat' (refine iM fun _=>?_;conv=>whnf)
 refine LoopK.inv QX (fun j:Nat=>⟨[(1,.p (.int .i64 id)),(4,.ptr 1 0),(12,.p (.sl (p.procs.map fun f => .agg f.cells))),(13,.p (.int .i64 (p.procs.map fun f=>AV.agg f.cells).length)),(14,.p (.int .i64 j))],[(1,.obj 42 [.p (.int .i64 0),.p (.int .i64 0),.p .nils,.p (.str []),.p (.str []),.p (.int .i64 0),.p (.int .i64 0),.p (.str []),.p .nils,.p .ff,.p .nils,.p .nils,.p .nils,.p (.int .i64 0),.p (.int .i64 0),.p .ff])]⟩) (fun j=>j<=p.procs.length∧(p.procs.drop j).findSome? (z1p id)=x1j p id) (fun j=>p.procs.length-j) 0 (Le.of_eq rfl) ⟨u3l _,rfl⟩ ?_;rintro j ⟨h2,h3⟩;rcases u3r j p.procs.length with hj|hj;rotate_left 1
 ·rw [u4z hj,List.findSome?_nil] at h3;have hO:UQ p id=(RI0,[],false):=by unfold UQ;rw [<- h3]
  rw [hO];conv=>whnf
  repeat' (first|(refine u3d rfl ?_;conv=>whnf)|(apply bD<;>intro _<;>first|omega|conv=>whnf))
  exact ⟨_,.p (Sub.tup (SubL.cons w7q (SubL.cons (Sub.refl _) (SubL.cons (Sub.ff rfl) SubL.nil)))),rfl⟩
 rw [QF hj,List.findSome?_cons] at h3;conv=>whnf
 repeat' (first|((first|(refine iM fun _=>?_)|refine u3d rfl ?_|(refine iA fun _=>?_)|refine cP (XU _) ?_);conv=>whnf)|(apply bD<;>intro _<;>first|omega|conv=>whnf))
 have hrl:((WL p.procs[j]).map fun i=>AV.agg i.cells).length=(WL p.procs[j]).length:=u3k _;have hff:z1p id p.procs[j]=((WL p.procs[j]).find? fun x=>decide (x.s.id=id)).map fun x=>(x,p.procs[j].name):=rfl;rw [hff] at h3;have hfl:=GJ p.procs[j];generalize WL p.procs[j]=F at hrl hfl h3 ⊢;refine LoopK.inv QX (fun k:Nat=>⟨[(1,.p (.int .i64 id)),(4,.ptr 1 0),(8,.p (.ip p.procs[j].cells)),(12,.p (.sl (p.procs.map fun f => .agg f.cells))),(13,.p (.int .i64 (p.procs.map fun f=>AV.agg f.cells).length)),(14,.p (.int .i64 j)),(19,.p (VM F)),(20,.p (.int .i64 (F.map fun i=>AV.agg i.cells).length)),(21,.p (.int .i64 k))],[(1,.obj 42 [.p (.int .i64 0),.p (.int .i64 0),.p .nils,.p (.str []),.p (.str []),.p (.int .i64 0),.p (.int .i64 0),.p (.str []),.p .nils,.p .ff,.p .nils,.p .nils,.p .nils,.p (.int .i64 0),.p (.int .i64 0),.p .ff])]⟩) (fun k=>k<=F.length∧(F.drop k).find? (fun x=>decide (x.s.id=id))=F.find? fun x=>decide (x.s.id=id)) (fun k=>F.length-k) 0 (Le.of_eq rfl) ⟨u3l _,rfl⟩ ?_;rintro k ⟨h4,h5⟩;rcases u3r k F.length with hk|hk;rotate_left 1
 ·rw [u4z hk,u9c] at h5;rw [<- h5] at h3;conv=>whnf
  repeat' (first|(refine wI ?_;conv=>whnf)|(apply bD<;>intro _<;>first|omega|conv=>whnf))
  exact ⟨j+1,⟨hj,h3⟩,by omega,Le.of_eq rfl⟩
 rw [x1u hk] at h5;conv=>whnf
 repeat' (first|((first|refine dA ?_|refine u3d rfl ?_|(refine iA fun _=>?_)|refine wI ?_);conv=>whnf)|(apply bD<;>intro _<;>first|omega|conv=>whnf))
 ·have hid:F[k].s.id=id:=by assumption
  rw [if_pos (u5z hid)] at h5;rw [<- h5] at h3;have hO:UQ p id=(F[k],p.procs[j].name,true):=by unfold UQ;rw [<- h3];rfl
  rw [hO];exact ⟨_,.p (Sub.tup (SubL.cons (Sub.refl _) (SubL.cons (Sub.refl _) (SubL.cons (Sub.tt rfl) SubL.nil)))),rfl⟩
 ·have hid : ¬F[k].s.id=id:=by assumption
  rw [if_neg (by simpa using hid)] at h5;exact ⟨k+1,⟨hk,h5⟩,by omega,Le.of_eq rfl⟩
theorem Wr.u64 {n:Int} {K:Int->Prop} (h1:0<=n) (h2:n<=18446744073709551615) (hk:K n):Wr .u64 n K :=
 .fit ⟨by simp [IntKind.min,IntKind.signed];omega,by simp [IntKind.max,IntKind.signed,IntKind.bits];omega⟩ hk
theorem w2o {P:Program} {hr:Bool} {s:St} {o:Oper} {K:LV->Prop} {t u:TypeId} {x y:Operand} (hop:o.op = .binOp .shr t x y u) {a:Int} (ha:0<=a) (hx:XX s.sl x = .p (.int .u64 a)) (hy:XX s.sl y = .p (.int .u64 1)) {m:Int} (hm:m=a / 2) (hK:K (.p (.int .u64 m))):ValO P hr s o K:=by
 subst hm;refine ⟨fun σ β ac w hs _=>⟨_,.int .u64 (a / 2),hK,.p (.int _ _),fun w' _ _ => ?_⟩⟩;have h1:=QY hs x;have h2:=QY hs y;rw [hx] at h1;rw [hy] at h2;cases h1 with
 | p h1 =>
   cases h2 with
   | p h2 =>
     have key : ∀ (n:Int) (v:Value),Rep σ (.int .u64 n) v->v = .int .u64 n:=fun n v hv=>by
      cases hv;rfl
     have e1:=key _ _ h1;have e2:=key _ _ h2;have e3:a.fdiv (2 ^ 1)=a / 2:=Int.fdiv_eq_ediv_of_nonneg _ (by decide);have hg:(eqGuard .shr t x y (.int .u64 a) (.int .u64 1)).run P w' = .ok () w':=by unfold eqGuard;rfl
     simp only [execOp,hop,e1,e2,Sem.run_bind,hg,Result.andThen_ok,binOp,Op.shift];rw [if_neg (by decide)];simp only [show min (1:Int).toNat IntKind.u64.bits=1 by decide,e3];rfl
end Go.Ab
