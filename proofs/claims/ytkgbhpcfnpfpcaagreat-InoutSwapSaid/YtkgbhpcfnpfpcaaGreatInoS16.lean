/- way: the traps. -/
import Derived.Test.YtkgbhpcfnpfpcaaGreatInoS9
import Derived.Test.YtkgbhpcfnpfpcaaGreatInoS10
import Derived.Test.YtkgbhpcfnpfpcaaGreatInoS14
import Derived.Test.YtkgbhpcfnpfpcaaGreatInoS15
set_option linter.unusedSimpArgs false
set_option linter.unusedVariables false
set_option maxRecDepth 100000
set_option maxHeartbeats 16000000
open List (foldl_cons getD_eq_getElem?_getD length_append length_cons length_map length_replicate length_set length_take mem_cons_of_mem mem_cons_self take_of_length_le)
open Nat (zero_le)
namespace Go.Ab
open Go.Proofs
theorem OpK.frz {P:Program} {T:Tab} {N:Nat} {o:Oper} {K:St->Prop} {s:St} (hT:TabOK P T) (gs:List (List Nat)) (h:w8k gs s fun s'=>opW P T N s' o K):OpK P N s o K:=⟨fun σ β a w hr Q=>by
 obtain ⟨s1,h1,hle⟩:=q3a (N:=N) h;obtain ⟨σ1,β1,hr1,hl1⟩:=hle σ β a w hr;exact Oper.wp_mono (fun a' w' ⟨σ',β',s2,hK,hr',hl⟩=>⟨σ',β',s2,hK,hr',hl1.trans hl⟩) (NA hT h1 hr1 Q)⟩
theorem x9e {N:List (List Int)} {a:Nat} (ha:a<N.length) {b y:Int} {k:Nat}:y∈(q8x N a b).getD k []↔y∈N.getD k []∨(a=k∧y=b):=by
 unfold q8x;rw [ZN ha];split
 ·rename_i h;rw [z0z,h];simp
 ·rename_i h;simp [h]
theorem z4y {n:Nat} {g:List (List Int)×List (List Int)} (hl:g.2.length=n) (e:Int×Int):(x1x n g e).2.length=n:=by
 rw [q7t];cases (ZL n e.1&&ZL n e.2 && !(g.1.getD e.1.toNat []).contains e.2) with
 | true=>rw [cond_true];unfold q8x;rw [length_set];exact hl
 | false=>exact hl
structure MirG (n:Nat) (g:List (List Int)×List (List Int)):Prop where
 l1:g.1.length=n
 l2:g.2.length=n
 m : ∀ x y:Int,0<=x∧x<n->0<=y∧y<n->(y∈g.1.getD x.toNat []↔x∈g.2.getD y.toNat [])
theorem MirG.add {n:Nat} {g:List (List Int)×List (List Int)} (h:MirG n g) (e:Int×Int):MirG n (x1x n g e):=by
 refine ⟨x9i h.l1 e,z4y h.l2 e,fun x y hx hy => ?_⟩;rw [q3v,q7t];cases hc:(ZL n e.1&&ZL n e.2 && !(g.1.getD e.1.toNat []).contains e.2) with
 | true =>
   simp only [Bool.and_eq_true] at hc;have h1:=XI hc.1.1;have h2:=XI hc.1.2;rw [cond_true,cond_true,x9e (by rw [h.l1];omega),x9e (by rw [h.l2];omega),h.m x y hx hy];constructor
   ·rintro (h3|⟨h3,h4⟩)
    ·exact .inl h3
    ·exact .inr ⟨by omega,by omega⟩
   ·rintro (h3|⟨h3,h4⟩)
    ·exact .inl h3
    ·exact .inr ⟨by omega,by omega⟩
 | false=>exact h.m x y hx hy
theorem MirG.fold {n:Nat} : ∀ (l:List (Int×Int)) {g:List (List Int)×List (List Int)},MirG n g->MirG n (l.foldl (x1x n) g)
 | [],_,h=>h
 | e::r,_,h=>MirG.fold r (h.add e)
theorem x4l (n:Nat) (l:List (Int×Int)):MirG n (QA n l):=by
 refine MirG.fold l ⟨by simp,by simp,fun x y _ _ => ?_⟩;have : ∀ k,(List.replicate n ([]:List Int)).getD k []=[]:=fun k=>by
  rw [getD_eq_getElem?_getD,List.getElem?_replicate];split<;>rfl
 simp only [this];simp
theorem x6r {n:Nat} {rows:List (List Int)} (hl:rows.length=n) {x y:Int} (h:rowE rows x y):0<=x∧x<n:=by
 refine ⟨h.1,?_⟩;have h2:=h.2;unfold x0m at h2;rcases Nat.lt_or_ge x.toNat rows.length with h3|h3
 ·omega
 ·rw [getD_eq_getElem?_getD,List.getElem?_eq_none h3] at h2;simp at h2
theorem z0i (n:Nat) (l:List (Int×Int)) (x y:Int):rowE (QA n l).2 x y↔rowE (QA n l).1 y x:=by
 obtain ⟨h1,h2⟩:=JN n l;have hm:=x4l n l;constructor
 ·intro h;have hx:=x6r hm.l2 h;have hy:=FB h2 h.2;exact ⟨hy.1,(hm.m y x hy hx).2 h.2⟩
 ·intro h;have hx:=x6r hm.l1 h;have hy:=FB h1 h.2;exact ⟨hy.1,(hm.m y x hx hy).1 h.2⟩
theorem z1j {n:Nat} {l:List (Int×Int)} {x y:Int}:rowE (QA n l).1 x y↔(x,y)∈l∧ZL n x=true∧ZL n y=true:=by
 constructor
 ·intro h;have hx:=x6r (x4l n l).l1 h;have:=(FT hx).1 h.2;exact ⟨this.1,x0t hx,this.2⟩
 ·rintro ⟨h1,h2,h3⟩;have hx:=XI h2;exact ⟨hx.1,(FT hx).2 ⟨h1,h3⟩⟩
def MB (part:List Int) (o:List Bool) (t:Int×Int):List Bool:=if part.getD t.1.toNat 0=part.getD t.2.toNat 0 then o else o.set (part.getD t.1.toNat 0).toNat true
def q6w (n:Nat) (part:List Int):List Bool:=((List.replicate n false).set (part.getD 0 0).toNat true).set (part.getD (n-1) 0).toNat true
def q8b (n:Nat) (part:List Int) (prs:List (Int×Int)):List Bool:=prs.foldl (MB part) (q6w n part)
def FX (plc:Int->Int) (part:List Int) (i q:Nat):List Int:=((List.range q).filter fun j=>part.getD j 0==(i:Int)).map fun (j:Nat)=>plc j
def q3w (part:List Int) (op:List Bool) (i:Nat):Bool:=part.getD i 0==(i:Int) && !op.getD i false
def MC (plc:Int->Int) (part:List Int) (op:List Bool) (q:Nat):List (List Int):=((List.range q).filter (q3w part op)).map fun i=>FX plc part i part.length
def prsW (w:Way) (f:Pr):List (Int×Int):=w.real.map (ixP w.p w.j f w.n)
def WV (w:Way) (f:Pr):List Int:=LJ w.n.toNat (QA w.n.toNat (prsW w f)).1
def trapsW (w:Way) (f:Pr):List (List Int):=MC (XT w.p w.j w.n) (WV w f) (q8b w.n.toNat (WV w f) (prsW w f)) (WV w f).length
theorem x1d (part:List Int) (o:List Bool) (t:Int×Int):(MB part o t).length=o.length:=by
 unfold MB;split<;>simp
theorem x8k {n:Nat} {rows:List (List Int)} (hr:XG n rows) {k:Nat} (hk:k<n):0<=(LJ n rows).getD k 0∧(LJ n rows).getD k 0<n:=by
 have hx:0<=(k:Int)∧(k:Int)<n:=by omega
 have:=q0q hr hx;exact z0x hr hx this.scc.1
theorem z1g (plc:Int->Int) (part:List Int) (i q:Nat):FX plc part i (q+1)=if part.getD q 0=(i:Int) then FX plc part i q++[plc q] else FX plc part i q:=by
 unfold FX;rw [List.range_succ,List.filter_append,List.map_append];by_cases h:part.getD q 0=(i:Int)
 ·rw [if_pos h,List.filter_cons_of_pos (by rw [h];simp)];rfl
 ·rw [if_neg h,List.filter_cons_of_neg (by simpa using h)];simp
theorem z1b (plc:Int->Int) (part:List Int) (op:List Bool) (q:Nat):MC plc part op (q+1)=if q3w part op q=true then MC plc part op q++[FX plc part q part.length] else MC plc part op q:=by
 unfold MC;rw [List.range_succ,List.filter_append,List.map_append];by_cases h:q3w part op q=true
 ·rw [if_pos h,List.filter_cons_of_pos h];rfl
 ·rw [if_neg h,List.filter_cons_of_neg h];simp
theorem x2o (plc:Int->Int) (part:List Int) (i q:Nat):(FX plc part i q).length<=q:=by
 unfold FX;rw [length_map];exact Nat.le_trans (List.length_filter_le _ _) (by simp)
theorem x4c (plc:Int->Int) (part:List Int) (op:List Bool) (q:Nat):(MC plc part op q).length<=q:=by
 unfold MC;rw [length_map];exact Nat.le_trans (List.length_filter_le _ _) (by simp)
theorem x1m (part:List Int) : ∀ (l:List (Int×Int)) (o:List Bool),(l.foldl (MB part) o).length=o.length
 | [],_=>rfl
 | t::r,o=>by rw [foldl_cons,x1m part r,x1d]
theorem z6f (n:Nat) (part:List Int) (l:List (Int×Int)):(l.foldl (MB part) (q6w n part)).length=n:=by
 rw [x1m];simp [q6w]
theorem q8k (w:Way) (f:Pr) (n:Nat) (hw:w.n=n) (hj:w.p.procs[w.j]? = some f) (hc:cntP w.p.procs<=1000) (hn:n<=5000) (hn2:2<=n) (hlen:w.real.length<=1000000) (hr : ∀ t∈prsW w f,(0<=t.1∧t.1<n)∧0<=t.2∧t.2<n):SpecP Tryz.prog 113 [.ip w.cells] (fun r=>r=q5r (trapsW w f)):=by
 refine sB q3y Tryz.func113 rfl Tryz.call113 ?_;conv=>whnf
 have hgi:=JN n (prsW w f);have hpart:WV w f=LJ n (QA n (prsW w f)).1:=by unfold WV;rw [hw];rfl
 have htr:trapsW w f=MC (XT w.p w.j w.n) (WV w f) (q8b n (WV w f) (prsW w f)) n:=by unfold trapsW;rw [hpart,FV,hw];rfl
 have hpin : ∀ k,k<n->0<=(WV w f).getD k 0∧(WV w f).getD k 0<n:=fun k hk=>by rw [hpart];exact x8k hgi.1 hk
 have hpl:(WV w f).length=n:=by rw [hpart,FV]
 have hcp:=LX n hn (QA n (prsW w f)) hgi.1 hgi.2 (z0i n (prsW w f));rw [<- hpart] at hcp;rw [htr];clear htr hpart hgi;generalize WV w f=part at hpin hpl hcp ⊢;have ha0:=hpin 0 (by omega);have ha1:=hpin (n-1) (by omega);have hp0:=x3e (l:=part) (i:=0) (by omega);have hp1:=x3e (l:=part) (i:=n-1) (by omega);have e0:(List.replicate n AV.ff)[(part.getD 0 0).toNat]? = some .ff:=by rw [List.getElem?_replicate,if_pos (by omega)]
 have e1:((List.replicate n AV.ff).set (part.getD 0 0).toNat .tt)[(part.getD (n-1) 0).toNat]? = some (bv (((List.replicate n false).set (part.getD 0 0).toNat true).getD (part.getD (n-1) 0).toNat false)):=by
  have:(List.replicate n AV.ff).set (part.getD 0 0).toNat .tt=((List.replicate n false).set (part.getD 0 0).toNat true).map bv:=by
   rw [List.map_set,List.map_replicate];rfl
  rw [this];exact w2k (by rw [length_set,length_replicate];omega)
 have hplm:(part.map (AV.int .i64)).length=n:=by rw [length_map,hpl]
 repeat' ((first|(refine iM fun _=>?_)|refine dA ?_|refine And.intro rfl ?_|refine aR ?_|refine wI ?_|refine cP (q8p w f n hw hj hc hn w.real hlen) ?_|refine cP hcp ?_|refine MkK.mk n hw (by show 1*n<=140737488355328;omega) (by unfold maxLen;omega) ?_|(refine IdxK.at (k:=0) rfl hp0 rfl ?_)|(refine IdxK.at (k:=n-1) (by omega) hp1 rfl ?_)|refine IdxL.mk (part.getD 0 0).toNat (by omega) (by omega) ?_|refine IdxL.mk (part.getD (n-1) 0).toNat (by omega) (by omega) ?_|refine StOwn.mk (part.getD 0 0).toNat 0 .ff .tt (show (0+(part.getD 0 0).toNat)*1=(part.getD 0 0).toNat*1+0 by omega) e0 (Nat.le_refl 1) rfl ?_|(refine CallK.pure (KC w f hj hc (by omega) w.real hlen) (.cons (Sub.refl _) (.cons (Sub.refl _) .nil)) ?_;rintro _ rfl)|(refine StOwn.mk (part.getD (n-1) 0).toNat 0 _ .tt (show (0+(part.getD (n-1) 0).toNat)*1=(part.getD (n-1) 0).toNat*1+0 by omega) e1 (Nat.le_refl 1) (by cases ((List.replicate n false).set (part.getD 0 0).toNat true).getD (part.getD (n-1) 0).toNat false<;>rfl) ?_));conv=>whnf)
 have hprl:(prsW w f).length<=1000000:=by unfold prsW;rw [length_map];exact hlen
 have hpl2:(avP (prsW w f)).length=(prsW w f).length:=by simp [avP]
 refine LoopK.inv QJ (fun x:Nat×List Bool=>⟨[(0,.p (.ip w.cells)),(3,.p (UY part)),(4,.hd 0 0 n),(43,.p (.sl (avP (prsW w f)))),(44,.p (.int .i64 (avP (prsW w f)).length)),(45,.p (.int .i64 x.1))],[(0,.own 4 1 (x.2.map bv))]⟩)
  (fun x=>x.1<=(prsW w f).length∧x.2=((prsW w f).take x.1).foldl (MB part) (q6w n part)) (fun x=>(prsW w f).length-x.1) (0,q6w n part)
  (Le.mk [] (by simp) (by simp) (by simp) (.cons (.refl _) (.cons (.refl _) (.cons (.refl _) (.cons (.refl _) (.cons (.refl _) (.cons (.refl _) .nil)))))) (.cons rfl (.of_eq (by unfold q6w;rw [List.map_set,List.map_set,List.map_replicate];rfl)) .nil))
  ⟨zero_le _,rfl⟩ ?_
 rintro ⟨m,o⟩ ⟨h1,h2⟩;simp only at h1 h2 ⊢;have hol:o.length=n:=by rw [h2];exact z6f n part _
 rcases Nat.lt_or_ge m (prsW w f).length with hm|hm
 ·obtain ⟨⟨h3,h4⟩,h5,h6⟩:=hr _ (List.getElem_mem hm);have h7:=hpin (prsW w f)[m].1.toNat (by omega);have h8:=hpin (prsW w f)[m].2.toNat (by omega);have e2:=x3e (l:=part) (i:=(prsW w f)[m].1.toNat) (by omega);have e3:=x3e (l:=part) (i:=(prsW w f)[m].2.toNat) (by omega);have e4:=w2k (l:=o) (i:=(part.getD (prsW w f)[m].1.toNat 0).toNat) (by omega);have hme:(avP (prsW w f))[m]? = some (.agg [.int .i64 (prsW w f)[m].1,.int .i64 (prsW w f)[m].2]):=by simp [avP,hm]
  have e5:((prsW w f).take (m+1)).foldl (MB part) (q6w n part)=MB part o (prsW w f)[m]:=by rw [List.take_succ_eq_append_getElem hm,List.foldl_append,<- h2];rfl
  conv=>whnf
  repeat' (first|((first|refine dA ?_|refine And.intro rfl ?_|refine wI ?_|(refine IdxK.at (k:=m) rfl hme rfl ?_)|refine IdxL.mk 0 rfl (by decide) ?_|refine IdxL.mk 1 rfl (by decide) ?_|(refine IdxK.at (k:=(prsW w f)[m].1.toNat) (by omega) e2 rfl ?_)|(refine IdxK.at (k:=(prsW w f)[m].2.toNat) (by omega) e3 rfl ?_)|refine IdxL.mk (part.getD (prsW w f)[m].1.toNat 0).toNat (by omega) (by omega) ?_|refine StOwn.mk (part.getD (prsW w f)[m].1.toNat 0).toNat 0 _ .tt (by omega) e4 (Nat.le_refl 1) (by cases o.getD (part.getD (prsW w f)[m].1.toNat 0).toNat false<;>rfl) ?_);conv=>whnf)|(apply bD<;>intro _<;>first|omega|conv=>whnf)|(apply bE<;>intro _<;>first|omega|conv=>whnf))
  all_goals first
   | (have hq:part.getD (prsW w f)[m].1.toNat 0=part.getD (prsW w f)[m].2.toNat 0:=by assumption
      exact ⟨(m+1,o),⟨by simp only;omega,by simp only;rw [e5];unfold MB;rw [if_pos hq]⟩,by simp only;omega,Le.of_eq rfl⟩)
   | (have hq : ¬part.getD (prsW w f)[m].1.toNat 0=part.getD (prsW w f)[m].2.toNat 0:=by assumption
      exact ⟨(m+1,o.set (part.getD (prsW w f)[m].1.toNat 0).toNat true),⟨by simp only;omega,by simp only;rw [e5];unfold MB;rw [if_neg hq]⟩,by simp only;omega,Le.of_eq (by simp only [List.map_set];rfl)⟩)
 ·rw [take_of_length_le hm] at h2;have hop:q8b n part (prsW w f)=o:=h2.symm;rw [hop];clear hop h2 e0 e1 hp0 hp1 hcp;conv=>whnf
  repeat' (first|(refine iM fun _=>?_;conv=>whnf)|(apply bD<;>intro _<;>first|omega|conv=>whnf))
  refine LoopK.inv QJ (fun q:Nat=>⟨[(0,.p (.ip w.cells)),(3,.p (UY part)),(4,.hd 0 0 n),(7,.hd 1 0 (MC (XT w.p w.j w.n) part o q).length),(69,.p (.int .i64 (part.map (AV.int .i64)).length)),(70,.p (.int .i64 q))],[(0,.own 4 1 (o.map bv)),(1,.own 74 1 ((avI (MC (XT w.p w.j w.n) part o q)).map AV.sl))]⟩)
   (fun q=>q<=n) (fun q=>n-q) 0
   (Le.mk [(1,.own 74 1 [])] (by simp [Chunk.new0];rfl) (by simp) (by simp) (.cons (.refl _) (.cons (.refl _) (.cons (.refl _) (.cons (.nil mem_cons_self) (.cons (.refl _) (.cons (.refl _) .nil)))))) (.cons rfl (.refl _) (.new mem_cons_self .nil)))
   (zero_le _) ?_
  intro q hqn;have hLl:=x4c (XT w.p w.j w.n) part o q;rcases Nat.lt_or_ge q n with hq|hq
  ·have e2:=x3e (l:=part) (i:=q) (by omega);have e3:=w2k (l:=o) (i:=q) (by omega);have hsucc:=z1b (XT w.p w.j w.n) part o q;generalize MC (XT w.p w.j w.n) part o q=acc at hLl hsucc ⊢;have hpe:part[q]=part.getD q 0:=by rw [getD_eq_getElem?_getD,List.getElem?_eq_getElem];rfl
   cases hb:o.getD q false with
   | true =>
     rw [hb] at e3;have ht : ¬q3w part o q=true:=by unfold q3w;rw [hb];simp
     rw [if_neg ht] at hsucc;conv=>whnf
     repeat' (first|((first|refine And.intro rfl ?_|(refine iA fun _=>?_)|refine wI ?_|refine IdxL.mk q rfl (by omega) ?_|refine LdOwn.mk q 0 .tt (by omega) e3 ?_);conv=>whnf)|(apply bD<;>intro _<;>first|omega|conv=>whnf)|(apply bE<;>intro _<;>first|omega|conv=>whnf))
     all_goals exact ⟨q+1,hq,by omega,Le.of_eq (by rw [hsucc];rfl)⟩
   | false =>
     rw [hb] at e3;conv=>whnf
     repeat' (first|((first|(refine iM fun _=>?_)|refine And.intro rfl ?_|(refine iA fun _=>?_)|refine wI ?_|refine IdxL.mk q rfl (by omega) ?_|refine LdOwn.mk q 0 .ff (by omega) e3 ?_);conv=>whnf)|(apply bD<;>intro _<;>first|omega|conv=>whnf)|(apply bE<;>intro _<;>first|omega|conv=>whnf))
     all_goals try
      have hne : ¬part.getD q 0=(q:Int):=by omega
      have ht : ¬q3w part o q=true:=fun h=>by
       unfold q3w at h;rw [Bool.and_eq_true,beq_iff_eq] at h;exact hne h.1
      rw [if_neg ht] at hsucc;exact ⟨q+1,hq,by omega,Le.of_eq (by rw [hsucc];rfl)⟩
     have hpq:part.getD q 0=(q:Int):=by omega
     have ht:q3w part o q=true:=by unfold q3w;rw [hb,hpq];simp
     rw [if_pos ht,hpl] at hsucc;refine LoopK.inv QJ (fun z:Nat=>⟨[(0,.p (.ip w.cells)),(3,.p (UY part)),(4,.hd 0 0 n),(7,.hd 1 0 acc.length),(8,.p (.int .i64 q)),(9,.hd 2 0 (FX (XT w.p w.j w.n) part q z).length),(69,.p (.int .i64 (part.map (AV.int .i64)).length)),(70,.p (.int .i64 q)),(86,.p (.int .i64 (part.map (AV.int .i64)).length)),(87,.p (.int .i64 z))],[(0,.own 4 1 (o.map bv)),(1,.own 74 1 ((avI acc).map AV.sl)),(2,.own 3 1 ((FX (XT w.p w.j w.n) part q z).map (.int .i64)))]⟩)
      (fun z=>z<=n) (fun z=>n-z) 0
      (Le.mk [(2,.own 3 1 [])] (by simp [Chunk.new0];rfl) (by simp) (by simp) (.cons (.refl _) (.cons (.refl _) (.cons (.refl _) (.cons (.refl _) (.cons (.refl _) (.cons (.nil mem_cons_self) (.cons (.refl _) (.cons (.refl _) (.cons (.refl _) (.cons (.refl _) .nil)))))))))) (.cons rfl (.refl _) (.cons rfl (.refl _) (.new mem_cons_self .nil))))
      (zero_le _) ?_
     intro z hzn;have hRl:=x2o (XT w.p w.j w.n) part q z;rcases Nat.lt_or_ge z n with hz|hz
     ·have e4:=x3e (l:=part) (i:=z) (by omega);have hs2:=z1g (XT w.p w.j w.n) part q z;generalize FX (XT w.p w.j w.n) part q z=l at hRl hs2 ⊢;conv=>whnf
      repeat' (first|((first|refine And.intro rfl ?_|refine aD ?_|refine bP ?_|(refine iA fun _=>?_)|refine wI ?_|(refine CallK.pure (NI w f hj hc (by omega) z (by omega)) (.cons (Sub.refl _) (.cons (Sub.refl _) .nil)) ?_;rintro _ rfl)|refine WO (by simp) (by simp;omega) ?_);conv=>whnf)|(apply bD<;>intro _<;>first|omega|conv=>whnf))
      have hpz:part[z]=part.getD z 0:=by rw [getD_eq_getElem?_getD,List.getElem?_eq_getElem];rfl
      ·rw [if_pos (by omega)] at hs2;exact ⟨z+1,hz,by omega,Le.of_eq (by rw [hs2,length_append,List.map_append];rfl)⟩
      ·have hpz:part[z]=part.getD z 0:=by rw [getD_eq_getElem?_getD,List.getElem?_eq_getElem];rfl
       rw [if_neg (by omega)] at hs2;exact ⟨z+1,hz,by omega,Le.of_eq (by rw [hs2];rfl)⟩
     ·have hze:z=n:=by omega
      subst hze;conv=>whnf
      repeat' (apply bD<;>intro _<;>first|omega|conv=>whnf)
      have hfl:(FX (XT w.p w.j w.n) part q z).length=((FX (XT w.p w.j w.n) part q z).map (AV.int .i64)).length:=by simp
      refine OpK.frz QJ [[9,104]] ?_;conv=>whnf
      refine LenK.mk hfl ?_;conv=>whnf
      refine LenK.mk hfl ?_;conv=>whnf
      repeat' ((first|refine And.intro rfl ?_|refine aD ?_|refine bP ?_|refine wI ?_|refine AppK.mk (by simp [avI]) rfl (by show (acc.length+1)*24<=140737488355328;omega) (by show acc.length+1<=9223372036854775807;omega) (fun x hx=>by rcases List.mem_singleton.1 hx with rfl;exact ⟨rfl,rfl⟩) ?_);conv=>whnf)
      exact ⟨q+1,hq,by omega,Le.of_eq (by rw [hsucc];simp only [avI,length_append,List.map_append];rfl)⟩
  ·have hqe:q=n:=by omega
   subst hqe;conv=>whnf
   repeat' (apply bD<;>intro _<;>first|omega|conv=>whnf)
   exact ⟨_,.hd rfl (by simp [avI]),rfl⟩
def vOf (p:Pg) (id:Int):List Step:=match z8k p id with
 | some s=>if s.kind=10 then [⟨id,-1,3⟩] else []
 | none=>[]
def VU (w:Way) (f:Pr):List Step:=(trapsW w f).flatMap fun l=>l.flatMap (vOf w.p)
theorem w4o (p:Pg) (id:Int):(vOf p id).length<=1:=by
 unfold vOf;split
 ·split<;>simp
 ·simp
theorem VQ {α β:Type} {g:α->List β} {c:Nat} : ∀ (l:List α),(∀ x∈l,(g x).length<=c)->(l.flatMap g).length<=l.length*c
 | [],_=>by simp
 | a::r,h=>by
   have h1:=h a mem_cons_self;have h2:=VQ r fun x hx=>h x (mem_cons_of_mem _ hx);rw [List.flatMap_cons,length_append,length_cons,Nat.add_mul];omega
theorem x7z (w:Way) (f:Pr) (n:Nat) (hw:w.n=n) (hj:w.p.procs[w.j]? = some f) (hc:cntP w.p.procs<=1000) (hn:n<=5000) (hn2:2<=n) (hlen:w.real.length<=1000000) (hr : ∀ t∈prsW w f,(0<=t.1∧t.1<n)∧0<=t.2∧t.2<n)
  (htl:(trapsW w f).length<=5000) (hti : ∀ l∈trapsW w f,l.length<=5000 ∧ ∀ id∈l,1<=id∧id<=(sheetOf w.p).l.length) :
  SpecH Tryz.prog 256 [.p (.ip w.cells)] [] (fun r H=>r = .hd 0 0 (VU w f).length∧H=[(0,.own 145 3 (avS (VU w f)))]):=by
 refine sH MR Tryz.func256 rfl Tryz.call256 ?_;conv=>whnf
 repeat' ((first|(refine iM fun _=>?_)|refine cP (q8k w f n hw hj hc hn hn2 hlen hr) ?_);conv=>whnf)
 unfold VU;generalize trapsW w f=ts at htl hti ⊢;have hml:((avI ts).map AV.sl).length=ts.length:=by simp [avI]
 refine LoopK.inv QJ (fun x:Nat×List Step=>⟨[(0,.p (.ip w.cells)),(3,.hd 0 0 x.2.length),(9,.p (q5r ts)),(10,.p (.int .i64 ((avI ts).map AV.sl).length)),(11,.p (.int .i64 x.1))],[(0,.own 145 3 (avS x.2))]⟩)
  (fun x=>x.1<=ts.length∧x.2.length<=x.1*5000∧x.2++(ts.drop x.1).flatMap (fun l=>l.flatMap (vOf w.p))=ts.flatMap fun l=>l.flatMap (vOf w.p)) (fun x=>ts.length-x.1) (0,[])
  (Le.mk [(0,.own 145 3 [])] (by simp [Chunk.new0];rfl) (by simp) (by simp) (.cons (.refl _) (.cons (.nil mem_cons_self) (.cons (.refl _) (.cons (.refl _) (.cons (.refl _) .nil))))) (.new mem_cons_self .nil))
  ⟨zero_le _,by simp,rfl⟩ ?_
 rintro ⟨m,acc⟩ ⟨h1,h2,h3⟩;simp only at h1 h2 h3 ⊢;rcases Nat.lt_or_ge m ts.length with hm|hm;rotate_left 1
 ·rw [List.drop_eq_nil_of_le hm,List.flatMap_nil,List.append_nil] at h3;conv=>whnf
  repeat' (apply bD<;>intro _<;>first|omega|conv=>whnf)
  exact ⟨_,LSub.refl _,by rw [h3],by rw [h3]⟩
 obtain ⟨hl1,hl2⟩:=hti _ (List.getElem_mem hm);have hrow:((avI ts).map AV.sl)[m]? = some (.sl (ts[m].map (.int .i64))):=by simp [avI,hm]
 rw [JX hm] at h3;conv=>whnf
 repeat' (first|((first|(refine iM fun _=>?_)|(refine iA fun _=>?_));conv=>whnf)|(apply bD<;>intro _<;>first|omega|conv=>whnf))
 have hav:(avI ts)[m]'(by simp [avI];exact hm)=ts[m].map (.int .i64):=by simp [avI]
 rw [hav];generalize ts[m]=l at hl1 hl2 h3 ⊢;have hll:(l.map (AV.int .i64)).length=l.length:=length_map _;generalize htot:(ts.flatMap fun l=>l.flatMap (vOf w.p))=tot at h3 ⊢;refine LoopK.inv QJ (fun x:Nat×List Step=>⟨[(0,.p (.ip w.cells)),(3,.hd 0 0 x.2.length),(9,.p (q5r ts)),(10,.p (.int .i64 ((avI ts).map AV.sl).length)),(11,.p (.int .i64 m)),(15,.p (UY l)),(16,.p (.int .i64 (l.map (AV.int .i64)).length)),(17,.p (.int .i64 x.1))],[(0,.own 145 3 (avS x.2))]⟩)
  (fun x=>x.1<=l.length∧x.2.length<=m*5000+x.1∧x.2++((l.drop x.1).flatMap (vOf w.p)++(ts.drop (m+1)).flatMap (fun l=>l.flatMap (vOf w.p)))=tot) (fun x=>l.length-x.1) (0,acc) (Le.of_eq rfl) ⟨zero_le _,by simp only;omega,h3⟩ ?_
 rintro ⟨k,acc2⟩ ⟨h4,h5,h6⟩;simp only at h4 h5 h6 ⊢;rcases Nat.lt_or_ge k l.length with hk|hk;rotate_left 1
 ·rw [List.drop_eq_nil_of_le hk] at h6;conv=>whnf
  repeat' (first|(refine wI ?_;conv=>whnf)|(apply bD<;>intro _<;>first|omega|conv=>whnf))
  exact ⟨(m+1,acc2),⟨hm,by simp only;omega,by simpa using h6⟩,by simp only;omega,Le.of_eq rfl⟩
 obtain ⟨h7,h8⟩:=hl2 _ (List.getElem_mem hk);obtain ⟨_,_,_,hsl,_⟩:=QK w.p;have hlt:(l[k]-1).toNat<(sheetOf w.p).l.length:=by omega
 have hu : ∃ u:Item,((sheetOf w.p).l.map fun i=>AV.agg i.cells)[(l[k]-1).toNat]? = some (.agg u.cells)∧z8k w.p l[k]=some u.s:=⟨_,by rw [List.getElem?_map,List.getElem?_eq_getElem hlt];rfl,by unfold z8k;rw [List.getElem?_eq_getElem hlt];rfl⟩;obtain ⟨u,hu1,hu2⟩:=hu;rw [JX hk] at h6;have hv:vOf w.p l[k]=if u.s.kind=10 then [⟨l[k],-1,3⟩] else []:=by unfold vOf;rw [hu2]
 rw [hv] at h6;conv=>whnf
 repeat' (first|((first|refine And.intro rfl ?_|refine aD ?_|refine bP ?_|(refine iA fun _=>?_)|refine wI ?_|(refine IdxK.at (by omega) hu1 rfl ?_)|refine AppK.mk (by simp [avS]) rfl (by show (acc2.length+1)*24<=140737488355328;omega) (by show acc2.length+1<=9223372036854775807;omega) (fun x hx=>by rcases List.mem_singleton.1 hx with rfl;exact ⟨rfl,rfl⟩) ?_);conv=>whnf)|(apply bD<;>intro _<;>first|omega|conv=>whnf))
 ·rw [if_pos (by assumption)] at h6;exact ⟨(k+1,acc2++[⟨l[k],-1,3⟩]),⟨hk,by simp;omega,by simpa using h6⟩,by simp only;omega,Le.of_eq (by simp only [avS,length_append,List.map_append];rfl)⟩
 ·rw [if_neg (by assumption)] at h6;exact ⟨(k+1,acc2),⟨hk,by simp only;omega,by simpa using h6⟩,by simp only;omega,Le.of_eq rfl⟩
def fOf (it:Item):List Step:=if it.s.kind=7∨it.s.kind=8∨it.s.kind=9∨it.s.kind=10 then [⟨it.s.id,it.next,2⟩] else []
structure WayT (w:Way) (f:Pr) (n:Nat):Prop where
 hw:w.n=n
 hj:w.p.procs[w.j]? = some f
 hc:cntP w.p.procs<=1000
 hn:n<=5000
 hn2:2<=n
 hlen:w.real.length<=1000000
 hr : ∀ t∈prsW w f,(0<=t.1∧t.1<n)∧0<=t.2∧t.2<n
 htl:(trapsW w f).length<=5000
 hti : ∀ l∈trapsW w f,l.length<=5000 ∧ ∀ id∈l,1<=id∧id<=(sheetOf w.p).l.length
 hok : ∀ s∈w.real,okSt s
 hfk : ∀ it∈itsOf w.p w.j f,∀ s∈fOf it,okSt s
theorem w3y {p:Pg} {id:Int} {s:Step} (h:s∈vOf p id):s=⟨id,-1,3⟩:=by
 unfold vOf at h;split at h
 ·split at h
  ·simpa using h
  ·simp at h
 ·simp at h
theorem WayT.virt_ok {w:Way} {f:Pr} {n:Nat} (h:WayT w f n) : ∀ s∈VU w f,okSt s:=fun s hs=>by
 unfold VU at hs;obtain ⟨l,hl,hs⟩:=List.mem_flatMap.1 hs;obtain ⟨id,hid,hs⟩:=List.mem_flatMap.1 hs;obtain ⟨_,_,_,hsl,_⟩:=QK w.p;have h1:=(h.hti l hl).2 id hid;have h2:=h.hc;rw [w3y hs];exact ⟨by show id≠_;omega,by show (-1:Int)≠_;decide⟩
theorem WayT.virt_len {w:Way} {f:Pr} {n:Nat} (h:WayT w f n):(VU w f).length<=25000000:=by
 have h1:=VQ (g:=fun l=>l.flatMap (vOf w.p)) (c:=5000) (trapsW w f) fun l hl=>by
  have h2:=VQ (g:=vOf w.p) (c:=1) l fun id _=>w4o w.p id;have h3:=(h.hti l hl).1;omega
 have h2:=h.htl;unfold VU;omega
def HV (w:Way) (f:Pr):List Step:=WU (VU w f++w.real)
def q6n (w:Way) (f:Pr):List Step:=VU w f++w.real++[⟨0,-1,2⟩]++(itsOf w.p w.j f).flatMap fOf
def v2v (w:Way) (f:Pr):List Step:=WU (q6n w f)
theorem x3o (w:Way) (f:Pr) (n:Nat) (h:WayT w f n):SpecP Tryz.prog 171 [.ip w.cells] (fun r=>r=GT (HV w f)):=by
 refine sB q6y Tryz.func171 rfl Tryz.call171 ?_;conv=>whnf
 have hlen:=h.hlen;have hvl:=h.virt_len;have hvok:=h.virt_ok;repeat' (first|((first|refine dA ?_|refine aD ?_);conv=>whnf)|(refine CallK.heap [] 0 (ArgsH.cons (LSub.refl _) ArgsH.nil) BlksH.nil (x7z w f n h.hw h.hj h.hc h.hn h.hn2 h.hlen h.hr h.htl h.hti) rfl rfl ?_;rintro l' H' ⟨rfl,rfl⟩;conv=>whnf))
 have hml:(w.real.map fun s=>AV.agg s.cells).length=w.real.length:=length_map _;have hvm:(avS (VU w f)).length=(VU w f).length:=by simp [avS]
 refine AppK.mk hvm.symm rfl (by rw [hml];show ((VU w f).length+w.real.length)*24<=140737488355328;omega) (by rw [hml];show (VU w f).length+w.real.length<=9223372036854775807;omega) (fun x hx=>by obtain ⟨s,_,rfl⟩:=List.mem_map.1 hx;exact ⟨rfl,rfl⟩) ?_;conv=>whnf
 have happ:avS (VU w f)++(w.real.map fun s=>AV.agg s.cells)=avS (VU w f++w.real):=by simp [avS]
 have hlp:(VU w f).length+(w.real.map fun s=>AV.agg s.cells).length=(VU w f++w.real).length:=by simp
 rw [happ,hlp];repeat' (refine CallK.heap [(1000,0)] 0 (by repeat' (first|exact ArgsH.nil|refine ArgsH.cons ?_ ?_|exact LSub.refl _|exact LSub.p Sub.nils|exact LSub.p (Sub.tt rfl)|exact LSub.p (Sub.ff rfl)|exact LSub.p (Sub.int (by omega)))) (by refine BlksH.cons (j:=0) rfl rfl ?_ ?_;exact CSub.refl _;exact BlksH.nil) (x3m (VU w f++w.real) (fun s hs=>(List.mem_append.1 hs).elim (hvok s) (h.hok s)) (by rw [length_append];omega)) rfl rfl ?_;rintro l' H' ⟨rfl,rfl⟩;conv=>whnf)
 exact ⟨_,.hd rfl (by simp [avS]),rfl⟩
theorem UP : ∀ (k:Nat) (x:X) (_:wX x<k) (_:k<=20002),SpecP Tryz.prog 229 [.agg x.cells] (fun r=>r = .agg x.cells):=by
 intro k;induction k with
 | zero=>intro x h;omega
 | succ k ih =>
   intro x hx hk;have hxe:wX x=1+wXs x.kids:=by cases x;rw [wX];rfl
   have hkl:=X.avs_len x.kids;have hkn:=x6d x.kids;refine sB KM Tryz.func229 rfl Tryz.call229 ?_;conv=>whnf
   repeat' ((first|(refine iM fun _=>?_)|refine And.intro rfl ?_);conv=>whnf)
   all_goals
    refine LoopK.inv QJ (fun j:Nat=>⟨[(1,.p (.ip x.cells)),(2,.ptr 1 0),(3,.ptr 0 0),(14,.p (.int .i64 (X.avs x.kids).length)),(15,.p (.int .i64 j))],[(0,.obj 36 [.p (.int .i64 x.op),.p (.int .i64 x.n),.p (.str (x.name)),.hd 2 0 j]),(1,.obj 36 [.p (.int .i64 0),.p (.int .i64 0),.p (.str []),.p .nils]),(2,.own 36 4 (X.avs (x.kids.take j)))]⟩) (fun j=>j<=x.kids.length) (fun j=>x.kids.length-j) 0
     (Le.mk [(2,.own 36 4 [])] (by simp [Chunk.new0];rfl) (by simp) (by simp) (.cons (.refl _) (.cons (.refl _) (.cons (.refl _) (.cons (.refl _) (.cons (.refl _) .nil))))) (.cons rfl (.obj (.cons (.refl _) (.cons (.refl _) (.cons (.refl _) (.cons (.nil mem_cons_self) .nil))))) (.cons rfl (.refl _) (.new mem_cons_self .nil)))) (zero_le _) ?_
    intro j h2;rcases Nat.lt_or_ge j x.kids.length with hj|hj
    ·have hkw:=z4x (List.getElem_mem hj);have hih:=ih x.kids[j] (by omega) (by omega);have htk:X.avs (x.kids.take (j+1))=X.avs (x.kids.take j)++[.agg (x.kids[j]).cells]:=by
      rw [X.avs_eq,X.avs_eq,List.take_succ_eq_append_getElem hj,List.map_append];rfl
     have hal:(X.avs (x.kids.take j)).length=j:=by rw [X.avs_len,length_take];omega
     generalize X.avs (x.kids.take j)=acc at htk hal ⊢;conv=>whnf
     repeat' (first|((first|refine dA ?_|refine And.intro rfl ?_|refine aD ?_|refine bP ?_|refine IdxK.xs (by omega) ?_|refine wI ?_|refine cP hih ?_|refine AppK.mk hal.symm rfl (by show (j+1)*56<=140737488355328;omega) (by show j+1<=9223372036854775807;omega) (fun x hx=>by rcases List.mem_singleton.1 hx with rfl;exact ⟨rfl,rfl⟩) ?_);conv=>whnf)|(apply bD<;>intro _<;>first|omega|conv=>whnf)|(refine And.intro ?_ ?_<;>conv=>whnf))
     all_goals exact ⟨j+1,hj,by omega,Le.of_eq (by rw [htk];rfl)⟩
    ·have hall:X.avs (x.kids.take j)=X.avs x.kids:=by rw [take_of_length_le hj]
     have hal:(X.avs (x.kids.take j)).length=j:=by rw [X.avs_len,length_take];omega
     conv=>whnf
     repeat' (first|(refine And.intro rfl ?_;conv=>whnf)|(apply bD<;>intro _<;>first|omega|conv=>whnf))
     refine ⟨_,.agg (cs:=x.cells) rfl fun i l c h1 h3 => ?_,rfl⟩
     match i,h1,h3 with
     | 0,h1,h3=>cases h1;cases h3;exact .p (Sub.refl _)
     | 1,h1,h3=>cases h1;cases h3;exact .p (Sub.refl _)
     | 2,h1,h3=>cases h1;cases h3;exact .p (Sub.refl _)
     | 3,h1,h3 =>
       cases h1;cases h3;show Frz _ _ (.sl (X.avs x.kids));rw [<- hall];exact .hd rfl hal.symm
     | i+4,h1,h3=>simp at h1
def v1d (s:S):S := .mk s.id s.kind s.labels s.name s.proc s.x s.has s.args [] []
theorem UE (s:S) (hx:wX s.x<=20000) (hl:s.labels.length<=1000000) (ha:s.args.length<=1000000) (hax : ∀ a∈s.args,wX a.x<=20000):SpecP Tryz.prog 154 [.agg s.cells] (fun r=>r = .agg (v1d s).cells):=by
 refine sB HW Tryz.func154 rfl Tryz.call154 ?_;conv=>whnf
 have hal:(s.args.map fun a=>AV.agg a.cells).length=s.args.length:=length_map _;have hC:=UP 20001 s.x (by omega) (by omega);repeat' (first|((first|(refine iM fun _=>?_)|refine dA ?_|refine And.intro rfl ?_|refine cP hC ?_|refine cP (ZM s.labels hl) ?_);conv=>whnf)|(refine And.intro ?_ ?_<;>conv=>whnf))
 all_goals
  refine LoopK.inv QJ (fun j:Nat=>⟨[(2,.ptr 1 0),(3,.ptr 0 0),(24,.p (z1q s.args)),(25,.p (.int .i64 (s.args.map fun a=>AV.agg a.cells).length)),(26,.p (.int .i64 j))],[(0,.obj 40 [.p (.int .i64 s.id),.p (.int .i64 s.kind),.p (eStrs s.labels),.p (.str s.name),.p (.str s.proc),.p (.int .i64 s.x.op),.p (.int .i64 s.x.n),.p (.str s.x.name),.p (.sl (X.avs s.x.kids)),.p (.bool s.has),.hd 2 0 j,.p .nils,.p .nils]),(1,.obj 40 [.p (.int .i64 0),.p (.int .i64 0),.p .nils,.p (.str []),.p (.str []),.p (.int .i64 0),.p (.int .i64 0),.p (.str []),.p .nils,.p .ff,.p .nils,.p .nils,.p .nils]),(2,.own 128 6 ((s.args.take j).map fun a => .agg a.cells))]⟩) (fun j=>j<=s.args.length) (fun j=>s.args.length-j) 0
   (Le.mk [(2,.own 128 6 [])] (by simp [Chunk.new0];rfl) (by simp) (by simp) (.cons (.refl _) (.cons (.refl _) (.cons (.refl _) (.cons (.refl _) (.cons (.refl _) .nil))))) (.cons rfl (.obj (.cons (.refl _) (.cons (.refl _) (.cons (.refl _) (.cons (.refl _) (.cons (.refl _) (.cons (.refl _) (.cons (.refl _) (.cons (.refl _) (.cons (.refl _) (.cons (.refl _) (.cons (.nil mem_cons_self) (.cons (.refl _) (.cons (.refl _) .nil)))))))))))))) (.cons rfl (.refl _) (.new mem_cons_self .nil)))) (zero_le _) ?_
  intro j h2;rcases Nat.lt_or_ge j s.args.length with hj|hj
  ·have hax1:=hax _ (List.getElem_mem hj);have hD:=UP 20001 s.args[j].x (by omega) (by omega);have htk:((s.args.take (j+1)).map fun a=>AV.agg a.cells)=((s.args.take j).map fun a=>AV.agg a.cells)++[.agg s.args[j].cells]:=by
    rw [List.take_succ_eq_append_getElem hj,List.map_append];rfl
   have hcl:((s.args.take j).map fun a=>AV.agg a.cells).length=j:=by rw [length_map,length_take];omega
   generalize ((s.args.take j).map fun a=>AV.agg a.cells)=acc at htk hcl ⊢;conv=>whnf
   repeat' (first|((first|refine dA ?_|refine And.intro rfl ?_|refine aD ?_|refine bP ?_|(refine iA fun _=>?_)|refine wI ?_|refine cP hD ?_|refine AppK.mk hcl.symm rfl (by show (j+1)*80<=140737488355328;omega) (by show j+1<=9223372036854775807;omega) (fun x hx=>by rcases List.mem_singleton.1 hx with rfl;exact ⟨rfl,rfl⟩) ?_);conv=>whnf)|(apply bD<;>intro _<;>first|omega|conv=>whnf)|(refine And.intro ?_ ?_<;>conv=>whnf))
   all_goals exact ⟨j+1,hj,by omega,Le.of_eq (by rw [htk];rfl)⟩
  ·have hall:((s.args.take j).map fun a=>AV.agg a.cells)=s.args.map fun a => .agg a.cells:=by rw [take_of_length_le hj]
   have hcl:((s.args.take j).map fun a=>AV.agg a.cells).length=j:=by rw [length_map,length_take];omega
   conv=>whnf
   repeat' (first|(refine And.intro rfl ?_;conv=>whnf)|(apply bD<;>intro _<;>first|omega|conv=>whnf))
   refine ⟨_,.agg (cs:=(v1d s).cells) rfl fun i l c h1 h3 => ?_,rfl⟩
   match i,h1,h3 with
   | 0,h1,h3=>cases h1;cases h3;exact .p (Sub.refl _)
   | 1,h1,h3=>cases h1;cases h3;exact .p (Sub.refl _)
   | 2,h1,h3=>cases h1;cases h3;exact .p (Sub.refl _)
   | 3,h1,h3=>cases h1;cases h3;exact .p (Sub.refl _)
   | 4,h1,h3=>cases h1;cases h3;exact .p (Sub.refl _)
   | 5,h1,h3=>cases h1;cases h3;exact .p (Sub.refl _)
   | 6,h1,h3=>cases h1;cases h3;exact .p (Sub.refl _)
   | 7,h1,h3=>cases h1;cases h3;exact .p (Sub.refl _)
   | 8,h1,h3=>cases h1;cases h3;exact .p (Sub.refl _)
   | 9,h1,h3=>cases h1;cases h3;exact .p (Sub.refl _)
   | 10,h1,h3 =>
     cases h1;cases h3;show Frz _ _ (.sl (s.args.map fun a => .agg a.cells));rw [<- hall];exact .hd rfl hcl.symm
   | 11,h1,h3=>cases h1;cases h3;exact .p Sub.nils
   | 12,h1,h3=>cases h1;cases h3;exact .p Sub.nils
   | i+13,h1,h3=>simp at h1
mutual
def nmS (n:Nat):S->S
 | .mk _ kind labels name proc x has args thn els => .mk ((n+1:Nat):Int) kind labels name proc x has args (nmL (n+1) thn) (nmL (n+1+cntL thn) els)
def nmL (n:Nat):List S->List S
 | []=>[]
 | t::r=>nmS n t::nmL (n+ZS t) r
end
theorem w6b (n:Nat) (t:S):nmS n t = .mk ((n+1:Nat):Int) t.kind t.labels t.name t.proc t.x t.has t.args (nmL (n+1) t.thn) (nmL (n+1+cntL t.thn) t.els):=by
 cases t;rw [nmS];rfl
theorem q9o (n:Nat) : ∀ l:List S,(nmL n l).length=l.length
 | []=>by rw [nmL]
 | t::r=>by rw [nmL,length_cons,length_cons,q9o _ r]
theorem z4w : ∀ (l:List S) (n j:Nat) (h:j<l.length),(nmL n l)[j]? = some (nmS (n+cntL (l.take j)) l[j])
 | t::r,n,0,h=>by rw [nmL];simp [cntL]
 | t::r,n,j+1,h=>by
   rw [nmL,List.getElem?_cons_succ,z4w r (n+ZS t) j (by simpa using h),List.take_succ_cons,cntL,Nat.add_assoc];rfl
theorem x3l : ∀ (l:List S) (j:Nat) (h:j<l.length),cntL (l.take (j+1))=cntL (l.take j)+ZS l[j]
 | t::r,0,h=>by simp [cntL]
 | t::r,j+1,h=>by
   rw [List.take_succ_cons,List.take_succ_cons,cntL,cntL,x3l r j (by simpa using h),Nat.add_assoc];rfl
theorem q1e : ∀ l:List S,l.length<=cntL l
 | []=>by simp
 | t::r=>by
   rw [cntL,length_cons];have:=q1e r;have:1<=ZS t:=by cases t;rw [ZS];omega
   omega
def okC (t:S):Prop:=wX t.x<=20000∧t.labels.length<=1000000∧t.args.length<=1000000 ∧ ∀ a∈t.args,wX a.x<=20000
theorem q2p : ∀ {l:List S} {t:S},t∈l->ZS t<=cntL l
 | a::r,t,h=>by
   rw [cntL];rcases List.mem_cons.1 h with rfl|h
   ·omega
   ·have:=q2p h;omega
theorem HG : ∀ (k:Nat) (l:List S) (_:cntL l<k) (n:Nat) (_:n+cntL l<=1000000) (_ : ∀ t∈flL l,okC t),SpecP Tryz.prog 155 [eSs l,.int .i64 (n:Nat)] (fun r=>r = .tup [eSs (nmL n l),.int .i64 (n+cntL l:Nat)]):=by
 intro k;induction k with
 | zero=>intro l h;omega
 | succ k ih =>
   intro l hk n hn hok;have hsl:(S.avs l).length=l.length:=by rw [S.avs_eq,length_map]
   have hcl:=q1e l;refine sB KL Tryz.func155 rfl Tryz.call155 ?_;conv=>whnf
   repeat' (refine iM fun _=>?_;conv=>whnf)
   refine LoopK.inv QJ (fun j:Nat=>⟨[(1,.p (.int .i64 (n+cntL (l.take j):Nat))),(6,.hd 0 0 j),(10,.p (eSs l)),(11,.p (.int .i64 (S.avs l).length)),(12,.p (.int .i64 j))],[(0,.own 40 13 (S.avs ((nmL n l).take j)))]⟩) (fun j=>j<=l.length) (fun j=>l.length-j) 0
    (Le.mk [(0,.own 40 13 [])] (by simp [Chunk.new0];rfl) (by simp) (by simp) (.cons (.of_eq (by simp [cntL];rfl)) (.cons (.nil mem_cons_self) (.cons (.refl _) (.cons (.refl _) (.cons (.refl _) .nil))))) (.new mem_cons_self .nil)) (zero_le _) ?_
   intro j h2;rcases Nat.lt_or_ge j l.length with hj|hj
   ·have htk:=x3l l j hj;have htm:=q2p (List.getElem_mem hj);have hcs:=WD l[j];have hget:=z4w l n j hj;have hlb:cntL (l.take (j+1))<=cntL l:=by
     conv=>rhs;rw [<- List.take_append_drop (j+1) l]
     have : ∀ a b:List S,cntL (a++b)=cntL a+cntL b:=fun a b=>by
      induction a with
      | nil=>simp [cntL]
      | cons x r ih=>rw [List.cons_append,cntL,cntL,ih,Nat.add_assoc]
     rw [this];omega
    have hself:=hok _ (PH l _ (List.getElem_mem hj));have hsub : ∀ t,t∈flL l[j].thn∨t∈flL l[j].els->okC t:=fun t ht=>hok t (by
     have:t∈flS l[j]:=by
      rw [q6b];exact mem_cons_of_mem _ (List.mem_append.2 ht)
     have key : ∀ (m:List S) (i:Nat) (h:i<m.length),t∈flS m[i]->t∈flL m:=fun m=>by
      induction m with
      | nil=>intro i h;simp at h
      | cons a r ih =>
        intro i h ht;rw [flL];cases i with
        | zero=>exact List.mem_append.2 (.inl ht)
        | succ i=>exact List.mem_append.2 (.inr (ih i (by simpa using h) ht))
     exact key l j hj this)
    have h5:=UE l[j] hself.1 hself.2.1 hself.2.2.1 hself.2.2.2;have h6:=ih l[j].thn (by omega) (n+cntL (l.take j)+1) (by omega) fun t ht=>hsub t (.inl ht);have h7:=ih l[j].els (by omega) (n+cntL (l.take j)+1+cntL l[j].thn) (by omega) fun t ht=>hsub t (.inr ht);have hacl:j=(S.avs ((nmL n l).take j)).length:=by rw [S.avs_eq,length_map,length_take,q9o];omega
    have hav:S.avs ((nmL n l).take (j+1))=S.avs ((nmL n l).take j)++[.agg (nmS (n+cntL (l.take j)) l[j]).cells]:=by
     rw [S.avs_eq,S.avs_eq,List.take_add_one,hget,List.map_append];rfl
    conv=>whnf
    repeat' (first|((first|refine And.intro rfl ?_|refine aD ?_|refine bP ?_|refine QZ (by omega) ?_|refine wI ?_|refine cP h5 ?_|(refine CallK.pure h6 (.cons (Sub.refl _) (.cons (Sub.int (by omega)) .nil)) ?_;rintro _ rfl)|(refine CallK.pure h7 (.cons (Sub.refl _) (.cons (Sub.int (by omega)) .nil)) ?_;rintro _ rfl)|refine AppK.mk hacl rfl (by show (j+1)*208<=140737488355328;omega) (by show j+1<=9223372036854775807;omega) (fun x hx=>by rcases List.mem_singleton.1 hx with rfl;exact ⟨rfl,rfl⟩) ?_);conv=>whnf)|(apply bD<;>intro _<;>first|omega|conv=>whnf))
    exact ⟨j+1,hj,by omega,Le.mk [] (by simp) (by simp) (by simp) (.cons (.of_eq (by rw [htk,hcs,show n+(cntL (l.take j)+(1+cntL l[j].thn+cntL l[j].els))=n+cntL (l.take j)+1+cntL l[j].thn+cntL l[j].els by omega];rfl)) (.cons (.refl _) (.cons (.refl _) (.cons (.refl _) (.cons (.refl _) .nil))))) (.cons rfl (.of_eq (by rw [hav,w6b];rfl)) .nil)⟩
   ·have hall:(nmL n l).take j=nmL n l:=take_of_length_le (by rw [q9o];exact hj);have hall2:l.take j=l:=take_of_length_le hj;have hjl:j=(S.avs (nmL n l)).length:=by rw [S.avs_eq,length_map,q9o];omega
    rw [hall,hall2];conv=>whnf
    repeat' (apply bD<;>intro _<;>first|omega|conv=>whnf)
    refine ⟨_,.tup (cs:=[eSs (nmL n l),.int .i64 (n+cntL l:Nat)]) rfl fun i l' c h1 h3 => ?_,rfl⟩
    match i,h1,h3 with
    | 0,h1,h3=>cases h1;cases h3;exact .hd rfl hjl
    | 1,h1,h3=>cases h1;cases h3;exact .p (Sub.refl _)
    | i+2,h1,h3=>simp at h1
def ElS (es es':List AV):Prop:=es'.length=es.length ∧ ∀ (m:Nat) (x':AV),es'[m]? = some x' -> ∃ x,es[m]? = some x∧x'.cells.length=x.cells.length ∧ ∀ (j:Nat) (c':AV),x'.cells[j]? = some c' -> ∃ c,x.cells[j]? = some c∧Sub c c'
inductive SubH:Heap->Heap->Prop
 | nil:SubH [] []
 | same {c:Nat×Chunk} {H H':Heap} (h:SubH H H'):SubH (c::H) (c::H')
 | els {k:Nat} {e:TypeId} {sz:Nat} {es es':List AV} {H H':Heap} (hp:ElS es es') (h:SubH H H'):SubH ((k,.own e sz es)::H) ((k,.own e sz es')::H')
theorem SubH.get {H H':Heap} (h:SubH H H'):H'.map (·.1)=H.map (·.1) ∧ ∀ j c',(j,c')∈H'->(j,c')∈H ∨ ∃ e sz es es',(j,Chunk.own e sz es)∈H∧c' = .own e sz es'∧ElS es es':=by
 induction h with
 | nil=>exact ⟨rfl,by simp⟩
 | same h ih =>
   refine ⟨by simp [ih.1],fun j c' hj => ?_⟩;rcases List.mem_cons.1 hj with rfl|hj
   ·exact .inl mem_cons_self
   ·rcases ih.2 j c' hj with h1|⟨e,sz,es,es',h1,h2⟩
    ·exact .inl (mem_cons_of_mem _ h1)
    ·exact .inr ⟨e,sz,es,es',mem_cons_of_mem _ h1,h2⟩
 | @els k e sz es es' H H' hp h ih =>
   refine ⟨by simp [ih.1],fun j c' hj => ?_⟩;rcases List.mem_cons.1 hj with hj|hj
   ·cases hj;exact .inr ⟨e,sz,es,es',mem_cons_self,rfl,hp⟩
   ·rcases ih.2 j c' hj with h1|⟨e,sz,es,es',h1,h2⟩
    ·exact .inl (mem_cons_of_mem _ h1)
    ·exact .inr ⟨e,sz,es,es',mem_cons_of_mem _ h1,h2⟩
theorem Le.els {N:Nat} {sl:List (Nat×LV)} {H H':Heap} (h:SubH H H'):Le N ⟨sl,H⟩ ⟨sl,H'⟩:=fun σ β a w hr=>by
 obtain ⟨hk,hc⟩:=h.get;refine ⟨σ,β,⟨hr.size,hr.defers,hr.slots,⟨hr.heap.mem,fun j c' hj => ?_,by show (H'.map (·.1)).Nodup;rw [hk];exact hr.heap.nodup,fun j hj=>hr.heap.apart j (by rw [<- hk];exact hj),fun j hj j' hj'=>hr.heap.inj j (by rw [<- hk];exact hj) j' (by rw [<- hk];exact hj')⟩⟩,Mem.le_refl σ,Frm.refl _ w,fun b h0 h1=>absurd h0 h1,fun b ⟨j,hj,r⟩ => .inl ⟨j,by rw [<- hk];exact hj,r⟩,fun _ _ _=>rfl⟩;rcases hc j c' hj with h1|⟨e,sz,es,es',h1,rfl,h2⟩
 ·exact hr.heap.chunks j c' h1
 ·rcases hr.heap.chunks j _ h1 with ⟨h3,h4⟩|⟨i,vs,h3,h4,h5,h6,h7,h8,h9⟩
  ·refine .inl ⟨h3,?_⟩;have:=h2.1;rw [h4] at this;exact List.eq_nil_of_length_eq_zero this
  ·refine .inr ⟨i,vs,h3,h4,h5,h6,by rw [h2.1];exact h7,h8,fun m x' hx => ?_⟩;obtain ⟨x,g1,g2,g3⟩:=h2.2 m x' hx;refine ⟨by rw [g2];exact (h9 m x g1).1,fun j c' hc => ?_⟩;obtain ⟨c,g4,g5⟩:=g3 j c' hc;obtain ⟨u,g6,g7⟩:=(h9 m x g1).2 j c g4;exact ⟨u,g6,g5 _ _ g7⟩
def nxE (rows:List (List Int)) (t:Int×Int):List (List Int):=rows.set t.1.toNat (rows.getD t.1.toNat []++[t.2])
def PB (n:Nat) (l:List (Int×Int)):List (List Int):=l.foldl nxE (List.replicate n [])
theorem z7z (rows:List (List Int)) (t:Int×Int):(nxE rows t).length=rows.length:=length_set
theorem x2b : ∀ (l:List (Int×Int)) (rows:List (List Int)),(l.foldl nxE rows).length=rows.length
 | [],_=>rfl
 | t::r,rows=>by rw [foldl_cons,x2b r,z7z]
theorem q4y (n:Nat) (l:List (Int×Int)):(PB n l).length=n:=by
 unfold PB;rw [x2b,length_replicate]
theorem x1f : ∀ (l:List (Int×Int)) (rows:List (List Int)) (a:Nat),((l.foldl nxE rows).getD a []).length<=(rows.getD a []).length+l.length
 | [],_,_=>Nat.le_refl _
 | t::r,rows,a=>by
   rw [foldl_cons];have h1:=x1f r (nxE rows t) a;have h2:((nxE rows t).getD a []).length<=(rows.getD a []).length+1:=by
    unfold nxE;simp only [getD_eq_getElem?_getD,List.getElem?_set];by_cases he:t.1.toNat=a
    ·subst he;by_cases hl:t.1.toNat<rows.length
     ·simp [hl]
     ·simp [hl]
    ·simp [he]
   rw [length_cons];omega
theorem x2u (n:Nat) (l:List (Int×Int)) (a:Nat):((PB n l).getD a []).length<=l.length:=by
 have:=x1f l (List.replicate n []) a;have e:((List.replicate n ([]:List Int)).getD a []).length=0:=by
  rw [getD_eq_getElem?_getD,List.getElem?_replicate];split<;>rfl
 unfold PB;omega
theorem z7t {N':Nat} {sl:List (Nat×LV)} (n:Nat) (h0:(sl.all fun x=>x.2.xfree 0)=true) :
  Le N' ⟨sl,[(0,.own 74 1 (List.replicate n .nils))]⟩ ⟨sl,[(0,.ext (.mat 74 3 1 (List.replicate n []) []))]⟩:=by
 have hm:=x0i (N:=N') (sl:=sl) (H:=[(0,.own 74 1 (List.replicate n .nils))])
  (H':=[(0,.ext (.mat 74 3 1 (List.replicate (List.replicate n AV.nils).length []) []))])
  0 3 1 (e:=74) (es:=List.replicate n .nils) rfl (fun x hx=>List.eq_of_mem_replicate hx) rfl h0 rfl rfl (by simp [GM])
 simpa using hm
theorem x3q {n:Nat} {part:List Int} (hp : ∀ k,k<n->0<=part.getD k 0∧part.getD k 0<n) {i:Nat} (hi:i<n) : ∀ (l:List (Int×Int)) {o:List Bool},o.length=n->(∀ t∈l,0<=t.1∧t.1<n) ->
  ((l.foldl (MB part) o).getD i false=true↔o.getD i false=true ∨ ∃ t∈l,part.getD t.1.toNat 0≠part.getD t.2.toNat 0∧part.getD t.1.toNat 0=i)
 | [],o,_,_=>by simp
 | t::r,o,ho,hr=>by
   rw [foldl_cons,x3q hp hi r (by rw [x1d];exact ho) fun u hu=>hr u (mem_cons_of_mem _ hu)];have h1:=hr t mem_cons_self;have h2:=hp t.1.toNat (by omega);have key:(MB part o t).getD i false=true↔o.getD i false=true∨(part.getD t.1.toNat 0≠part.getD t.2.toNat 0∧part.getD t.1.toNat 0=i):=by
    unfold MB;split
    ·rename_i he;constructor
     ·exact .inl
     ·rintro (h3|⟨h3,_⟩)
      ·exact h3
      ·exact absurd he h3
    ·rename_i he;rw [ZN (by omega)];split
     ·rename_i h3;constructor
      ·intro _;exact .inr ⟨he,by omega⟩
      ·intro _;rfl
     ·rename_i h3;constructor
      ·exact .inl
      ·rintro (h4|⟨_,h4⟩)
       ·exact h4
       ·exact absurd (by omega) h3
   rw [key,or_assoc];constructor
   ·rintro (h3|⟨h3,h4⟩|⟨u,hu,h3⟩)
    ·exact .inl h3
    ·exact .inr ⟨t,mem_cons_self,h3,h4⟩
    ·exact .inr ⟨u,mem_cons_of_mem _ hu,h3⟩
   ·rintro (h3|⟨u,hu,h3⟩)
    ·exact .inl h3
    ·rcases List.mem_cons.1 hu with rfl|hu
     ·exact .inr (.inl h3)
     ·exact .inr (.inr ⟨u,hu,h3⟩)
theorem w1z {n:Nat} {part:List Int} (hn:0<n) (hp : ∀ k,k<n->0<=part.getD k 0∧part.getD k 0<n) {i:Nat} (hi:i<n) {l:List (Int×Int)} (hr : ∀ t∈l,0<=t.1∧t.1<n) :
  (q8b n part l).getD i false=true↔part.getD 0 0=i∨part.getD (n-1) 0=i ∨ ∃ t∈l,part.getD t.1.toNat 0≠part.getD t.2.toNat 0∧part.getD t.1.toNat 0=i:=by
 have h0:=hp 0 hn;have h1:=hp (n-1) (by omega);unfold q8b;rw [x3q hp hi l (by simp [q6w]) hr];have key:(q6w n part).getD i false=true↔part.getD 0 0=i∨part.getD (n-1) 0=i:=by
  unfold q6w;rw [ZN (by rw [length_set,length_replicate];omega),ZN (by rw [length_replicate];omega)];split
  ·exact ⟨fun _ => .inr (by omega),fun _=>rfl⟩
  ·split
   ·exact ⟨fun _ => .inl (by omega),fun _=>rfl⟩
   ·have:(List.replicate n false).getD i false=false:=by
     rw [getD_eq_getElem?_getD,List.getElem?_replicate];split<;>rfl
    rw [this];constructor
    ·intro h;cases h
    ·rintro (h|h)<;>omega
 rw [key,or_assoc]
section
variable {p:Pg} {j:Nat} {f:Pr}
theorem q2h {i:Int} (h:0<=i∧i<(cntL f.body+2:Nat)):plP p j f (XT p j (cntL f.body+2:Nat) i)∧ixI p j f (XT p j (cntL f.body+2:Nat) i)=i:=by
 unfold XT ixI JA plP loI hiI;constructor
 ·(repeat' split)<;>omega
 ·(repeat' split)<;>omega
theorem w0s {x:Int} (h:plP p j f x):XT p j (cntL f.body+2:Nat) (ixI p j f x)=x:=by
 have h1:=q2h (p:=p) (j:=j) (f:=f) (HF h);exact z6r h1.1 h h1.2
theorem LH:prsW (QX p j f) f=(QX p j f).real.map (ixP p j f (cntL f.body+2:Nat)):=rfl
theorem w3x (h:XB p=true) (hj:p.procs[j]? = some f) : ∀ t∈prsW (QX p j f) f,(0<=t.1∧t.1<(cntL f.body+2:Nat))∧0<=t.2∧t.2<(cntL f.body+2:Nat):=fun t ht=>by
 rw [LH] at ht;obtain ⟨s,hs,rfl⟩:=List.mem_map.1 ht;obtain ⟨h1,h2⟩:=YH h hj s hs;exact ⟨HF h1,HF h2⟩
def wE (p:Pg) (j:Nat) (f:Pr):Int->Int->Prop:=rowE (QA (cntL f.body+2) (prsW (QX p j f) f)).1
def wR (p:Pg) (j:Nat) (f:Pr):Int->Int->Prop:=stR (QX p j f).real
theorem w8u (h:XB p=true) (hj:p.procs[j]? = some f) {i k:Int}:wE p j f i k ↔ ∃ a b,wR p j f a b∧ixI p j f a=i∧ixI p j f b=k:=by
 unfold wE wR;rw [z1j];constructor
 ·rintro ⟨h1,_,_⟩;rw [LH] at h1;obtain ⟨s,hs,he⟩:=List.mem_map.1 h1;exact ⟨s.src,s.dst,⟨s,hs,rfl,rfl⟩,congrArg Prod.fst he,congrArg Prod.snd he⟩
 ·rintro ⟨a,b,⟨s,hs,rfl,rfl⟩,rfl,rfl⟩;obtain ⟨h1,h2⟩:=YH h hj s hs;exact ⟨List.mem_map.2 ⟨s,hs,rfl⟩,x0t (HF h1),x0t (HF h2)⟩
theorem w8t (h:XB p=true) (hj:p.procs[j]? = some f) {a b:Int} (hr:wR p j f a b):plP p j f a∧plP p j f b:=by
 obtain ⟨s,hs,rfl,rfl⟩:=hr;exact YH h hj s hs
theorem w2y (h:XB p=true) (hj:p.procs[j]? = some f) {a b:Int} (ha:plP p j f a) (hb:plP p j f b):Rch (wE p j f) (ixI p j f a) (ixI p j f b)↔Rch (wR p j f) a b:=by
 constructor
 ·intro hr;obtain ⟨c,h1,h2,h3⟩:=hr.closed (S:=fun k => ∃ c,plP p j f c∧ixI p j f c=k∧Rch (wR p j f) a c) (by
   rintro i k ⟨c,h1,h2,h3⟩ h4;obtain ⟨x,y,h5,h6,h7⟩:=(w8u h hj).1 h4;have h8:=w8t h hj h5;have:x=c:=z6r h8.1 h1 (by rw [h6,h2]);subst this;exact ⟨y,h8.2,h7,.tail h3 h5⟩) ⟨a,ha,rfl,.refl⟩
  rw [<- z6r h1 hb h2];exact h3
 ·intro hr;exact (hr.closed (S:=fun c=>plP p j f c∧Rch (wE p j f) (ixI p j f a) (ixI p j f c)) (fun x y ⟨h1,h2⟩ h3=>⟨(w8t h hj h3).2,.tail h2 ((w8u h hj).2 ⟨x,y,h3,rfl,rfl⟩)⟩) ⟨ha,.refl⟩).2
theorem w7x (h:XB p=true) (hj:p.procs[j]? = some f) {a b:Int} (ha:plP p j f a) (hb:plP p j f b):sccP (wE p j f) (ixI p j f a) (ixI p j f b)↔sccP (wR p j f) a b:=by
 unfold sccP;rw [w2y h hj ha hb,w2y h hj hb ha]
def HJ (p:Pg) (j:Nat) (f:Pr) (i:Int):Int:=(WV (QX p j f) f).getD i.toNat 0
theorem q3l:WV (QX p j f) f=LJ (cntL f.body+2) (QA (cntL f.body+2) (prsW (QX p j f) f)).1:=rfl
theorem x7t {i:Int} (hi:0<=i∧i<(cntL f.body+2:Nat)):MinP (wE p j f) i (HJ p j f i):=by
 unfold HJ;rw [q3l];exact q0q (JN _ _).1 hi
theorem z9a {k:Nat} (hk:k<cntL f.body+2):0<=(WV (QX p j f) f).getD k 0∧(WV (QX p j f) f).getD k 0<(cntL f.body+2:Nat):=by
 rw [q3l];exact x8k (JN _ _).1 hk
theorem x8h:(WV (QX p j f) f).length=cntL f.body+2:=by rw [q3l,FV]
theorem MinP.same {E:Int->Int->Prop} {x y v:Int} (h:MinP E x v) (hs:sccP E x y):MinP E y v:=⟨hs.symm.trans h.scc,fun z hz=>h.le z (hs.trans hz)⟩
theorem z9q {i k:Int} (hi:0<=i∧i<(cntL f.body+2:Nat)) (hk:0<=k∧k<(cntL f.body+2:Nat)):HJ p j f i=HJ p j f k↔sccP (wE p j f) i k:=by
 have h1:=x7t (p:=p) (j:=j) hi;have h2:=x7t (p:=p) (j:=j) hk;constructor
 ·intro he;rw [<- he] at h2;exact h1.scc.trans h2.scc.symm
 ·intro hs;exact (h1.same hs).uniq h2
theorem BS (h:XB p=true) (hj:p.procs[j]? = some f) {a b:Int} (ha:plP p j f a) (hb:plP p j f b):HJ p j f (ixI p j f a)=HJ p j f (ixI p j f b)↔sccP (wR p j f) a b:=by
 rw [z9q (HF ha) (HF hb),w7x h hj ha hb]
structure TrapP (p:Pg) (j:Nat) (f:Pr) (l:List Int) (r:Int):Prop where
 pl:plP p j f r
 mem : ∀ b,b∈l↔plP p j f b∧sccP (wR p j f) r b
 cl : ∀ b c,sccP (wR p j f) r b->wR p j f b c->sccP (wR p j f) r c
 n0 : ¬sccP (wR p j f) r 0
 nx : ¬sccP (wR p j f) r (-1)
theorem z4s {plc:Int->Int} {part:List Int} {i q:Nat} {b:Int}:b∈FX plc part i q ↔ ∃ k:Nat,k<q∧part.getD k 0=i∧plc k=b:=by
 unfold FX;constructor
 ·intro h;obtain ⟨k,hk,rfl⟩:=List.mem_map.1 h;obtain ⟨h1,h2⟩:=List.mem_filter.1 hk;exact ⟨k,List.mem_range.1 h1,beq_iff_eq.1 h2,rfl⟩
 ·rintro ⟨k,h1,h2,rfl⟩;exact List.mem_map.2 ⟨k,List.mem_filter.2 ⟨List.mem_range.2 h1,beq_iff_eq.2 h2⟩,rfl⟩
theorem ix0:ixI p j f 0=0:=by unfold ixI JA;rw [if_pos rfl]
theorem ix1:ixI p j f (-1)=((cntL f.body+2:Nat):Int)-1:=by unfold ixI JA;rw [if_neg (by omega),if_pos rfl]
theorem pl0:plP p j f 0 := .inl rfl
theorem pl1:plP p j f (-1) := .inr (.inl rfl)
theorem q2d (k:Nat):(WV (QX p j f) f).getD k 0=HJ p j f k:=by
 unfold HJ;rw [Int.toNat_natCast]
theorem w3p (h:XB p=true) (hj:p.procs[j]? = some f) {i:Nat} (hi:i<cntL f.body+2):(q8b (cntL f.body+2) (WV (QX p j f) f) (prsW (QX p j f) f)).getD i false=true ↔
  HJ p j f (ixI p j f 0)=i∨HJ p j f (ixI p j f (-1))=i ∨ ∃ a b,wR p j f a b ∧ ¬sccP (wR p j f) a b∧HJ p j f (ixI p j f a)=i:=by
 rw [w1z (by omega) (fun k hk=>z9a hk) hi fun t ht=>(w3x h hj t ht).1,ix0,ix1];have e1:(WV (QX p j f) f).getD (cntL f.body+2-1) 0=HJ p j f (((cntL f.body+2:Nat):Int)-1):=by
  unfold HJ;congr 1;omega
 have e0:(WV (QX p j f) f).getD 0 0=HJ p j f 0:=rfl;rw [e0,e1];refine or_congr Iff.rfl (or_congr Iff.rfl ?_);constructor
 ·rintro ⟨t,ht,h1,h2⟩;rw [LH] at ht;obtain ⟨s,hs,rfl⟩:=List.mem_map.1 ht;obtain ⟨h3,h4⟩:=YH h hj s hs;exact ⟨s.src,s.dst,⟨s,hs,rfl,rfl⟩,fun hsc=>h1 ((BS h hj h3 h4).2 hsc),h2⟩
 ·rintro ⟨a,b,⟨s,hs,rfl,rfl⟩,h1,h2⟩;obtain ⟨h3,h4⟩:=YH h hj s hs;exact ⟨ixP p j f (cntL f.body+2:Nat) s,by rw [LH];exact List.mem_map.2 ⟨s,hs,rfl⟩,fun he=>h1 ((BS h hj h3 h4).1 he),h2⟩
theorem x1y {l:List Int}:l∈trapsW (QX p j f) f ↔ ∃ i:Nat,i<cntL f.body+2∧HJ p j f i=i∧(q8b (cntL f.body+2) (WV (QX p j f) f) (prsW (QX p j f) f)).getD i false=false∧l=FX (XT p j (cntL f.body+2:Nat)) (WV (QX p j f) f) i (cntL f.body+2):=by
 unfold trapsW MC;rw [x8h];constructor
 ·intro hl;obtain ⟨i,hi,rfl⟩:=List.mem_map.1 hl;obtain ⟨h1,h2⟩:=List.mem_filter.1 hi;unfold q3w at h2;rw [Bool.and_eq_true,beq_iff_eq,Bool.not_eq_true',q2d] at h2;exact ⟨i,List.mem_range.1 h1,h2.1,h2.2,rfl⟩
 ·rintro ⟨i,h1,h2,h3,rfl⟩;refine List.mem_map.2 ⟨i,List.mem_filter.2 ⟨List.mem_range.2 h1,?_⟩,rfl⟩;unfold q3w;rw [Bool.and_eq_true,beq_iff_eq,Bool.not_eq_true',q2d];exact ⟨h2,h3⟩
theorem w1d (h:XB p=true) (hj:p.procs[j]? = some f) {i:Nat} (hi:i<cntL f.body+2) (hp:HJ p j f i=i) (b:Int) :
  b∈FX (XT p j (cntL f.body+2:Nat)) (WV (QX p j f) f) i (cntL f.body+2)↔plP p j f b∧sccP (wR p j f) (XT p j (cntL f.body+2:Nat) i) b:=by
 obtain ⟨h1,h2⟩:=q2h (p:=p) (j:=j) (f:=f) (i:=i) (by omega);rw [z4s];constructor
 ·rintro ⟨k,h3,h4,rfl⟩;obtain ⟨h5,h6⟩:=q2h (p:=p) (j:=j) (f:=f) (i:=k) (by omega);refine ⟨h5,(BS h hj h1 h5).1 ?_⟩;rw [h2,h6,hp,<- q2d,h4]
 ·rintro ⟨h3,h4⟩;have h5:=HF h3;refine ⟨(ixI p j f b).toNat,by omega,?_,?_⟩
  ·rw [q2d,show (((ixI p j f b).toNat:Nat):Int)=ixI p j f b by omega,<- (BS h hj h1 h3).2 h4,h2,hp]
  ·rw [show (((ixI p j f b).toNat:Nat):Int)=ixI p j f b by omega,w0s h3]
theorem z4l (h:XB p=true) (hj:p.procs[j]? = some f) {l:List Int} (hl:l∈trapsW (QX p j f) f) : ∃ r,TrapP p j f l r:=by
 obtain ⟨i,hi,hp,ho,rfl⟩:=x1y.1 hl;obtain ⟨h1,h2⟩:=q2h (p:=p) (j:=j) (f:=f) (i:=i) (by omega);have ho2 : ¬_:=fun hx=>by
  have:=(w3p h hj hi).2 hx;rw [ho] at this;cases this
 have hpr:HJ p j f (ixI p j f (XT p j (cntL f.body+2:Nat) i))=i:=by rw [h2,hp]
 refine ⟨_,h1,w1d h hj hi hp,fun b c hb hbc => ?_,fun hs=>ho2 (.inl ?_),fun hs=>ho2 (.inr (.inl ?_))⟩
 ·have h3:=w8t h hj hbc;by_cases hsc:sccP (wR p j f) b c
  ·exact hb.trans hsc
  ·refine absurd (.inr (.inr ⟨b,c,hbc,hsc,?_⟩)) ho2;rw [<- (BS h hj h1 h3.1).2 hb,hpr]
 ·rw [<- (BS h hj h1 pl0).2 hs,hpr]
 ·rw [<- (BS h hj h1 pl1).2 hs,hpr]
end
theorem x9l {p:Pg} {j:Nat} {f:Pr} (hj:p.procs[j]? = some f) (hcn:cntP p.procs<=200):(QX p j f).real.length<=100000:=by
 obtain ⟨_,_,_,hlen,hsp⟩:=QK p;obtain ⟨_,_,hle,_⟩:=hsp j f hj;have h9:=x3y (QG p j f);have h10:=q0c p j f;show (WU (QG p j f)).length<=100000;omega
theorem x9r {p:Pg} (h:XB p=true) {j:Nat} {f:Pr} (hj:p.procs[j]? = some f) : ∀ it∈itsOf p j f,∀ s∈fOf it,okSt s:=fun it hi s hs=>by
 obtain ⟨hm,_⟩:=ZJ h;obtain ⟨_,_,hcn⟩:=ZP h;obtain ⟨_,_,_,hlen,hsp⟩:=QK p;obtain ⟨_,_,hle,_⟩:=hsp j f hj;have h1:=JK hm hj (x0g hi);have h2:=(q3t hi).1;unfold fOf at hs;split at hs
 ·rw [List.mem_singleton.1 hs];unfold okI at h2;unfold okSt;constructor
  ·show it.s.id≠_;omega
  ·show it.next≠_;omega
 ·cases hs
theorem z0w {p:Pg} (h:XB p=true) {j:Nat} {f:Pr} (hj:p.procs[j]? = some f) {l:List Int} (hl:l∈trapsW (QX p j f) f):l.length<=cntL f.body+2 ∧ ∀ id∈l,(QM p.procs j:Int)+1<=id∧id<=(QM p.procs j+cntL f.body:Nat):=by
 constructor
 ·obtain ⟨i,_,_,_,rfl⟩:=x1y.1 hl;exact x2o _ _ _ _
 ·intro id hid;obtain ⟨r,ht⟩:=z4l h hj hl;obtain ⟨h1,h2⟩:=(ht.mem id).1 hid;rcases h1 with rfl|rfl|h1
  ·exact absurd h2 ht.n0
  ·exact absurd h2 ht.nx
  ·exact h1
theorem w8r {p:Pg} (h:XB p=true) {j:Nat} {f:Pr} (hj:p.procs[j]? = some f):WayT (QX p j f) f (cntL f.body+2):=by
 obtain ⟨_,_,hcn⟩:=ZP h;obtain ⟨_,_,_,hlen,hsp⟩:=QK p;obtain ⟨_,_,hle,_⟩:=hsp j f hj;refine ⟨rfl,hj,by show cntP p.procs<=1000;omega,by omega,by omega,Nat.le_trans (x9l hj hcn) (by decide),w3x h hj,?_,fun l hl => ?_,fun s hs=>(q4a h hj).2.2 s (((NH h hj).2 s).1 hs),x9r h hj⟩
 ·have:=x4c (XT p j (cntL f.body+2:Nat)) (WV (QX p j f) f) (q8b (cntL f.body+2) (WV (QX p j f) f) (prsW (QX p j f) f)) (cntL f.body+2);have e:trapsW (QX p j f) f=MC (XT p j (cntL f.body+2:Nat)) (WV (QX p j f) f) (q8b (cntL f.body+2) (WV (QX p j f) f) (prsW (QX p j f) f)) (cntL f.body+2):=by
   unfold trapsW;rw [x8h];rfl
  rw [e];omega
 ·obtain ⟨h1,h2⟩:=z0w h hj hl;refine ⟨by omega,fun id hid => ?_⟩;have:=h2 id hid;show 1<=id∧id<=(sheetOf p).l.length;omega
instance (a b:Step):Decidable (MM a b):=inferInstanceAs (Decidable (_∨_))
instance:DecidableEq Step:=fun a b=>decidable_of_iff (a.src=b.src∧a.dst=b.dst∧a.kind=b.kind) ⟨fun h=>KP h.1 h.2.1 h.2.2,fun h=>by rw [h];exact ⟨rfl,rfl,rfl⟩⟩
theorem w5z {a b:Step} (ha:okSt a) (hb:okSt b) (h:GS b a=false):(a.src=b.src∧a.dst=b.dst∧a.kind<=b.kind)∨MM a b:=by
 rw [Bool.eq_false_iff,ne_eq,JT] at h;unfold MM;by_cases h1:ZV a.src=ZV b.src
 ·by_cases h2:ZV a.dst=ZV b.dst
  ·exact .inl ⟨KH ha.1 hb.1 h1,KH ha.2 hb.2 h2,by omega⟩
  ·exact .inr (by omega)
 ·exact .inr (by omega)
theorem q0e : ∀ (l:List Step) (a:Step),okSt a->(∀ s∈l,okSt s)->(a::l).Pairwise (fun a b=>GS b a=false) ->
  (∀ s∈QO a l,MM a s)∧(QO a l).Pairwise MM∧(∀ s∈QO a l,s∈l) ∧ ∀ s∈l,(s.src=a.src∧s.dst=a.dst∧a.kind<=s.kind) ∨ ∃ s'∈QO a l,s'.src=s.src∧s'.dst=s.dst∧s'.kind<=s.kind
 | [],a,_,_,_=>by simp [QO]
 | b::r,a,ha,hl,h=>by
   have hb:=hl b mem_cons_self;have hr : ∀ s∈r,okSt s:=fun s hs=>hl s (mem_cons_of_mem _ hs);rw [List.pairwise_cons] at h;obtain ⟨h1,h2⟩:=h;obtain ⟨i1,i2,i3,i4⟩:=q0e r b hb hr h2;have hab:=w5z ha hb (h1 b mem_cons_self);rw [QO];cases hs:ZY b a with
   | true =>
     unfold ZY at hs;simp only [Bool.and_eq_true,decide_eq_true_eq] at hs;have hk:a.kind<=b.kind:=by
      rcases hab with h3|h3
      ·exact h3.2.2
      ·unfold MM at h3;rw [hs.1,hs.2] at h3;omega
     rw [cond_true];refine ⟨fun s hs' => ?_,i2,fun s hs'=>mem_cons_of_mem _ (i3 s hs'),fun s hs' => ?_⟩
     ·have:=i1 s hs';unfold MM at this ⊢
      rwa [<- hs.1,<- hs.2]
     ·rcases List.mem_cons.1 hs' with rfl|hs'
      ·exact .inl ⟨hs.1,hs.2,hk⟩
      ·rcases i4 s hs' with ⟨h3,h4,h5⟩|h3
       ·exact .inl ⟨by rw [h3,hs.1],by rw [h4,hs.2],by omega⟩
       ·exact .inr h3
   | false =>
     have hlt:MM a b:=by
      rcases hab with h3|h3
      ·unfold ZY at hs;simp [h3.1,h3.2.1] at hs
      ·exact h3
     rw [cond_false];refine ⟨fun s hs' => ?_,List.pairwise_cons.2 ⟨i1,i2⟩,fun s hs' => ?_,fun s hs' => ?_⟩
     ·rcases List.mem_cons.1 hs' with rfl|hs'
      ·exact hlt
      ·exact MI hlt (i1 s hs')
     ·rcases List.mem_cons.1 hs' with rfl|hs'
      ·exact mem_cons_self
      ·exact mem_cons_of_mem _ (i3 s hs')
     ·rcases List.mem_cons.1 hs' with rfl|hs'
      ·exact .inr ⟨s,mem_cons_self,rfl,rfl,Int.le_refl _⟩
      ·rcases i4 s hs' with ⟨h3,h4,h5⟩|⟨s',h3,h4⟩
       ·exact .inr ⟨b,mem_cons_self,h3.symm,h4.symm,h5⟩
       ·exact .inr ⟨s',mem_cons_of_mem _ h3,h4⟩
theorem HN {l:List Step} (hok : ∀ s∈l,okSt s):(WU l).Pairwise MM∧(∀ s∈WU l,s∈l) ∧ ∀ s∈l,∃ s'∈WU l,s'.src=s.src∧s'.dst=s.dst∧s'.kind<=s.kind:=by
 have hp : ∀ s,s∈UI l↔s∈l:=fun s=>(q4r l).mem_iff;have hs:=MZ l;unfold WU;cases hq:UI l with
 | nil =>
   rw [hq] at hp;refine ⟨by simp [BZ],by simp [BZ],fun s hs => ?_⟩;have:=(hp s).2 hs;cases this
 | cons a r =>
   rw [hq] at hp hs;have hok' : ∀ s∈a::r,okSt s:=fun s h=>hok s ((hp s).1 h);obtain ⟨h1,h2,h3,h4⟩:=q0e r a (hok' a mem_cons_self) (fun s h=>hok' s (mem_cons_of_mem _ h)) hs;rw [BZ];refine ⟨List.pairwise_cons.2 ⟨h1,h2⟩,fun s hs' => ?_,fun s hs' => ?_⟩
   ·rcases List.mem_cons.1 hs' with rfl|hs'
    ·exact (hp s).1 mem_cons_self
    ·exact (hp s).1 (mem_cons_of_mem _ (h3 s hs'))
   ·rcases List.mem_cons.1 ((hp s).2 hs') with rfl|hs'
    ·exact ⟨s,mem_cons_self,rfl,rfl,Int.le_refl _⟩
    ·rcases h4 s hs' with ⟨h5,h6,h7⟩|⟨s',h5,h6⟩
     ·exact ⟨a,mem_cons_self,h5.symm,h6.symm,h7⟩
     ·exact ⟨s',mem_cons_of_mem _ h5,h6⟩
theorem z4h {l:List Step} (h:l.Pairwise MM) {a b:Step} (ha:a∈l) (hb:b∈l) (h1:a.src=b.src) (h2:a.dst=b.dst):a=b:=by
 have hn : ∀ {x y:Step},x.src=y.src->x.dst=y.dst -> ¬MM x y:=fun {x y} e1 e2 hlt=>by
  unfold MM at hlt;rw [e1,e2] at hlt;omega
 induction h with
 | nil=>cases ha
 | @cons c r hc hr ih =>
   rcases List.mem_cons.1 ha with e1|ha'
   ·rcases List.mem_cons.1 hb with e2|hb'
    ·rw [e1,e2]
    ·exact absurd (hc b hb') (by rw [<- e1];exact hn h1 h2)
   ·rcases List.mem_cons.1 hb with e2|hb'
    ·exact absurd (hc a ha') (by rw [<- e2];exact hn h1.symm h2.symm)
    ·exact ih ha' hb'
theorem DW {l m:List Step} (hok : ∀ s∈l,okSt s) (h1:m.Pairwise MM) (h2 : ∀ s∈m,s∈l) (h3 : ∀ s∈l,∃ s'∈m,s'.src=s.src∧s'.dst=s.dst∧s'.kind<=s.kind):WU l=m:=by
 obtain ⟨g1,g2,g3⟩:=HN hok;refine q7j g1 h1 fun s=>⟨fun hs => ?_,fun hs => ?_⟩
 ·obtain ⟨a,ha,h4,h5,h6⟩:=h3 s (g2 s hs);obtain ⟨b,hb,h7,h8,h9⟩:=g3 a (h2 a ha);have:=z4h g1 hb hs (h7.trans h4) (h8.trans h5);subst this;have:a=b:=KP h4 h5 (by omega);rw [<- this];exact ha
 ·obtain ⟨a,ha,h4,h5,h6⟩:=g3 s (h2 s hs);obtain ⟨b,hb,h7,h8,h9⟩:=h3 a (g2 a ha);have:=z4h h1 hb hs (h7.trans h4) (h8.trans h5);subst this;have:a=b:=KP h4 h5 (by omega);rw [<- this];exact ha
theorem w7p:(QX someP 1 f1).real=[⟨0,5,1⟩,⟨5,6,1⟩,⟨6,7,1⟩,⟨6,8,1⟩,⟨7,-1,1⟩,⟨8,-1,1⟩]:=w6n
theorem w7q:(QX someP 0 f0).real=[⟨0,1,1⟩,⟨1,2,1⟩,⟨2,3,1⟩,⟨3,4,1⟩,⟨4,-1,1⟩]:=w7l
theorem w8p:prsW (QX someP 1 f1) f1=[(0,1),(1,2),(2,3),(2,4),(3,5),(4,5)]:=by
 unfold prsW;rw [w7p]
 kernel_rfl
theorem w8n:prsW (QX someP 0 f0) f0=[(0,1),(1,2),(2,3),(3,4),(4,5)]:=by
 unfold prsW;rw [w7q]
 kernel_rfl
theorem w6d:trapsW (QX someP 1 f1) f1=[]:=by
 unfold trapsW WV;rw [w8p]
 kernel_rfl
theorem w7h:trapsW (QX someP 0 f0) f0=[]:=by
 unfold trapsW WV;rw [w8n]
 kernel_rfl
theorem w8o:HV (QX someP 1 f1) f1=[⟨0,5,1⟩,⟨5,6,1⟩,⟨6,7,1⟩,⟨6,8,1⟩,⟨7,-1,1⟩,⟨8,-1,1⟩]:=by
 unfold HV VU;rw [w6d,w7p];exact DW (by unfold okSt;decide) (by decide) (by decide) (by decide)
theorem z9s {p:Pg} (h:XB p=true) {j:Nat} {f:Pr} (hj:p.procs[j]? = some f) {a:Int} : ¬wR p j f a 0:=fun ⟨s,hs,_,hd⟩=>by
 have h1:=((q4a h hj).2.1 s (((NH h hj).2 s).1 hs)).2;unfold okI at h1;omega
theorem w3s {p:Pg} (h:XB p=true) {j:Nat} {f:Pr} (hj:p.procs[j]? = some f) {t:S} (ht:t∈flL f.body):z8k p t.id=some t:=by
 have hb:=JK (ZJ h).1 hj ht;obtain ⟨u,hu,h1,h2⟩:=x8d h hj hb.1 hb.2;obtain ⟨it,hi,rfl⟩:=w7n (p:=p) (j:=j) ht;obtain ⟨iu,hiu,rfl⟩:=w7n (p:=p) (j:=j) hu;rw [w6m (ZJ h).1 hj hiu hi h2] at h1;exact h1
theorem NN {p:Pg} (h:XB p=true) {j:Nat} {f:Pr} (hj:p.procs[j]? = some f) {s:Step}:s∈VU (QX p j f) f ↔ ∃ l∈trapsW (QX p j f) f,∃ t∈flL f.body,t.id∈l∧t.kind=10∧s=⟨t.id,-1,3⟩:=by
 unfold VU;constructor
 ·intro hs;obtain ⟨l,hl,hs⟩:=List.mem_flatMap.1 hs;obtain ⟨id,hid,hs⟩:=List.mem_flatMap.1 hs;have hb:=(z0w h hj hl).2 id hid;obtain ⟨t,ht,h1,h2⟩:=x8d h hj hb.1 hb.2;have e:(QX p j f).p=p:=rfl;unfold vOf at hs;rw [e,h1] at hs;simp only at hs;split at hs
  ·rename_i hk;exact ⟨l,hl,t,ht,by rw [h2];exact hid,hk,by rw [h2];simpa using hs⟩
  ·cases hs
 ·rintro ⟨l,hl,t,ht,hid,hk,rfl⟩;refine List.mem_flatMap.2 ⟨l,hl,List.mem_flatMap.2 ⟨t.id,hid,?_⟩⟩;have e:(QX p j f).p=p:=rfl;unfold vOf;rw [e,w3s h hj ht];simp [hk]
theorem x0z {p:Pg} (h:XB p=true) {j:Nat} {f:Pr} (hj:p.procs[j]? = some f) : ∀ s∈VU (QX p j f) f++(QX p j f).real,okSt s:=fun s hs =>
 (List.mem_append.1 hs).elim ((w8r h hj).virt_ok s) ((w8r h hj).hok s)
theorem z5s {p:Pg} (h:XB p=true) {j:Nat} {f:Pr} (hj:p.procs[j]? = some f) {s:Step} (hs:s∈VU (QX p j f) f++(QX p j f).real):stR (HV (QX p j f) f) s.src s.dst:=by
 obtain ⟨s',h1,h2,h3,_⟩:=(HN (x0z h hj)).2.2 s hs;exact ⟨s',h1,h2,h3⟩
theorem x9j {p:Pg} (h:XB p=true) {j:Nat} {f:Pr} (hj:p.procs[j]? = some f):(HV (QX p j f) f).length<=200000:=by
 obtain ⟨_,_,hcn⟩:=ZP h;obtain ⟨_,_,_,hlen,hsp⟩:=QK p;obtain ⟨_,_,hle,_⟩:=hsp j f hj;obtain ⟨h1,h2,_⟩:=HN (x0z h hj);have h3:=HB (l:=HV (QX p j f) f) (m:=(QX p j f).real++(q5m (QM p.procs j) (cntL f.body)).map fun id=>⟨id,-1,3⟩) (w0p h1) fun s hs=>by
  rcases List.mem_append.1 (h2 s hs) with h4|h4
  ·obtain ⟨l,hl,t,ht,hid,hk,rfl⟩:=(NN h hj).1 h4;have hb:=JK (ZJ h).1 hj ht;exact List.mem_append.2 (.inr (List.mem_map.2 ⟨t.id,z9m hb.1 hb.2,rfl⟩))
  ·exact List.mem_append.2 (.inl h4)
 rw [length_append,length_map] at h3;have h4:=x9l hj hcn;have h5:(q5m (QM p.procs j) (cntL f.body)).length=cntL f.body:=by unfold q5m;simp
 omega
theorem Wr.u64 {n:Int} {K:Int->Prop} (h1:0<=n) (h2:n<=18446744073709551615) (hk:K n):Wr .u64 n K :=
 .fit ⟨by simp [IntKind.min,IntKind.signed];omega,by simp [IntKind.max,IntKind.signed,IntKind.bits];omega⟩ hk
theorem z8z {P:Program} {hr:Bool} {s:St} {o:Oper} {K:LV->Prop} {t u:TypeId} {x y:Operand} (hop:o.op = .binOp .shr t x y u) {a:Int} (ha:0<=a) (hx:QT s.sl x = .p (.int .u64 a)) (hy:QT s.sl y = .p (.int .u64 1)) {m:Int} (hm:m=a / 2) (hK:K (.p (.int .u64 m))):ValO P hr s o K:=by
 subst hm;refine ⟨fun σ β ac w hs _=>⟨_,.int .u64 (a / 2),hK,.p (.int _ _),fun w' _ _ => ?_⟩⟩;have h1:=QV hs x;have h2:=QV hs y;rw [hx] at h1;rw [hy] at h2;cases h1 with
 | p h1 =>
   cases h2 with
   | p h2 =>
     have key : ∀ (n:Int) (v:Value),Rep σ (.int .u64 n) v->v = .int .u64 n:=fun n v hv=>by
      cases hv;rfl
     have e1:=key _ _ h1;have e2:=key _ _ h2;have e3:a.fdiv (2 ^ 1)=a / 2:=Int.fdiv_eq_ediv_of_nonneg _ (by decide);have hg:(eqGuard .shr t x y (.int .u64 a) (.int .u64 1)).run P w' = .ok () w':=by unfold eqGuard;rfl
     simp only [execOp,hop,e1,e2,Sem.run_bind,hg,Result.andThen_ok,binOp,Op.shift];rw [if_neg (by decide)];simp only [show min (1:Int).toNat IntKind.u64.bits=1 by decide,e3];rfl
theorem ZI (l m:List Str):SpecP Tryz.prog 136 [eStrs l,eStrs m] (fun r=>r = .bool (decide (l=m))):=by
 refine sB UR Tryz.func136 rfl Tryz.call136 ?_;conv=>whnf
 have h1:(l.map AV.str).length=l.length:=length_map _;have h2:(m.map AV.str).length=m.length:=length_map _;repeat' (first|(refine iM fun _=>?_;conv=>whnf)|(apply bE<;>intro _<;>first|omega|conv=>whnf))
 all_goals first
  | exact RetK.ff (decide_eq_false fun h=>by subst h;omega)
  | skip
 have hlen:l.length=m.length:=by omega
 refine LoopK.inv QJ (fun j:Nat=>⟨[(0,.p (eStrs l)),(1,.p (eStrs m)),(12,.p (.int .i64 (l.map AV.str).length)),(13,.p (.int .i64 j))],[]⟩) (fun j=>j<=l.length∧l.take j=m.take j) (fun j=>l.length-j) 0 (Le.of_eq rfl) ⟨zero_le _,rfl⟩ ?_;rintro j ⟨h3,h4⟩;rcases Nat.lt_or_ge j l.length with hj|hj
 ·have hjm:j<m.length:=by omega
  have hst:l[j]=m[j]->l.take (j+1)=m.take (j+1):=fun he=>by rw [List.take_succ_eq_append_getElem hj,List.take_succ_eq_append_getElem hjm,h4,he]
  have hno:l[j]≠m[j] -> ¬l=m:=fun hne he=>hne (by subst he;rfl);conv=>whnf
  repeat' (first|((first|refine dA ?_|(refine iA fun _=>?_)|refine wI ?_);conv=>whnf)|(apply bD<;>intro _<;>first|omega|conv=>whnf)|(apply bN<;>intro _<;>conv=>whnf))
  all_goals first
   | (have h9:l[j]=m[j]:=eq_of_beq (by assumption)
      exact ⟨j+1,⟨hj,hst h9⟩,by omega,Le.of_eq rfl⟩)
   | (have h9 : ¬l[j]=m[j]:=by
       have h8:(l[j]==m[j])=false:=by assumption
       simpa using h8
      exact RetK.ff (decide_eq_false (hno h9)))
   | trace_state
 ·rw [take_of_length_le hj,take_of_length_le (by omega)] at h4;conv=>whnf
  repeat' (apply bD<;>intro _<;>first|omega|conv=>whnf)
  all_goals exact RetK.tt (decide_eq_true h4)
theorem LR (a:Str):SpecP Tryz.prog 265 [.str a] (fun r=>r = .bool false):=by
 refine sB BO Tryz.func265 rfl Tryz.call265 ?_;conv=>whnf
 skip
 all_goals exact RetK.bool (by simp)
theorem DN (a:Str):SpecP Tryz.prog 310 [.str a] (fun r=>r = .bool false):=by
 refine sB HZ Tryz.func310 rfl Tryz.call310 ?_;conv=>whnf
 skip
 all_goals exact RetK.bool (by simp)
theorem q1k (a b:Str):SpecP Tryz.prog 251 [.str a,.str b] (fun r=>r = .bool (Op.bytesLess a b)):=by
 refine sB PJ Tryz.func251 rfl Tryz.call251 ?_;conv=>whnf
 repeat' (first|(refine cP (LR a) ?_;conv=>whnf)|(apply bB<;>intro _<;>conv=>whnf))
 all_goals first
  | contradiction
  | exact RetK.p rfl
  | trace_state
theorem VP (l:List Str) (x:Str) (hs:l.Pairwise ltT) (hlen:l.length<=1000000000):SpecP Tryz.prog 262 [eStrs l,.str x] (fun r => ∃ k:Int,r = .tup [.int .i64 k,.bool (inS l x)]):=by
 refine sB WI Tryz.func262 rfl Tryz.call262 ?_;conv=>whnf
 have hll:(l.map AV.str).length=l.length:=length_map _;repeat' (refine iM fun _=>?_;conv=>whnf)
 refine LoopK.inv QJ (fun y:Nat×Nat=>⟨[(0,.p (eStrs l)),(1,.p (.str x)),(6,.p (.int .i64 (l.map AV.str).length)),(7,.p (.int .i64 y.1)),(8,.p (.int .i64 y.2))],[]⟩) (fun y=>y.1<=y.2∧y.2<=l.length∧(∀ (k:Nat) (h:k<l.length),k<y.1->ltT l[k] x) ∧ ∀ (k:Nat) (h:k<l.length),y.2<=k -> ¬ltT l[k] x) (fun y=>y.2-y.1) (0,l.length) (Le.of_eq (by rw [hll];rfl)) ⟨zero_le _,Nat.le_refl _,fun k h h1=>by simp only at h1;omega,fun k h h1=>by simp only at h1;omega⟩ ?_;rintro ⟨i,j⟩ ⟨h1,h2,h3,h4⟩;simp only at h1 h2 h3 h4 ⊢;have hlt : ∀ (a b:Nat) (ha:a<l.length) (hb:b<l.length),a<b->ltT l[a] l[b]:=fun a b ha hb hab=>List.pairwise_iff_getElem.1 hs a b ha hb hab;rcases Nat.lt_or_ge i j with hij|hij
 ·have hh:(i+j) / 2<l.length:=by omega
  have hL:=q1k l[(i+j) / 2] x;conv=>whnf
  repeat' (first|((first|(refine iA fun _=>?_)|refine wI ?_|refine Wr.u64 (by omega) (by omega) ?_|refine z8z rfl (by omega) rfl rfl (m:=(((i+j)/2:Nat):Int)) (by omega) ?_|refine cP hL ?_);conv=>whnf)|(apply bD<;>intro _<;>first|omega|conv=>whnf)|(apply bB<;>intro _<;>conv=>whnf))
  all_goals first
   | (have h9:Op.bytesLess l[(i+j) / 2] x=true:=by assumption
      refine ⟨((i+j) / 2+1,j),⟨by simp only;omega,h2,fun k hk hk2 => ?_,h4⟩,by simp only;omega,Le.of_eq rfl⟩;simp only at hk2;rcases Nat.lt_or_ge k ((i+j) / 2) with h10|h10
      ·exact ltT.trans _ _ _ (hlt _ _ hk hh h10) h9
      ·have:k=(i+j) / 2:=by omega
       subst this;exact h9)
   | (have h9:Op.bytesLess l[(i+j) / 2] x=false:=by assumption
      have h11 : ¬ltT l[(i+j) / 2] x:=fun h=>by unfold ltT at h;rw [h9] at h;cases h
      refine ⟨(i,(i+j) / 2),⟨by simp only;omega,by simp only;omega,h3,fun k hk hk2 h12 => ?_⟩,by simp only;omega,Le.of_eq rfl⟩;simp only at hk2;rcases Nat.lt_or_ge ((i+j) / 2) k with h10|h10
      ·exact h11 (ltT.trans _ _ _ (hlt _ _ hh hk h10) h12)
      ·have:k=(i+j) / 2:=by omega
       subst this;exact h11 h12)
   | trace_state
 ·obtain rfl:i=j:=by omega
  rcases Nat.lt_or_ge i l.length with hi|hi
  ·have hin:inS l x=(l[i]==x):=by
    rw [Bool.eq_iff_iff,YG,beq_iff_eq];constructor
    ·intro hx;obtain ⟨k,hk,rfl⟩:=List.mem_iff_getElem.1 hx;rcases Nat.lt_trichotomy k i with h5|h5|h5
     ·exact absurd (h3 k hk h5) (FM _)
     ·subst h5;rfl
     ·exact absurd (hlt i k hi hk h5) (h4 i hi (Nat.le_refl _))
    ·intro h5;rw [<- h5];exact List.getElem_mem hi
   have hN:=DN l[i];conv=>whnf
   repeat' (first|((first|(refine iA fun _=>?_)|refine cP hN ?_);conv=>whnf)|(apply bD<;>intro _<;>first|omega|conv=>whnf)|(apply bB<;>intro _<;>conv=>whnf))
   all_goals first
    | (exfalso;omega)
    | (exfalso;simp_all;done)
    | (have h9:inS l x=true:=by rw [hin];assumption
       exact ⟨_,.p (Sub.tup (.cons (Sub.refl _) (.cons (Sub.tt h9) .nil))),_,rfl⟩)
    | (have h9:inS l x=false:=by rw [hin];assumption
       exact ⟨_,.p (Sub.tup (.cons (Sub.refl _) (.cons (Sub.ff h9) .nil))),_,rfl⟩)
    | trace_state
  ·have hin:inS l x=false:=by
    cases h5:inS l x with
    | false=>rfl
    | true =>
      obtain ⟨k,hk,h6⟩:=List.mem_iff_getElem.1 (YG.1 h5);exact absurd (h3 k hk (by omega)) (by rw [h6];exact FM _)
   conv=>whnf
   repeat' (apply bD<;>intro _<;>first|omega|conv=>whnf)
   all_goals first
    | (exfalso;omega)
    | exact ⟨_,.p (Sub.tup (.cons (Sub.refl _) (.cons (Sub.ff hin) .nil))),_,rfl⟩
    | exact ⟨_,.p (Sub.refl _),_,by rw [hin];rfl⟩
    | trace_state
theorem q2y (l:List Str) (x:Str) (hs:l.Pairwise ltT) (hlen:l.length<=1000000000):SpecP Tryz.prog 179 [eStrs l,.str x] (fun r=>r = .bool (inS l x)):=by
 refine sB z2z Tryz.func179 rfl Tryz.call179 ?_;conv=>whnf
 have hB:=VP l x hs hlen;repeat' (refine CallK.pure hB (.cons (Sub.refl _) (.cons (Sub.refl _) .nil)) ?_;rintro _ ⟨k,rfl⟩;conv=>whnf)
 all_goals first
  | exact RetK.p rfl
  | trace_state
end Go.Ab
