/- way: the traps, walked. -/
import Derived.Test.YtlhblcpmfnkjpaaGreatInoA10
import Derived.Test.YtlhblcpmfnkjpaaGreatInoA14
import Derived.Test.YtlhblcpmfnkjpaaGreatInoA15
set_option linter.unusedSimpArgs false
set_option linter.unusedVariables false
set_option maxRecDepth 100000
set_option maxHeartbeats 16000000
open List (drop_eq_nil_of_le foldl_cons getD_eq_getElem?_getD length_append length_cons length_map length_replicate length_set length_take mem_cons_of_mem mem_cons_self take_of_length_le)
open Nat (zero_le)
namespace Go.Ab
open Go.Proofs
theorem x0t (w:Way) (f:Pr) (n:Nat) (hw:w.n=n) (hj:w.p.procs[w.j]? = some f) (hc:cntP w.p.procs<=1000) (hn:n<=5000) (hn2:2<=n) (hlen:w.real.length<=1000000) (hr : ∀ t∈prsW w f,(0<=t.1∧t.1<n)∧0<=t.2∧t.2<n):SpecP Tryz.prog 129 [.ip w.cells] (fun r=>r=q7n (trapsW w f)):=by
 refine sB q6c Tryz.func129 rfl Tryz.call129 ?_;conv=>whnf
 have hgi:=YB n (prsW w f);have hpart:WM w f=q1e n (QS n (prsW w f)).1:=by unfold WM;rw [hw];rfl
 have htr:trapsW w f=q0g (XK w.p w.j w.n) (WM w f) (x2b n (WM w f) (prsW w f)) n:=by unfold trapsW;rw [hpart,HT,hw];rfl
 have hpin : ∀ k,k<n->0<=(WM w f).getD k 0∧(WM w f).getD k 0<n:=fun k hk=>by rw [hpart];exact z1b hgi.1 hk
 have hpl:(WM w f).length=n:=by rw [hpart,HT]
 have hcp:=q1z n hn (QS n (prsW w f)) hgi.1 hgi.2 (z4x n (prsW w f));rw [<- hpart] at hcp;rw [htr];clear htr hpart hgi;generalize WM w f=part at hpin hpl hcp ⊢;have ha0:=hpin 0 (by omega);have ha1:=hpin (n-1) (by omega);have hp0:=x6f (l:=part) (i:=0) (by omega);have hp1:=x6f (l:=part) (i:=n-1) (by omega);have e0:(List.replicate n AV.ff)[(part.getD 0 0).toNat]? = some .ff:=by rw [List.getElem?_replicate,if_pos (by omega)]
 have e1:((List.replicate n AV.ff).set (part.getD 0 0).toNat .tt)[(part.getD (n-1) 0).toNat]? = some (bv (((List.replicate n false).set (part.getD 0 0).toNat true).getD (part.getD (n-1) 0).toNat false)):=by
  have:(List.replicate n AV.ff).set (part.getD 0 0).toNat .tt=((List.replicate n false).set (part.getD 0 0).toNat true).map bv:=by
   rw [List.map_set,List.map_replicate];rfl
  rw [this];exact w4g (by rw [length_set,length_replicate];omega)
 have hplm:(part.map (AV.int .i64)).length=n:=by rw [length_map,hpl]
 repeat' ((first|(refine iM fun _=>?_)|refine dA ?_|refine And.intro rfl ?_|refine aR ?_|refine wI ?_|refine cP (MH w f n hw hj hc hn w.real hlen) ?_|refine cP hcp ?_|refine MkK.mk n hw (by show 1*n<=140737488355328;omega) (by unfold maxLen;omega) ?_|(refine IdxK.at (k:=0) rfl hp0 rfl ?_)|(refine IdxK.at (k:=n-1) (by omega) hp1 rfl ?_)|refine IdxL.mk (part.getD 0 0).toNat (by omega) (by omega) ?_|refine IdxL.mk (part.getD (n-1) 0).toNat (by omega) (by omega) ?_|refine StOwn.mk (part.getD 0 0).toNat 0 .ff .tt (show (0+(part.getD 0 0).toNat)*1=(part.getD 0 0).toNat*1+0 by omega) e0 (Nat.le_refl 1) rfl ?_|(refine CallK.pure (GZ w f hj hc (by omega) w.real hlen) (.cons (Sub.refl _) (.cons (Sub.refl _) .nil)) ?_;rintro _ rfl)|(refine StOwn.mk (part.getD (n-1) 0).toNat 0 _ .tt (show (0+(part.getD (n-1) 0).toNat)*1=(part.getD (n-1) 0).toNat*1+0 by omega) e1 (Nat.le_refl 1) (by cases ((List.replicate n false).set (part.getD 0 0).toNat true).getD (part.getD (n-1) 0).toNat false<;>rfl) ?_));conv=>whnf)
 have hprl:(prsW w f).length<=1000000:=by unfold prsW;rw [length_map];exact hlen
 have hpl2:(avP (prsW w f)).length=(prsW w f).length:=by simp [avP]
 refine LoopK.inv QY (fun x:Nat×List Bool=>⟨[(0,.p (.ip w.cells)),(3,.p (ZM part)),(4,.hd 0 0 n),(43,.p (.sl (avP (prsW w f)))),(44,.p (.int .i64 (avP (prsW w f)).length)),(45,.p (.int .i64 x.1))],[(0,.own 4 1 (x.2.map bv))]⟩)
  (fun x=>x.1<=(prsW w f).length∧x.2=((prsW w f).take x.1).foldl (q0d part) (q8k n part)) (fun x=>(prsW w f).length-x.1) (0,q8k n part)
  (Le.mk [] (by simp) (by simp) (by simp) (.cons (.refl _) (.cons (.refl _) (.cons (.refl _) (.cons (.refl _) (.cons (.refl _) (.cons (.refl _) .nil)))))) (.cons rfl (.of_eq (by unfold q8k;rw [List.map_set,List.map_set,List.map_replicate];rfl)) .nil))
  ⟨zero_le _,rfl⟩ ?_
 rintro ⟨m,o⟩ ⟨h1,h2⟩;simp only at h1 h2 ⊢;have hol:o.length=n:=by rw [h2];exact z7i n part _
 rcases Nat.lt_or_ge m (prsW w f).length with hm|hm
 ·obtain ⟨⟨h3,h4⟩,h5,h6⟩:=hr _ (List.getElem_mem hm);have h7:=hpin (prsW w f)[m].1.toNat (by omega);have h8:=hpin (prsW w f)[m].2.toNat (by omega);have e2:=x6f (l:=part) (i:=(prsW w f)[m].1.toNat) (by omega);have e3:=x6f (l:=part) (i:=(prsW w f)[m].2.toNat) (by omega);have e4:=w4g (l:=o) (i:=(part.getD (prsW w f)[m].1.toNat 0).toNat) (by omega);have hme:(avP (prsW w f))[m]? = some (.agg [.int .i64 (prsW w f)[m].1,.int .i64 (prsW w f)[m].2]):=by simp [avP,hm]
  have e5:((prsW w f).take (m+1)).foldl (q0d part) (q8k n part)=q0d part o (prsW w f)[m]:=by rw [List.take_succ_eq_append_getElem hm,List.foldl_append,<- h2];rfl
  conv=>whnf
  repeat' (first|((first|refine dA ?_|refine And.intro rfl ?_|refine wI ?_|(refine IdxK.at (k:=m) rfl hme rfl ?_)|refine IdxL.mk 0 rfl (by decide) ?_|refine IdxL.mk 1 rfl (by decide) ?_|(refine IdxK.at (k:=(prsW w f)[m].1.toNat) (by omega) e2 rfl ?_)|(refine IdxK.at (k:=(prsW w f)[m].2.toNat) (by omega) e3 rfl ?_)|refine IdxL.mk (part.getD (prsW w f)[m].1.toNat 0).toNat (by omega) (by omega) ?_|refine StOwn.mk (part.getD (prsW w f)[m].1.toNat 0).toNat 0 _ .tt (by omega) e4 (Nat.le_refl 1) (by cases o.getD (part.getD (prsW w f)[m].1.toNat 0).toNat false<;>rfl) ?_);conv=>whnf)|(apply bD<;>intro _<;>first|omega|conv=>whnf)|(apply bE<;>intro _<;>first|omega|conv=>whnf))
  all_goals first
   | (have hq:part.getD (prsW w f)[m].1.toNat 0=part.getD (prsW w f)[m].2.toNat 0:=by assumption
      exact ⟨(m+1,o),⟨by simp only;omega,by simp only;rw [e5];unfold q0d;rw [if_pos hq]⟩,by simp only;omega,Le.of_eq rfl⟩)
   | (have hq : ¬part.getD (prsW w f)[m].1.toNat 0=part.getD (prsW w f)[m].2.toNat 0:=by assumption
      exact ⟨(m+1,o.set (part.getD (prsW w f)[m].1.toNat 0).toNat true),⟨by simp only;omega,by simp only;rw [e5];unfold q0d;rw [if_neg hq]⟩,by simp only;omega,Le.of_eq (by simp only [List.map_set];rfl)⟩)
 ·rw [take_of_length_le hm] at h2;have hop:x2b n part (prsW w f)=o:=h2.symm;rw [hop];clear hop h2 e0 e1 hp0 hp1 hcp;conv=>whnf
  repeat' (first|(refine iM fun _=>?_;conv=>whnf)|(apply bD<;>intro _<;>first|omega|conv=>whnf))
  refine LoopK.inv QY (fun q:Nat=>⟨[(0,.p (.ip w.cells)),(3,.p (ZM part)),(4,.hd 0 0 n),(7,.hd 1 0 (q0g (XK w.p w.j w.n) part o q).length),(69,.p (.int .i64 (part.map (AV.int .i64)).length)),(70,.p (.int .i64 q))],[(0,.own 4 1 (o.map bv)),(1,.own 60 1 ((avI (q0g (XK w.p w.j w.n) part o q)).map AV.sl))]⟩)
   (fun q=>q<=n) (fun q=>n-q) 0
   (Le.mk [(1,.own 60 1 [])] (by simp [Chunk.new0];rfl) (by simp) (by simp) (.cons (.refl _) (.cons (.refl _) (.cons (.refl _) (.cons (.nil mem_cons_self) (.cons (.refl _) (.cons (.refl _) .nil)))))) (.cons rfl (.refl _) (.new mem_cons_self .nil)))
   (zero_le _) ?_
  intro q hqn;have hLl:=x5p (XK w.p w.j w.n) part o q;rcases Nat.lt_or_ge q n with hq|hq
  ·have e2:=x6f (l:=part) (i:=q) (by omega);have e3:=w4g (l:=o) (i:=q) (by omega);have hsucc:=z3i (XK w.p w.j w.n) part o q;generalize q0g (XK w.p w.j w.n) part o q=acc at hLl hsucc ⊢;have hpe:part[q]=part.getD q 0:=by rw [getD_eq_getElem?_getD,List.getElem?_eq_getElem];rfl
   cases hb:o.getD q false with
   | true =>
     rw [hb] at e3;have ht : ¬q5p part o q=true:=by unfold q5p;rw [hb];simp
     rw [if_neg ht] at hsucc;conv=>whnf
     repeat' (first|((first|refine And.intro rfl ?_|(refine iA fun _=>?_)|refine wI ?_|refine IdxL.mk q rfl (by omega) ?_|refine LdOwn.mk q 0 .tt (by omega) e3 ?_);conv=>whnf)|(apply bD<;>intro _<;>first|omega|conv=>whnf)|(apply bE<;>intro _<;>first|omega|conv=>whnf))
     all_goals exact ⟨q+1,hq,by omega,Le.of_eq (by rw [hsucc];rfl)⟩
   | false =>
     rw [hb] at e3;conv=>whnf
     repeat' (first|((first|(refine iM fun _=>?_)|refine And.intro rfl ?_|(refine iA fun _=>?_)|refine wI ?_|refine IdxL.mk q rfl (by omega) ?_|refine LdOwn.mk q 0 .ff (by omega) e3 ?_);conv=>whnf)|(apply bD<;>intro _<;>first|omega|conv=>whnf)|(apply bE<;>intro _<;>first|omega|conv=>whnf))
     all_goals try
      have hne : ¬part.getD q 0=(q:Int):=by omega
      have ht : ¬q5p part o q=true:=fun h=>by
       unfold q5p at h;rw [Bool.and_eq_true,beq_iff_eq] at h;exact hne h.1
      rw [if_neg ht] at hsucc;exact ⟨q+1,hq,by omega,Le.of_eq (by rw [hsucc];rfl)⟩
     have hpq:part.getD q 0=(q:Int):=by omega
     have ht:q5p part o q=true:=by unfold q5p;rw [hb,hpq];simp
     rw [if_pos ht,hpl] at hsucc;refine LoopK.inv QY (fun z:Nat=>⟨[(0,.p (.ip w.cells)),(3,.p (ZM part)),(4,.hd 0 0 n),(7,.hd 1 0 acc.length),(8,.p (.int .i64 q)),(9,.hd 2 0 (HA (XK w.p w.j w.n) part q z).length),(69,.p (.int .i64 (part.map (AV.int .i64)).length)),(70,.p (.int .i64 q)),(86,.p (.int .i64 (part.map (AV.int .i64)).length)),(87,.p (.int .i64 z))],[(0,.own 4 1 (o.map bv)),(1,.own 60 1 ((avI acc).map AV.sl)),(2,.own 3 1 ((HA (XK w.p w.j w.n) part q z).map (.int .i64)))]⟩)
      (fun z=>z<=n) (fun z=>n-z) 0
      (Le.mk [(2,.own 3 1 [])] (by simp [Chunk.new0];rfl) (by simp) (by simp) (.cons (.refl _) (.cons (.refl _) (.cons (.refl _) (.cons (.refl _) (.cons (.refl _) (.cons (.nil mem_cons_self) (.cons (.refl _) (.cons (.refl _) (.cons (.refl _) (.cons (.refl _) .nil)))))))))) (.cons rfl (.refl _) (.cons rfl (.refl _) (.new mem_cons_self .nil))))
      (zero_le _) ?_
     intro z hzn;have hRl:=x7z (XK w.p w.j w.n) part q z;rcases Nat.lt_or_ge z n with hz|hz
     ·have e4:=x6f (l:=part) (i:=z) (by omega);have hs2:=z2p (XK w.p w.j w.n) part q z;generalize HA (XK w.p w.j w.n) part q z=l at hRl hs2 ⊢;conv=>whnf
      repeat' (first|((first|refine And.intro rfl ?_|refine aD ?_|refine bP ?_|(refine iA fun _=>?_)|refine wI ?_|(refine CallK.pure (GI w f hj hc (by omega) z (by omega)) (.cons (Sub.refl _) (.cons (Sub.refl _) .nil)) ?_;rintro _ rfl)|refine ZJ (by simp) (by simp;omega) ?_);conv=>whnf)|(apply bD<;>intro _<;>first|omega|conv=>whnf))
      have hpz:part[z]=part.getD z 0:=by rw [getD_eq_getElem?_getD,List.getElem?_eq_getElem];rfl
      ·rw [if_pos (by omega)] at hs2;exact ⟨z+1,hz,by omega,Le.of_eq (by rw [hs2,length_append,List.map_append];rfl)⟩
      ·have hpz:part[z]=part.getD z 0:=by rw [getD_eq_getElem?_getD,List.getElem?_eq_getElem];rfl
       rw [if_neg (by omega)] at hs2;exact ⟨z+1,hz,by omega,Le.of_eq (by rw [hs2];rfl)⟩
     ·have hze:z=n:=by omega
      subst hze;conv=>whnf
      repeat' (apply bD<;>intro _<;>first|omega|conv=>whnf)
      have hfl:(HA (XK w.p w.j w.n) part q z).length=((HA (XK w.p w.j w.n) part q z).map (AV.int .i64)).length:=by simp
      refine OpK.frz QY [[9,104]] ?_;conv=>whnf
      refine LenK.mk hfl ?_;conv=>whnf
      refine LenK.mk hfl ?_;conv=>whnf
      repeat' ((first|refine And.intro rfl ?_|refine aD ?_|refine bP ?_|refine wI ?_|refine AppK.mk (by simp [avI]) rfl (by show (acc.length+1)*24<=140737488355328;omega) (by show acc.length+1<=9223372036854775807;omega) (fun x hx=>by rcases List.mem_singleton.1 hx with rfl;exact ⟨rfl,rfl⟩) ?_);conv=>whnf)
      exact ⟨q+1,hq,by omega,Le.of_eq (by rw [hsucc];simp only [avI,length_append,List.map_append];rfl)⟩
  ·have hqe:q=n:=by omega
   subst hqe;conv=>whnf
   repeat' (apply bD<;>intro _<;>first|omega|conv=>whnf)
   exact ⟨_,.hd rfl (by simp [avI]),rfl⟩
def vOf (p:Pg) (id:Int):List Step:=match z9l p id with
 | some s=>if s.kind=10 then [⟨id,-1,3⟩] else []
 | none=>[]
def VD (w:Way) (f:Pr):List Step:=(trapsW w f).flatMap fun l=>l.flatMap (vOf w.p)
theorem w4n (p:Pg) (id:Int):(vOf p id).length<=1:=by
 unfold vOf;split
 ·split<;>simp
 ·simp
theorem WP {α β:Type} {g:α->List β} {c:Nat} : ∀ (l:List α),(∀ x∈l,(g x).length<=c)->(l.flatMap g).length<=l.length*c
 | [],_=>by simp
 | a::r,h=>by
   have h1:=h a mem_cons_self;have h2:=WP r fun x hx=>h x (mem_cons_of_mem _ hx);rw [List.flatMap_cons,length_append,length_cons,Nat.add_mul];omega
theorem x7f (w:Way) (f:Pr) (n:Nat) (hw:w.n=n) (hj:w.p.procs[w.j]? = some f) (hc:cntP w.p.procs<=1000) (hn:n<=5000) (hn2:2<=n) (hlen:w.real.length<=1000000) (hr : ∀ t∈prsW w f,(0<=t.1∧t.1<n)∧0<=t.2∧t.2<n)
  (htl:(trapsW w f).length<=5000) (hti : ∀ l∈trapsW w f,l.length<=5000 ∧ ∀ id∈l,1<=id∧id<=(sheetOf w.p).l.length) :
  SpecH Tryz.prog 290 [.p (.ip w.cells)] [] (fun r H=>r = .hd 0 0 (VD w f).length∧H=[(0,.own 156 3 (avS (VD w f)))]):=by
 refine sH q1v Tryz.func290 rfl Tryz.call290 ?_;conv=>whnf
 repeat' ((first|(refine iM fun _=>?_)|refine cP (x0t w f n hw hj hc hn hn2 hlen hr) ?_);conv=>whnf)
 unfold VD;generalize trapsW w f=ts at htl hti ⊢;have hml:((avI ts).map AV.sl).length=ts.length:=by simp [avI]
 refine LoopK.inv QY (fun x:Nat×List Step=>⟨[(0,.p (.ip w.cells)),(3,.hd 0 0 x.2.length),(9,.p (q7n ts)),(10,.p (.int .i64 ((avI ts).map AV.sl).length)),(11,.p (.int .i64 x.1))],[(0,.own 156 3 (avS x.2))]⟩)
  (fun x=>x.1<=ts.length∧x.2.length<=x.1*5000∧x.2++(ts.drop x.1).flatMap (fun l=>l.flatMap (vOf w.p))=ts.flatMap fun l=>l.flatMap (vOf w.p)) (fun x=>ts.length-x.1) (0,[])
  (Le.mk [(0,.own 156 3 [])] (by simp [Chunk.new0];rfl) (by simp) (by simp) (.cons (.refl _) (.cons (.nil mem_cons_self) (.cons (.refl _) (.cons (.refl _) (.cons (.refl _) .nil))))) (.new mem_cons_self .nil))
  ⟨zero_le _,by simp,rfl⟩ ?_
 rintro ⟨m,acc⟩ ⟨h1,h2,h3⟩;simp only at h1 h2 h3 ⊢;rcases Nat.lt_or_ge m ts.length with hm|hm;rotate_left 1
 ·rw [drop_eq_nil_of_le hm,List.flatMap_nil,List.append_nil] at h3;conv=>whnf
  repeat' (apply bD<;>intro _<;>first|omega|conv=>whnf)
  exact ⟨_,LSub.refl _,by rw [h3],by rw [h3]⟩
 obtain ⟨hl1,hl2⟩:=hti _ (List.getElem_mem hm);have hrow:((avI ts).map AV.sl)[m]? = some (.sl (ts[m].map (.int .i64))):=by simp [avI,hm]
 rw [JG hm] at h3;conv=>whnf
 repeat' (first|((first|(refine iM fun _=>?_)|(refine iA fun _=>?_));conv=>whnf)|(apply bD<;>intro _<;>first|omega|conv=>whnf))
 have hav:(avI ts)[m]'(by simp [avI];exact hm)=ts[m].map (.int .i64):=by simp [avI]
 rw [hav];generalize ts[m]=l at hl1 hl2 h3 ⊢;have hll:(l.map (AV.int .i64)).length=l.length:=length_map _;generalize htot:(ts.flatMap fun l=>l.flatMap (vOf w.p))=tot at h3 ⊢;refine LoopK.inv QY (fun x:Nat×List Step=>⟨[(0,.p (.ip w.cells)),(3,.hd 0 0 x.2.length),(9,.p (q7n ts)),(10,.p (.int .i64 ((avI ts).map AV.sl).length)),(11,.p (.int .i64 m)),(15,.p (ZM l)),(16,.p (.int .i64 (l.map (AV.int .i64)).length)),(17,.p (.int .i64 x.1))],[(0,.own 156 3 (avS x.2))]⟩)
  (fun x=>x.1<=l.length∧x.2.length<=m*5000+x.1∧x.2++((l.drop x.1).flatMap (vOf w.p)++(ts.drop (m+1)).flatMap (fun l=>l.flatMap (vOf w.p)))=tot) (fun x=>l.length-x.1) (0,acc) (Le.of_eq rfl) ⟨zero_le _,by simp only;omega,h3⟩ ?_
 rintro ⟨k,acc2⟩ ⟨h4,h5,h6⟩;simp only at h4 h5 h6 ⊢;rcases Nat.lt_or_ge k l.length with hk|hk;rotate_left 1
 ·rw [drop_eq_nil_of_le hk] at h6;conv=>whnf
  repeat' (first|(refine wI ?_;conv=>whnf)|(apply bD<;>intro _<;>first|omega|conv=>whnf))
  exact ⟨(m+1,acc2),⟨hm,by simp only;omega,by simpa using h6⟩,by simp only;omega,Le.of_eq rfl⟩
 obtain ⟨h7,h8⟩:=hl2 _ (List.getElem_mem hk);obtain ⟨_,_,_,hsl,_⟩:=QJ w.p;have hlt:(l[k]-1).toNat<(sheetOf w.p).l.length:=by omega
 have hu : ∃ u:Item,((sheetOf w.p).l.map fun i=>AV.agg i.cells)[(l[k]-1).toNat]? = some (.agg u.cells)∧z9l w.p l[k]=some u.s:=⟨_,by rw [List.getElem?_map,List.getElem?_eq_getElem hlt];rfl,by unfold z9l;rw [List.getElem?_eq_getElem hlt];rfl⟩;obtain ⟨u,hu1,hu2⟩:=hu;rw [JG hk] at h6;have hv:vOf w.p l[k]=if u.s.kind=10 then [⟨l[k],-1,3⟩] else []:=by unfold vOf;rw [hu2]
 rw [hv] at h6;conv=>whnf
 repeat' (first|((first|refine And.intro rfl ?_|refine aD ?_|refine bP ?_|(refine iA fun _=>?_)|refine wI ?_|(refine IdxK.at (by omega) hu1 rfl ?_)|refine AppK.mk (by simp [avS]) rfl (by show (acc2.length+1)*24<=140737488355328;omega) (by show acc2.length+1<=9223372036854775807;omega) (fun x hx=>by rcases List.mem_singleton.1 hx with rfl;exact ⟨rfl,rfl⟩) ?_);conv=>whnf)|(apply bD<;>intro _<;>first|omega|conv=>whnf))
 ·rw [if_pos (by assumption)] at h6;exact ⟨(k+1,acc2++[⟨l[k],-1,3⟩]),⟨hk,by simp;omega,by simpa using h6⟩,by simp only;omega,Le.of_eq (by simp only [avS,length_append,List.map_append];rfl)⟩
 ·rw [if_neg (by assumption)] at h6;exact ⟨(k+1,acc2),⟨hk,by simp only;omega,by simpa using h6⟩,by simp only;omega,Le.of_eq rfl⟩
def fOf (it:Item):List Step:=if it.s.kind=7∨it.s.kind=8∨it.s.kind=9∨it.s.kind=10 then [⟨it.s.id,it.next,2⟩] else []
structure WayT (w:Way) (f:Pr) (n:Nat):Prop where
 hw:w.n=n
 hj:w.p.procs[w.j]? = some f
 hc:cntP w.p.procs<=1000
 hn:n<=5000
 hn2:2<=n
 hlen:w.real.length<=1000000
 hr : ∀ t∈prsW w f,(0<=t.1∧t.1<n)∧0<=t.2∧t.2<n
 htl:(trapsW w f).length<=5000
 hti : ∀ l∈trapsW w f,l.length<=5000 ∧ ∀ id∈l,1<=id∧id<=(sheetOf w.p).l.length
 hok : ∀ s∈w.real,okSt s
 hfk : ∀ it∈itsOf w.p w.j f,∀ s∈fOf it,okSt s
theorem w4l {p:Pg} {id:Int} {s:Step} (h:s∈vOf p id):s=⟨id,-1,3⟩:=by
 unfold vOf at h;split at h
 ·split at h
  ·simpa using h
  ·simp at h
 ·simp at h
theorem WayT.virt_ok {w:Way} {f:Pr} {n:Nat} (h:WayT w f n) : ∀ s∈VD w f,okSt s:=fun s hs=>by
 unfold VD at hs;obtain ⟨l,hl,hs⟩:=List.mem_flatMap.1 hs;obtain ⟨id,hid,hs⟩:=List.mem_flatMap.1 hs;obtain ⟨_,_,_,hsl,_⟩:=QJ w.p;have h1:=(h.hti l hl).2 id hid;have h2:=h.hc;rw [w4l hs];exact ⟨by show id≠_;omega,by show (-1:Int)≠_;decide⟩
theorem WayT.virt_len {w:Way} {f:Pr} {n:Nat} (h:WayT w f n):(VD w f).length<=25000000:=by
 have h1:=WP (g:=fun l=>l.flatMap (vOf w.p)) (c:=5000) (trapsW w f) fun l hl=>by
  have h2:=WP (g:=vOf w.p) (c:=1) l fun id _=>w4n w.p id;have h3:=(h.hti l hl).1;omega
 have h2:=h.htl;unfold VD;omega
def FT (w:Way) (f:Pr):List Step:=ZH (VD w f++w.real)
def q8d (w:Way) (f:Pr):List Step:=VD w f++w.real++[⟨0,-1,2⟩]++(itsOf w.p w.j f).flatMap fOf
def v2e (w:Way) (f:Pr):List Step:=ZH (q8d w f)
theorem x4m (w:Way) (f:Pr) (n:Nat) (h:WayT w f n):SpecP Tryz.prog 200 [.ip w.cells] (fun r=>r=UL (FT w f)):=by
 refine sB q7a Tryz.func200 rfl Tryz.call200 ?_;conv=>whnf
 have hlen:=h.hlen;have hvl:=h.virt_len;have hvok:=h.virt_ok;repeat' (first|((first|refine dA ?_|refine aD ?_);conv=>whnf)|(refine CallK.heap [] 0 (ArgsH.cons (LSub.refl _) ArgsH.nil) BlksH.nil (x7f w f n h.hw h.hj h.hc h.hn h.hn2 h.hlen h.hr h.htl h.hti) rfl rfl ?_;rintro l' H' ⟨rfl,rfl⟩;conv=>whnf))
 have hml:(w.real.map fun s=>AV.agg s.cells).length=w.real.length:=length_map _;have hvm:(avS (VD w f)).length=(VD w f).length:=by simp [avS]
 refine AppK.mk hvm.symm rfl (by rw [hml];show ((VD w f).length+w.real.length)*24<=140737488355328;omega) (by rw [hml];show (VD w f).length+w.real.length<=9223372036854775807;omega) (fun x hx=>by obtain ⟨s,_,rfl⟩:=List.mem_map.1 hx;exact ⟨rfl,rfl⟩) ?_;conv=>whnf
 have happ:avS (VD w f)++(w.real.map fun s=>AV.agg s.cells)=avS (VD w f++w.real):=by simp [avS]
 have hlp:(VD w f).length+(w.real.map fun s=>AV.agg s.cells).length=(VD w f++w.real).length:=by simp
 rw [happ,hlp];repeat' (refine CallK.heap [(1000,0)] 0 (by repeat' (first|exact ArgsH.nil|refine ArgsH.cons ?_ ?_|exact LSub.refl _|exact LSub.p Sub.nils|exact LSub.p (Sub.tt rfl)|exact LSub.p (Sub.ff rfl)|exact LSub.p (Sub.int (by omega)))) (by refine BlksH.cons (j:=0) rfl rfl ?_ ?_;exact CSub.refl _;exact BlksH.nil) (x4f (VD w f++w.real) (fun s hs=>(List.mem_append.1 hs).elim (hvok s) (h.hok s)) (by rw [length_append];omega)) rfl rfl ?_;rintro l' H' ⟨rfl,rfl⟩;conv=>whnf)
 exact ⟨_,.hd rfl (by simp [avS]),rfl⟩
theorem UQ : ∀ (k:Nat) (x:X) (_:wX x<k) (_:k<=20002),SpecP Tryz.prog 291 [.agg x.cells] (fun r=>r = .agg x.cells):=by
 intro k;induction k with
 | zero=>intro x h;omega
 | succ k ih =>
   intro x hx hk;have hxe:wX x=1+wXs x.kids:=by cases x;rw [wX];rfl
   have hkl:=X.avs_len x.kids;have hkn:=z9y x.kids;refine sB GA Tryz.func291 rfl Tryz.call291 ?_;conv=>whnf
   repeat' ((first|(refine iM fun _=>?_)|refine And.intro rfl ?_);conv=>whnf)
   all_goals
    refine LoopK.inv QY (fun j:Nat=>⟨[(1,.p (.ip x.cells)),(2,.ptr 1 0),(3,.ptr 0 0),(14,.p (.int .i64 (X.avs x.kids).length)),(15,.p (.int .i64 j))],[(0,.obj 36 [.p (.int .i64 x.op),.p (.int .i64 x.n),.p (.str (x.name)),.hd 2 0 j]),(1,.obj 36 [.p (.int .i64 0),.p (.int .i64 0),.p (.str []),.p .nils]),(2,.own 36 4 (X.avs (x.kids.take j)))]⟩) (fun j=>j<=x.kids.length) (fun j=>x.kids.length-j) 0
     (Le.mk [(2,.own 36 4 [])] (by simp [Chunk.new0];rfl) (by simp) (by simp) (.cons (.refl _) (.cons (.refl _) (.cons (.refl _) (.cons (.refl _) (.cons (.refl _) .nil))))) (.cons rfl (.obj (.cons (.refl _) (.cons (.refl _) (.cons (.refl _) (.cons (.nil mem_cons_self) .nil))))) (.cons rfl (.refl _) (.new mem_cons_self .nil)))) (zero_le _) ?_
    intro j h2;rcases Nat.lt_or_ge j x.kids.length with hj|hj
    ·have hkw:=w3p (List.getElem_mem hj);have hih:=ih x.kids[j] (by omega) (by omega);have htk:X.avs (x.kids.take (j+1))=X.avs (x.kids.take j)++[.agg (x.kids[j]).cells]:=by
      rw [X.avs_eq,X.avs_eq,List.take_succ_eq_append_getElem hj,List.map_append];rfl
     have hal:(X.avs (x.kids.take j)).length=j:=by rw [X.avs_len,length_take];omega
     generalize X.avs (x.kids.take j)=acc at htk hal ⊢;conv=>whnf
     repeat' (first|((first|refine dA ?_|refine And.intro rfl ?_|refine aD ?_|refine bP ?_|refine IdxK.xs (by omega) ?_|refine wI ?_|refine cP hih ?_|refine AppK.mk hal.symm rfl (by show (j+1)*56<=140737488355328;omega) (by show j+1<=9223372036854775807;omega) (fun x hx=>by rcases List.mem_singleton.1 hx with rfl;exact ⟨rfl,rfl⟩) ?_);conv=>whnf)|(apply bD<;>intro _<;>first|omega|conv=>whnf)|(refine And.intro ?_ ?_<;>conv=>whnf))
     all_goals exact ⟨j+1,hj,by omega,Le.of_eq (by rw [htk];rfl)⟩
    ·have hall:X.avs (x.kids.take j)=X.avs x.kids:=by rw [take_of_length_le hj]
     have hal:(X.avs (x.kids.take j)).length=j:=by rw [X.avs_len,length_take];omega
     conv=>whnf
     repeat' (first|(refine And.intro rfl ?_;conv=>whnf)|(apply bD<;>intro _<;>first|omega|conv=>whnf))
     refine ⟨_,.agg (cs:=x.cells) rfl fun i l c h1 h3 => ?_,rfl⟩
     match i,h1,h3 with
     | 0,h1,h3=>cases h1;cases h3;exact .p (Sub.refl _)
     | 1,h1,h3=>cases h1;cases h3;exact .p (Sub.refl _)
     | 2,h1,h3=>cases h1;cases h3;exact .p (Sub.refl _)
     | 3,h1,h3 =>
       cases h1;cases h3;show Frz _ _ (.sl (X.avs x.kids));rw [<- hall];exact .hd rfl hal.symm
     | i+4,h1,h3=>simp at h1
def v2w (s:S):S := .mk s.id s.kind s.labels s.name s.proc s.x s.has s.args [] []
theorem UF (s:S) (hx:wX s.x<=20000) (hl:s.labels.length<=1000000) (ha:s.args.length<=1000000) (hax : ∀ a∈s.args,wX a.x<=20000):SpecP Tryz.prog 197 [.agg s.cells] (fun r=>r = .agg (v2w s).cells):=by
 refine sB HD Tryz.func197 rfl Tryz.call197 ?_;conv=>whnf
 have hal:(s.args.map fun a=>AV.agg a.cells).length=s.args.length:=length_map _;have hC:=UQ 20001 s.x (by omega) (by omega);repeat' (first|((first|(refine iM fun _=>?_)|refine dA ?_|refine And.intro rfl ?_|refine cP hC ?_|refine cP (ZD s.labels hl) ?_);conv=>whnf)|(refine And.intro ?_ ?_<;>conv=>whnf))
 all_goals
  refine LoopK.inv QY (fun j:Nat=>⟨[(2,.ptr 1 0),(3,.ptr 0 0),(24,.p (z5b s.args)),(25,.p (.int .i64 (s.args.map fun a=>AV.agg a.cells).length)),(26,.p (.int .i64 j))],[(0,.obj 40 [.p (.int .i64 s.id),.p (.int .i64 s.kind),.p (eStrs s.labels),.p (.str s.name),.p (.str s.proc),.p (.int .i64 s.x.op),.p (.int .i64 s.x.n),.p (.str s.x.name),.p (.sl (X.avs s.x.kids)),.p (.bool s.has),.hd 2 0 j,.p .nils,.p .nils]),(1,.obj 40 [.p (.int .i64 0),.p (.int .i64 0),.p .nils,.p (.str []),.p (.str []),.p (.int .i64 0),.p (.int .i64 0),.p (.str []),.p .nils,.p .ff,.p .nils,.p .nils,.p .nils]),(2,.own 74 6 ((s.args.take j).map fun a => .agg a.cells))]⟩) (fun j=>j<=s.args.length) (fun j=>s.args.length-j) 0
   (Le.mk [(2,.own 74 6 [])] (by simp [Chunk.new0];rfl) (by simp) (by simp) (.cons (.refl _) (.cons (.refl _) (.cons (.refl _) (.cons (.refl _) (.cons (.refl _) .nil))))) (.cons rfl (.obj (.cons (.refl _) (.cons (.refl _) (.cons (.refl _) (.cons (.refl _) (.cons (.refl _) (.cons (.refl _) (.cons (.refl _) (.cons (.refl _) (.cons (.refl _) (.cons (.refl _) (.cons (.nil mem_cons_self) (.cons (.refl _) (.cons (.refl _) .nil)))))))))))))) (.cons rfl (.refl _) (.new mem_cons_self .nil)))) (zero_le _) ?_
  intro j h2;rcases Nat.lt_or_ge j s.args.length with hj|hj
  ·have hax1:=hax _ (List.getElem_mem hj);have hD:=UQ 20001 s.args[j].x (by omega) (by omega);have htk:((s.args.take (j+1)).map fun a=>AV.agg a.cells)=((s.args.take j).map fun a=>AV.agg a.cells)++[.agg s.args[j].cells]:=by
    rw [List.take_succ_eq_append_getElem hj,List.map_append];rfl
   have hcl:((s.args.take j).map fun a=>AV.agg a.cells).length=j:=by rw [length_map,length_take];omega
   generalize ((s.args.take j).map fun a=>AV.agg a.cells)=acc at htk hcl ⊢;conv=>whnf
   repeat' (first|((first|refine dA ?_|refine And.intro rfl ?_|refine aD ?_|refine bP ?_|(refine iA fun _=>?_)|refine wI ?_|refine cP hD ?_|refine AppK.mk hcl.symm rfl (by show (j+1)*80<=140737488355328;omega) (by show j+1<=9223372036854775807;omega) (fun x hx=>by rcases List.mem_singleton.1 hx with rfl;exact ⟨rfl,rfl⟩) ?_);conv=>whnf)|(apply bD<;>intro _<;>first|omega|conv=>whnf)|(refine And.intro ?_ ?_<;>conv=>whnf))
   all_goals exact ⟨j+1,hj,by omega,Le.of_eq (by rw [htk];rfl)⟩
  ·have hall:((s.args.take j).map fun a=>AV.agg a.cells)=s.args.map fun a => .agg a.cells:=by rw [take_of_length_le hj]
   have hcl:((s.args.take j).map fun a=>AV.agg a.cells).length=j:=by rw [length_map,length_take];omega
   conv=>whnf
   repeat' (first|(refine And.intro rfl ?_;conv=>whnf)|(apply bD<;>intro _<;>first|omega|conv=>whnf))
   refine ⟨_,.agg (cs:=(v2w s).cells) rfl fun i l c h1 h3 => ?_,rfl⟩
   match i,h1,h3 with
   | 0,h1,h3=>cases h1;cases h3;exact .p (Sub.refl _)
   | 1,h1,h3=>cases h1;cases h3;exact .p (Sub.refl _)
   | 2,h1,h3=>cases h1;cases h3;exact .p (Sub.refl _)
   | 3,h1,h3=>cases h1;cases h3;exact .p (Sub.refl _)
   | 4,h1,h3=>cases h1;cases h3;exact .p (Sub.refl _)
   | 5,h1,h3=>cases h1;cases h3;exact .p (Sub.refl _)
   | 6,h1,h3=>cases h1;cases h3;exact .p (Sub.refl _)
   | 7,h1,h3=>cases h1;cases h3;exact .p (Sub.refl _)
   | 8,h1,h3=>cases h1;cases h3;exact .p (Sub.refl _)
   | 9,h1,h3=>cases h1;cases h3;exact .p (Sub.refl _)
   | 10,h1,h3 =>
     cases h1;cases h3;show Frz _ _ (.sl (s.args.map fun a => .agg a.cells));rw [<- hall];exact .hd rfl hcl.symm
   | 11,h1,h3=>cases h1;cases h3;exact .p Sub.nils
   | 12,h1,h3=>cases h1;cases h3;exact .p Sub.nils
   | i+13,h1,h3=>simp at h1
mutual
def nmS (n:Nat):S->S
 | .mk _ kind labels name proc x has args thn els => .mk ((n+1:Nat):Int) kind labels name proc x has args (nmL (n+1) thn) (nmL (n+1+cntL thn) els)
def nmL (n:Nat):List S->List S
 | []=>[]
 | t::r=>nmS n t::nmL (n+ZB t) r
end
theorem w7h (n:Nat) (t:S):nmS n t = .mk ((n+1:Nat):Int) t.kind t.labels t.name t.proc t.x t.has t.args (nmL (n+1) t.thn) (nmL (n+1+cntL t.thn) t.els):=by
 cases t;rw [nmS];rfl
theorem x3r (n:Nat) : ∀ l:List S,(nmL n l).length=l.length
 | []=>by rw [nmL]
 | t::r=>by rw [nmL,length_cons,length_cons,x3r _ r]
theorem z5e : ∀ (l:List S) (n j:Nat) (h:j<l.length),(nmL n l)[j]? = some (nmS (n+cntL (l.take j)) l[j])
 | t::r,n,0,h=>by rw [nmL];simp [cntL]
 | t::r,n,j+1,h=>by
   rw [nmL,List.getElem?_cons_succ,z5e r (n+ZB t) j (by simpa using h),List.take_succ_cons,cntL,Nat.add_assoc];rfl
theorem x6n : ∀ (l:List S) (j:Nat) (h:j<l.length),cntL (l.take (j+1))=cntL (l.take j)+ZB l[j]
 | t::r,0,h=>by simp [cntL]
 | t::r,j+1,h=>by
   rw [List.take_succ_cons,List.take_succ_cons,cntL,cntL,x6n r j (by simpa using h),Nat.add_assoc];rfl
theorem x0i : ∀ l:List S,l.length<=cntL l
 | []=>by simp
 | t::r=>by
   rw [cntL,length_cons];have:=x0i r;have:1<=ZB t:=by cases t;rw [ZB];omega
   omega
def okC (t:S):Prop:=wX t.x<=20000∧t.labels.length<=1000000∧t.args.length<=1000000 ∧ ∀ a∈t.args,wX a.x<=20000
theorem x2j : ∀ {l:List S} {t:S},t∈l->ZB t<=cntL l
 | a::r,t,h=>by
   rw [cntL];rcases List.mem_cons.1 h with rfl|h
   ·omega
   ·have:=x2j h;omega
theorem HO : ∀ (k:Nat) (l:List S) (_:cntL l<k) (n:Nat) (_:n+cntL l<=1000000) (_ : ∀ t∈flL l,okC t),SpecP Tryz.prog 198 [eSs l,.int .i64 (n:Nat)] (fun r=>r = .tup [eSs (nmL n l),.int .i64 (n+cntL l:Nat)]):=by
 intro k;induction k with
 | zero=>intro l h;omega
 | succ k ih =>
   intro l hk n hn hok;have hsl:(S.avs l).length=l.length:=by rw [S.avs_eq,length_map]
   have hcl:=x0i l;refine sB GB Tryz.func198 rfl Tryz.call198 ?_;conv=>whnf
   repeat' (refine iM fun _=>?_;conv=>whnf)
   refine LoopK.inv QY (fun j:Nat=>⟨[(1,.p (.int .i64 (n+cntL (l.take j):Nat))),(6,.hd 0 0 j),(10,.p (eSs l)),(11,.p (.int .i64 (S.avs l).length)),(12,.p (.int .i64 j))],[(0,.own 40 13 (S.avs ((nmL n l).take j)))]⟩) (fun j=>j<=l.length) (fun j=>l.length-j) 0
    (Le.mk [(0,.own 40 13 [])] (by simp [Chunk.new0];rfl) (by simp) (by simp) (.cons (.of_eq (by simp [cntL];rfl)) (.cons (.nil mem_cons_self) (.cons (.refl _) (.cons (.refl _) (.cons (.refl _) .nil))))) (.new mem_cons_self .nil)) (zero_le _) ?_
   intro j h2;rcases Nat.lt_or_ge j l.length with hj|hj
   ·have htk:=x6n l j hj;have htm:=x2j (List.getElem_mem hj);have hcs:=ZA l[j];have hget:=z5e l n j hj;have hlb:cntL (l.take (j+1))<=cntL l:=by
     conv=>rhs;rw [<- List.take_append_drop (j+1) l]
     have : ∀ a b:List S,cntL (a++b)=cntL a+cntL b:=fun a b=>by
      induction a with
      | nil=>simp [cntL]
      | cons x r ih=>rw [List.cons_append,cntL,cntL,ih,Nat.add_assoc]
     rw [this];omega
    have hself:=hok _ (ML l _ (List.getElem_mem hj));have hsub : ∀ t,t∈flL l[j].thn∨t∈flL l[j].els->okC t:=fun t ht=>hok t (by
     have:t∈flS l[j]:=by
      rw [z4i];exact mem_cons_of_mem _ (List.mem_append.2 ht)
     have key : ∀ (m:List S) (i:Nat) (h:i<m.length),t∈flS m[i]->t∈flL m:=fun m=>by
      induction m with
      | nil=>intro i h;simp at h
      | cons a r ih =>
        intro i h ht;rw [flL];cases i with
        | zero=>exact List.mem_append.2 (.inl ht)
        | succ i=>exact List.mem_append.2 (.inr (ih i (by simpa using h) ht))
     exact key l j hj this)
    have h5:=UF l[j] hself.1 hself.2.1 hself.2.2.1 hself.2.2.2;have h6:=ih l[j].thn (by omega) (n+cntL (l.take j)+1) (by omega) fun t ht=>hsub t (.inl ht);have h7:=ih l[j].els (by omega) (n+cntL (l.take j)+1+cntL l[j].thn) (by omega) fun t ht=>hsub t (.inr ht);have hacl:j=(S.avs ((nmL n l).take j)).length:=by rw [S.avs_eq,length_map,length_take,x3r];omega
    have hav:S.avs ((nmL n l).take (j+1))=S.avs ((nmL n l).take j)++[.agg (nmS (n+cntL (l.take j)) l[j]).cells]:=by
     rw [S.avs_eq,S.avs_eq,List.take_add_one,hget,List.map_append];rfl
    conv=>whnf
    repeat' (first|((first|refine And.intro rfl ?_|refine aD ?_|refine bP ?_|refine QX (by omega) ?_|refine wI ?_|refine cP h5 ?_|(refine CallK.pure h6 (.cons (Sub.refl _) (.cons (Sub.int (by omega)) .nil)) ?_;rintro _ rfl)|(refine CallK.pure h7 (.cons (Sub.refl _) (.cons (Sub.int (by omega)) .nil)) ?_;rintro _ rfl)|refine AppK.mk hacl rfl (by show (j+1)*208<=140737488355328;omega) (by show j+1<=9223372036854775807;omega) (fun x hx=>by rcases List.mem_singleton.1 hx with rfl;exact ⟨rfl,rfl⟩) ?_);conv=>whnf)|(apply bD<;>intro _<;>first|omega|conv=>whnf))
    exact ⟨j+1,hj,by omega,Le.mk [] (by simp) (by simp) (by simp) (.cons (.of_eq (by rw [htk,hcs,show n+(cntL (l.take j)+(1+cntL l[j].thn+cntL l[j].els))=n+cntL (l.take j)+1+cntL l[j].thn+cntL l[j].els by omega];rfl)) (.cons (.refl _) (.cons (.refl _) (.cons (.refl _) (.cons (.refl _) .nil))))) (.cons rfl (.of_eq (by rw [hav,w7h];rfl)) .nil)⟩
   ·have hall:(nmL n l).take j=nmL n l:=take_of_length_le (by rw [x3r];exact hj);have hall2:l.take j=l:=take_of_length_le hj;have hjl:j=(S.avs (nmL n l)).length:=by rw [S.avs_eq,length_map,x3r];omega
    rw [hall,hall2];conv=>whnf
    repeat' (apply bD<;>intro _<;>first|omega|conv=>whnf)
    refine ⟨_,.tup (cs:=[eSs (nmL n l),.int .i64 (n+cntL l:Nat)]) rfl fun i l' c h1 h3 => ?_,rfl⟩
    match i,h1,h3 with
    | 0,h1,h3=>cases h1;cases h3;exact .hd rfl hjl
    | 1,h1,h3=>cases h1;cases h3;exact .p (Sub.refl _)
    | i+2,h1,h3=>simp at h1
def ElS (es es':List AV):Prop:=es'.length=es.length ∧ ∀ (m:Nat) (x':AV),es'[m]? = some x' -> ∃ x,es[m]? = some x∧x'.cells.length=x.cells.length ∧ ∀ (j:Nat) (c':AV),x'.cells[j]? = some c' -> ∃ c,x.cells[j]? = some c∧Sub c c'
inductive SubH:Heap->Heap->Prop
 | nil:SubH [] []
 | same {c:Nat×Chunk} {H H':Heap} (h:SubH H H'):SubH (c::H) (c::H')
 | els {k:Nat} {e:TypeId} {sz:Nat} {es es':List AV} {H H':Heap} (hp:ElS es es') (h:SubH H H'):SubH ((k,.own e sz es)::H) ((k,.own e sz es')::H')
theorem SubH.get {H H':Heap} (h:SubH H H'):H'.map (·.1)=H.map (·.1) ∧ ∀ j c',(j,c')∈H'->(j,c')∈H ∨ ∃ e sz es es',(j,Chunk.own e sz es)∈H∧c' = .own e sz es'∧ElS es es':=by
 induction h with
 | nil=>exact ⟨rfl,by simp⟩
 | same h ih =>
   refine ⟨by simp [ih.1],fun j c' hj => ?_⟩;rcases List.mem_cons.1 hj with rfl|hj
   ·exact .inl mem_cons_self
   ·rcases ih.2 j c' hj with h1|⟨e,sz,es,es',h1,h2⟩
    ·exact .inl (mem_cons_of_mem _ h1)
    ·exact .inr ⟨e,sz,es,es',mem_cons_of_mem _ h1,h2⟩
 | @els k e sz es es' H H' hp h ih =>
   refine ⟨by simp [ih.1],fun j c' hj => ?_⟩;rcases List.mem_cons.1 hj with hj|hj
   ·cases hj;exact .inr ⟨e,sz,es,es',mem_cons_self,rfl,hp⟩
   ·rcases ih.2 j c' hj with h1|⟨e,sz,es,es',h1,h2⟩
    ·exact .inl (mem_cons_of_mem _ h1)
    ·exact .inr ⟨e,sz,es,es',mem_cons_of_mem _ h1,h2⟩
theorem Le.els {N:Nat} {sl:List (Nat×LV)} {H H':Heap} (h:SubH H H'):Le N ⟨sl,H⟩ ⟨sl,H'⟩:=fun σ β a w hr=>by
 obtain ⟨hk,hc⟩:=h.get;refine ⟨σ,β,⟨hr.size,hr.defers,hr.slots,⟨hr.heap.mem,fun j c' hj => ?_,by show (H'.map (·.1)).Nodup;rw [hk];exact hr.heap.nodup,fun j hj=>hr.heap.apart j (by rw [<- hk];exact hj),fun j hj j' hj'=>hr.heap.inj j (by rw [<- hk];exact hj) j' (by rw [<- hk];exact hj')⟩⟩,Mem.le_refl σ,Frm.refl _ w,fun b h0 h1=>absurd h0 h1,fun b ⟨j,hj,r⟩ => .inl ⟨j,by rw [<- hk];exact hj,r⟩,fun _ _ _=>rfl⟩;rcases hc j c' hj with h1|⟨e,sz,es,es',h1,rfl,h2⟩
 ·exact hr.heap.chunks j c' h1
 ·rcases hr.heap.chunks j _ h1 with ⟨h3,h4⟩|⟨i,vs,h3,h4,h5,h6,h7,h8,h9⟩
  ·refine .inl ⟨h3,?_⟩;have:=h2.1;rw [h4] at this;exact List.eq_nil_of_length_eq_zero this
  ·refine .inr ⟨i,vs,h3,h4,h5,h6,by rw [h2.1];exact h7,h8,fun m x' hx => ?_⟩;obtain ⟨x,g1,g2,g3⟩:=h2.2 m x' hx;refine ⟨by rw [g2];exact (h9 m x g1).1,fun j c' hc => ?_⟩;obtain ⟨c,g4,g5⟩:=g3 j c' hc;obtain ⟨u,g6,g7⟩:=(h9 m x g1).2 j c g4;exact ⟨u,g6,g5 _ _ g7⟩
def nxE (rows:List (List Int)) (t:Int×Int):List (List Int):=rows.set t.1.toNat (rows.getD t.1.toNat []++[t.2])
def q0x (n:Nat) (l:List (Int×Int)):List (List Int):=l.foldl nxE (List.replicate n [])
theorem z8j (rows:List (List Int)) (t:Int×Int):(nxE rows t).length=rows.length:=length_set
theorem x4t : ∀ (l:List (Int×Int)) (rows:List (List Int)),(l.foldl nxE rows).length=rows.length
 | [],_=>rfl
 | t::r,rows=>by rw [foldl_cons,x4t r,z8j]
theorem q6k (n:Nat) (l:List (Int×Int)):(q0x n l).length=n:=by
 unfold q0x;rw [x4t,length_replicate]
theorem x6y : ∀ (l:List (Int×Int)) (rows:List (List Int)) (a:Nat),((l.foldl nxE rows).getD a []).length<=(rows.getD a []).length+l.length
 | [],_,_=>Nat.le_refl _
 | t::r,rows,a=>by
   rw [foldl_cons];have h1:=x6y r (nxE rows t) a;have h2:((nxE rows t).getD a []).length<=(rows.getD a []).length+1:=by
    unfold nxE;simp only [getD_eq_getElem?_getD,List.getElem?_set];by_cases he:t.1.toNat=a
    ·subst he;by_cases hl:t.1.toNat<rows.length
     ·simp [hl]
     ·simp [hl]
    ·simp [he]
   rw [length_cons];omega
theorem x5v (n:Nat) (l:List (Int×Int)) (a:Nat):((q0x n l).getD a []).length<=l.length:=by
 have:=x6y l (List.replicate n []) a;have e:((List.replicate n ([]:List Int)).getD a []).length=0:=by
  rw [getD_eq_getElem?_getD,List.getElem?_replicate];split<;>rfl
 unfold q0x;omega
theorem z5s {N':Nat} {sl:List (Nat×LV)} (n:Nat) (h0:(sl.all fun x=>x.2.xfree 0)=true) :
  Le N' ⟨sl,[(0,.own 60 1 (List.replicate n .nils))]⟩ ⟨sl,[(0,.ext (.mat 60 3 1 (List.replicate n []) []))]⟩:=by
 have hm:=x3s (N:=N') (sl:=sl) (H:=[(0,.own 60 1 (List.replicate n .nils))])
  (H':=[(0,.ext (.mat 60 3 1 (List.replicate (List.replicate n AV.nils).length []) []))])
  0 3 1 (e:=60) (es:=List.replicate n .nils) rfl (fun x hx=>List.eq_of_mem_replicate hx) rfl h0 rfl rfl (by simp [GP])
 simpa using hm
theorem x5b {n:Nat} {part:List Int} (hp : ∀ k,k<n->0<=part.getD k 0∧part.getD k 0<n) {i:Nat} (hi:i<n) : ∀ (l:List (Int×Int)) {o:List Bool},o.length=n->(∀ t∈l,0<=t.1∧t.1<n) ->
  ((l.foldl (q0d part) o).getD i false=true↔o.getD i false=true ∨ ∃ t∈l,part.getD t.1.toNat 0≠part.getD t.2.toNat 0∧part.getD t.1.toNat 0=i)
 | [],o,_,_=>by simp
 | t::r,o,ho,hr=>by
   rw [foldl_cons,x5b hp hi r (by rw [x4g];exact ho) fun u hu=>hr u (mem_cons_of_mem _ hu)];have h1:=hr t mem_cons_self;have h2:=hp t.1.toNat (by omega);have key:(q0d part o t).getD i false=true↔o.getD i false=true∨(part.getD t.1.toNat 0≠part.getD t.2.toNat 0∧part.getD t.1.toNat 0=i):=by
    unfold q0d;split
    ·rename_i he;constructor
     ·exact .inl
     ·rintro (h3|⟨h3,_⟩)
      ·exact h3
      ·exact absurd he h3
    ·rename_i he;rw [ZP (by omega)];split
     ·rename_i h3;constructor
      ·intro _;exact .inr ⟨he,by omega⟩
      ·intro _;rfl
     ·rename_i h3;constructor
      ·exact .inl
      ·rintro (h4|⟨_,h4⟩)
       ·exact h4
       ·exact absurd (by omega) h3
   rw [key,or_assoc];constructor
   ·rintro (h3|⟨h3,h4⟩|⟨u,hu,h3⟩)
    ·exact .inl h3
    ·exact .inr ⟨t,mem_cons_self,h3,h4⟩
    ·exact .inr ⟨u,mem_cons_of_mem _ hu,h3⟩
   ·rintro (h3|⟨u,hu,h3⟩)
    ·exact .inl h3
    ·rcases List.mem_cons.1 hu with rfl|hu
     ·exact .inr (.inl h3)
     ·exact .inr (.inr ⟨u,hu,h3⟩)
theorem w2e {n:Nat} {part:List Int} (hn:0<n) (hp : ∀ k,k<n->0<=part.getD k 0∧part.getD k 0<n) {i:Nat} (hi:i<n) {l:List (Int×Int)} (hr : ∀ t∈l,0<=t.1∧t.1<n) :
  (x2b n part l).getD i false=true↔part.getD 0 0=i∨part.getD (n-1) 0=i ∨ ∃ t∈l,part.getD t.1.toNat 0≠part.getD t.2.toNat 0∧part.getD t.1.toNat 0=i:=by
 have h0:=hp 0 hn;have h1:=hp (n-1) (by omega);unfold x2b;rw [x5b hp hi l (by simp [q8k]) hr];have key:(q8k n part).getD i false=true↔part.getD 0 0=i∨part.getD (n-1) 0=i:=by
  unfold q8k;rw [ZP (by rw [length_set,length_replicate];omega),ZP (by rw [length_replicate];omega)];split
  ·exact ⟨fun _ => .inr (by omega),fun _=>rfl⟩
  ·split
   ·exact ⟨fun _ => .inl (by omega),fun _=>rfl⟩
   ·have:(List.replicate n false).getD i false=false:=by
     rw [getD_eq_getElem?_getD,List.getElem?_replicate];split<;>rfl
    rw [this];constructor
    ·intro h;cases h
    ·rintro (h|h)<;>omega
 rw [key,or_assoc]
section
variable {p:Pg} {j:Nat} {f:Pr}
theorem q4h {i:Int} (h:0<=i∧i<(cntL f.body+2:Nat)):plP p j f (XK p j (cntL f.body+2:Nat) i)∧ixI p j f (XK p j (cntL f.body+2:Nat) i)=i:=by
 unfold XK ixI ZO plP loI hiI;constructor
 ·(repeat' split)<;>omega
 ·(repeat' split)<;>omega
theorem z1s {x:Int} (h:plP p j f x):XK p j (cntL f.body+2:Nat) (ixI p j f x)=x:=by
 have h1:=q4h (p:=p) (j:=j) (f:=f) (YY h);exact HY h1.1 h h1.2
theorem x2f:prsW (QQ p j f) f=(QQ p j f).real.map (ixP p j f (cntL f.body+2:Nat)):=rfl
theorem w4q (h:QO p=true) (hj:p.procs[j]? = some f) : ∀ t∈prsW (QQ p j f) f,(0<=t.1∧t.1<(cntL f.body+2:Nat))∧0<=t.2∧t.2<(cntL f.body+2:Nat):=fun t ht=>by
 rw [x2f] at ht;obtain ⟨s,hs,rfl⟩:=List.mem_map.1 ht;obtain ⟨h1,h2⟩:=ZY h hj s hs;exact ⟨YY h1,YY h2⟩
def wE (p:Pg) (j:Nat) (f:Pr):Int->Int->Prop:=rowE (QS (cntL f.body+2) (prsW (QQ p j f) f)).1
def wR (p:Pg) (j:Nat) (f:Pr):Int->Int->Prop:=stR (QQ p j f).real
theorem w7a (h:QO p=true) (hj:p.procs[j]? = some f) {i k:Int}:wE p j f i k ↔ ∃ a b,wR p j f a b∧ixI p j f a=i∧ixI p j f b=k:=by
 unfold wE wR;rw [z2k];constructor
 ·rintro ⟨h1,_,_⟩;rw [x2f] at h1;obtain ⟨s,hs,he⟩:=List.mem_map.1 h1;exact ⟨s.src,s.dst,⟨s,hs,rfl,rfl⟩,congrArg Prod.fst he,congrArg Prod.snd he⟩
 ·rintro ⟨a,b,⟨s,hs,rfl,rfl⟩,rfl,rfl⟩;obtain ⟨h1,h2⟩:=ZY h hj s hs;exact ⟨List.mem_map.2 ⟨s,hs,rfl⟩,x2m (YY h1),x2m (YY h2)⟩
theorem w9h (h:QO p=true) (hj:p.procs[j]? = some f) {a b:Int} (hr:wR p j f a b):plP p j f a∧plP p j f b:=by
 obtain ⟨s,hs,rfl,rfl⟩:=hr;exact ZY h hj s hs
theorem w3n (h:QO p=true) (hj:p.procs[j]? = some f) {a b:Int} (ha:plP p j f a) (hb:plP p j f b):Rch (wE p j f) (ixI p j f a) (ixI p j f b)↔Rch (wR p j f) a b:=by
 constructor
 ·intro hr;obtain ⟨c,h1,h2,h3⟩:=hr.closed (S:=fun k => ∃ c,plP p j f c∧ixI p j f c=k∧Rch (wR p j f) a c) (by
   rintro i k ⟨c,h1,h2,h3⟩ h4;obtain ⟨x,y,h5,h6,h7⟩:=(w7a h hj).1 h4;have h8:=w9h h hj h5;have:x=c:=HY h8.1 h1 (by rw [h6,h2]);subst this;exact ⟨y,h8.2,h7,.tail h3 h5⟩) ⟨a,ha,rfl,.refl⟩
  rw [<- HY h1 hb h2];exact h3
 ·intro hr;exact (hr.closed (S:=fun c=>plP p j f c∧Rch (wE p j f) (ixI p j f a) (ixI p j f c)) (fun x y ⟨h1,h2⟩ h3=>⟨(w9h h hj h3).2,.tail h2 ((w7a h hj).2 ⟨x,y,h3,rfl,rfl⟩)⟩) ⟨ha,.refl⟩).2
theorem w8l (h:QO p=true) (hj:p.procs[j]? = some f) {a b:Int} (ha:plP p j f a) (hb:plP p j f b):sccP (wE p j f) (ixI p j f a) (ixI p j f b)↔sccP (wR p j f) a b:=by
 unfold sccP;rw [w3n h hj ha hb,w3n h hj hb ha]
def HR (p:Pg) (j:Nat) (f:Pr) (i:Int):Int:=(WM (QQ p j f) f).getD i.toNat 0
theorem q5i:WM (QQ p j f) f=q1e (cntL f.body+2) (QS (cntL f.body+2) (prsW (QQ p j f) f)).1:=rfl
theorem z1h {i:Int} (hi:0<=i∧i<(cntL f.body+2:Nat)):MinP (wE p j f) i (HR p j f i):=by
 unfold HR;rw [q5i];exact q0f (YB _ _).1 hi
theorem z9s {k:Nat} (hk:k<cntL f.body+2):0<=(WM (QQ p j f) f).getD k 0∧(WM (QQ p j f) f).getD k 0<(cntL f.body+2:Nat):=by
 rw [q5i];exact z1b (YB _ _).1 hk
theorem z1n:(WM (QQ p j f) f).length=cntL f.body+2:=by rw [q5i,HT]
theorem MinP.same {E:Int->Int->Prop} {x y v:Int} (h:MinP E x v) (hs:sccP E x y):MinP E y v:=⟨hs.symm.trans h.scc,fun z hz=>h.le z (hs.trans hz)⟩
theorem w1r {i k:Int} (hi:0<=i∧i<(cntL f.body+2:Nat)) (hk:0<=k∧k<(cntL f.body+2:Nat)):HR p j f i=HR p j f k↔sccP (wE p j f) i k:=by
 have h1:=z1h (p:=p) (j:=j) hi;have h2:=z1h (p:=p) (j:=j) hk;constructor
 ·intro he;rw [<- he] at h2;exact h1.scc.trans h2.scc.symm
 ·intro hs;exact (h1.same hs).uniq h2
theorem PC (h:QO p=true) (hj:p.procs[j]? = some f) {a b:Int} (ha:plP p j f a) (hb:plP p j f b):HR p j f (ixI p j f a)=HR p j f (ixI p j f b)↔sccP (wR p j f) a b:=by
 rw [w1r (YY ha) (YY hb),w8l h hj ha hb]
structure TrapP (p:Pg) (j:Nat) (f:Pr) (l:List Int) (r:Int):Prop where
 pl:plP p j f r
 mem : ∀ b,b∈l↔plP p j f b∧sccP (wR p j f) r b
 cl : ∀ b c,sccP (wR p j f) r b->wR p j f b c->sccP (wR p j f) r c
 n0 : ¬sccP (wR p j f) r 0
 nx : ¬sccP (wR p j f) r (-1)
theorem z6o {plc:Int->Int} {part:List Int} {i q:Nat} {b:Int}:b∈HA plc part i q ↔ ∃ k:Nat,k<q∧part.getD k 0=i∧plc k=b:=by
 unfold HA;constructor
 ·intro h;obtain ⟨k,hk,rfl⟩:=List.mem_map.1 h;obtain ⟨h1,h2⟩:=List.mem_filter.1 hk;exact ⟨k,List.mem_range.1 h1,beq_iff_eq.1 h2,rfl⟩
 ·rintro ⟨k,h1,h2,rfl⟩;exact List.mem_map.2 ⟨k,List.mem_filter.2 ⟨List.mem_range.2 h1,beq_iff_eq.2 h2⟩,rfl⟩
theorem ix0:ixI p j f 0=0:=by unfold ixI ZO;rw [if_pos rfl]
theorem ix1:ixI p j f (-1)=((cntL f.body+2:Nat):Int)-1:=by unfold ixI ZO;rw [if_neg (by omega),if_pos rfl]
theorem pl0:plP p j f 0 := .inl rfl
theorem pl1:plP p j f (-1) := .inr (.inl rfl)
theorem q4x (k:Nat):(WM (QQ p j f) f).getD k 0=HR p j f k:=by
 unfold HR;rw [Int.toNat_natCast]
theorem w6f (h:QO p=true) (hj:p.procs[j]? = some f) {i:Nat} (hi:i<cntL f.body+2):(x2b (cntL f.body+2) (WM (QQ p j f) f) (prsW (QQ p j f) f)).getD i false=true ↔
  HR p j f (ixI p j f 0)=i∨HR p j f (ixI p j f (-1))=i ∨ ∃ a b,wR p j f a b ∧ ¬sccP (wR p j f) a b∧HR p j f (ixI p j f a)=i:=by
 rw [w2e (by omega) (fun k hk=>z9s hk) hi fun t ht=>(w4q h hj t ht).1,ix0,ix1];have e1:(WM (QQ p j f) f).getD (cntL f.body+2-1) 0=HR p j f (((cntL f.body+2:Nat):Int)-1):=by
  unfold HR;congr 1;omega
 have e0:(WM (QQ p j f) f).getD 0 0=HR p j f 0:=rfl;rw [e0,e1];refine or_congr Iff.rfl (or_congr Iff.rfl ?_);constructor
 ·rintro ⟨t,ht,h1,h2⟩;rw [x2f] at ht;obtain ⟨s,hs,rfl⟩:=List.mem_map.1 ht;obtain ⟨h3,h4⟩:=ZY h hj s hs;exact ⟨s.src,s.dst,⟨s,hs,rfl,rfl⟩,fun hsc=>h1 ((PC h hj h3 h4).2 hsc),h2⟩
 ·rintro ⟨a,b,⟨s,hs,rfl,rfl⟩,h1,h2⟩;obtain ⟨h3,h4⟩:=ZY h hj s hs;exact ⟨ixP p j f (cntL f.body+2:Nat) s,by rw [x2f];exact List.mem_map.2 ⟨s,hs,rfl⟩,fun he=>h1 ((PC h hj h3 h4).1 he),h2⟩
theorem x6a {l:List Int}:l∈trapsW (QQ p j f) f ↔ ∃ i:Nat,i<cntL f.body+2∧HR p j f i=i∧(x2b (cntL f.body+2) (WM (QQ p j f) f) (prsW (QQ p j f) f)).getD i false=false∧l=HA (XK p j (cntL f.body+2:Nat)) (WM (QQ p j f) f) i (cntL f.body+2):=by
 unfold trapsW q0g;rw [z1n];constructor
 ·intro hl;obtain ⟨i,hi,rfl⟩:=List.mem_map.1 hl;obtain ⟨h1,h2⟩:=List.mem_filter.1 hi;unfold q5p at h2;rw [Bool.and_eq_true,beq_iff_eq,Bool.not_eq_true',q4x] at h2;exact ⟨i,List.mem_range.1 h1,h2.1,h2.2,rfl⟩
 ·rintro ⟨i,h1,h2,h3,rfl⟩;refine List.mem_map.2 ⟨i,List.mem_filter.2 ⟨List.mem_range.2 h1,?_⟩,rfl⟩;unfold q5p;rw [Bool.and_eq_true,beq_iff_eq,Bool.not_eq_true',q4x];exact ⟨h2,h3⟩
theorem w1f (h:QO p=true) (hj:p.procs[j]? = some f) {i:Nat} (hi:i<cntL f.body+2) (hp:HR p j f i=i) (b:Int) :
  b∈HA (XK p j (cntL f.body+2:Nat)) (WM (QQ p j f) f) i (cntL f.body+2)↔plP p j f b∧sccP (wR p j f) (XK p j (cntL f.body+2:Nat) i) b:=by
 obtain ⟨h1,h2⟩:=q4h (p:=p) (j:=j) (f:=f) (i:=i) (by omega);rw [z6o];constructor
 ·rintro ⟨k,h3,h4,rfl⟩;obtain ⟨h5,h6⟩:=q4h (p:=p) (j:=j) (f:=f) (i:=k) (by omega);refine ⟨h5,(PC h hj h1 h5).1 ?_⟩;rw [h2,h6,hp,<- q4x,h4]
 ·rintro ⟨h3,h4⟩;have h5:=YY h3;refine ⟨(ixI p j f b).toNat,by omega,?_,?_⟩
  ·rw [q4x,show (((ixI p j f b).toNat:Nat):Int)=ixI p j f b by omega,<- (PC h hj h1 h3).2 h4,h2,hp]
  ·rw [show (((ixI p j f b).toNat:Nat):Int)=ixI p j f b by omega,z1s h3]
theorem z5f (h:QO p=true) (hj:p.procs[j]? = some f) {l:List Int} (hl:l∈trapsW (QQ p j f) f) : ∃ r,TrapP p j f l r:=by
 obtain ⟨i,hi,hp,ho,rfl⟩:=x6a.1 hl;obtain ⟨h1,h2⟩:=q4h (p:=p) (j:=j) (f:=f) (i:=i) (by omega);have ho2 : ¬_:=fun hx=>by
  have:=(w6f h hj hi).2 hx;rw [ho] at this;cases this
 have hpr:HR p j f (ixI p j f (XK p j (cntL f.body+2:Nat) i))=i:=by rw [h2,hp]
 refine ⟨_,h1,w1f h hj hi hp,fun b c hb hbc => ?_,fun hs=>ho2 (.inl ?_),fun hs=>ho2 (.inr (.inl ?_))⟩
 ·have h3:=w9h h hj hbc;by_cases hsc:sccP (wR p j f) b c
  ·exact hb.trans hsc
  ·refine absurd (.inr (.inr ⟨b,c,hbc,hsc,?_⟩)) ho2;rw [<- (PC h hj h1 h3.1).2 hb,hpr]
 ·rw [<- (PC h hj h1 pl0).2 hs,hpr]
 ·rw [<- (PC h hj h1 pl1).2 hs,hpr]
end
theorem z0c {p:Pg} {j:Nat} {f:Pr} (hj:p.procs[j]? = some f) (hcn:cntP p.procs<=200):(QQ p j f).real.length<=100000:=by
 obtain ⟨_,_,_,hlen,hsp⟩:=QJ p;obtain ⟨_,_,hle,_⟩:=hsp j f hj;have h9:=q5d (QK p j f);have h10:=DQ p j f;show (ZH (QK p j f)).length<=100000;omega
theorem z1u {p:Pg} (h:QO p=true) {j:Nat} {f:Pr} (hj:p.procs[j]? = some f) : ∀ it∈itsOf p j f,∀ s∈fOf it,okSt s:=fun it hi s hs=>by
 obtain ⟨hm,_⟩:=QP h;obtain ⟨_,_,hcn⟩:=ZZ h;obtain ⟨_,_,_,hlen,hsp⟩:=QJ p;obtain ⟨_,_,hle,_⟩:=hsp j f hj;have h1:=WT hm hj (x1q hi);have h2:=(q7j hi).1;unfold fOf at hs;split at hs
 ·rw [List.mem_singleton.1 hs];unfold okI at h2;unfold okSt;constructor
  ·show it.s.id≠_;omega
  ·show it.next≠_;omega
 ·cases hs
theorem z1c {p:Pg} (h:QO p=true) {j:Nat} {f:Pr} (hj:p.procs[j]? = some f) {l:List Int} (hl:l∈trapsW (QQ p j f) f):l.length<=cntL f.body+2 ∧ ∀ id∈l,(QL p.procs j:Int)+1<=id∧id<=(QL p.procs j+cntL f.body:Nat):=by
 constructor
 ·obtain ⟨i,_,_,_,rfl⟩:=x6a.1 hl;exact x7z _ _ _ _
 ·intro id hid;obtain ⟨r,ht⟩:=z5f h hj hl;obtain ⟨h1,h2⟩:=(ht.mem id).1 hid;rcases h1 with rfl|rfl|h1
  ·exact absurd h2 ht.n0
  ·exact absurd h2 ht.nx
  ·exact h1
theorem w9q {p:Pg} (h:QO p=true) {j:Nat} {f:Pr} (hj:p.procs[j]? = some f):WayT (QQ p j f) f (cntL f.body+2):=by
 obtain ⟨_,_,hcn⟩:=ZZ h;obtain ⟨_,_,_,hlen,hsp⟩:=QJ p;obtain ⟨_,_,hle,_⟩:=hsp j f hj;refine ⟨rfl,hj,by show cntP p.procs<=1000;omega,by omega,by omega,Nat.le_trans (z0c hj hcn) (by decide),w4q h hj,?_,fun l hl => ?_,fun s hs=>(NW h hj).2.2 s (((LQ h hj).2 s).1 hs),z1u h hj⟩
 ·have:=x5p (XK p j (cntL f.body+2:Nat)) (WM (QQ p j f) f) (x2b (cntL f.body+2) (WM (QQ p j f) f) (prsW (QQ p j f) f)) (cntL f.body+2);have e:trapsW (QQ p j f) f=q0g (XK p j (cntL f.body+2:Nat)) (WM (QQ p j f) f) (x2b (cntL f.body+2) (WM (QQ p j f) f) (prsW (QQ p j f) f)) (cntL f.body+2):=by
   unfold trapsW;rw [z1n];rfl
  rw [e];omega
 ·obtain ⟨h1,h2⟩:=z1c h hj hl;refine ⟨by omega,fun id hid => ?_⟩;have:=h2 id hid;show 1<=id∧id<=(sheetOf p).l.length;omega
instance (a b:Step):Decidable (q1n a b):=inferInstanceAs (Decidable (_∨_))
instance:DecidableEq Step:=fun a b=>decidable_of_iff (a.src=b.src∧a.dst=b.dst∧a.kind=b.kind) ⟨fun h=>KC h.1 h.2.1 h.2.2,fun h=>by rw [h];exact ⟨rfl,rfl,rfl⟩⟩
theorem w5p {a b:Step} (ha:okSt a) (hb:okSt b) (h:HZ b a=false):(a.src=b.src∧a.dst=b.dst∧a.kind<=b.kind)∨q1n a b:=by
 rw [Bool.eq_false_iff,ne_eq,KL] at h;unfold q1n;by_cases h1:ZW a.src=ZW b.src
 ·by_cases h2:ZW a.dst=ZW b.dst
  ·exact .inl ⟨KX ha.1 hb.1 h1,KX ha.2 hb.2 h2,by omega⟩
  ·exact .inr (by omega)
 ·exact .inr (by omega)
theorem q2i : ∀ (l:List Step) (a:Step),okSt a->(∀ s∈l,okSt s)->(a::l).Pairwise (fun a b=>HZ b a=false) ->
  (∀ s∈QA a l,q1n a s)∧(QA a l).Pairwise q1n∧(∀ s∈QA a l,s∈l) ∧ ∀ s∈l,(s.src=a.src∧s.dst=a.dst∧a.kind<=s.kind) ∨ ∃ s'∈QA a l,s'.src=s.src∧s'.dst=s.dst∧s'.kind<=s.kind
 | [],a,_,_,_=>by simp [QA]
 | b::r,a,ha,hl,h=>by
   have hb:=hl b mem_cons_self;have hr : ∀ s∈r,okSt s:=fun s hs=>hl s (mem_cons_of_mem _ hs);rw [List.pairwise_cons] at h;obtain ⟨h1,h2⟩:=h;obtain ⟨i1,i2,i3,i4⟩:=q2i r b hb hr h2;have hab:=w5p ha hb (h1 b mem_cons_self);rw [QA];cases hs:XI b a with
   | true =>
     unfold XI at hs;simp only [Bool.and_eq_true,decide_eq_true_eq] at hs;have hk:a.kind<=b.kind:=by
      rcases hab with h3|h3
      ·exact h3.2.2
      ·unfold q1n at h3;rw [hs.1,hs.2] at h3;omega
     rw [cond_true];refine ⟨fun s hs' => ?_,i2,fun s hs'=>mem_cons_of_mem _ (i3 s hs'),fun s hs' => ?_⟩
     ·have:=i1 s hs';unfold q1n at this ⊢
      rwa [<- hs.1,<- hs.2]
     ·rcases List.mem_cons.1 hs' with rfl|hs'
      ·exact .inl ⟨hs.1,hs.2,hk⟩
      ·rcases i4 s hs' with ⟨h3,h4,h5⟩|h3
       ·exact .inl ⟨by rw [h3,hs.1],by rw [h4,hs.2],by omega⟩
       ·exact .inr h3
   | false =>
     have hlt:q1n a b:=by
      rcases hab with h3|h3
      ·unfold XI at hs;simp [h3.1,h3.2.1] at hs
      ·exact h3
     rw [cond_false];refine ⟨fun s hs' => ?_,List.pairwise_cons.2 ⟨i1,i2⟩,fun s hs' => ?_,fun s hs' => ?_⟩
     ·rcases List.mem_cons.1 hs' with rfl|hs'
      ·exact hlt
      ·exact q1k hlt (i1 s hs')
     ·rcases List.mem_cons.1 hs' with rfl|hs'
      ·exact mem_cons_self
      ·exact mem_cons_of_mem _ (i3 s hs')
     ·rcases List.mem_cons.1 hs' with rfl|hs'
      ·exact .inr ⟨s,mem_cons_self,rfl,rfl,Int.le_refl _⟩
      ·rcases i4 s hs' with ⟨h3,h4,h5⟩|⟨s',h3,h4⟩
       ·exact .inr ⟨b,mem_cons_self,h3.symm,h4.symm,h5⟩
       ·exact .inr ⟨s',mem_cons_of_mem _ h3,h4⟩
theorem HL {l:List Step} (hok : ∀ s∈l,okSt s):(ZH l).Pairwise q1n∧(∀ s∈ZH l,s∈l) ∧ ∀ s∈l,∃ s'∈ZH l,s'.src=s.src∧s'.dst=s.dst∧s'.kind<=s.kind:=by
 have hp : ∀ s,s∈VP l↔s∈l:=fun s=>(PQ l).mem_iff;have hs:=ME l;unfold ZH;cases hq:VP l with
 | nil =>
   rw [hq] at hp;refine ⟨by simp [PW],by simp [PW],fun s hs => ?_⟩;have:=(hp s).2 hs;cases this
 | cons a r =>
   rw [hq] at hp hs;have hok' : ∀ s∈a::r,okSt s:=fun s h=>hok s ((hp s).1 h);obtain ⟨h1,h2,h3,h4⟩:=q2i r a (hok' a mem_cons_self) (fun s h=>hok' s (mem_cons_of_mem _ h)) hs;rw [PW];refine ⟨List.pairwise_cons.2 ⟨h1,h2⟩,fun s hs' => ?_,fun s hs' => ?_⟩
   ·rcases List.mem_cons.1 hs' with rfl|hs'
    ·exact (hp s).1 mem_cons_self
    ·exact (hp s).1 (mem_cons_of_mem _ (h3 s hs'))
   ·rcases List.mem_cons.1 ((hp s).2 hs') with rfl|hs'
    ·exact ⟨s,mem_cons_self,rfl,rfl,Int.le_refl _⟩
    ·rcases h4 s hs' with ⟨h5,h6,h7⟩|⟨s',h5,h6⟩
     ·exact ⟨a,mem_cons_self,h5.symm,h6.symm,h7⟩
     ·exact ⟨s',mem_cons_of_mem _ h5,h6⟩
theorem z5a {l:List Step} (h:l.Pairwise q1n) {a b:Step} (ha:a∈l) (hb:b∈l) (h1:a.src=b.src) (h2:a.dst=b.dst):a=b:=by
 have hn : ∀ {x y:Step},x.src=y.src->x.dst=y.dst -> ¬q1n x y:=fun {x y} e1 e2 hlt=>by
  unfold q1n at hlt;rw [e1,e2] at hlt;omega
 induction h with
 | nil=>cases ha
 | @cons c r hc hr ih =>
   rcases List.mem_cons.1 ha with e1|ha'
   ·rcases List.mem_cons.1 hb with e2|hb'
    ·rw [e1,e2]
    ·exact absurd (hc b hb') (by rw [<- e1];exact hn h1 h2)
   ·rcases List.mem_cons.1 hb with e2|hb'
    ·exact absurd (hc a ha') (by rw [<- e2];exact hn h1.symm h2.symm)
    ·exact ih ha' hb'
theorem DL {l m:List Step} (hok : ∀ s∈l,okSt s) (h1:m.Pairwise q1n) (h2 : ∀ s∈m,s∈l) (h3 : ∀ s∈l,∃ s'∈m,s'.src=s.src∧s'.dst=s.dst∧s'.kind<=s.kind):ZH l=m:=by
 obtain ⟨g1,g2,g3⟩:=HL hok;refine q9r g1 h1 fun s=>⟨fun hs => ?_,fun hs => ?_⟩
 ·obtain ⟨a,ha,h4,h5,h6⟩:=h3 s (g2 s hs);obtain ⟨b,hb,h7,h8,h9⟩:=g3 a (h2 a ha);have:=z5a g1 hb hs (h7.trans h4) (h8.trans h5);subst this;have:a=b:=KC h4 h5 (by omega);rw [<- this];exact ha
 ·obtain ⟨a,ha,h4,h5,h6⟩:=g3 s (h2 s hs);obtain ⟨b,hb,h7,h8,h9⟩:=h3 a (g2 a ha);have:=z5a h1 hb hs (h7.trans h4) (h8.trans h5);subst this;have:a=b:=KC h4 h5 (by omega);rw [<- this];exact ha
theorem w8q:(QQ someP 1 f1).real=[⟨0,5,1⟩,⟨5,6,1⟩,⟨6,7,1⟩,⟨6,8,1⟩,⟨7,-1,1⟩,⟨8,-1,1⟩]:=w8g
theorem w7n:(QQ someP 0 f0).real=[⟨0,1,1⟩,⟨1,2,1⟩,⟨2,3,1⟩,⟨3,4,1⟩,⟨4,-1,1⟩]:=w8t
theorem w8o:prsW (QQ someP 1 f1) f1=[(0,1),(1,2),(2,3),(2,4),(3,5),(4,5)]:=by
 unfold prsW;rw [w8q]
 kernel_rfl
theorem w9z:prsW (QQ someP 0 f0) f0=[(0,1),(1,2),(2,3),(3,4),(4,5)]:=by
 unfold prsW;rw [w7n]
 kernel_rfl
theorem w8u:trapsW (QQ someP 1 f1) f1=[]:=by
 unfold trapsW WM;rw [w8o]
 kernel_rfl
theorem w7s:trapsW (QQ someP 0 f0) f0=[]:=by
 unfold trapsW WM;rw [w9z]
 kernel_rfl
theorem w9m:FT (QQ someP 1 f1) f1=[⟨0,5,1⟩,⟨5,6,1⟩,⟨6,7,1⟩,⟨6,8,1⟩,⟨7,-1,1⟩,⟨8,-1,1⟩]:=by
 unfold FT VD;rw [w8u,w8q];exact DL (by unfold okSt;decide) (by decide) (by decide) (by decide)
theorem w1g {p:Pg} (h:QO p=true) {j:Nat} {f:Pr} (hj:p.procs[j]? = some f) {a:Int} : ¬wR p j f a 0:=fun ⟨s,hs,_,hd⟩=>by
 have h1:=((NW h hj).2.1 s (((LQ h hj).2 s).1 hs)).2;unfold okI at h1;omega
theorem PN {p:Pg} (h:QO p=true) {j:Nat} {f:Pr} (hj:p.procs[j]? = some f) {t:S} (ht:t∈flL f.body):z9l p t.id=some t:=by
 have hb:=WT (QP h).1 hj ht;obtain ⟨u,hu,h1,h2⟩:=q4b h hj hb.1 hb.2;obtain ⟨it,hi,rfl⟩:=w7c (p:=p) (j:=j) ht;obtain ⟨iu,hiu,rfl⟩:=w7c (p:=p) (j:=j) hu;rw [w7o (QP h).1 hj hiu hi h2] at h1;exact h1
theorem NT {p:Pg} (h:QO p=true) {j:Nat} {f:Pr} (hj:p.procs[j]? = some f) {s:Step}:s∈VD (QQ p j f) f ↔ ∃ l∈trapsW (QQ p j f) f,∃ t∈flL f.body,t.id∈l∧t.kind=10∧s=⟨t.id,-1,3⟩:=by
 unfold VD;constructor
 ·intro hs;obtain ⟨l,hl,hs⟩:=List.mem_flatMap.1 hs;obtain ⟨id,hid,hs⟩:=List.mem_flatMap.1 hs;have hb:=(z1c h hj hl).2 id hid;obtain ⟨t,ht,h1,h2⟩:=q4b h hj hb.1 hb.2;have e:(QQ p j f).p=p:=rfl;unfold vOf at hs;rw [e,h1] at hs;simp only at hs;split at hs
  ·rename_i hk;exact ⟨l,hl,t,ht,by rw [h2];exact hid,hk,by rw [h2];simpa using hs⟩
  ·cases hs
 ·rintro ⟨l,hl,t,ht,hid,hk,rfl⟩;refine List.mem_flatMap.2 ⟨l,hl,List.mem_flatMap.2 ⟨t.id,hid,?_⟩⟩;have e:(QQ p j f).p=p:=rfl;unfold vOf;rw [e,PN h hj ht];simp [hk]
theorem x1r {p:Pg} (h:QO p=true) {j:Nat} {f:Pr} (hj:p.procs[j]? = some f) : ∀ s∈VD (QQ p j f) f++(QQ p j f).real,okSt s:=fun s hs =>
 (List.mem_append.1 hs).elim ((w9q h hj).virt_ok s) ((w9q h hj).hok s)
theorem z8r {p:Pg} (h:QO p=true) {j:Nat} {f:Pr} (hj:p.procs[j]? = some f) {s:Step} (hs:s∈VD (QQ p j f) f++(QQ p j f).real):stR (FT (QQ p j f) f) s.src s.dst:=by
 obtain ⟨s',h1,h2,h3,_⟩:=(HL (x1r h hj)).2.2 s hs;exact ⟨s',h1,h2,h3⟩
theorem z0m {p:Pg} (h:QO p=true) {j:Nat} {f:Pr} (hj:p.procs[j]? = some f):(FT (QQ p j f) f).length<=200000:=by
 obtain ⟨_,_,hcn⟩:=ZZ h;obtain ⟨_,_,_,hlen,hsp⟩:=QJ p;obtain ⟨_,_,hle,_⟩:=hsp j f hj;obtain ⟨h1,h2,_⟩:=HL (x1r h hj);have h3:=q6y (l:=FT (QQ p j f) f) (m:=(QQ p j f).real++(KE (QL p.procs j) (cntL f.body)).map fun id=>⟨id,-1,3⟩) (w3z h1) fun s hs=>by
  rcases List.mem_append.1 (h2 s hs) with h4|h4
  ·obtain ⟨l,hl,t,ht,hid,hk,rfl⟩:=(NT h hj).1 h4;have hb:=WT (QP h).1 hj ht;exact List.mem_append.2 (.inr (List.mem_map.2 ⟨t.id,w1n hb.1 hb.2,rfl⟩))
  ·exact List.mem_append.2 (.inl h4)
 rw [length_append,length_map] at h3;have h4:=z0c hj hcn;have h5:(KE (QL p.procs j) (cntL f.body)).length=cntL f.body:=by unfold KE;simp
 omega
theorem z5d {p:Pg} (h:QO p=true) {j:Nat} {f:Pr} (hj:p.procs[j]? = some f) {x:RI} (hx:x∈UG f):x.s∈flL f.body:=by
 rw [q4u (QP h).1 (List.mem_of_getElem? hj)] at hx;rw [<- show (flatU f).map RI.s=flL f.body from x7l 1 0 false f.body];exact List.mem_map.2 ⟨x,hx,rfl⟩
def RI0:RI:=⟨.mk 0 0 [] [] [] (.mk 0 0 [] []) false [] [] [],0,0,false⟩
def x7e (id:Int) (f:Pr):Option (RI×Str):=((UG f).find? fun x=>decide (x.s.id=id)).map fun x=>(x,f.name)
def x5o (p:Pg) (id:Int):Option (RI×Str):=p.procs.findSome? (x7e id)
def BB (p:Pg) (id:Int):RI×Str×Bool:=match x5o p id with
 | some (x,n)=>(x,n,true)
 | none=>(RI0,[],false)
theorem w6w:Sub (.agg [.int .i64 0,.int .i64 0,.nils,.str [],.str [],.int .i64 0,.int .i64 0,.str [],.nils,.ff,.nils,.nils,.nils,.int .i64 0,.int .i64 0,.ff]) (.agg RI0.cells) :=
 Sub.agg (by repeat' (first|exact SubL.nil|refine SubL.cons ?_ ?_|exact Sub.nils|exact Sub.ff rfl|exact Sub.refl _))
theorem z6t {l:List RI} {q:RI->Bool} {k:Nat} (hk:k<l.length):(l.drop k).find? q=if q l[k] then some l[k] else (l.drop (k+1)).find? q:=by
 rw [QG hk,List.find?_cons];cases q l[k]<;>rfl
theorem KQ (p:Pg) (id:Int):SpecP Tryz.prog 26 [.agg p.cells,.int .i64 id] (fun r=>r = .tup [.agg (BB p id).1.cells,.str (BB p id).2.1,.bool (BB p id).2.2]):=by
 refine sB BC Tryz.func26 rfl Tryz.call26 ?_;conv=>whnf
 have hpl:(p.procs.map fun f=>AV.agg f.cells).length=p.procs.length:=length_map _;repeat' (refine iM fun _=>?_;conv=>whnf)
 refine LoopK.inv QY (fun j:Nat=>⟨[(1,.p (.int .i64 id)),(4,.ptr 1 0),(12,.p (.sl (p.procs.map fun f => .agg f.cells))),(13,.p (.int .i64 (p.procs.map fun f=>AV.agg f.cells).length)),(14,.p (.int .i64 j))],[(1,.obj 42 [.p (.int .i64 0),.p (.int .i64 0),.p .nils,.p (.str []),.p (.str []),.p (.int .i64 0),.p (.int .i64 0),.p (.str []),.p .nils,.p .ff,.p .nils,.p .nils,.p .nils,.p (.int .i64 0),.p (.int .i64 0),.p .ff])]⟩) (fun j=>j<=p.procs.length∧(p.procs.drop j).findSome? (x7e id)=x5o p id) (fun j=>p.procs.length-j) 0 (Le.of_eq rfl) ⟨zero_le _,rfl⟩ ?_;rintro j ⟨h2,h3⟩;rcases Nat.lt_or_ge j p.procs.length with hj|hj;rotate_left 1
 ·rw [drop_eq_nil_of_le hj,List.findSome?_nil] at h3;have hO:BB p id=(RI0,[],false):=by unfold BB;rw [<- h3]
  rw [hO];conv=>whnf
  repeat' (first|(refine And.intro rfl ?_;conv=>whnf)|(apply bD<;>intro _<;>first|omega|conv=>whnf))
  exact ⟨_,.p (Sub.tup (SubL.cons w6w (SubL.cons (Sub.refl _) (SubL.cons (Sub.ff rfl) SubL.nil)))),rfl⟩
 rw [QG hj,List.findSome?_cons] at h3;conv=>whnf
 repeat' (first|((first|(refine iM fun _=>?_)|refine And.intro rfl ?_|(refine iA fun _=>?_)|refine cP (KT _) ?_);conv=>whnf)|(apply bD<;>intro _<;>first|omega|conv=>whnf))
 have hrl:((UG p.procs[j]).map fun i=>AV.agg i.cells).length=(UG p.procs[j]).length:=length_map _;have hff:x7e id p.procs[j]=((UG p.procs[j]).find? fun x=>decide (x.s.id=id)).map fun x=>(x,p.procs[j].name):=rfl;rw [hff] at h3;have hfl:=x6p p.procs[j];generalize UG p.procs[j]=F at hrl hfl h3 ⊢;refine LoopK.inv QY (fun k:Nat=>⟨[(1,.p (.int .i64 id)),(4,.ptr 1 0),(8,.p (.ip p.procs[j].cells)),(12,.p (.sl (p.procs.map fun f => .agg f.cells))),(13,.p (.int .i64 (p.procs.map fun f=>AV.agg f.cells).length)),(14,.p (.int .i64 j)),(19,.p (w6e F)),(20,.p (.int .i64 (F.map fun i=>AV.agg i.cells).length)),(21,.p (.int .i64 k))],[(1,.obj 42 [.p (.int .i64 0),.p (.int .i64 0),.p .nils,.p (.str []),.p (.str []),.p (.int .i64 0),.p (.int .i64 0),.p (.str []),.p .nils,.p .ff,.p .nils,.p .nils,.p .nils,.p (.int .i64 0),.p (.int .i64 0),.p .ff])]⟩) (fun k=>k<=F.length∧(F.drop k).find? (fun x=>decide (x.s.id=id))=F.find? fun x=>decide (x.s.id=id)) (fun k=>F.length-k) 0 (Le.of_eq rfl) ⟨zero_le _,rfl⟩ ?_;rintro k ⟨h4,h5⟩;rcases Nat.lt_or_ge k F.length with hk|hk;rotate_left 1
 ·rw [drop_eq_nil_of_le hk,List.find?_nil] at h5;rw [<- h5] at h3;conv=>whnf
  repeat' (first|(refine wI ?_;conv=>whnf)|(apply bD<;>intro _<;>first|omega|conv=>whnf))
  exact ⟨j+1,⟨hj,h3⟩,by omega,Le.of_eq rfl⟩
 rw [z6t hk] at h5;conv=>whnf
 repeat' (first|((first|refine dA ?_|refine And.intro rfl ?_|(refine iA fun _=>?_)|refine wI ?_);conv=>whnf)|(apply bD<;>intro _<;>first|omega|conv=>whnf))
 ·have hid:F[k].s.id=id:=by assumption
  rw [if_pos (decide_eq_true hid)] at h5;rw [<- h5] at h3;have hO:BB p id=(F[k],p.procs[j].name,true):=by unfold BB;rw [<- h3];rfl
  rw [hO];exact ⟨_,.p (Sub.tup (SubL.cons (Sub.refl _) (SubL.cons (Sub.refl _) (SubL.cons (Sub.tt rfl) SubL.nil)))),rfl⟩
 ·have hid : ¬F[k].s.id=id:=by assumption
  rw [if_neg (by simpa using hid)] at h5;exact ⟨k+1,⟨hk,h5⟩,by omega,Le.of_eq rfl⟩
def z3d (p:Pg) (id:Int):S:=(BB p id).1.s
theorem q0j (p:Pg) (id:Int):SpecP Tryz.prog 37 [.agg p.cells,.int .i64 id] (fun r=>r = .agg (z3d p id).cells):=by
 refine sB NV Tryz.func37 rfl Tryz.call37 ?_;conv=>whnf
 repeat' ((first|refine cP (KQ _ _) ?_|refine And.intro rfl ?_);conv=>whnf)
 exact RetK.p rfl
theorem q1q (l:List Int) (x:Int):SpecP Tryz.prog 39 [ZM l,.int .i64 x] (fun r=>r = .bool (w6c l x)):=by
 refine sB NF Tryz.func39 rfl Tryz.call39 ?_;conv=>whnf
 repeat' (refine cP (q1y _ _) ?_;conv=>whnf)
 exact RetK.bool rfl
def NB (l:List Int) (n:Int):Int:=if l=[] then 0 else l.getD (x7h n l.length).toNat 0
theorem q1a (l:List Int) (n:Int) (hl:l.length<=1000000):SpecP Tryz.prog 35 [ZM l,.int .i64 n] (fun r=>r = .int .i64 (NB l n)):=by
 refine sB PP Tryz.func35 rfl Tryz.call35 ?_;conv=>whnf
 have hll:(l.map (AV.int .i64)).length=l.length:=length_map _;have hr:=fun h:0<(l.length:Int)=>q4d (n:=n) h;repeat' (first|((first|(refine iM fun _=>?_)|(refine CallK.pure (HJ n (l.length:Int) (by omega)) (.cons (Sub.refl _) (.cons (Sub.int (by omega)) .nil)) ?_;rintro _ rfl));conv=>whnf)|(apply bD<;>intro _<;>first|omega|conv=>whnf))
 all_goals first
  | exact RetK.p (by unfold NB;rw [if_pos (List.length_eq_zero_iff.1 (by omega))];rfl)
  | skip
 have h1:=hr (by omega);have hg:(l.map (AV.int .i64))[(x7h n l.length).toNat]? = some (.int .i64 (NB l n)):=by
  unfold NB;rw [if_neg (fun h=>by subst h;simp at h1;omega),getD_eq_getElem?_getD,List.getElem?_map,List.getElem?_eq_getElem (by omega)];rfl
 refine IdxK.at (k:=(x7h n l.length).toNat) (by omega) hg rfl ?_;conv=>whnf
 skip
 exact RetK.int rfl
theorem NY (p:Pg) (id:Int):SpecP Tryz.prog 38 [.agg p.cells,.int .i64 id] (fun r=>r = .str (BB p id).2.1):=by
 refine sB FF Tryz.func38 rfl Tryz.call38 ?_;conv=>whnf
 repeat' ((first|refine cP (KQ _ _) ?_|refine And.intro rfl ?_);conv=>whnf)
 exact RetK.p rfl
theorem Wr.u64 {n:Int} {K:Int->Prop} (h1:0<=n) (h2:n<=18446744073709551615) (hk:K n):Wr .u64 n K :=
 .fit ⟨by simp [IntKind.min,IntKind.signed];omega,by simp [IntKind.max,IntKind.signed,IntKind.bits];omega⟩ hk
theorem z9f {P:Program} {hr:Bool} {s:St} {o:Oper} {K:LV->Prop} {t u:TypeId} {x y:Operand} (hop:o.op = .binOp .shr t x y u) {a:Int} (ha:0<=a) (hx:QR s.sl x = .p (.int .u64 a)) (hy:QR s.sl y = .p (.int .u64 1)) {m:Int} (hm:m=a / 2) (hK:K (.p (.int .u64 m))):ValO P hr s o K:=by
 subst hm;refine ⟨fun σ β ac w hs _=>⟨_,.int .u64 (a / 2),hK,.p (.int _ _),fun w' _ _ => ?_⟩⟩;have h1:=QU hs x;have h2:=QU hs y;rw [hx] at h1;rw [hy] at h2;cases h1 with
 | p h1 =>
   cases h2 with
   | p h2 =>
     have key : ∀ (n:Int) (v:Value),Rep σ (.int .u64 n) v->v = .int .u64 n:=fun n v hv=>by
      cases hv;rfl
     have e1:=key _ _ h1;have e2:=key _ _ h2;have e3:a.fdiv (2 ^ 1)=a / 2:=Int.fdiv_eq_ediv_of_nonneg _ (by decide);have hg:(eqGuard .shr t x y (.int .u64 a) (.int .u64 1)).run P w' = .ok () w':=by unfold eqGuard;rfl
     simp only [execOp,hop,e1,e2,Sem.run_bind,hg,Result.andThen_ok,binOp,Op.shift];rw [if_neg (by decide)];simp only [show min (1:Int).toNat IntKind.u64.bits=1 by decide,e3];rfl
theorem ZL (l m:List Str):SpecP Tryz.prog 152 [eStrs l,eStrs m] (fun r=>r = .bool (decide (l=m))):=by
 refine sB UY Tryz.func152 rfl Tryz.call152 ?_;conv=>whnf
 have h1:(l.map AV.str).length=l.length:=length_map _;have h2:(m.map AV.str).length=m.length:=length_map _;repeat' (first|(refine iM fun _=>?_;conv=>whnf)|(apply bE<;>intro _<;>first|omega|conv=>whnf))
 all_goals first
  | exact RetK.ff (decide_eq_false fun h=>by subst h;omega)
  | skip
 have hlen:l.length=m.length:=by omega
 refine LoopK.inv QY (fun j:Nat=>⟨[(0,.p (eStrs l)),(1,.p (eStrs m)),(12,.p (.int .i64 (l.map AV.str).length)),(13,.p (.int .i64 j))],[]⟩) (fun j=>j<=l.length∧l.take j=m.take j) (fun j=>l.length-j) 0 (Le.of_eq rfl) ⟨zero_le _,rfl⟩ ?_;rintro j ⟨h3,h4⟩;rcases Nat.lt_or_ge j l.length with hj|hj
 ·have hjm:j<m.length:=by omega
  have hst:l[j]=m[j]->l.take (j+1)=m.take (j+1):=fun he=>by rw [List.take_succ_eq_append_getElem hj,List.take_succ_eq_append_getElem hjm,h4,he]
  have hno:l[j]≠m[j] -> ¬l=m:=fun hne he=>hne (by subst he;rfl);conv=>whnf
  repeat' (first|((first|refine dA ?_|(refine iA fun _=>?_)|refine wI ?_);conv=>whnf)|(apply bD<;>intro _<;>first|omega|conv=>whnf)|(apply bN<;>intro _<;>conv=>whnf))
  all_goals first
   | (have h9:l[j]=m[j]:=eq_of_beq (by assumption)
      exact ⟨j+1,⟨hj,hst h9⟩,by omega,Le.of_eq rfl⟩)
   | (have h9 : ¬l[j]=m[j]:=by
       have h8:(l[j]==m[j])=false:=by assumption
       simpa using h8
      exact RetK.ff (decide_eq_false (hno h9)))
   | trace_state
 ·rw [take_of_length_le hj,take_of_length_le (by omega)] at h4;conv=>whnf
  repeat' (apply bD<;>intro _<;>first|omega|conv=>whnf)
  all_goals exact RetK.tt (decide_eq_true h4)
theorem q1l (a:Str):SpecP Tryz.prog 299 [.str a] (fun r=>r = .bool false):=by
 refine sB PE Tryz.func299 rfl Tryz.call299 ?_;conv=>whnf
 skip
 all_goals exact RetK.bool (by simp)
theorem BK (a:Str):SpecP Tryz.prog 338 [.str a] (fun r=>r = .bool false):=by
 refine sB HN Tryz.func338 rfl Tryz.call338 ?_;conv=>whnf
 skip
 all_goals exact RetK.bool (by simp)
theorem q3f (a b:Str):SpecP Tryz.prog 277 [.str a,.str b] (fun r=>r = .bool (Op.bytesLess a b)):=by
 refine sB NI Tryz.func277 rfl Tryz.call277 ?_;conv=>whnf
 repeat' (first|(refine cP (q1l a) ?_;conv=>whnf)|(apply bB<;>intro _<;>conv=>whnf))
 all_goals first
  | contradiction
  | exact RetK.p rfl
  | trace_state
theorem VQ (l:List Str) (x:Str) (hs:l.Pairwise ltT) (hlen:l.length<=1000000000):SpecP Tryz.prog 296 [eStrs l,.str x] (fun r => ∃ k:Int,r = .tup [.int .i64 k,.bool (inS l x)]):=by
 refine sB WY Tryz.func296 rfl Tryz.call296 ?_;conv=>whnf
 have hll:(l.map AV.str).length=l.length:=length_map _;repeat' (refine iM fun _=>?_;conv=>whnf)
 refine LoopK.inv QY (fun y:Nat×Nat=>⟨[(0,.p (eStrs l)),(1,.p (.str x)),(6,.p (.int .i64 (l.map AV.str).length)),(7,.p (.int .i64 y.1)),(8,.p (.int .i64 y.2))],[]⟩) (fun y=>y.1<=y.2∧y.2<=l.length∧(∀ (k:Nat) (h:k<l.length),k<y.1->ltT l[k] x) ∧ ∀ (k:Nat) (h:k<l.length),y.2<=k -> ¬ltT l[k] x) (fun y=>y.2-y.1) (0,l.length) (Le.of_eq (by rw [hll];rfl)) ⟨zero_le _,Nat.le_refl _,fun k h h1=>by simp only at h1;omega,fun k h h1=>by simp only at h1;omega⟩ ?_;rintro ⟨i,j⟩ ⟨h1,h2,h3,h4⟩;simp only at h1 h2 h3 h4 ⊢;have hlt : ∀ (a b:Nat) (ha:a<l.length) (hb:b<l.length),a<b->ltT l[a] l[b]:=fun a b ha hb hab=>List.pairwise_iff_getElem.1 hs a b ha hb hab;rcases Nat.lt_or_ge i j with hij|hij
 ·have hh:(i+j) / 2<l.length:=by omega
  have hL:=q3f l[(i+j) / 2] x;conv=>whnf
  repeat' (first|((first|(refine iA fun _=>?_)|refine wI ?_|refine Wr.u64 (by omega) (by omega) ?_|refine z9f rfl (by omega) rfl rfl (m:=(((i+j)/2:Nat):Int)) (by omega) ?_|refine cP hL ?_);conv=>whnf)|(apply bD<;>intro _<;>first|omega|conv=>whnf)|(apply bB<;>intro _<;>conv=>whnf))
  all_goals first
   | (have h9:Op.bytesLess l[(i+j) / 2] x=true:=by assumption
      refine ⟨((i+j) / 2+1,j),⟨by simp only;omega,h2,fun k hk hk2 => ?_,h4⟩,by simp only;omega,Le.of_eq rfl⟩;simp only at hk2;rcases Nat.lt_or_ge k ((i+j) / 2) with h10|h10
      ·exact ltT.trans _ _ _ (hlt _ _ hk hh h10) h9
      ·have:k=(i+j) / 2:=by omega
       subst this;exact h9)
   | (have h9:Op.bytesLess l[(i+j) / 2] x=false:=by assumption
      have h11 : ¬ltT l[(i+j) / 2] x:=fun h=>by unfold ltT at h;rw [h9] at h;cases h
      refine ⟨(i,(i+j) / 2),⟨by simp only;omega,by simp only;omega,h3,fun k hk hk2 h12 => ?_⟩,by simp only;omega,Le.of_eq rfl⟩;simp only at hk2;rcases Nat.lt_or_ge ((i+j) / 2) k with h10|h10
      ·exact h11 (ltT.trans _ _ _ (hlt _ _ hh hk h10) h12)
      ·have:k=(i+j) / 2:=by omega
       subst this;exact h11 h12)
   | trace_state
 ·obtain rfl:i=j:=by omega
  rcases Nat.lt_or_ge i l.length with hi|hi
  ·have hin:inS l x=(l[i]==x):=by
    rw [Bool.eq_iff_iff,XN,beq_iff_eq];constructor
    ·intro hx;obtain ⟨k,hk,rfl⟩:=List.mem_iff_getElem.1 hx;rcases Nat.lt_trichotomy k i with h5|h5|h5
     ·exact absurd (h3 k hk h5) (q7d _)
     ·subst h5;rfl
     ·exact absurd (hlt i k hi hk h5) (h4 i hi (Nat.le_refl _))
    ·intro h5;rw [<- h5];exact List.getElem_mem hi
   have hN:=BK l[i];conv=>whnf
   repeat' (first|((first|(refine iA fun _=>?_)|refine cP hN ?_);conv=>whnf)|(apply bD<;>intro _<;>first|omega|conv=>whnf)|(apply bB<;>intro _<;>conv=>whnf))
   all_goals first
    | (exfalso;omega)
    | (exfalso;simp_all;done)
    | (have h9:inS l x=true:=by rw [hin];assumption
       exact ⟨_,.p (Sub.tup (.cons (Sub.refl _) (.cons (Sub.tt h9) .nil))),_,rfl⟩)
    | (have h9:inS l x=false:=by rw [hin];assumption
       exact ⟨_,.p (Sub.tup (.cons (Sub.refl _) (.cons (Sub.ff h9) .nil))),_,rfl⟩)
    | trace_state
  ·have hin:inS l x=false:=by
    cases h5:inS l x with
    | false=>rfl
    | true =>
      obtain ⟨k,hk,h6⟩:=List.mem_iff_getElem.1 (XN.1 h5);exact absurd (h3 k hk (by omega)) (by rw [h6];exact q7d _)
   conv=>whnf
   repeat' (apply bD<;>intro _<;>first|omega|conv=>whnf)
   all_goals first
    | (exfalso;omega)
    | exact ⟨_,.p (Sub.tup (.cons (Sub.refl _) (.cons (Sub.ff hin) .nil))),_,rfl⟩
    | exact ⟨_,.p (Sub.refl _),_,by rw [hin];rfl⟩
    | trace_state
theorem q4y (l:List Str) (x:Str) (hs:l.Pairwise ltT) (hlen:l.length<=1000000000):SpecP Tryz.prog 206 [eStrs l,.str x] (fun r=>r = .bool (inS l x)):=by
 refine sB z2a Tryz.func206 rfl Tryz.call206 ?_;conv=>whnf
 have hB:=VQ l x hs hlen;repeat' (refine CallK.pure hB (.cons (Sub.refl _) (.cons (Sub.refl _) .nil)) ?_;rintro _ ⟨k,rfl⟩;conv=>whnf)
 all_goals first
  | exact RetK.p rfl
  | trace_state
end Go.Ab
