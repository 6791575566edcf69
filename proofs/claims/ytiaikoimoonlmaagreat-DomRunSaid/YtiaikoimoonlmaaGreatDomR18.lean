/- way: the traps, walked. -/
import Derived.Test.YtiaikoimoonlmaaGreatDomR13
import Derived.Test.YtiaikoimoonlmaaGreatDomR16
import Derived.Test.YtiaikoimoonlmaaGreatDomR17
set_option linter.unusedSimpArgs false
set_option linter.unusedVariables false
set_option maxRecDepth 100000
set_option maxHeartbeats 16000000
open List (foldl_cons getD_eq_getElem?_getD length_append length_cons length_map length_replicate length_set length_take mem_cons_of_mem mem_cons_self take_add_one take_of_length_le)
open Nat (zero_le)
namespace Go.Ab
open Go.Proofs
theorem x0h (w:Way) (f:Pr) (n:Nat) (hw:w.n=n) (hj:w.p.procs[w.j]? = some f) (hc:cntP w.p.procs<=1000) (hn:n<=5000) (hn2:2<=n) (hlen:w.real.length<=1000000) (hr : ∀ t∈prsW w f,(0<=t.1∧t.1<n)∧0<=t.2∧t.2<n):SpecP Tryz.prog 295 [.ip w.cells] (fun r=>r=x4r (trapsW w f)):=by
 refine sB q3a Tryz.func295 rfl Tryz.call295 ?_;conv=>whnf
 have hgi:=JS n (prsW w f);have hpart:WA w f=LS n (XQ n (prsW w f)).1:=by unfold WA;rw [hw];rfl
 have htr:trapsW w f=LP (QM w.p w.j w.n) (WA w f) (q6b n (WA w f) (prsW w f)) n:=by unfold trapsW;rw [hpart,HT,hw];rfl
 have hpin : ∀ k,k<n->0<=(WA w f).getD k 0∧(WA w f).getD k 0<n:=fun k hk=>by rw [hpart];exact z2z hgi.1 hk
 have hpl:(WA w f).length=n:=by rw [hpart,HT]
 have hcp:=MM n hn (XQ n (prsW w f)) hgi.1 hgi.2 (z2b n (prsW w f));rw [<- hpart] at hcp;rw [htr];clear htr hpart hgi;generalize WA w f=part at hpin hpl hcp ⊢;have ha0:=hpin 0 (by omega);have ha1:=hpin (n-1) (by omega);have hp0:=x5p (l:=part) (i:=0) (by omega);have hp1:=x5p (l:=part) (i:=n-1) (by omega);have e0:(List.replicate n AV.ff)[(part.getD 0 0).toNat]? = some .ff:=by rw [List.getElem?_replicate,if_pos (by omega)]
 have e1:((List.replicate n AV.ff).set (part.getD 0 0).toNat .tt)[(part.getD (n-1) 0).toNat]? = some (bv (((List.replicate n false).set (part.getD 0 0).toNat true).getD (part.getD (n-1) 0).toNat false)):=by
  have:(List.replicate n AV.ff).set (part.getD 0 0).toNat .tt=((List.replicate n false).set (part.getD 0 0).toNat true).map bv:=by
   rw [List.map_set,List.map_replicate];rfl
  rw [this];exact w9t (by rw [length_set,length_replicate];omega)
 have hplm:(part.map (AV.int .i64)).length=n:=by rw [length_map,hpl]
 repeat' ((first|(refine iM fun _=>?_)|refine dA ?_|refine And.intro rfl ?_|refine aR ?_|refine wI ?_|refine cP (x0u w f n hw hj hc hn w.real hlen) ?_|refine cP hcp ?_|refine MkK.mk n hw (by show 1*n<=140737488355328;omega) (by unfold maxLen;omega) ?_|(refine IdxK.at (k:=0) rfl hp0 rfl ?_)|(refine IdxK.at (k:=n-1) (by omega) hp1 rfl ?_)|refine IdxL.mk (part.getD 0 0).toNat (by omega) (by omega) ?_|refine IdxL.mk (part.getD (n-1) 0).toNat (by omega) (by omega) ?_|refine StOwn.mk (part.getD 0 0).toNat 0 .ff .tt (show (0+(part.getD 0 0).toNat)*1=(part.getD 0 0).toNat*1+0 by omega) e0 (Nat.le_refl 1) rfl ?_|(refine CallK.pure (KB w f hj hc (by omega) w.real hlen) (.cons (Sub.refl _) (.cons (Sub.refl _) .nil)) ?_;rintro _ rfl)|(refine StOwn.mk (part.getD (n-1) 0).toNat 0 _ .tt (show (0+(part.getD (n-1) 0).toNat)*1=(part.getD (n-1) 0).toNat*1+0 by omega) e1 (Nat.le_refl 1) (by cases ((List.replicate n false).set (part.getD 0 0).toNat true).getD (part.getD (n-1) 0).toNat false<;>rfl) ?_));conv=>whnf)
 have hprl:(prsW w f).length<=1000000:=by unfold prsW;rw [length_map];exact hlen
 have hpl2:(avP (prsW w f)).length=(prsW w f).length:=by simp [avP]
 refine LoopK.inv QV (fun x:Nat×List Bool=>⟨[(0,.p (.ip w.cells)),(3,.p (QA part)),(4,.hd 0 0 n),(43,.p (.sl (avP (prsW w f)))),(44,.p (.int .i64 (avP (prsW w f)).length)),(45,.p (.int .i64 x.1))],[(0,.own 4 1 (x.2.map bv))]⟩)
  (fun x=>x.1<=(prsW w f).length∧x.2=((prsW w f).take x.1).foldl (LO part) (q6f n part)) (fun x=>(prsW w f).length-x.1) (0,q6f n part)
  (Le.mk [] (by simp) (by simp) (by simp) (.cons (.refl _) (.cons (.refl _) (.cons (.refl _) (.cons (.refl _) (.cons (.refl _) (.cons (.refl _) .nil)))))) (.cons rfl (.of_eq (by unfold q6f;rw [List.map_set,List.map_set,List.map_replicate];rfl)) .nil))
  ⟨zero_le _,rfl⟩ ?_
 rintro ⟨m,o⟩ ⟨h1,h2⟩;simp only at h1 h2 ⊢;have hol:o.length=n:=by rw [h2];exact z6k n part _
 rcases Nat.lt_or_ge m (prsW w f).length with hm|hm
 ·obtain ⟨⟨h3,h4⟩,h5,h6⟩:=hr _ (List.getElem_mem hm);have h7:=hpin (prsW w f)[m].1.toNat (by omega);have h8:=hpin (prsW w f)[m].2.toNat (by omega);have e2:=x5p (l:=part) (i:=(prsW w f)[m].1.toNat) (by omega);have e3:=x5p (l:=part) (i:=(prsW w f)[m].2.toNat) (by omega);have e4:=w9t (l:=o) (i:=(part.getD (prsW w f)[m].1.toNat 0).toNat) (by omega);have hme:(avP (prsW w f))[m]? = some (.agg [.int .i64 (prsW w f)[m].1,.int .i64 (prsW w f)[m].2]):=by simp [avP,hm]
  have e5:((prsW w f).take (m+1)).foldl (LO part) (q6f n part)=LO part o (prsW w f)[m]:=by rw [List.take_succ_eq_append_getElem hm,List.foldl_append,<- h2];rfl
  conv=>whnf
  repeat' (first|((first|refine dA ?_|refine And.intro rfl ?_|refine wI ?_|(refine IdxK.at (k:=m) rfl hme rfl ?_)|refine IdxL.mk 0 rfl (by decide) ?_|refine IdxL.mk 1 rfl (by decide) ?_|(refine IdxK.at (k:=(prsW w f)[m].1.toNat) (by omega) e2 rfl ?_)|(refine IdxK.at (k:=(prsW w f)[m].2.toNat) (by omega) e3 rfl ?_)|refine IdxL.mk (part.getD (prsW w f)[m].1.toNat 0).toNat (by omega) (by omega) ?_|refine StOwn.mk (part.getD (prsW w f)[m].1.toNat 0).toNat 0 _ .tt (by omega) e4 (Nat.le_refl 1) (by cases o.getD (part.getD (prsW w f)[m].1.toNat 0).toNat false<;>rfl) ?_);conv=>whnf)|(apply bD<;>intro _<;>first|omega|conv=>whnf)|(apply bE<;>intro _<;>first|omega|conv=>whnf))
  all_goals first
   | (have hq:part.getD (prsW w f)[m].1.toNat 0=part.getD (prsW w f)[m].2.toNat 0:=by assumption
      exact ⟨(m+1,o),⟨by simp only;omega,by simp only;rw [e5];unfold LO;rw [if_pos hq]⟩,by simp only;omega,Le.of_eq rfl⟩)
   | (have hq : ¬part.getD (prsW w f)[m].1.toNat 0=part.getD (prsW w f)[m].2.toNat 0:=by assumption
      exact ⟨(m+1,o.set (part.getD (prsW w f)[m].1.toNat 0).toNat true),⟨by simp only;omega,by simp only;rw [e5];unfold LO;rw [if_neg hq]⟩,by simp only;omega,Le.of_eq (by simp only [List.map_set];rfl)⟩)
 ·rw [take_of_length_le hm] at h2;have hop:q6b n part (prsW w f)=o:=h2.symm;rw [hop];clear hop h2 e0 e1 hp0 hp1 hcp;conv=>whnf
  repeat' (first|(refine iM fun _=>?_;conv=>whnf)|(apply bD<;>intro _<;>first|omega|conv=>whnf))
  refine LoopK.inv QV (fun q:Nat=>⟨[(0,.p (.ip w.cells)),(3,.p (QA part)),(4,.hd 0 0 n),(7,.hd 1 0 (LP (QM w.p w.j w.n) part o q).length),(69,.p (.int .i64 (part.map (AV.int .i64)).length)),(70,.p (.int .i64 q))],[(0,.own 4 1 (o.map bv)),(1,.own 70 1 ((avI (LP (QM w.p w.j w.n) part o q)).map AV.sl))]⟩)
   (fun q=>q<=n) (fun q=>n-q) 0
   (Le.mk [(1,.own 70 1 [])] (by simp [Chunk.new0];rfl) (by simp) (by simp) (.cons (.refl _) (.cons (.refl _) (.cons (.refl _) (.cons (.nil mem_cons_self) (.cons (.refl _) (.cons (.refl _) .nil)))))) (.cons rfl (.refl _) (.new mem_cons_self .nil)))
   (zero_le _) ?_
  intro q hqn;have hLl:=x2d (QM w.p w.j w.n) part o q;rcases Nat.lt_or_ge q n with hq|hq
  ·have e2:=x5p (l:=part) (i:=q) (by omega);have e3:=w9t (l:=o) (i:=q) (by omega);have hsucc:=z3m (QM w.p w.j w.n) part o q;generalize LP (QM w.p w.j w.n) part o q=acc at hLl hsucc ⊢;have hpe:part[q]=part.getD q 0:=by rw [getD_eq_getElem?_getD,List.getElem?_eq_getElem];rfl
   cases hb:o.getD q false with
   | true =>
     rw [hb] at e3;have ht : ¬q5s part o q=true:=by unfold q5s;rw [hb];simp
     rw [if_neg ht] at hsucc;conv=>whnf
     repeat' (first|((first|refine And.intro rfl ?_|(refine iA fun _=>?_)|refine wI ?_|refine IdxL.mk q rfl (by omega) ?_|refine LdOwn.mk q 0 .tt (by omega) e3 ?_);conv=>whnf)|(apply bD<;>intro _<;>first|omega|conv=>whnf)|(apply bE<;>intro _<;>first|omega|conv=>whnf))
     all_goals exact ⟨q+1,hq,by omega,Le.of_eq (by rw [hsucc];rfl)⟩
   | false =>
     rw [hb] at e3;conv=>whnf
     repeat' (first|((first|(refine iM fun _=>?_)|refine And.intro rfl ?_|(refine iA fun _=>?_)|refine wI ?_|refine IdxL.mk q rfl (by omega) ?_|refine LdOwn.mk q 0 .ff (by omega) e3 ?_);conv=>whnf)|(apply bD<;>intro _<;>first|omega|conv=>whnf)|(apply bE<;>intro _<;>first|omega|conv=>whnf))
     all_goals try
      have hne : ¬part.getD q 0=(q:Int):=by omega
      have ht : ¬q5s part o q=true:=fun h=>by
       unfold q5s at h;rw [Bool.and_eq_true,beq_iff_eq] at h;exact hne h.1
      rw [if_neg ht] at hsucc;exact ⟨q+1,hq,by omega,Le.of_eq (by rw [hsucc];rfl)⟩
     have hpq:part.getD q 0=(q:Int):=by omega
     have ht:q5s part o q=true:=by unfold q5s;rw [hb,hpq];simp
     rw [if_pos ht,hpl] at hsucc;refine LoopK.inv QV (fun z:Nat=>⟨[(0,.p (.ip w.cells)),(3,.p (QA part)),(4,.hd 0 0 n),(7,.hd 1 0 acc.length),(8,.p (.int .i64 q)),(9,.hd 2 0 (HG (QM w.p w.j w.n) part q z).length),(69,.p (.int .i64 (part.map (AV.int .i64)).length)),(70,.p (.int .i64 q)),(86,.p (.int .i64 (part.map (AV.int .i64)).length)),(87,.p (.int .i64 z))],[(0,.own 4 1 (o.map bv)),(1,.own 70 1 ((avI acc).map AV.sl)),(2,.own 3 1 ((HG (QM w.p w.j w.n) part q z).map (.int .i64)))]⟩)
      (fun z=>z<=n) (fun z=>n-z) 0
      (Le.mk [(2,.own 3 1 [])] (by simp [Chunk.new0];rfl) (by simp) (by simp) (.cons (.refl _) (.cons (.refl _) (.cons (.refl _) (.cons (.refl _) (.cons (.refl _) (.cons (.nil mem_cons_self) (.cons (.refl _) (.cons (.refl _) (.cons (.refl _) (.cons (.refl _) .nil)))))))))) (.cons rfl (.refl _) (.cons rfl (.refl _) (.new mem_cons_self .nil))))
      (zero_le _) ?_
     intro z hzn;have hRl:=x2l (QM w.p w.j w.n) part q z;rcases Nat.lt_or_ge z n with hz|hz
     ·have e4:=x5p (l:=part) (i:=z) (by omega);have hs2:=z2k (QM w.p w.j w.n) part q z;generalize HG (QM w.p w.j w.n) part q z=l at hRl hs2 ⊢;conv=>whnf
      repeat' (first|((first|refine And.intro rfl ?_|refine aD ?_|refine bP ?_|(refine iA fun _=>?_)|refine wI ?_|(refine CallK.pure (GX w f hj hc (by omega) z (by omega)) (.cons (Sub.refl _) (.cons (Sub.refl _) .nil)) ?_;rintro _ rfl)|refine ZU (by simp) (by simp;omega) ?_);conv=>whnf)|(apply bD<;>intro _<;>first|omega|conv=>whnf))
      have hpz:part[z]=part.getD z 0:=by rw [getD_eq_getElem?_getD,List.getElem?_eq_getElem];rfl
      ·rw [if_pos (by omega)] at hs2;exact ⟨z+1,hz,by omega,Le.of_eq (by rw [hs2,length_append,List.map_append];rfl)⟩
      ·have hpz:part[z]=part.getD z 0:=by rw [getD_eq_getElem?_getD,List.getElem?_eq_getElem];rfl
       rw [if_neg (by omega)] at hs2;exact ⟨z+1,hz,by omega,Le.of_eq (by rw [hs2];rfl)⟩
     ·have hze:z=n:=by omega
      subst hze;conv=>whnf
      repeat' (apply bD<;>intro _<;>first|omega|conv=>whnf)
      have hfl:(HG (QM w.p w.j w.n) part q z).length=((HG (QM w.p w.j w.n) part q z).map (AV.int .i64)).length:=by simp
      refine OpK.frz QV [[9,104]] ?_;conv=>whnf
      refine LenK.mk hfl ?_;conv=>whnf
      refine LenK.mk hfl ?_;conv=>whnf
      repeat' ((first|refine And.intro rfl ?_|refine aD ?_|refine bP ?_|refine wI ?_|refine AppK.mk (by simp [avI]) rfl (by show (acc.length+1)*24<=140737488355328;omega) (by show acc.length+1<=9223372036854775807;omega) (fun x hx=>by rcases List.mem_singleton.1 hx with rfl;exact ⟨rfl,rfl⟩) ?_);conv=>whnf)
      exact ⟨q+1,hq,by omega,Le.of_eq (by rw [hsucc];simp only [avI,length_append,List.map_append];rfl)⟩
  ·have hqe:q=n:=by omega
   subst hqe;conv=>whnf
   repeat' (apply bD<;>intro _<;>first|omega|conv=>whnf)
   exact ⟨_,.hd rfl (by simp [avI]),rfl⟩
def vOf (p:Pg) (id:Int):List Step:=match w3o p id with
 | some s=>if s.kind=10 then [⟨id,-1,3⟩] else []
 | none=>[]
def WI (w:Way) (f:Pr):List Step:=(trapsW w f).flatMap fun l=>l.flatMap (vOf w.p)
theorem w6r (p:Pg) (id:Int):(vOf p id).length<=1:=by
 unfold vOf;split
 ·split<;>simp
 ·simp
theorem WF {α β:Type} {g:α->List β} {c:Nat} : ∀ (l:List α),(∀ x∈l,(g x).length<=c)->(l.flatMap g).length<=l.length*c
 | [],_=>by simp
 | a::r,h=>by
   have h1:=h a mem_cons_self;have h2:=WF r fun x hx=>h x (mem_cons_of_mem _ hx);rw [List.flatMap_cons,length_append,length_cons,Nat.add_mul];omega
theorem x8n (w:Way) (f:Pr) (n:Nat) (hw:w.n=n) (hj:w.p.procs[w.j]? = some f) (hc:cntP w.p.procs<=1000) (hn:n<=5000) (hn2:2<=n) (hlen:w.real.length<=1000000) (hr : ∀ t∈prsW w f,(0<=t.1∧t.1<n)∧0<=t.2∧t.2<n)
  (htl:(trapsW w f).length<=5000) (hti : ∀ l∈trapsW w f,l.length<=5000 ∧ ∀ id∈l,1<=id∧id<=(sheetOf w.p).l.length) :
  SpecH Tryz.prog 232 [.p (.ip w.cells)] [] (fun r H=>r = .hd 0 0 (WI w f).length∧H=[(0,.own 139 3 (avS (WI w f)))]):=by
 refine sH LX Tryz.func232 rfl Tryz.call232 ?_;conv=>whnf
 repeat' ((first|(refine iM fun _=>?_)|refine cP (x0h w f n hw hj hc hn hn2 hlen hr) ?_);conv=>whnf)
 unfold WI;generalize trapsW w f=ts at htl hti ⊢;have hml:((avI ts).map AV.sl).length=ts.length:=by simp [avI]
 refine LoopK.inv QV (fun x:Nat×List Step=>⟨[(0,.p (.ip w.cells)),(3,.hd 0 0 x.2.length),(9,.p (x4r ts)),(10,.p (.int .i64 ((avI ts).map AV.sl).length)),(11,.p (.int .i64 x.1))],[(0,.own 139 3 (avS x.2))]⟩)
  (fun x=>x.1<=ts.length∧x.2.length<=x.1*5000∧x.2++(ts.drop x.1).flatMap (fun l=>l.flatMap (vOf w.p))=ts.flatMap fun l=>l.flatMap (vOf w.p)) (fun x=>ts.length-x.1) (0,[])
  (Le.mk [(0,.own 139 3 [])] (by simp [Chunk.new0];rfl) (by simp) (by simp) (.cons (.refl _) (.cons (.nil mem_cons_self) (.cons (.refl _) (.cons (.refl _) (.cons (.refl _) .nil))))) (.new mem_cons_self .nil))
  ⟨zero_le _,by simp,rfl⟩ ?_
 rintro ⟨m,acc⟩ ⟨h1,h2,h3⟩;simp only at h1 h2 h3 ⊢;rcases Nat.lt_or_ge m ts.length with hm|hm;rotate_left 1
 ·rw [List.drop_eq_nil_of_le hm,List.flatMap_nil,List.append_nil] at h3;conv=>whnf
  repeat' (apply bD<;>intro _<;>first|omega|conv=>whnf)
  exact ⟨_,LSub.refl _,by rw [h3],by rw [h3]⟩
 obtain ⟨hl1,hl2⟩:=hti _ (List.getElem_mem hm);have hrow:((avI ts).map AV.sl)[m]? = some (.sl (ts[m].map (.int .i64))):=by simp [avI,hm]
 rw [VT hm] at h3;conv=>whnf
 repeat' (first|((first|(refine iM fun _=>?_)|(refine iA fun _=>?_));conv=>whnf)|(apply bD<;>intro _<;>first|omega|conv=>whnf))
 have hav:(avI ts)[m]'(by simp [avI];exact hm)=ts[m].map (.int .i64):=by simp [avI]
 rw [hav];generalize ts[m]=l at hl1 hl2 h3 ⊢;have hll:(l.map (AV.int .i64)).length=l.length:=length_map _;generalize htot:(ts.flatMap fun l=>l.flatMap (vOf w.p))=tot at h3 ⊢;refine LoopK.inv QV (fun x:Nat×List Step=>⟨[(0,.p (.ip w.cells)),(3,.hd 0 0 x.2.length),(9,.p (x4r ts)),(10,.p (.int .i64 ((avI ts).map AV.sl).length)),(11,.p (.int .i64 m)),(15,.p (QA l)),(16,.p (.int .i64 (l.map (AV.int .i64)).length)),(17,.p (.int .i64 x.1))],[(0,.own 139 3 (avS x.2))]⟩)
  (fun x=>x.1<=l.length∧x.2.length<=m*5000+x.1∧x.2++((l.drop x.1).flatMap (vOf w.p)++(ts.drop (m+1)).flatMap (fun l=>l.flatMap (vOf w.p)))=tot) (fun x=>l.length-x.1) (0,acc) (Le.of_eq rfl) ⟨zero_le _,by simp only;omega,h3⟩ ?_
 rintro ⟨k,acc2⟩ ⟨h4,h5,h6⟩;simp only at h4 h5 h6 ⊢;rcases Nat.lt_or_ge k l.length with hk|hk;rotate_left 1
 ·rw [List.drop_eq_nil_of_le hk] at h6;conv=>whnf
  repeat' (first|(refine wI ?_;conv=>whnf)|(apply bD<;>intro _<;>first|omega|conv=>whnf))
  exact ⟨(m+1,acc2),⟨hm,by simp only;omega,by simpa using h6⟩,by simp only;omega,Le.of_eq rfl⟩
 obtain ⟨h7,h8⟩:=hl2 _ (List.getElem_mem hk);obtain ⟨_,_,_,hsl,_⟩:=QU w.p;have hlt:(l[k]-1).toNat<(sheetOf w.p).l.length:=by omega
 have hu : ∃ u:Item,((sheetOf w.p).l.map fun i=>AV.agg i.cells)[(l[k]-1).toNat]? = some (.agg u.cells)∧w3o w.p l[k]=some u.s:=⟨_,by rw [List.getElem?_map,List.getElem?_eq_getElem hlt];rfl,by unfold w3o;rw [List.getElem?_eq_getElem hlt];rfl⟩;obtain ⟨u,hu1,hu2⟩:=hu;rw [VT hk] at h6;have hv:vOf w.p l[k]=if u.s.kind=10 then [⟨l[k],-1,3⟩] else []:=by unfold vOf;rw [hu2]
 rw [hv] at h6;conv=>whnf
 repeat' (first|((first|refine And.intro rfl ?_|refine aD ?_|refine bP ?_|(refine iA fun _=>?_)|refine wI ?_|(refine IdxK.at (by omega) hu1 rfl ?_)|refine AppK.mk (by simp [avS]) rfl (by show (acc2.length+1)*24<=140737488355328;omega) (by show acc2.length+1<=9223372036854775807;omega) (fun x hx=>by rcases List.mem_singleton.1 hx with rfl;exact ⟨rfl,rfl⟩) ?_);conv=>whnf)|(apply bD<;>intro _<;>first|omega|conv=>whnf))
 ·rw [if_pos (by assumption)] at h6;exact ⟨(k+1,acc2++[⟨l[k],-1,3⟩]),⟨hk,by simp;omega,by simpa using h6⟩,by simp only;omega,Le.of_eq (by simp only [avS,length_append,List.map_append];rfl)⟩
 ·rw [if_neg (by assumption)] at h6;exact ⟨(k+1,acc2),⟨hk,by simp only;omega,by simpa using h6⟩,by simp only;omega,Le.of_eq rfl⟩
def fOf (it:Item):List Step:=if it.s.kind=7∨it.s.kind=8∨it.s.kind=9∨it.s.kind=10 then [⟨it.s.id,it.next,2⟩] else []
structure WayT (w:Way) (f:Pr) (n:Nat):Prop where
 hw:w.n=n
 hj:w.p.procs[w.j]? = some f
 hc:cntP w.p.procs<=1000
 hn:n<=5000
 hn2:2<=n
 hlen:w.real.length<=1000000
 hr : ∀ t∈prsW w f,(0<=t.1∧t.1<n)∧0<=t.2∧t.2<n
 htl:(trapsW w f).length<=5000
 hti : ∀ l∈trapsW w f,l.length<=5000 ∧ ∀ id∈l,1<=id∧id<=(sheetOf w.p).l.length
 hok : ∀ s∈w.real,okSt s
 hfk : ∀ it∈itsOf w.p w.j f,∀ s∈fOf it,okSt s
theorem w8a {p:Pg} {id:Int} {s:Step} (h:s∈vOf p id):s=⟨id,-1,3⟩:=by
 unfold vOf at h;split at h
 ·split at h
  ·simpa using h
  ·simp at h
 ·simp at h
theorem WayT.virt_ok {w:Way} {f:Pr} {n:Nat} (h:WayT w f n) : ∀ s∈WI w f,okSt s:=fun s hs=>by
 unfold WI at hs;obtain ⟨l,hl,hs⟩:=List.mem_flatMap.1 hs;obtain ⟨id,hid,hs⟩:=List.mem_flatMap.1 hs;obtain ⟨_,_,_,hsl,_⟩:=QU w.p;have h1:=(h.hti l hl).2 id hid;have h2:=h.hc;rw [w8a hs];exact ⟨by show id≠_;omega,by show (-1:Int)≠_;decide⟩
theorem WayT.virt_len {w:Way} {f:Pr} {n:Nat} (h:WayT w f n):(WI w f).length<=25000000:=by
 have h1:=WF (g:=fun l=>l.flatMap (vOf w.p)) (c:=5000) (trapsW w f) fun l hl=>by
  have h2:=WF (g:=vOf w.p) (c:=1) l fun id _=>w6r w.p id;have h3:=(h.hti l hl).1;omega
 have h2:=h.htl;unfold WI;omega
def w6c (w:Way) (f:Pr):List Step:=WU (WI w f++w.real)
def HK (w:Way) (f:Pr):List Step:=WI w f++w.real++[⟨0,-1,2⟩]++(itsOf w.p w.j f).flatMap fOf
def z0b (w:Way) (f:Pr):List Step:=WU (HK w f)
theorem w6e (it:Item):(fOf it).length<=1:=by
 unfold fOf;split<;>simp
theorem x7n (w:Way) (f:Pr) (n:Nat) (h:WayT w f n):SpecP Tryz.prog 187 [.ip w.cells] (fun r=>r=GG (z0b w f)):=by
 refine sB q9e Tryz.func187 rfl Tryz.call187 ?_;conv=>whnf
 have hlen:=h.hlen;have hvl:=h.virt_len;have hvok:=h.virt_ok;have hcc:=h.hc;have hits:itL w.j 0 (-1) 0 (QD w.p.procs w.j) f.body=itsOf w.p w.j f:=rfl;repeat' (first|((first|refine dA ?_|refine aD ?_);conv=>whnf)|(refine CallK.heap [] 0 (ArgsH.cons (LSub.refl _) ArgsH.nil) BlksH.nil (x8n w f n h.hw h.hj h.hc h.hn h.hn2 h.hlen h.hr h.htl h.hti) rfl rfl ?_;rintro l' H' ⟨rfl,rfl⟩;conv=>whnf))
 have hml:(w.real.map fun s=>AV.agg s.cells).length=w.real.length:=length_map _;have hvm:(avS (WI w f)).length=(WI w f).length:=by simp [avS]
 refine AppK.mk hvm.symm rfl (by rw [hml];show ((WI w f).length+w.real.length)*24<=140737488355328;omega) (by rw [hml];show (WI w f).length+w.real.length<=9223372036854775807;omega) (fun x hx=>by obtain ⟨s,_,rfl⟩:=List.mem_map.1 hx;exact ⟨rfl,rfl⟩) ?_;conv=>whnf
 have happ:avS (WI w f)++(w.real.map fun s=>AV.agg s.cells)=avS (WI w f++w.real):=by simp [avS]
 have hlp:(WI w f).length+(w.real.map fun s=>AV.agg s.cells).length=(WI w f++w.real).length:=by simp
 rw [happ,hlp];have hbl:(WI w f++w.real).length<=26000000:=by rw [length_append];omega
 have hbok : ∀ s∈WI w f++w.real++[⟨0,-1,2⟩],okSt s:=fun s hs=>by
  rcases List.mem_append.1 hs with hs|hs
  ·exact (List.mem_append.1 hs).elim (hvok s) (h.hok s)
  ·rw [List.mem_singleton.1 hs];exact ⟨by decide,by decide⟩
 have hraw:HK w f=WI w f++w.real++[⟨0,-1,2⟩]++(itsOf w.p w.j f).flatMap fOf:=rfl;unfold z0b;rw [hraw];clear hraw happ hlp hml hvm hvok hvl hlen;generalize WI w f++w.real=base at hbl hbok ⊢;repeat' ((first|(refine iM fun _=>?_)|refine dA ?_|refine And.intro rfl ?_|refine aD ?_|refine bP ?_|refine cP (x8c w.p h.hj hcc) ?_|refine AppK.mk (by simp [avS]) rfl (by show (base.length+1)*24<=140737488355328;omega) (by show base.length+1<=9223372036854775807;omega) (fun x hx=>by rcases List.mem_singleton.1 hx with rfl;exact ⟨rfl,rfl⟩) ?_);conv=>whnf)
 rw [hits];have hib:(itsOf w.p w.j f).length<=1000:=by
  obtain ⟨_,_,_,hsl,hsp⟩:=QU w.p;obtain ⟨_,_,hle,_⟩:=hsp w.j f h.hj;rw [<- hits,XO];omega
 have hfok:=h.hfk;generalize itsOf w.p w.j f=its at hib hfok ⊢;have hil:=ZI its;refine LoopK.inv QV (fun x:Nat×List Step=>⟨[(3,.hd 0 0 x.2.length),(25,.p (YL its)),(26,.p (.int .i64 (its.map fun i=>AV.agg i.cells).length)),(27,.p (.int .i64 x.1))],[(0,.own 139 3 (avS x.2))]⟩)
  (fun x=>x.1<=its.length∧x.2.length<=base.length+1+x.1∧x.2++(its.drop x.1).flatMap fOf=base++[⟨0,-1,2⟩]++its.flatMap fOf) (fun x=>its.length-x.1) (0,base++[⟨0,-1,2⟩])
  (Le.of_eq (by simp only [avS,length_append,List.map_append];rfl)) ⟨zero_le _,by simp,rfl⟩ ?_
 rintro ⟨m,acc⟩ ⟨h1,h2,h3⟩;simp only at h1 h2 h3 ⊢;rcases Nat.lt_or_ge m its.length with hm|hm;rotate_left 1
 ·rw [List.drop_eq_nil_of_le hm,List.flatMap_nil,List.append_nil] at h3;have hok : ∀ s∈acc,okSt s:=fun s hs=>by
   rw [h3] at hs;rcases List.mem_append.1 hs with hs|hs
   ·exact hbok s hs
   ·obtain ⟨it,hi,hs⟩:=List.mem_flatMap.1 hs;exact hfok it hi s hs
  rw [<- h3];conv=>whnf
  repeat' (first|(apply bD<;>intro _<;>first|omega|conv=>whnf)|(refine CallK.heap [(1000,0)] 0 (by repeat' (first|exact ArgsH.nil|refine ArgsH.cons ?_ ?_|exact LSub.refl _|exact LSub.p Sub.nils|exact LSub.p (Sub.tt rfl)|exact LSub.p (Sub.ff rfl)|exact LSub.p (Sub.int (by omega)))) (by refine BlksH.cons (j:=0) rfl rfl ?_ ?_;exact CSub.refl _;exact BlksH.nil) (x3p acc hok (by omega)) rfl rfl ?_;rintro l' H' ⟨rfl,rfl⟩;conv=>whnf))
  exact ⟨_,.hd rfl (by simp [avS]),rfl⟩
 rw [VT hm] at h3;have hf:fOf its[m]=if its[m].s.kind=7∨its[m].s.kind=8∨its[m].s.kind=9∨its[m].s.kind=10 then [⟨its[m].s.id,its[m].next,2⟩] else []:=rfl;conv=>whnf
 repeat' (first|((first|refine And.intro rfl ?_|refine aD ?_|refine bP ?_|(refine iA fun _=>?_)|refine wI ?_|refine AppK.mk (by simp [avS]) rfl (by show (acc.length+1)*24<=140737488355328;omega) (by show acc.length+1<=9223372036854775807;omega) (fun x hx=>by rcases List.mem_singleton.1 hx with rfl;exact ⟨rfl,rfl⟩) ?_);conv=>whnf)|(apply bD<;>intro _<;>first|omega|conv=>whnf))
 all_goals first
  | (rw [if_pos (by omega)] at hf
     rw [hf] at h3;exact ⟨(m+1,acc++[⟨its[m].s.id,its[m].next,2⟩]),⟨hm,by simp;omega,by simpa using h3⟩,by simp only;omega,Le.of_eq (by simp only [avS,length_append,List.map_append];rfl)⟩)
  | (rw [if_neg (by omega)] at hf
     rw [hf] at h3;exact ⟨(m+1,acc),⟨hm,by simp only;omega,by simpa using h3⟩,by simp only;omega,Le.of_eq rfl⟩)
theorem VO : ∀ (k:Nat) (x:X) (_:wX x<k) (_:k<=20002),SpecP Tryz.prog 229 [.agg x.cells] (fun r=>r = .agg x.cells):=by
 intro k;induction k with
 | zero=>intro x h;omega
 | succ k ih =>
   intro x hx hk;have hxe:wX x=1+wXs x.kids:=by cases x;rw [wX];rfl
   have hkl:=X.avs_len x.kids;have hkn:=z7t x.kids;refine sB KM Tryz.func229 rfl Tryz.call229 ?_;conv=>whnf
   repeat' ((first|(refine iM fun _=>?_)|refine And.intro rfl ?_);conv=>whnf)
   all_goals
    refine LoopK.inv QV (fun j:Nat=>⟨[(1,.p (.ip x.cells)),(2,.ptr 1 0),(3,.ptr 0 0),(14,.p (.int .i64 (X.avs x.kids).length)),(15,.p (.int .i64 j))],[(0,.obj 36 [.p (.int .i64 x.op),.p (.int .i64 x.n),.p (.str (x.name)),.hd 2 0 j]),(1,.obj 36 [.p (.int .i64 0),.p (.int .i64 0),.p (.str []),.p .nils]),(2,.own 36 4 (X.avs (x.kids.take j)))]⟩) (fun j=>j<=x.kids.length) (fun j=>x.kids.length-j) 0
     (Le.mk [(2,.own 36 4 [])] (by simp [Chunk.new0];rfl) (by simp) (by simp) (.cons (.refl _) (.cons (.refl _) (.cons (.refl _) (.cons (.refl _) (.cons (.refl _) .nil))))) (.cons rfl (.obj (.cons (.refl _) (.cons (.refl _) (.cons (.refl _) (.cons (.nil mem_cons_self) .nil))))) (.cons rfl (.refl _) (.new mem_cons_self .nil)))) (zero_le _) ?_
    intro j h2;rcases Nat.lt_or_ge j x.kids.length with hj|hj
    ·have hkw:=w6d (List.getElem_mem hj);have hih:=ih x.kids[j] (by omega) (by omega);have htk:X.avs (x.kids.take (j+1))=X.avs (x.kids.take j)++[.agg (x.kids[j]).cells]:=by
      rw [X.avs_eq,X.avs_eq,List.take_succ_eq_append_getElem hj,List.map_append];rfl
     have hal:(X.avs (x.kids.take j)).length=j:=by rw [X.avs_len,length_take];omega
     generalize X.avs (x.kids.take j)=acc at htk hal ⊢;conv=>whnf
     repeat' (first|((first|refine dA ?_|refine And.intro rfl ?_|refine aD ?_|refine bP ?_|refine IdxK.xs (by omega) ?_|refine wI ?_|refine cP hih ?_|refine AppK.mk hal.symm rfl (by show (j+1)*56<=140737488355328;omega) (by show j+1<=9223372036854775807;omega) (fun x hx=>by rcases List.mem_singleton.1 hx with rfl;exact ⟨rfl,rfl⟩) ?_);conv=>whnf)|(apply bD<;>intro _<;>first|omega|conv=>whnf)|(refine And.intro ?_ ?_<;>conv=>whnf))
     all_goals exact ⟨j+1,hj,by omega,Le.of_eq (by rw [htk];rfl)⟩
    ·have hall:X.avs (x.kids.take j)=X.avs x.kids:=by rw [take_of_length_le hj]
     have hal:(X.avs (x.kids.take j)).length=j:=by rw [X.avs_len,length_take];omega
     conv=>whnf
     repeat' (first|(refine And.intro rfl ?_;conv=>whnf)|(apply bD<;>intro _<;>first|omega|conv=>whnf))
     refine ⟨_,.agg (cs:=x.cells) rfl fun i l c h1 h3 => ?_,rfl⟩
     match i,h1,h3 with
     | 0,h1,h3=>cases h1;cases h3;exact .p (Sub.refl _)
     | 1,h1,h3=>cases h1;cases h3;exact .p (Sub.refl _)
     | 2,h1,h3=>cases h1;cases h3;exact .p (Sub.refl _)
     | 3,h1,h3 =>
       cases h1;cases h3;show Frz _ _ (.sl (X.avs x.kids));rw [<- hall];exact .hd rfl hal.symm
     | i+4,h1,h3=>simp at h1
def v5l (s:S):S := .mk s.id s.kind s.labels s.name s.proc s.x s.has s.args [] []
theorem WW (s:S) (hx:wX s.x<=20000) (hl:s.labels.length<=1000000) (ha:s.args.length<=1000000) (hax : ∀ a∈s.args,wX a.x<=20000):SpecP Tryz.prog 150 [.agg s.cells] (fun r=>r = .agg (v5l s).cells):=by
 refine sB GM Tryz.func150 rfl Tryz.call150 ?_;conv=>whnf
 have hal:(s.args.map fun a=>AV.agg a.cells).length=s.args.length:=length_map _;have hC:=VO 20001 s.x (by omega) (by omega);repeat' (first|((first|(refine iM fun _=>?_)|refine dA ?_|refine And.intro rfl ?_|refine cP hC ?_|refine cP (XZ s.labels hl) ?_);conv=>whnf)|(refine And.intro ?_ ?_<;>conv=>whnf))
 all_goals
  refine LoopK.inv QV (fun j:Nat=>⟨[(2,.ptr 1 0),(3,.ptr 0 0),(24,.p (w1x s.args)),(25,.p (.int .i64 (s.args.map fun a=>AV.agg a.cells).length)),(26,.p (.int .i64 j))],[(0,.obj 40 [.p (.int .i64 s.id),.p (.int .i64 s.kind),.p (QP s.labels),.p (.str s.name),.p (.str s.proc),.p (.int .i64 s.x.op),.p (.int .i64 s.x.n),.p (.str s.x.name),.p (.sl (X.avs s.x.kids)),.p (.bool s.has),.hd 2 0 j,.p .nils,.p .nils]),(1,.obj 40 [.p (.int .i64 0),.p (.int .i64 0),.p .nils,.p (.str []),.p (.str []),.p (.int .i64 0),.p (.int .i64 0),.p (.str []),.p .nils,.p .ff,.p .nils,.p .nils,.p .nils]),(2,.own 126 6 ((s.args.take j).map fun a => .agg a.cells))]⟩) (fun j=>j<=s.args.length) (fun j=>s.args.length-j) 0
   (Le.mk [(2,.own 126 6 [])] (by simp [Chunk.new0];rfl) (by simp) (by simp) (.cons (.refl _) (.cons (.refl _) (.cons (.refl _) (.cons (.refl _) (.cons (.refl _) .nil))))) (.cons rfl (.obj (.cons (.refl _) (.cons (.refl _) (.cons (.refl _) (.cons (.refl _) (.cons (.refl _) (.cons (.refl _) (.cons (.refl _) (.cons (.refl _) (.cons (.refl _) (.cons (.refl _) (.cons (.nil mem_cons_self) (.cons (.refl _) (.cons (.refl _) .nil)))))))))))))) (.cons rfl (.refl _) (.new mem_cons_self .nil)))) (zero_le _) ?_
  intro j h2;rcases Nat.lt_or_ge j s.args.length with hj|hj
  ·have hax1:=hax _ (List.getElem_mem hj);have hD:=VO 20001 s.args[j].x (by omega) (by omega);have htk:((s.args.take (j+1)).map fun a=>AV.agg a.cells)=((s.args.take j).map fun a=>AV.agg a.cells)++[.agg s.args[j].cells]:=by
    rw [List.take_succ_eq_append_getElem hj,List.map_append];rfl
   have hcl:((s.args.take j).map fun a=>AV.agg a.cells).length=j:=by rw [length_map,length_take];omega
   generalize ((s.args.take j).map fun a=>AV.agg a.cells)=acc at htk hcl ⊢;conv=>whnf
   repeat' (first|((first|refine dA ?_|refine And.intro rfl ?_|refine aD ?_|refine bP ?_|(refine iA fun _=>?_)|refine wI ?_|refine cP hD ?_|refine AppK.mk hcl.symm rfl (by show (j+1)*80<=140737488355328;omega) (by show j+1<=9223372036854775807;omega) (fun x hx=>by rcases List.mem_singleton.1 hx with rfl;exact ⟨rfl,rfl⟩) ?_);conv=>whnf)|(apply bD<;>intro _<;>first|omega|conv=>whnf)|(refine And.intro ?_ ?_<;>conv=>whnf))
   all_goals exact ⟨j+1,hj,by omega,Le.of_eq (by rw [htk];rfl)⟩
  ·have hall:((s.args.take j).map fun a=>AV.agg a.cells)=s.args.map fun a => .agg a.cells:=by rw [take_of_length_le hj]
   have hcl:((s.args.take j).map fun a=>AV.agg a.cells).length=j:=by rw [length_map,length_take];omega
   conv=>whnf
   repeat' (first|(refine And.intro rfl ?_;conv=>whnf)|(apply bD<;>intro _<;>first|omega|conv=>whnf))
   refine ⟨_,.agg (cs:=(v5l s).cells) rfl fun i l c h1 h3 => ?_,rfl⟩
   match i,h1,h3 with
   | 0,h1,h3=>cases h1;cases h3;exact .p (Sub.refl _)
   | 1,h1,h3=>cases h1;cases h3;exact .p (Sub.refl _)
   | 2,h1,h3=>cases h1;cases h3;exact .p (Sub.refl _)
   | 3,h1,h3=>cases h1;cases h3;exact .p (Sub.refl _)
   | 4,h1,h3=>cases h1;cases h3;exact .p (Sub.refl _)
   | 5,h1,h3=>cases h1;cases h3;exact .p (Sub.refl _)
   | 6,h1,h3=>cases h1;cases h3;exact .p (Sub.refl _)
   | 7,h1,h3=>cases h1;cases h3;exact .p (Sub.refl _)
   | 8,h1,h3=>cases h1;cases h3;exact .p (Sub.refl _)
   | 9,h1,h3=>cases h1;cases h3;exact .p (Sub.refl _)
   | 10,h1,h3 =>
     cases h1;cases h3;show Frz _ _ (.sl (s.args.map fun a => .agg a.cells));rw [<- hall];exact .hd rfl hcl.symm
   | 11,h1,h3=>cases h1;cases h3;exact .p Sub.nils
   | 12,h1,h3=>cases h1;cases h3;exact .p Sub.nils
   | i+13,h1,h3=>simp at h1
mutual
def nmS (n:Nat):S->S
 | .mk _ kind labels name proc x has args thn els => .mk ((n+1:Nat):Int) kind labels name proc x has args (nmL (n+1) thn) (nmL (n+1+cntL thn) els)
def nmL (n:Nat):List S->List S
 | []=>[]
 | t::r=>nmS n t::nmL (n+XB t) r
end
theorem q7l (n:Nat) (t:S):nmS n t = .mk ((n+1:Nat):Int) t.kind t.labels t.name t.proc t.x t.has t.args (nmL (n+1) t.thn) (nmL (n+1+cntL t.thn) t.els):=by
 cases t;rw [nmS];rfl
theorem MD (n:Nat) : ∀ l:List S,(nmL n l).length=l.length
 | []=>by rw [nmL]
 | t::r=>by rw [nmL,length_cons,length_cons,MD _ r]
theorem z5n : ∀ (l:List S) (n j:Nat) (h:j<l.length),(nmL n l)[j]? = some (nmS (n+cntL (l.take j)) l[j])
 | t::r,n,0,h=>by rw [nmL];simp [cntL]
 | t::r,n,j+1,h=>by
   rw [nmL,List.getElem?_cons_succ,z5n r (n+XB t) j (by simpa using h),List.take_succ_cons,cntL,Nat.add_assoc];rfl
theorem x4a : ∀ (l:List S) (j:Nat) (h:j<l.length),cntL (l.take (j+1))=cntL (l.take j)+XB l[j]
 | t::r,0,h=>by simp [cntL]
 | t::r,j+1,h=>by
   rw [List.take_succ_cons,List.take_succ_cons,cntL,cntL,x4a r j (by simpa using h),Nat.add_assoc];rfl
theorem q2n : ∀ l:List S,l.length<=cntL l
 | []=>by simp
 | t::r=>by
   rw [cntL,length_cons];have:=q2n r;have:1<=XB t:=by cases t;rw [XB];omega
   omega
def okC (t:S):Prop:=wX t.x<=20000∧t.labels.length<=1000000∧t.args.length<=1000000 ∧ ∀ a∈t.args,wX a.x<=20000
theorem q1i : ∀ {l:List S} {t:S},t∈l->XB t<=cntL l
 | a::r,t,h=>by
   rw [cntL];rcases List.mem_cons.1 h with rfl|h
   ·omega
   ·have:=q1i h;omega
theorem HM : ∀ (k:Nat) (l:List S) (_:cntL l<k) (n:Nat) (_:n+cntL l<=1000000) (_ : ∀ t∈flL l,okC t),SpecP Tryz.prog 151 [eSs l,.int .i64 (n:Nat)] (fun r=>r = .tup [eSs (nmL n l),.int .i64 (n+cntL l:Nat)]):=by
 intro k;induction k with
 | zero=>intro l h;omega
 | succ k ih =>
   intro l hk n hn hok;have hsl:(S.avs l).length=l.length:=by rw [S.avs_eq,length_map]
   have hcl:=q2n l;refine sB GW Tryz.func151 rfl Tryz.call151 ?_;conv=>whnf
   repeat' (refine iM fun _=>?_;conv=>whnf)
   refine LoopK.inv QV (fun j:Nat=>⟨[(1,.p (.int .i64 (n+cntL (l.take j):Nat))),(6,.hd 0 0 j),(10,.p (eSs l)),(11,.p (.int .i64 (S.avs l).length)),(12,.p (.int .i64 j))],[(0,.own 40 13 (S.avs ((nmL n l).take j)))]⟩) (fun j=>j<=l.length) (fun j=>l.length-j) 0
    (Le.mk [(0,.own 40 13 [])] (by simp [Chunk.new0];rfl) (by simp) (by simp) (.cons (.of_eq (by simp [cntL];rfl)) (.cons (.nil mem_cons_self) (.cons (.refl _) (.cons (.refl _) (.cons (.refl _) .nil))))) (.new mem_cons_self .nil)) (zero_le _) ?_
   intro j h2;rcases Nat.lt_or_ge j l.length with hj|hj
   ·have htk:=x4a l j hj;have htm:=q1i (List.getElem_mem hj);have hcs:=ZS l[j];have hget:=z5n l n j hj;have hlb:cntL (l.take (j+1))<=cntL l:=by
     conv=>rhs;rw [<- List.take_append_drop (j+1) l]
     have : ∀ a b:List S,cntL (a++b)=cntL a+cntL b:=fun a b=>by
      induction a with
      | nil=>simp [cntL]
      | cons x r ih=>rw [List.cons_append,cntL,cntL,ih,Nat.add_assoc]
     rw [this];omega
    have hself:=hok _ (FI l _ (List.getElem_mem hj));have hsub : ∀ t,t∈flL l[j].thn∨t∈flL l[j].els->okC t:=fun t ht=>hok t (by
     have:t∈flS l[j]:=by
      rw [q7p];exact mem_cons_of_mem _ (List.mem_append.2 ht)
     have key : ∀ (m:List S) (i:Nat) (h:i<m.length),t∈flS m[i]->t∈flL m:=fun m=>by
      induction m with
      | nil=>intro i h;simp at h
      | cons a r ih =>
        intro i h ht;rw [flL];cases i with
        | zero=>exact List.mem_append.2 (.inl ht)
        | succ i=>exact List.mem_append.2 (.inr (ih i (by simpa using h) ht))
     exact key l j hj this)
    have h5:=WW l[j] hself.1 hself.2.1 hself.2.2.1 hself.2.2.2;have h6:=ih l[j].thn (by omega) (n+cntL (l.take j)+1) (by omega) fun t ht=>hsub t (.inl ht);have h7:=ih l[j].els (by omega) (n+cntL (l.take j)+1+cntL l[j].thn) (by omega) fun t ht=>hsub t (.inr ht);have hacl:j=(S.avs ((nmL n l).take j)).length:=by rw [S.avs_eq,length_map,length_take,MD];omega
    have hav:S.avs ((nmL n l).take (j+1))=S.avs ((nmL n l).take j)++[.agg (nmS (n+cntL (l.take j)) l[j]).cells]:=by
     rw [S.avs_eq,S.avs_eq,take_add_one,hget,List.map_append];rfl
    conv=>whnf
    repeat' (first|((first|refine And.intro rfl ?_|refine aD ?_|refine bP ?_|refine QB (by omega) ?_|refine wI ?_|refine cP h5 ?_|(refine CallK.pure h6 (.cons (Sub.refl _) (.cons (Sub.int (by omega)) .nil)) ?_;rintro _ rfl)|(refine CallK.pure h7 (.cons (Sub.refl _) (.cons (Sub.int (by omega)) .nil)) ?_;rintro _ rfl)|refine AppK.mk hacl rfl (by show (j+1)*208<=140737488355328;omega) (by show j+1<=9223372036854775807;omega) (fun x hx=>by rcases List.mem_singleton.1 hx with rfl;exact ⟨rfl,rfl⟩) ?_);conv=>whnf)|(apply bD<;>intro _<;>first|omega|conv=>whnf))
    exact ⟨j+1,hj,by omega,Le.mk [] (by simp) (by simp) (by simp) (.cons (.of_eq (by rw [htk,hcs,show n+(cntL (l.take j)+(1+cntL l[j].thn+cntL l[j].els))=n+cntL (l.take j)+1+cntL l[j].thn+cntL l[j].els by omega];rfl)) (.cons (.refl _) (.cons (.refl _) (.cons (.refl _) (.cons (.refl _) .nil))))) (.cons rfl (.of_eq (by rw [hav,q7l];rfl)) .nil)⟩
   ·have hall:(nmL n l).take j=nmL n l:=take_of_length_le (by rw [MD];exact hj);have hall2:l.take j=l:=take_of_length_le hj;have hjl:j=(S.avs (nmL n l)).length:=by rw [S.avs_eq,length_map,MD];omega
    rw [hall,hall2];conv=>whnf
    repeat' (apply bD<;>intro _<;>first|omega|conv=>whnf)
    refine ⟨_,.tup (cs:=[eSs (nmL n l),.int .i64 (n+cntL l:Nat)]) rfl fun i l' c h1 h3 => ?_,rfl⟩
    match i,h1,h3 with
    | 0,h1,h3=>cases h1;cases h3;exact .hd rfl hjl
    | 1,h1,h3=>cases h1;cases h3;exact .p (Sub.refl _)
    | i+2,h1,h3=>simp at h1
def ElS (es es':List AV):Prop:=es'.length=es.length ∧ ∀ (m:Nat) (x':AV),es'[m]? = some x' -> ∃ x,es[m]? = some x∧x'.cells.length=x.cells.length ∧ ∀ (j:Nat) (c':AV),x'.cells[j]? = some c' -> ∃ c,x.cells[j]? = some c∧Sub c c'
theorem ElS.refl (es:List AV):ElS es es:=⟨rfl,fun _ x' h=>⟨x',h,rfl,fun _ c' hc=>⟨c',hc,Sub.refl _⟩⟩⟩
theorem DZ {es es':List AV} (h:ElS es es') {x x':AV} (hl:x'.cells.length=x.cells.length) (hc : ∀ (j:Nat) (c':AV),x'.cells[j]? = some c' -> ∃ c,x.cells[j]? = some c∧Sub c c'):ElS (es++[x]) (es'++[x']):=by
 refine ⟨by simp [h.1],fun m y hy => ?_⟩;rcases Nat.lt_or_ge m es'.length with hm|hm
 ·rw [List.getElem?_append_left hm] at hy;obtain ⟨z,h1,h2⟩:=h.2 m y hy;exact ⟨z,by rw [List.getElem?_append_left (by rw [<- h.1];exact hm)];exact h1,h2⟩
 ·rw [List.getElem?_append_right hm] at hy;have hm0:m-es'.length=0:=by
   have:=(List.getElem?_eq_some_iff.1 hy).1;simp at this;omega
  rw [hm0] at hy;cases hy;exact ⟨x,by rw [List.getElem?_append_right (by rw [<- h.1];exact hm),<- h.1,hm0];rfl,hl,hc⟩
inductive SubH:Heap->Heap->Prop
 | nil:SubH [] []
 | same {c:Nat×Chunk} {H H':Heap} (h:SubH H H'):SubH (c::H) (c::H')
 | els {k:Nat} {e:TypeId} {sz:Nat} {es es':List AV} {H H':Heap} (hp:ElS es es') (h:SubH H H'):SubH ((k,.own e sz es)::H) ((k,.own e sz es')::H')
theorem SubH.get {H H':Heap} (h:SubH H H'):H'.map (·.1)=H.map (·.1) ∧ ∀ j c',(j,c')∈H'->(j,c')∈H ∨ ∃ e sz es es',(j,Chunk.own e sz es)∈H∧c' = .own e sz es'∧ElS es es':=by
 induction h with
 | nil=>exact ⟨rfl,by simp⟩
 | same h ih =>
   refine ⟨by simp [ih.1],fun j c' hj => ?_⟩;rcases List.mem_cons.1 hj with rfl|hj
   ·exact .inl mem_cons_self
   ·rcases ih.2 j c' hj with h1|⟨e,sz,es,es',h1,h2⟩
    ·exact .inl (mem_cons_of_mem _ h1)
    ·exact .inr ⟨e,sz,es,es',mem_cons_of_mem _ h1,h2⟩
 | @els k e sz es es' H H' hp h ih =>
   refine ⟨by simp [ih.1],fun j c' hj => ?_⟩;rcases List.mem_cons.1 hj with hj|hj
   ·cases hj;exact .inr ⟨e,sz,es,es',mem_cons_self,rfl,hp⟩
   ·rcases ih.2 j c' hj with h1|⟨e,sz,es,es',h1,h2⟩
    ·exact .inl (mem_cons_of_mem _ h1)
    ·exact .inr ⟨e,sz,es,es',mem_cons_of_mem _ h1,h2⟩
theorem Le.els {N:Nat} {sl:List (Nat×LV)} {H H':Heap} (h:SubH H H'):Le N ⟨sl,H⟩ ⟨sl,H'⟩:=fun σ β a w hr=>by
 obtain ⟨hk,hc⟩:=h.get;refine ⟨σ,β,⟨hr.size,hr.defers,hr.slots,⟨hr.heap.mem,fun j c' hj => ?_,by show (H'.map (·.1)).Nodup;rw [hk];exact hr.heap.nodup,fun j hj=>hr.heap.apart j (by rw [<- hk];exact hj),fun j hj j' hj'=>hr.heap.inj j (by rw [<- hk];exact hj) j' (by rw [<- hk];exact hj')⟩⟩,Mem.le_refl σ,Frm.refl _ w,fun b h0 h1=>absurd h0 h1,fun b ⟨j,hj,r⟩ => .inl ⟨j,by rw [<- hk];exact hj,r⟩,fun _ _ _=>rfl⟩;rcases hc j c' hj with h1|⟨e,sz,es,es',h1,rfl,h2⟩
 ·exact hr.heap.chunks j c' h1
 ·rcases hr.heap.chunks j _ h1 with ⟨h3,h4⟩|⟨i,vs,h3,h4,h5,h6,h7,h8,h9⟩
  ·refine .inl ⟨h3,?_⟩;have:=h2.1;rw [h4] at this;exact List.eq_nil_of_length_eq_zero this
  ·refine .inr ⟨i,vs,h3,h4,h5,h6,by rw [h2.1];exact h7,h8,fun m x' hx => ?_⟩;obtain ⟨x,g1,g2,g3⟩:=h2.2 m x' hx;refine ⟨by rw [g2];exact (h9 m x g1).1,fun j c' hc => ?_⟩;obtain ⟨c,g4,g5⟩:=g3 j c' hc;obtain ⟨u,g6,g7⟩:=(h9 m x g1).2 j c g4;exact ⟨u,g6,g5 _ _ g7⟩
theorem Rel.layI {N:Nat} {σ:Mem} {β:Lab} {s s':St} {a:Act} {w:World} (hr:Rel N σ β s a w) {k:Nat} {i:BInfo} (hi:β k=some i) (hk:k∈s.H.map (·.1)) (hcell : ∀ b,i.has b -> ∃ c e fr,w.heap[b]? = some (.cells c e fr))
  (hsl : ∀ τ:Mem,σ.le τ->(∀ b c e fr,i.has b->w.heap[b]? = some (.cells c e fr)->τ b=some c) -> ∀ j v,RepL σ β (getS s.sl j) v->RepL τ β (getS s'.sl j) v)
  (hch : ∀ τ:Mem,σ.le τ -> ∀ j c',(j,c')∈s'.H->j≠k ∧ ∃ c,(j,c)∈s.H∧(c.holds σ β w j->c'.holds τ β w j)) (hnd:(s'.H.map (·.1)).Nodup) :
  ∃ σ' β',Rel N σ' β' s' a w∧Later σ β s.H w σ' β' s'.H w:=by
 let τ:Mem:=fun b => @ite _ (i.has b) (Classical.propDecidable _) (match w.heap[b]? with
  | some (.cells c _ _)=>some c
  | _=>none) (σ b)
 have hpos : ∀ b c e fr,i.has b->w.heap[b]? = some (.cells c e fr)->τ b=some c:=fun b c e fr hb hh=>by
  show @ite _ (i.has b) (Classical.propDecidable _) _ _=_;rw [if_pos hb,hh]
 have hneg : ∀ b,¬i.has b->τ b=σ b:=fun b hb=>by
  show @ite _ (i.has b) (Classical.propDecidable _) _ _=_;rw [if_neg hb]
 have hle:σ.le τ:=fun b c hb=>by
  rw [hneg b]
  ·exact hb
  ·intro hib;rw [(hr.heap.apart k hk i hi b hib).1] at hb;cases hb
 have hlab : ∀ j∈s'.H.map (·.1),j≠k∧j∈s.H.map (·.1):=fun j hj=>by
  obtain ⟨⟨j',c'⟩,hm,rfl⟩:=List.mem_map.1 hj;obtain ⟨h1,c,h2,_⟩:=hch τ hle j' c' hm;exact ⟨h1,List.mem_map.2 ⟨_,h2,rfl⟩⟩
 refine ⟨τ,β,⟨hr.size,hr.defers,fun j=>hsl τ hle hpos j _ (hr.slots j),⟨fun b c hb => ?_,fun j c' hj => ?_,hnd,fun j hj ij hij b hb => ?_,fun j hj j' hj'=>hr.heap.inj j (hlab j hj).2 j' (hlab j' hj').2⟩⟩,hle,Frm.refl _ _,fun b hb hb' => .inl ?_,fun b ⟨j,hj,hjb⟩ => .inl ⟨j,(hlab j hj).2,hjb⟩,fun _ _ _=>rfl⟩
 ·by_cases ho:i.has b
  ·obtain ⟨c0,e,fr,hh⟩:=hcell b ho;rw [hpos b c0 e fr ho hh] at hb;cases hb;exact ⟨_,_,hh⟩
  ·rw [hneg b ho] at hb;exact hr.heap.mem b c hb
 ·obtain ⟨_,c,h2,h3⟩:=hch τ hle j c' hj;exact h3 (hr.heap.chunks j c h2)
 ·have h1:=hlab j hj;have h2:=hr.heap.apart j h1.2 ij hij b hb;refine ⟨?_,h2.2⟩;rw [hneg b fun he=>h1.1 (hr.heap.inj j h1.2 k hk ij i hij hi b hb he)];exact h2.1
 ·by_cases ho:i.has b
  ·exact ⟨k,hk,i,hi,ho⟩
  ·rw [hneg b ho] at hb';exact absurd hb hb'
theorem w5j {N:Nat} {sl sl':List (Nat×LV)} {H H':Heap} {k:Nat} {e e2:TypeId} {sz:Nat} {rows:List (List AV)} (hg:getH H k=some (.ext (.mat e e2 sz rows [])))
  (hsl : ∀ i,getS sl' i=(getS sl i).kill k∨(getS sl i = .hd k 0 rows.length∧getS sl' i = .p (.sl (rows.map .sl))))
  (hsub:(H'.map (·.1)).Sublist (H.map (·.1))) (hH : ∀ j c',(j,c')∈H'->j≠k∧(j,c')∈H∧c'.kill k=c'):Le N ⟨sl,H⟩ ⟨sl',H'⟩:=fun σ β a w hr=>by
 have hk:=QC hg;rcases hr.heap.chunks k _ (QY hg) with ⟨hb0,hr0⟩|⟨i,vs,hi,h1,h2,h3,h4,h5,h6,h7,h8⟩
 ·refine ⟨σ,β,⟨hr.size,hr.defers,fun j => ?_,⟨hr.heap.mem,fun j c' hj => ?_,hsub.nodup hr.heap.nodup,fun j hj=>hr.heap.apart j (hsub.subset hj),fun j hj j' hj'=>hr.heap.inj j (hsub.subset hj) j' (hsub.subset hj')⟩⟩,Mem.le_refl σ,Frm.refl _ _,fun _ h0 h1=>absurd h0 h1,fun b ⟨j,hj,r⟩ => .inl ⟨j,hsub.subset hj,r⟩,fun _ _ _=>rfl⟩
  ·show RepL σ β (getS sl' j) _;have hv:=hr.slots j;rcases hsl j with he|⟨g1,g2⟩
   ·rw [he];exact hv.kill k
   ·rw [g2];have hv:RepL σ β (getS sl j) _:=hv;rw [g1] at hv;rcases hv.hdI with ⟨_,_,_,he⟩|⟨i,_,hk,_⟩
    ·rw [he,hr0];exact .p .nilsl
    ·rw [hb0] at hk;cases hk
  ·exact hr.heap.chunks j c' (hH j c' hj).2.1
 ·have hrow : ∀ (b c a':Nat),i.subs[a']? = some (some (b,c)) -> ∃ ws,w.heap[b]? = some (.cells ws e2 (0,0)):=fun b c a' hs=>by
   have ha:a'<rows.length:=by rw [<- h6];exact (List.getElem?_eq_some_iff.1 hs).1
   rcases (h8 a' _ (List.getElem?_eq_getElem ha)).2 (by simp) with ⟨q1,_⟩|⟨b',c',ws,q1,_,q3,_⟩
   ·rw [hs] at q1;cases q1
   ·rw [hs] at q1;cases q1;exact ⟨ws,q3⟩
  refine hr.layI hi hk (fun b hb => ?_) (fun τ hle hτ j v hv => ?_) (fun τ hle j c' hj => ?_) (hsub.nodup hr.heap.nodup)
  ·rcases hb with rfl|⟨c,hb⟩
   ·exact ⟨_,_,_,h2⟩
   ·obtain ⟨a',ha',hs⟩:=List.mem_iff_getElem.1 hb;obtain ⟨ws,hw⟩:=hrow b c a' (by rw [List.getElem?_eq_getElem ha',hs]);exact ⟨_,_,_,hw⟩
  ·show RepL τ β (getS sl' j) v;have hv:RepL σ β (getS sl j) v:=hv;rcases hsl j with he|⟨g1,g2⟩
   ·rw [he];exact (hv.kill k).mono hle
   ·rw [g2];rw [g1] at hv;rcases hv.hdI with ⟨hk',_⟩|⟨i',oo,hk',hl,ho,rfl⟩
    ·rw [hi] at hk';cases hk'
    ·rw [hi] at hk';cases hk';have hoo:oo=0:=by
      rcases ho with ho|ho
      ·simpa using ho
      ·omega
     subst hoo;have hrl : ∀ (m:Nat) (x:AV),(rows.map AV.sl)[m]? = some x -> ∃ row,rows[m]? = some row∧x = .sl row:=fun m x hx=>by
      rw [List.getElem?_map] at hx;cases hq:rows[m]? with
      | none=>rw [hq] at hx;cases hx
      | some row=>rw [hq] at hx;cases hx;exact ⟨row,rfl,rfl⟩
     have hcellv : ∀ (m:Nat) (row:List AV),rows[m]? = some row -> ∃ u,vs[m]? = some u∧Rep τ (.sl row) u:=fun m row hm=>by
      rcases (h8 m row hm).2 (by simp) with ⟨q1,rfl,q3⟩|⟨b,c,ws,q1,q2,q3,q4,q5,q6,q7⟩
      ·exact ⟨_,q3,.nilsl⟩
      ·refine ⟨_,q2,.sl row b 0 c sz ws (fun m j=>(ws[m*sz+j]?).getD undef) (hτ b ws _ _ (.inr ⟨c,List.mem_of_getElem? q1⟩) q3) q5 q6 (fun m x hx=>(q7 m x hx).1) (fun m x j c' hx hj => ?_) fun m x j c' hx hj => ?_⟩
       ·obtain ⟨u,r4,_⟩:=(q7 m x hx).2 j c' hj;simp [r4]
       ·obtain ⟨u,r4,r5⟩:=(q7 m x hx).2 j c' hj;simpa [r4] using r5.mono hle
     have hfin:Rep τ (.sl (rows.map .sl)) (.slice (some ⟨i.blk,0,none⟩) (rows.map AV.sl).length i.cap):=by
      refine .sl (rows.map .sl) i.blk 0 i.cap 1 vs (fun m j=>(vs[m*1+j]?).getD undef) (hτ _ _ _ _ i.has_blk h2) (by simpa using h4) h5 (fun m x hx => ?_) (fun m x j c' hx hj => ?_) fun m x j c' hx hj => ?_
      ·obtain ⟨row,_,rfl⟩:=hrl m x hx;rfl
      ·obtain ⟨row,g3,rfl⟩:=hrl m x hx;obtain ⟨u,g4,g5⟩:=hcellv m row g3;have hj0:j=0:=by
        have:=(List.getElem?_eq_some_iff.1 hj).1;simpa [AV.cells] using this
       subst hj0;simp [g4]
      ·obtain ⟨row,g3,rfl⟩:=hrl m x hx;obtain ⟨u,g4,g5⟩:=hcellv m row g3;have hj0:j=0:=by
        have:=(List.getElem?_eq_some_iff.1 hj).1;simpa [AV.cells] using this
       subst hj0;cases hj;simpa [g4] using g5
     have:RepL τ β (.p (.sl (rows.map .sl))) (.slice (some ⟨i.blk,0,none⟩) (rows.map AV.sl).length i.cap) := .p hfin;simpa using this
  ·obtain ⟨g1,g2,g3⟩:=hH j c' hj;refine ⟨g1,c',g2,fun hold => ?_⟩;have:=(hold.kill k).mono hle fun _ _ _ _=>rfl
   rwa [g3] at this
theorem w1w {N:Nat} {sl:List (Nat×LV)} {H1 H2:Heap} {k:Nat} {e e2:TypeId} {sz:Nat} {rows rows':List (List AV)} {hole:List Nat} (hl:rows'.length=rows.length) (hr : ∀ (a:Nat) (row':List AV),rows'[a]? = some row' -> ∃ row,rows[a]? = some row∧ElS row row') :
  Le N ⟨sl,H1++(k,.ext (.mat e e2 sz rows hole))::H2⟩ ⟨sl,H1++(k,.ext (.mat e e2 sz rows' hole))::H2⟩:=fun σ β a w hrel=>by
 have hk:(H1++(k,Chunk.ext (.mat e e2 sz rows' hole))::H2).map (·.1)=(H1++(k,Chunk.ext (.mat e e2 sz rows hole))::H2).map (·.1):=by simp
 refine ⟨σ,β,⟨hrel.size,hrel.defers,hrel.slots,⟨hrel.heap.mem,fun j c' hj => ?_,by show ((H1++(k,Chunk.ext (.mat e e2 sz rows' hole))::H2).map (·.1)).Nodup;rw [hk];exact hrel.heap.nodup,fun j hj=>hrel.heap.apart j (by rw [<- hk];exact hj),fun j hj j' hj'=>hrel.heap.inj j (by rw [<- hk];exact hj) j' (by rw [<- hk];exact hj')⟩⟩,Mem.le_refl σ,Frm.refl _ w,fun b h0 h1=>absurd h0 h1,fun b ⟨j,hj,r⟩ => .inl ⟨j,by rw [<- hk];exact hj,r⟩,fun _ _ _=>rfl⟩;rcases List.mem_append.1 hj with h1|h1
 ·exact hrel.heap.chunks j c' (List.mem_append.2 (.inl h1))
 rcases List.mem_cons.1 h1 with h2|h1;rotate_left 1
 ·exact hrel.heap.chunks j c' (List.mem_append.2 (.inr (mem_cons_of_mem _ h1)))
 cases h2;rcases hrel.heap.chunks k _ (List.mem_append.2 (.inr mem_cons_self)) with ⟨g1,g2⟩|⟨i,vs,hi,g1,g2,g3,g4,g5,g6,g7,g8⟩
 ·refine .inl ⟨g1,?_⟩;rw [g2] at hl;exact List.eq_nil_of_length_eq_zero hl
 ·refine .inr ⟨i,vs,hi,g1,g2,g3,by rw [hl];exact g4,g5,by rw [hl];exact g6,g7,fun a' row' ha => ?_⟩;obtain ⟨row,h3,h4,h5⟩:=hr a' row' ha;obtain ⟨h6,h7⟩:=g8 a' row h3;refine ⟨h6,fun hn => ?_⟩;rcases h7 hn with ⟨q1,rfl,q3⟩|⟨b,c,ws,q1,q2,q3,q4,q5,q6,q7⟩
  ·exact .inl ⟨q1,List.eq_nil_of_length_eq_zero h4,q3⟩
  ·refine .inr ⟨b,c,ws,q1,by rw [h4];exact q2,q3,q4,by rw [h4];exact q5,q6,fun m x' hx => ?_⟩;obtain ⟨x,r1,r2,r3⟩:=h5 m x' hx;refine ⟨by rw [r2];exact (q7 m x r1).1,fun p c' hc => ?_⟩;obtain ⟨c0,r4,r5⟩:=r3 p c' hc;obtain ⟨u,r6,r7⟩:=(q7 m x r1).2 p c0 r4;exact ⟨u,r6,r5 _ _ r7⟩
def nxE (rows:List (List Int)) (t:Int×Int):List (List Int):=rows.set t.1.toNat (rows.getD t.1.toNat []++[t.2])
def YU (n:Nat) (l:List (Int×Int)):List (List Int):=l.foldl nxE (List.replicate n [])
def YB (w:Way) (f:Pr):List (Int×Int):=(z0b w f).map (ixP w.p w.j f w.n)
theorem z6h (rows:List (List Int)) (t:Int×Int):(nxE rows t).length=rows.length:=length_set
theorem x5w : ∀ (l:List (Int×Int)) (rows:List (List Int)),(l.foldl nxE rows).length=rows.length
 | [],_=>rfl
 | t::r,rows=>by rw [foldl_cons,x5w r,z6h]
theorem x3h (n:Nat) (l:List (Int×Int)):(YU n l).length=n:=by
 unfold YU;rw [x5w,length_replicate]
theorem x3c : ∀ (l:List (Int×Int)) (rows:List (List Int)) (a:Nat),((l.foldl nxE rows).getD a []).length<=(rows.getD a []).length+l.length
 | [],_,_=>Nat.le_refl _
 | t::r,rows,a=>by
   rw [foldl_cons];have h1:=x3c r (nxE rows t) a;have h2:((nxE rows t).getD a []).length<=(rows.getD a []).length+1:=by
    unfold nxE;simp only [getD_eq_getElem?_getD,List.getElem?_set];by_cases he:t.1.toNat=a
    ·subst he;by_cases hl:t.1.toNat<rows.length
     ·simp [hl]
     ·simp [hl]
    ·simp [he]
   rw [length_cons];omega
theorem x3y (n:Nat) (l:List (Int×Int)) (a:Nat):((YU n l).getD a []).length<=l.length:=by
 have:=x3c l (List.replicate n []) a;have e:((List.replicate n ([]:List Int)).getD a []).length=0:=by
  rw [getD_eq_getElem?_getD,List.getElem?_replicate];split<;>rfl
 unfold YU;omega
theorem z1r {n:Nat} : ∀ (l:List (Int×Int)),(∀ t∈l,(0<=t.1∧t.1<n)∧0<=t.2∧t.2<n) -> ∀ (rows:List (List Int)),(∀ r∈rows,∀ x∈r,0<=x∧x<n) -> ∀ r∈l.foldl nxE rows,∀ x∈r,0<=x∧x<(n:Int)
 | [],_,rows,hr=>hr
 | t::l,hl,rows,hr=>by
   rw [foldl_cons];refine z1r l (fun u hu=>hl u (mem_cons_of_mem _ hu)) _ fun r hm x hx => ?_;unfold nxE at hm;rcases List.mem_or_eq_of_mem_set hm with hm|rfl
   ·exact hr r hm x hx
   ·rcases List.mem_append.1 hx with hx|hx
    ·rw [getD_eq_getElem?_getD] at hx;cases hq:rows[t.1.toNat]? with
     | none=>rw [hq] at hx;cases hx
     | some r=>rw [hq] at hx;exact hr r (List.mem_of_getElem? hq) x hx
    ·rcases List.mem_singleton.1 hx with rfl;exact (hl t mem_cons_self).2
theorem w3n (n:Nat) (l:List (Int×Int)) (h : ∀ t∈l,(0<=t.1∧t.1<n)∧0<=t.2∧t.2<n) : ∀ r∈YU n l,∀ x∈r,0<=x∧x<(n:Int) :=
 z1r l h _ fun r hr x hx=>by rw [List.eq_of_mem_replicate hr] at hx;cases hx
def z5h (n a:Nat):List (List Bool):=((List.range n).map (filRow n)).take a++List.replicate (n-a) []
def z1j (n a b:Nat):List Bool:=(filRow n a).take b++List.replicate (n-b) false
theorem w2n {n a b:Nat} (h:b<=n):(z1j n a b).length=n:=by
 unfold z1j;have:=FR n a;simp;omega
theorem w3m {n a b:Nat} (h:b<n):((z1j n a b).map bv).set b (bv (decide (a<n-1)||decide (a=b)))=(z1j n a (b+1)).map bv:=by
 rw [<- List.map_set];congr 1;unfold z1j;have hl:((filRow n a).take b).length=b:=by have:=FR n a;simp;omega
 have hg:(filRow n a)[b]? = some (decide (a<n-1)||decide (a=b)):=by unfold filRow;simp [h]
 rw [List.set_append_right _ _ (by omega),hl,Nat.sub_self,show n-b=(n-(b+1))+1 by omega,List.replicate_succ,List.set_cons_zero,take_add_one,hg,List.append_assoc];rfl
theorem w4l (n a:Nat):z1j n a n=filRow n a:=by
 unfold z1j;rw [Nat.sub_self,take_of_length_le (by rw [FR];exact Nat.le_refl _)];simp
theorem Sub.bv {b x:Bool} (h:b=x):Sub (.bool b) (bv x):=fun _ _ hr=>by
 subst h;cases b<;>cases hr<;>constructor
theorem ElS.set {es:List AV} {b:Nat} {c c':AV} (hc:c.cells=[c]) (hc':c'.cells=[c']) (h:Sub c c'):ElS (es.set b c) (es.set b c'):=by
 refine ⟨by rw [length_set,length_set],fun m x' hx => ?_⟩;by_cases hm:b=m
 ·subst hm;have hl:b<es.length:=by have:=(List.getElem?_eq_some_iff.1 hx).1;simpa using this
  rw [List.getElem?_set_self hl] at hx;cases hx;refine ⟨c,by rw [List.getElem?_set_self hl],by rw [hc,hc'];rfl,fun j d hd => ?_⟩;rw [hc'] at hd
  match j,hd with
  | 0,hd=>cases hd;exact ⟨c,by rw [hc];rfl,h⟩
  | j+1,hd=>simp at hd
 ·rw [List.getElem?_set_ne hm] at hx;exact ⟨x',by rw [List.getElem?_set_ne hm];exact hx,rfl,fun j d hd=>⟨d,hd,Sub.refl _⟩⟩
theorem v5e {R:List (List AV)} {a:Nat} {r r':List AV} (h:ElS r r') : ∀ (a':Nat) (row':List AV),(R.set a r')[a']? = some row' -> ∃ row,(R.set a r)[a']? = some row∧ElS row row':=fun a' row' hx=>by
 by_cases hm:a=a'
 ·subst hm;have hl:a<R.length:=by have:=(List.getElem?_eq_some_iff.1 hx).1;simpa using this
  rw [List.getElem?_set_self hl] at hx;cases hx;exact ⟨r,List.getElem?_set_self hl,h⟩
 ·rw [List.getElem?_set_ne hm] at hx;exact ⟨row',by rw [List.getElem?_set_ne hm];exact hx,ElS.refl _⟩
theorem w1a {n a:Nat} (h:a<=n):(z5h n a).length=n:=by
 unfold z5h;simp;omega
theorem w4t {n a:Nat} (h:a<n):(z5h n a).set a (filRow n a)=z5h n (a+1):=by
 unfold z5h;have hl:(((List.range n).map (filRow n)).take a).length=a:=by simp;omega
 have hg:((List.range n).map (filRow n))[a]? = some (filRow n a):=by simp [h]
 rw [List.set_append_right _ _ (by omega),hl,Nat.sub_self,show n-a=(n-(a+1))+1 by omega,List.replicate_succ,List.set_cons_zero,take_add_one,hg,List.append_assoc];rfl
inductive SlRel (P:LV->LV->Prop):List (Nat×LV)->List (Nat×LV)->Prop
 | nil:SlRel P [] []
 | cons {j:Nat} {l l':LV} {r r':List (Nat×LV)} (h:P l l') (hr:SlRel P r r'):SlRel P ((j,l)::r) ((j,l')::r')
theorem SlRel.get {P:LV->LV->Prop} (h0:P (.p .any) (.p .any)) {sl sl':List (Nat×LV)} (h:SlRel P sl sl') (i:Nat):P (getS sl i) (getS sl' i):=by
 induction h with
 | nil=>exact h0
 | @cons j l l' r r' h hr ih =>
   simp only [getS];cases j==i with
   | true=>exact h
   | false=>exact ih
theorem z3a {N':Nat} (w:Way) (n:Nat) (nx:List (List Int)) (hn:nx.length=n) (x1 x2:AV) :
  Le N' ⟨[(0,.p (.ip w.cells)),(3,.hd 0 0 n),(6,.hd 1 0 n),(46,.p x1),(47,.p x2)],[(1,.own 135 1 (List.replicate n .nils)),(0,.ext (.mat 70 3 1 (avI nx) []))]⟩
   ⟨[(0,.p (.ip w.cells)),(3,.p (x4r nx)),(6,.hd 1 0 n),(46,.p x1),(47,.p x2)],[(1,.ext (.mat 135 4 1 (List.replicate n []) []))]⟩:=by
 have hm:=q2r (N:=N') (sl:=[(0,.p (.ip w.cells)),(3,.hd 0 0 n),(6,.hd 1 0 n),(46,.p x1),(47,.p x2)]) (H:=[(1,.own 135 1 (List.replicate n .nils)),(0,.ext (.mat 70 3 1 (avI nx) []))])
  (H':=[(1,.ext (.mat 135 4 1 (List.replicate (List.replicate n AV.nils).length []) [])),(0,.ext (.mat 70 3 1 (avI nx) []))])
  1 4 1 (e:=135) (es:=List.replicate n .nils) rfl (fun x hx=>List.eq_of_mem_replicate hx) rfl rfl rfl rfl (by simp [KH])
 rw [length_replicate] at hm;have hl:(avI nx).length=n:=by unfold avI;rw [length_map,hn]
 refine hm.trans (w5j (k:=0) (e:=70) (e2:=3) (sz:=1) (rows:=avI nx) rfl (fun i => ?_) (by show [1].Sublist [1,0];decide) fun j c' hj => ?_)
 ·refine SlRel.get (P:=fun l l'=>l'=l.kill 0∨(l = .hd 0 0 (avI nx).length∧l' = .p (.sl ((avI nx).map .sl)))) (.inl rfl) ?_ i;exact .cons (.inl rfl) (.cons (.inr ⟨by rw [hl],rfl⟩) (.cons (.inl rfl) (.cons (.inl rfl) (.cons (.inl rfl) .nil))))
 ·rcases List.mem_singleton.1 hj with h;cases h;exact ⟨by decide,mem_cons_self,rfl⟩
theorem w2h (n:Nat):z5h n n=(List.range n).map (filRow n):=by
 unfold z5h;rw [Nat.sub_self,take_of_length_le (by simp)];simp
theorem z9q {N':Nat} {sl:List (Nat×LV)} (n:Nat) (h0:(sl.all fun x=>x.2.xfree 0)=true) :
  Le N' ⟨sl,[(0,.own 70 1 (List.replicate n .nils))]⟩ ⟨sl,[(0,.ext (.mat 70 3 1 (List.replicate n []) []))]⟩:=by
 have hm:=q2r (N:=N') (sl:=sl) (H:=[(0,.own 70 1 (List.replicate n .nils))])
  (H':=[(0,.ext (.mat 70 3 1 (List.replicate (List.replicate n AV.nils).length []) []))])
  0 3 1 (e:=70) (es:=List.replicate n .nils) rfl (fun x hx=>List.eq_of_mem_replicate hx) rfl h0 rfl rfl (by simp [KH])
 simpa using hm
theorem DF (w:Way) (f:Pr) (n:Nat) (h:WayT w f n) (hp : ∀ t∈YB w f,(0<=t.1∧t.1<n)∧0<=t.2∧t.2<n) (hlen:(z0b w f).length<=1000000):SpecP Tryz.prog 119 [.ip w.cells] (fun r => ∃ fm:List (List Bool),FollowP n (YU n (YB w f)) fm∧r = .sl ((bmI fm).map .sl)):=by
 refine sB q1h Tryz.func119 rfl Tryz.call119 ?_;conv=>whnf
 have hwn:=h.hw;have hn5:=h.hn;have hn2:=h.hn2;have hA:=x7n w f n h;have hP:=KB w f h.hj h.hc (by omega) (z0b w f) hlen;have hpl:(avP (YB w f)).length=(YB w f).length:=by unfold avP;rw [length_map]
 have hpl2:(YB w f).length<=1000000:=by unfold YB;rw [length_map];exact hlen
 have hPe:(z0b w f).map (ixP w.p w.j f w.n)=YB w f:=rfl;rw [hPe] at hP;repeat' ((first|(refine iM fun _=>?_)|refine aR ?_|refine MkK.mk n (by omega) (by show 24*_<=140737488355328;omega) (by unfold maxLen;omega) ?_|refine cP hA ?_|refine cP hP ?_);conv=>whnf)
 refine LoopK.inv QV (fun j:Nat=>⟨[(0,.p (.ip w.cells)),(3,.hd 0 0 n),(20,.p (.sl (avP (YB w f)))),(21,.p (.int .i64 (avP (YB w f)).length)),(22,.p (.int .i64 j))],[(0,.ext (.mat 70 3 1 (avI (YU n ((YB w f).take j))) []))]⟩) (fun j=>j<=(YB w f).length) (fun j=>(YB w f).length-j) 0
  (by
    refine Le.trans (z9q n rfl) ?_;exact Le.mk [] (by simp) (by simp) (by simp) (.cons (.refl _) (.cons (.refl _) (.cons (.refl _) (.cons (.refl _) (.cons (.refl _) .nil))))) (.cons rfl (.of_eq (by simp [avI,YU])) .nil)) (zero_le _) ?_
 intro j h2;rcases Nat.lt_or_ge j (YB w f).length with hj|hj
 ·have hme:(avP (YB w f))[j]? = some (.agg [.int .i64 (YB w f)[j].1,.int .i64 (YB w f)[j].2]):=by simp [avP,hj]
  obtain ⟨⟨q1,q2⟩,q3,q4⟩:=hp _ (List.getElem_mem hj);have hst:YU n ((YB w f).take (j+1))=nxE (YU n ((YB w f).take j)) (YB w f)[j]:=by
   unfold YU;rw [List.take_succ_eq_append_getElem hj,List.foldl_append];rfl
  have hrl:=x3h n ((YB w f).take j);have hcnt:=x3y n ((YB w f).take j) (YB w f)[j].1.toNat;generalize (YB w f)[j]=t at hme q1 q2 q3 q4 hst hcnt;generalize YU n ((YB w f).take j)=rows at hst hrl hcnt ⊢;obtain ⟨a,ha⟩ : ∃ a:Nat,t.1=a:=⟨t.1.toNat,by omega⟩;have hal:a<rows.length:=by omega
  have hrow:(avI rows)[a]? = some (rows[a].map (.int .i64)):=by unfold avI;rw [List.getElem?_map,List.getElem?_eq_getElem hal];rfl
  have hput:(avI rows).set a (rows[a].map (.int .i64)++[.int .i64 t.2])=avI (nxE rows t):=by
   unfold nxE avI;rw [ha,Int.toNat_natCast,getD_eq_getElem?_getD,List.getElem?_eq_getElem hal,Option.getD_some,List.map_set,List.map_append];rfl
  have hcl:rows[a].length<=1000000:=by
   rw [ha,Int.toNat_natCast,getD_eq_getElem?_getD,List.getElem?_eq_getElem hal,Option.getD_some,length_take] at hcnt;omega
  rw [ha] at hme;conv=>whnf
  repeat' (first|((first|refine And.intro rfl ?_|refine aD ?_|refine wI ?_|refine DrawK.of QV mixed (.cons 0 false (.cons 1 false (.cons 2 false (.cons 3 false (.cons 4 false (.cons 5 false (.cons 6 false (.cons 8 false (.cons 9 false (.alo 7 (.cons 10 true (.cons 11 true (.cons 12 true (.cons 13 true .nil)))))))))))))) (by kernel_rfl) ?_|(refine IdxK.at (k:=j) rfl hme rfl ?_)|refine IdxL.mk 0 rfl (by decide) ?_|refine IdxL.mk 1 rfl (by decide) ?_|refine IdxL.mk a rfl (by omega) ?_|refine RowK.mk a _ (by omega) hrow (by simp) ?_|refine BsK.own (fun x hx=>by rcases List.mem_singleton.1 hx with rfl;rfl) rfl ?_|refine OpK.focus QV 33 0 a 2 rfl rfl hrow (by simp) rfl rfl ?_|refine ZU rfl (by rw [length_map];omega) ?_|(refine KJ QV rfl rfl rfl rfl rfl rfl rfl rfl rfl (by decide) a [] (by omega) (by unfold avI;rw [length_map];omega) (by simp) ⟨by simp,by simp,by simp⟩ ?_));conv=>whnf)|(apply bD<;>intro _<;>first|omega|conv=>whnf))
  all_goals exact ⟨j+1,hj,by omega,Le.of_eq (by rw [hst,<- hput];rfl)⟩
 ·conv=>whnf
  repeat' (first|((first|(refine iM fun _=>?_)|refine aR ?_|refine MkK.mk n (by omega) (by show 24*_<=140737488355328;omega) (by unfold maxLen;omega) ?_);conv=>whnf)|(apply bD<;>intro _<;>first|omega|conv=>whnf))
  have hje:(YB w f).take j=YB w f:=take_of_length_le hj;rw [hje];have hNl:=x3h n (YB w f);have hNi:=w3n n (YB w f) hp;have hNc:=x3y n (YB w f);generalize YU n (YB w f)=nx at hNl hNi hNc ⊢;refine LoopK.inv QV (fun a:Nat=>⟨[(0,.p (.ip w.cells)),(3,.p (x4r nx)),(6,.hd 1 0 n),(46,.p (.int .i64 n)),(47,.p (.int .i64 a))],[(1,.ext (.mat 135 4 1 (bmI (z5h n a)) []))]⟩) (fun a=>a<=n) (fun a=>n-a) 0
   (by
     refine Le.trans (z3a w n nx hNl _ _) ?_;exact Le.mk [] (by simp) (by simp) (by simp) (.cons (.refl _) (.cons (.refl _) (.cons (.refl _) (.cons (.refl _) (.cons (.refl _) .nil))))) (.cons rfl (.of_eq (by simp [bmI,z5h])) .nil)) (zero_le _) ?_
  intro a h3;rcases Nat.lt_or_ge a n with ha|ha
  ·have hfl:=w1a (n:=n) h3;have hset:=w4t (n:=n) ha;generalize z5h n a=rows at hfl hset ⊢;have hrl:(bmI rows).length=n:=by unfold bmI;rw [length_map,hfl]
   conv=>whnf
   repeat' (first|((first|refine And.intro rfl ?_|refine aR ?_|refine MkK.mk n (by omega) (by show 1*_<=140737488355328;omega) (by unfold maxLen;omega) ?_|refine IdxL.mk a rfl ha ?_|(refine KJ QV rfl rfl rfl rfl rfl rfl rfl rfl rfl (by decide) a [] (by omega) (by omega) (by simp) ⟨by simp,by simp,by simp⟩ ?_)|refine RowK.mk a (List.replicate n .ff) (by omega) (by rw [List.getElem?_set_self (by omega)];rfl) (by simp) ?_);conv=>whnf)|(apply bD<;>intro _<;>first|omega|conv=>whnf))
   refine LoopK.inv QV (fun b:Nat=>⟨[(0,.p (.ip w.cells)),(3,.p (x4r nx)),(6,.hd 1 0 n),(7,.p (.int .i64 a)),(46,.p (.int .i64 n)),(47,.p (.int .i64 a)),(62,.p (.int .i64 n)),(63,.p (.int .i64 b))],[(1,.ext (.mat 135 4 1 ((bmI rows).set a ((z1j n a b).map bv)) []))]⟩) (fun b=>b<=n) (fun b=>n-b) 0
    (Le.of_eq (by rw [length_replicate,show (z1j n a 0).map bv=List.replicate n .ff by unfold z1j;simp [bv]];rfl)) (zero_le _) ?_
   intro b h4;rcases Nat.lt_or_ge b n with hb|hb
   ·have hfs:=w3m (n:=n) (a:=a) hb;have htl:=w2n (n:=n) (a:=a) h4;have hrow:((bmI rows).set a ((z1j n a b).map bv))[a]? = some ((z1j n a b).map bv):=List.getElem?_set_self (by omega);have hrln:((z1j n a b).map bv).length=n:=by rw [length_map,htl]
    generalize (z1j n a b).map bv=row at hfs hrow hrln ⊢;conv=>whnf
    repeat' (first|((first|refine dA ?_|refine And.intro rfl ?_|refine Wr.eq (m:=(n:Int)-1) (by omega) (by omega) (by omega) ?_|refine wI ?_|refine IdxL.mk a rfl ha ?_|refine RowK.mk a row (by omega) hrow (by simp) ?_|refine IdxL.mk b rfl (by omega) ?_|refine w5u QV rfl rfl rfl rfl rfl rfl rfl rfl rfl hrow (by simp) (by omega) ?_);conv=>whnf)|(apply bD<;>intro _<;>first|omega|conv=>whnf))
    have e1 : ∀ c,((bmI rows).set a row).set a (row.set (b*1) c)=(bmI rows).set a (row.set b c):=fun c=>by rw [List.set_set,Nat.mul_one]
    ·have hx:(decide (a<n-1)||decide (a=b))=true:=by rw [decide_eq_true (by omega)];rfl
     rw [hx] at hfs;exact ⟨b+1,by omega,by omega,Le.of_eq (by rw [e1,<- hfs];rfl)⟩
    ·have hx:(decide (a<n-1)||decide (a=b))=((a:Int)==b):=by
      rw [decide_eq_false (by omega),Bool.false_or];by_cases hab:a=b
      ·subst hab;simp
      ·have : ¬(a:Int)=b:=by omega
       rw [decide_eq_false hab,beq_eq_false_iff_ne.2 this]
     have e1 : ∀ c,((bmI rows).set a row).set a (row.set (b*1) c)=(bmI rows).set a (row.set b c):=fun c=>by rw [List.set_set,Nat.mul_one]
     rw [hx] at hfs;refine ⟨b+1,by omega,by omega,?_⟩;rw [e1];exact ((w1w (H1:=[]) (rows':=(bmI rows).set a (row.set b (bv ((a:Int)==b)))) (by rw [length_set,length_set]) (v5e (ElS.set rfl (NH _) (Sub.bv rfl)))).trans (Le.of_eq (by rw [hfs];rfl)))
   ·have hbe:b=n:=by omega
    subst hbe;rw [w4l];have hbm:(bmI rows).set a ((filRow b a).map bv)=bmI (z5h b (a+1)):=by
     rw [<- hset];unfold bmI;rw [List.map_set]
    rw [hbm];conv=>whnf
    repeat' (first|(refine wI ?_;conv=>whnf)|(apply bD<;>intro _<;>first|omega|conv=>whnf))
    exact ⟨a+1,by omega,by omega,Le.of_eq rfl⟩
  ·have hae:a=n:=by omega
   rw [hae,w2h];have hS:=FolI.start hn2 nx;have hnx : ∀ a,∀ x∈nx.getD a [],0<=x∧x<(n:Int):=fun a x hx=>by
    rw [getD_eq_getElem?_getD] at hx;cases hq:nx[a]? with
    | none=>rw [hq] at hx;cases hx
    | some r=>rw [hq] at hx;exact hNi r (List.mem_of_getElem? hq) x hx
   generalize (List.range n).map (filRow n)=fm0 at hS ⊢;clear h3 ha hae a;conv=>whnf
   repeat' (apply bD<;>intro _<;>first|omega|conv=>whnf)
   refine LoopK.inv QV (fun x:List (List Bool)×Bool=>⟨[(0,.p (.ip w.cells)),(3,.p (x4r nx)),(6,.hd 1 0 n),(9,.p (bv x.2))],[(1,.ext (.mat 135 4 1 (bmI x.1) []))]⟩) (fun x=>FolI n nx x.1∧(x.2=false -> ∀ a,a<n-1->x.1.getD a []=rowF n nx x.1 a)) (fun x=>2*z0d x.1+x.2.toNat) (fm0,true)
    (Le.of_eq rfl) ⟨hS,fun h=>by cases h⟩ ?_
   rintro ⟨fm,turned⟩ ⟨hI,hfix⟩;simp only at hI hfix ⊢;cases turned with
   | false =>
     have hbl:n=(bmI fm).length:=by unfold bmI;rw [length_map,hI.len]
     conv=>whnf
     skip
     exact ⟨_,.mat rfl hbl,fm,⟨hI,hfix rfl⟩,rfl⟩
   | true =>
     conv=>whnf
     repeat' (refine Wr.eq (m:=(n:Int)-2) (by omega) (by omega) (by omega) ?_;conv=>whnf)
     refine LoopK.inv QV (fun y:List (List Bool)×Bool×Int=>⟨[(0,.p (.ip w.cells)),(3,.p (x4r nx)),(6,.hd 1 0 n),(9,.p (bv y.2.1)),(10,.p (.int .i64 y.2.2))],[(1,.ext (.mat 135 4 1 (bmI y.1) []))]⟩)
      (fun y=>FolI n nx y.1∧(-1<=y.2.2∧y.2.2<=(n:Int)-2)∧(y.2.1=false->y.1=fm ∧ ∀ a':Nat,y.2.2<a'->a'<n-1->fm.getD a' []=rowF n nx fm a')∧(y.2.1=true->z0d y.1<z0d fm)) (fun y=>(y.2.2+1).toNat) (fm,false,(n:Int)-2)
      (Le.of_eq rfl) ⟨hI,⟨by simp only;omega,by simp only;omega⟩,fun _=>⟨rfl,fun a' h1 h2=>by simp only at h1;omega⟩,fun h=>by cases h⟩ ?_
     rintro ⟨gm,t,a⟩ ⟨hG,⟨ha1,ha2⟩,hf,hl⟩;simp only at hG ha1 ha2 hf hl ⊢;rcases Int.lt_or_le a 0 with ha0|ha0
     ·have hae:a = -1:=by omega
      subst hae;have fin : ∃ x:List (List Bool)×Bool,x=(gm,t)∧2*z0d x.1+x.2.toNat<2*z0d fm+1:=⟨_,rfl,by
       cases t with
       | true=>have:=hl rfl;simp only [Bool.toNat_true];omega
       | false=>rw [(hf rfl).1];simp⟩
      obtain ⟨x,rfl,hm⟩:=fin;conv=>whnf
      repeat' (apply bD<;>intro _<;>first|omega|conv=>whnf)
      refine ⟨(gm,t),⟨hG,fun ht a ha => ?_⟩,hm,lE⟩;simp only at ht ⊢;obtain ⟨q1,q2⟩:=hf ht;rw [q1];exact q2 a (by omega) ha
     ·obtain ⟨i,rfl⟩ : ∃ i:Nat,a=i:=⟨a.toNat,by omega⟩;have hin:i<n-1:=by omega
      have hinx:i<nx.length:=by omega
      have higm:i<gm.length:=by rw [hG.len];omega
      have hNr:((avI nx).map AV.sl)[i]? = some (.sl (nx[i].map (.int .i64))):=by unfold avI;rw [List.map_map,List.getElem?_map,List.getElem?_eq_getElem hinx];rfl
      have hng:nx.getD i []=nx[i]:=by rw [getD_eq_getElem?_getD,List.getElem?_eq_getElem hinx];rfl
      have hgg:gm.getD i []=gm[i]:=by rw [getD_eq_getElem?_getD,List.getElem?_eq_getElem higm];rfl
      have hcl:nx[i].length<=1000000:=by have:=hNc i;rw [hng] at this;omega
      have hSh:=z2n gm nx[i] n hG.len hn5 hG.rows hcl (fun x hx=>hnx i x (by rw [hng];exact hx));have hse:((XH gm nx[i] n).map bv)[i]? = some (bv (JZ gm nx[i] i)):=by unfold XH;rw [List.map_map,List.getElem?_map,List.getElem?_range (by omega)];rfl
      have hst:((XH gm nx[i] n).map bv).set i (bv true)=(rowF n nx gm i).map bv:=by
       unfold rowF;rw [hng,List.map_set]
      have hgr:(bmI gm)[i]? = some (gm[i].map bv):=by unfold bmI;rw [List.getElem?_map,List.getElem?_eq_getElem higm];rfl
      have hgl:(gm[i].map bv).length=n:=by rw [length_map];exact hG.rows _ (List.getElem_mem higm)
      have hrl:((rowF n nx gm i).map bv).length=n:=by rw [length_map,PB]
      have hbl:(bmI gm).length=n:=by unfold bmI;rw [length_map,hG.len]
      have hEq:=GQ (rowF n nx gm i) gm[i];by_cases hq:rowF n nx gm i=gm[i]
      ·rw [decide_eq_true hq] at hEq;have fin : ∃ y:List (List Bool)×Bool×Int,y=(gm,t,(i:Int)-1)∧(FolI n nx y.1∧(-1<=y.2.2∧y.2.2<=(n:Int)-2)∧(y.2.1=false->y.1=fm ∧ ∀ a':Nat,y.2.2<a'->a'<n-1->fm.getD a' []=rowF n nx fm a')∧(y.2.1=true->z0d y.1<z0d fm)):=⟨_,rfl,hG,⟨by simp only;omega,by simp only;omega⟩,fun ht=>by
        obtain ⟨q1,q2⟩:=hf ht;refine ⟨q1,fun a' h1 h2 => ?_⟩;simp only at h1;by_cases he:a'=i
        ·subst he;subst q1;rw [hgg,hq]
        ·exact q2 a' (by omega) h2,hl⟩
       obtain ⟨y,rfl,hfin⟩:=fin;conv=>whnf
       repeat' (first|((first|refine And.intro rfl ?_|(refine IdxK.at (k:=i) rfl hNr rfl ?_)|refine IdxL.mk i rfl (by omega) ?_|refine StOwn.mk i 0 _ (bv true) (by show (0+i)*1=i*1+0;omega) hse (Nat.le_refl _) (by rw [NH,NH];rfl) ?_|refine RowK.mk i _ (by omega) hgr (by simp) ?_);conv=>whnf)|(apply bD<;>intro _<;>first|omega|conv=>whnf)|(refine CallK.heap [(1000,1)] 5 (ArgsH.cons (LSub.refl _) (ArgsH.cons (LSub.refl _) ArgsH.nil)) (by refine BlksH.cons (j:=1) rfl rfl ?_ ?_;exact CSub.refl _;exact BlksH.nil) hSh rfl rfl ?_;rintro l' H' ⟨rfl,rfl⟩;conv=>whnf))
       rw [hst];repeat' (first|((first|refine And.intro rfl ?_|refine Wr.eq (m:=(i:Int)-1) (by omega) (by omega) (by omega) ?_|refine IdxL.mk i rfl (by omega) ?_|(refine KJ QV rfl rfl rfl rfl rfl rfl rfl rfl rfl (by decide) i [] (by omega) (by omega) hrl.symm ⟨by simp,by simp,by simp⟩ ?_));conv=>whnf)|(apply bN<;>intro _<;>conv=>whnf)|(refine QI hEq (.cons (.hd rfl hrl.symm) (.cons (.row rfl hgr (by simp)) .nil)) (by rintro _ rfl;rfl) ?_;rintro _ rfl;conv=>whnf))
       all_goals first
        | exact ⟨_,hfin,by simp only;omega,lE⟩
        | (exfalso;simp_all;done)
      ·rw [decide_eq_false hq] at hEq;have hsb:(bmI gm).set i ((rowF n nx gm i).map bv)=bmI (gm.set i (rowF n nx gm i)):=by unfold bmI;rw [List.map_set]
       have hne:rowF n nx gm i≠gm.getD i []:=by rw [hgg];exact hq
       have fin : ∃ y:List (List Bool)×Bool×Int,y=(gm.set i (rowF n nx gm i),true,(i:Int)-1)∧(FolI n nx y.1∧(-1<=y.2.2∧y.2.2<=(n:Int)-2)∧(y.2.1=false->y.1=fm ∧ ∀ a':Nat,y.2.2<a'->a'<n-1->fm.getD a' []=rowF n nx fm a')∧(y.2.1=true->z0d y.1<z0d fm)):=⟨_,rfl,hG.step hnx hin,⟨by simp only;omega,by simp only;omega⟩,fun ht=>by (simp only at ht;cases ht),fun _=>by
        have h1:=hG.less hin hne;cases t with
        | true=>exact Nat.lt_trans h1 (hl rfl)
        | false=>rw [(hf rfl).1] at h1 ⊢;exact h1⟩
       obtain ⟨y,rfl,hfin⟩:=fin;conv=>whnf
       repeat' (first|((first|refine And.intro rfl ?_|(refine IdxK.at (k:=i) rfl hNr rfl ?_)|refine IdxL.mk i rfl (by omega) ?_|refine StOwn.mk i 0 _ (bv true) (by show (0+i)*1=i*1+0;omega) hse (Nat.le_refl _) (by rw [NH,NH];rfl) ?_|refine RowK.mk i _ (by omega) hgr (by simp) ?_);conv=>whnf)|(apply bD<;>intro _<;>first|omega|conv=>whnf)|(refine CallK.heap [(1000,1)] 5 (ArgsH.cons (LSub.refl _) (ArgsH.cons (LSub.refl _) ArgsH.nil)) (by refine BlksH.cons (j:=1) rfl rfl ?_ ?_;exact CSub.refl _;exact BlksH.nil) hSh rfl rfl ?_;rintro l' H' ⟨rfl,rfl⟩;conv=>whnf))
       rw [hst];repeat' (first|((first|refine And.intro rfl ?_|refine Wr.eq (m:=(i:Int)-1) (by omega) (by omega) (by omega) ?_|refine IdxL.mk i rfl (by omega) ?_|(refine KJ QV rfl rfl rfl rfl rfl rfl rfl rfl rfl (by decide) i [] (by omega) (by omega) hrl.symm ⟨by simp,by simp,by simp⟩ ?_));conv=>whnf)|(apply bN<;>intro _<;>conv=>whnf)|(refine QI hEq (.cons (.hd rfl hrl.symm) (.cons (.row rfl hgr (by simp)) .nil)) (by rintro _ rfl;rfl) ?_;rintro _ rfl;conv=>whnf))
       all_goals first
        | exact ⟨_,hfin,by simp only;omega,Le.mk [] (by simp) (by simp) (by simp) (.cons (.refl _) (.cons (.refl _) (.cons (.refl _) (.cons (.refl _) (.cons (.refl _) .nil))))) (.cons rfl (.of_eq (by rw [hsb])) .nil)⟩
        | (exfalso;simp_all;done)
structure DimB (n:Nat) (M:List (List Bool)):Prop where
 len:M.length=n
 rows : ∀ r∈M,r.length=n
theorem DimB.row {n:Nat} {M:List (List Bool)} (h:DimB n M) {a:Nat} (ha:a<n):(bmI M)[a]? = some ((M.getD a []).map bv)∧((M.getD a []).map bv).length=n:=by
 have hal:a<M.length:=by rw [h.len];exact ha
 have e:M.getD a []=M[a]:=by rw [getD_eq_getElem?_getD,List.getElem?_eq_getElem hal];rfl
 rw [e];refine ⟨by unfold bmI;rw [List.getElem?_map,List.getElem?_eq_getElem hal];rfl,?_⟩;rw [length_map];exact h.rows _ (List.getElem_mem hal)
theorem DimB.bit {n:Nat} {M:List (List Bool)} (h:DimB n M) {a b:Nat} (ha:a<n) (hb:b<n):((M.getD a []).map bv)[b]? = some (bv (bitF M a b)):=by
 obtain ⟨_,h2⟩:=h.row ha;have hbl:b<(M.getD a []).length:=by rw [length_map] at h2;omega
 rw [List.getElem?_map,List.getElem?_eq_getElem hbl];unfold bitF;rw [getD_eq_getElem?_getD (l:=M.getD a []) (i:=b),List.getElem?_eq_getElem hbl];rfl
structure NoGo (sh:Sheet) (f:Pr) (lo hi:Nat) (T:Int->Prop):Prop where
 cl : ∀ (k:Nat) (it:Item),lo<=k->k<hi->sh.l[k]? = some it->T it.s.id->it.s.kind≠10 ∧ ∀ y∈goesI sh f it,T y
 id : ∀ (k:Nat) (it:Item),lo<=k->k<hi->sh.l[k]? = some it->it.s.id=(k:Int)+1
 ld : ∀ (k:Nat) (it:Item),lo<=k->k<hi->sh.l[k]? = some it->it.s.kind=7∨it.s.kind=8->it.loop≠0
 lp : ∀ (k:Nat) (it:Item),lo<=k->k<hi->sh.l[k]? = some it->it.loop=0 ∨ ∃ u,sh.l[(it.loop-1).toNat]? = some u
def w9c (sh:Sheet) (T:Int->Prop) (nx lp:Int):Prop:=T nx∨T (-1)∨(lp≠0∧(T lp ∨ ∃ u,sh.l[(lp-1).toNat]? = some u∧T u.next))
def atP (sh:Sheet) (n:Nat) (l:List Item):Prop := ∀ (i:Nat) (it:Item),l[i]? = some it->sh.l[n+i]? = some it
theorem atP.left {sh:Sheet} {n:Nat} {a b:List Item} (h:atP sh n (a++b)):atP sh n a:=fun i it hi=>h i it (by
 rw [List.getElem?_append_left (List.getElem?_eq_some_iff.1 hi).1];exact hi)
theorem atP.right {sh:Sheet} {n:Nat} {a b:List Item} (h:atP sh n (a++b)):atP sh (n+a.length) b:=fun i it hi=>by
 rw [Nat.add_assoc];exact h (a.length+i) it (by rw [List.getElem?_append_right (by omega),Nat.add_sub_cancel_left];exact hi)
theorem v0j (proc up nx lp:Int) (n:Nat) (v:S) (r:List S) : ∃ it∈itL proc up nx lp n (v::r),it.s=v:=by
 rw [itL,z8h];exact ⟨_,List.mem_append.2 (.inl mem_cons_self),rfl⟩
mutual
theorem v6y {sh:Sheet} {f:Pr} {lo hi:Nat} {T:Int->Prop} (hT:NoGo sh f lo hi T) (proc:Int) : ∀ (t:S) (up nx lp:Int) (n:Nat),atP sh n (itS proc up nx lp n t)->lo<=n->n+XB t<=hi->(∃ it∈itS proc up nx lp n t,T it.s.id)->w9c sh T nx lp
 | .mk id kind labels name pr x has args thn els,up,nx,lp,n,hp,h1,h2,h3=>by
   rw [itS] at hp h3;rw [XB] at h2;have hself:sh.l[n]? = some ⟨.mk id kind labels name pr x has args thn els,proc,up,nx,lp⟩:=hp 0 _ rfl;have hcl:=hT.cl n _ h1 (by omega) hself;have hid:=hT.id n _ h1 (by omega) hself;have hld:=hT.ld n _ h1 (by omega) hself;have hlp:=hT.lp n _ h1 (by omega) hself;have hp1:atP sh (n+1) (itL proc (n+1) (if kind=6 then n+1 else nx) (if kind=6 then n+1 else lp) (n+1) thn++itL proc (n+1) (if kind=6 then n+1 else nx) (if kind=6 then n+1 else lp) (n+1+cntL thn) els):=fun i it hi=>by
    have:=hp (i+1) it (by simpa using hi)
    rwa [show n+(i+1)=n+1+i by omega] at this
   have hw:kind=6->T ((n:Int)+1)->T nx:=fun hk h=>by
    have h5:T (S.mk id kind labels name pr x has args thn els).id:=by
     rw [show (S.mk id kind labels name pr x has args thn els).id=(n:Int)+1 from hid];exact h
    refine (hcl h5).2 nx ?_;unfold goesI;rw [if_neg (by show ¬kind=5;omega),if_pos (by exact hk)];simp
   have hin:w9c sh T (if kind=6 then ((n:Int)+1) else nx) (if kind=6 then ((n:Int)+1) else lp)->w9c sh T nx lp:=fun h=>by
    by_cases hk:kind=6
    ·rw [if_pos hk,if_pos hk] at h;rcases h with h|h|⟨_,h|⟨u,hu,h⟩⟩
     ·exact .inl (hw hk h)
     ·exact .inr (.inl h)
     ·exact .inl (hw hk h)
     ·rw [show ((n:Int)+1-1).toNat=n by omega,hself] at hu;cases hu;exact .inl h
    ·rw [if_neg hk,if_neg hk] at h;exact h
   have hthn:(∃ it∈itL proc (n+1) (if kind=6 then n+1 else nx) (if kind=6 then n+1 else lp) (n+1) thn,T it.s.id)->w9c sh T nx lp:=fun h =>
    hin (v2j hT proc thn _ _ _ (n+1) hp1.left (by omega) (by omega) h)
   obtain ⟨it,hit,hti⟩:=h3;rcases List.mem_cons.1 hit with rfl|hit
   ·obtain ⟨hk10,hgo⟩:=hcl hti;have hk10:kind≠10:=hk10;by_cases hk5:kind=5
    ·cases thn with
     | nil =>
       refine .inl (hgo nx ?_);unfold goesI;rw [if_pos (by exact hk5)];simp [DG,S.thn]
     | cons v r =>
       have:T v.id:=by
        refine hgo v.id ?_;unfold goesI;rw [if_pos (by exact hk5)];simp [DG,S.thn]
       obtain ⟨iv,h5,h6⟩:=v0j proc (n+1) (if kind=6 then n+1 else nx) (if kind=6 then n+1 else lp) (n+1) v r;exact hthn ⟨iv,h5,by rw [h6];exact this⟩
    by_cases hk6:kind=6
    ·refine .inl (hw hk6 ?_);rw [<- show (S.mk id kind labels name pr x has args thn els).id=(n:Int)+1 from hid];exact hti
    by_cases hk7:kind=7
    ·have hl0:=hld (.inl hk7);rcases hlp with h5|⟨u,hu⟩
     ·exact absurd h5 hl0
     ·refine .inr (.inr ⟨hl0,.inr ⟨u,hu,hgo _ ?_⟩⟩);unfold goesI;rw [if_neg (by exact hk5),if_neg (by exact hk6),if_pos (by exact hk7)];simp only at hu;rw [hu];simp
    by_cases hk8:kind=8
    ·refine .inr (.inr ⟨hld (.inr hk8),.inl (hgo _ ?_)⟩);unfold goesI;rw [if_neg (by exact hk5),if_neg (by exact hk6),if_neg (by exact hk7),if_pos (by exact hk8)];simp
    by_cases hk9:kind=9
    ·refine .inr (.inl (hgo _ ?_));unfold goesI;rw [if_neg (by exact hk5),if_neg (by exact hk6),if_neg (by exact hk7),if_neg (by exact hk8),if_pos (by exact hk9)];simp
    ·refine .inl (hgo _ ?_);unfold goesI;rw [if_neg (by exact hk5),if_neg (by exact hk6),if_neg (by exact hk7),if_neg (by exact hk8),if_neg (by exact hk9),if_neg (by exact hk10)];simp
   ·rcases List.mem_append.1 hit with hit|hit
    ·exact hthn ⟨it,hit,hti⟩
    ·have hp2:=hp1.right;rw [XO] at hp2;exact hin (v2j hT proc els _ _ _ (n+1+cntL thn) hp2 (by omega) (by omega) ⟨it,hit,hti⟩)
theorem v2j {sh:Sheet} {f:Pr} {lo hi:Nat} {T:Int->Prop} (hT:NoGo sh f lo hi T) (proc:Int) : ∀ (l:List S) (up nx lp:Int) (n:Nat),atP sh n (itL proc up nx lp n l)->lo<=n->n+cntL l<=hi->(∃ it∈itL proc up nx lp n l,T it.s.id)->w9c sh T nx lp
 | [],up,nx,lp,n,hp,h1,h2,h3=>by
   rw [itL] at h3;obtain ⟨it,hit,_⟩:=h3;cases hit
 | t::r,up,nx,lp,n,hp,h1,h2,h3=>by
   rw [itL] at hp h3;rw [cntL] at h2;have hp2:=hp.right;rw [x7f] at hp2;have hr:(∃ it∈itL proc up nx lp (n+XB t) r,T it.s.id)->w9c sh T nx lp:=fun h=>v2j hT proc r up nx lp (n+XB t) hp2 (by omega) (by omega) h;obtain ⟨it,hit,hti⟩:=h3;rcases List.mem_append.1 hit with hit|hit
   ·have h5:=v6y hT proc t up _ lp n hp.left h1 (by omega) ⟨it,hit,hti⟩;cases r with
    | nil=>exact h5
    | cons v r =>
      rcases h5 with h5|h5
      ·refine hr ?_;obtain ⟨iv,h6,h7⟩ : ∃ iv,(itL proc up nx lp (n+XB t) (v::r))[0]? = some iv∧iv.s=v:=by
        rw [itL,z8h];exact ⟨_,rfl,rfl⟩
       have h8:=hp2 0 iv h6;have h9:=hT.id (n+XB t) iv (by omega) (by
        rw [cntL] at h2;have:1<=XB v:=by cases v;rw [XB];omega
        omega) h8
       refine ⟨iv,List.mem_of_getElem? h6,?_⟩;rw [h9];simp only [List.isEmpty_cons] at h5;have e:((n+XB t:Nat):Int)+1=(n:Int)+1+XB t:=by omega
       rw [e];exact h5
      ·exact .inr h5
   ·exact hr ⟨it,hit,hti⟩
end
end Go.Ab
