/- way: the traps, walked. -/
import Derived.Laws.StructEq
import Derived.ChangeKeysEq
import Derived.Test.YtlhblcpmfnkjpaaGreatDomA8
import Derived.Test.YtlhblcpmfnkjpaaGreatDomA9
import Derived.Test.YtlhblcpmfnkjpaaGreatDomA13
import Derived.Test.YtlhblcpmfnkjpaaGreatDomA14
set_option linter.unusedSimpArgs false
set_option linter.unusedVariables false
set_option maxRecDepth 100000
set_option maxHeartbeats 16000000
open List (drop_eq_getElem_cons drop_eq_nil_of_le length_append length_map mem_cons_of_mem mem_cons_self)
open Nat (zero_le)
namespace Go.Ab
open Go.Proofs
theorem x5u (w:Way) (f:Pr) (n:Nat) (hw:w.n=n) (hj:w.p.procs[w.j]? = some f) (hc:cntP w.p.procs<=1000) (hn:n<=5000) (hn2:2<=n) (hlen:w.real.length<=1000000) (hr : ∀ t∈prsW w f,(0<=t.1∧t.1<n)∧0<=t.2∧t.2<n):SpecP Tryz.prog 129 [.ip w.cells] (fun r=>r=x1z (trapsW w f)):=by
 refine sB q9l Tryz.func129 rfl Tryz.call129 ?_;conv=>whnf
 have hgi:=BP n (prsW w f);have hpart:WP w f=q3p n (XU n (prsW w f)).1:=by unfold WP;rw [hw];rfl
 have htr:trapsW w f=LR (QN w.p w.j w.n) (WP w f) (q6u n (WP w f) (prsW w f)) n:=by unfold trapsW;rw [hpart,PQ,hw];rfl
 have hpin : ∀ k,k<n->0<=(WP w f).getD k 0∧(WP w f).getD k 0<n:=fun k hk=>by rw [hpart];exact z3y hgi.1 hk
 have hpl:(WP w f).length=n:=by rw [hpart,PQ]
 have hcp:=q4k n hn (XU n (prsW w f)) hgi.1 hgi.2 (z7g n (prsW w f));rw [<- hpart] at hcp;rw [htr];clear htr hpart hgi;generalize WP w f=part at hpin hpl hcp ⊢;have ha0:=hpin 0 (by omega);have ha1:=hpin (n-1) (by omega);have hp0:=x6o (l:=part) (i:=0) (by omega);have hp1:=x6o (l:=part) (i:=n-1) (by omega);have e0:(List.replicate n AV.ff)[(part.getD 0 0).toNat]? = some .ff:=by rw [List.getElem?_replicate,if_pos (by omega)]
 have e1:((List.replicate n AV.ff).set (part.getD 0 0).toNat .tt)[(part.getD (n-1) 0).toNat]? = some (bv (((List.replicate n false).set (part.getD 0 0).toNat true).getD (part.getD (n-1) 0).toNat false)):=by
  have:(List.replicate n AV.ff).set (part.getD 0 0).toNat .tt=((List.replicate n false).set (part.getD 0 0).toNat true).map bv:=by
   rw [List.map_set,List.map_replicate];rfl
  rw [this];exact v0o (by rw [List.length_set,List.length_replicate];omega)
 have hplm:(part.map (AV.int .i64)).length=n:=by rw [length_map,hpl]
 repeat' ((first|(refine iM fun _=>?_)|refine dA ?_|refine And.intro rfl ?_|refine aR ?_|refine wI ?_|refine cP (x5n w f n hw hj hc hn w.real hlen) ?_|refine cP hcp ?_|refine MkK.mk n hw (by show 1*n<=140737488355328;omega) (by unfold maxLen;omega) ?_|(refine IdxK.at (k:=0) rfl hp0 rfl ?_)|(refine IdxK.at (k:=n-1) (by omega) hp1 rfl ?_)|refine IdxL.mk (part.getD 0 0).toNat (by omega) (by omega) ?_|refine IdxL.mk (part.getD (n-1) 0).toNat (by omega) (by omega) ?_|refine StOwn.mk (part.getD 0 0).toNat 0 .ff .tt (show (0+(part.getD 0 0).toNat)*1=(part.getD 0 0).toNat*1+0 by omega) e0 (Nat.le_refl 1) rfl ?_|(refine CallK.pure (FK w f hj hc (by omega) w.real hlen) (.cons (Sub.refl _) (.cons (Sub.refl _) .nil)) ?_;rintro _ rfl)|(refine StOwn.mk (part.getD (n-1) 0).toNat 0 _ .tt (show (0+(part.getD (n-1) 0).toNat)*1=(part.getD (n-1) 0).toNat*1+0 by omega) e1 (Nat.le_refl 1) (by cases ((List.replicate n false).set (part.getD 0 0).toNat true).getD (part.getD (n-1) 0).toNat false<;>rfl) ?_));conv=>whnf)
 have hprl:(prsW w f).length<=1000000:=by unfold prsW;rw [length_map];exact hlen
 have hpl2:(avP (prsW w f)).length=(prsW w f).length:=by simp [avP]
 refine LoopK.inv QX (fun x:Nat×List Bool=>⟨[(0,.p (.ip w.cells)),(3,.p (QD part)),(4,.hd 0 0 n),(43,.p (.sl (avP (prsW w f)))),(44,.p (.int .i64 (avP (prsW w f)).length)),(45,.p (.int .i64 x.1))],[(0,.own 4 1 (x.2.map bv))]⟩)
  (fun x=>x.1<=(prsW w f).length∧x.2=((prsW w f).take x.1).foldl (q3g part) (x1w n part)) (fun x=>(prsW w f).length-x.1) (0,x1w n part)
  (Le.mk [] (by simp) (by simp) (by simp) (.cons (.refl _) (.cons (.refl _) (.cons (.refl _) (.cons (.refl _) (.cons (.refl _) (.cons (.refl _) .nil)))))) (.cons rfl (.of_eq (by unfold x1w;rw [List.map_set,List.map_set,List.map_replicate];rfl)) .nil))
  ⟨zero_le _,rfl⟩ ?_
 rintro ⟨m,o⟩ ⟨h1,h2⟩;simp only at h1 h2 ⊢;have hol:o.length=n:=by rw [h2];exact z9e n part _
 rcases Nat.lt_or_ge m (prsW w f).length with hm|hm
 ·obtain ⟨⟨h3,h4⟩,h5,h6⟩:=hr _ (List.getElem_mem hm);have h7:=hpin (prsW w f)[m].1.toNat (by omega);have h8:=hpin (prsW w f)[m].2.toNat (by omega);have e2:=x6o (l:=part) (i:=(prsW w f)[m].1.toNat) (by omega);have e3:=x6o (l:=part) (i:=(prsW w f)[m].2.toNat) (by omega);have e4:=v0o (l:=o) (i:=(part.getD (prsW w f)[m].1.toNat 0).toNat) (by omega);have hme:(avP (prsW w f))[m]? = some (.agg [.int .i64 (prsW w f)[m].1,.int .i64 (prsW w f)[m].2]):=by simp [avP,hm]
  have e5:((prsW w f).take (m+1)).foldl (q3g part) (x1w n part)=q3g part o (prsW w f)[m]:=by rw [List.take_succ_eq_append_getElem hm,List.foldl_append,<- h2];rfl
  conv=>whnf
  repeat' (first|((first|refine dA ?_|refine And.intro rfl ?_|refine wI ?_|(refine IdxK.at (k:=m) rfl hme rfl ?_)|refine IdxL.mk 0 rfl (by decide) ?_|refine IdxL.mk 1 rfl (by decide) ?_|(refine IdxK.at (k:=(prsW w f)[m].1.toNat) (by omega) e2 rfl ?_)|(refine IdxK.at (k:=(prsW w f)[m].2.toNat) (by omega) e3 rfl ?_)|refine IdxL.mk (part.getD (prsW w f)[m].1.toNat 0).toNat (by omega) (by omega) ?_|refine StOwn.mk (part.getD (prsW w f)[m].1.toNat 0).toNat 0 _ .tt (by omega) e4 (Nat.le_refl 1) (by cases o.getD (part.getD (prsW w f)[m].1.toNat 0).toNat false<;>rfl) ?_);conv=>whnf)|(apply bD<;>intro _<;>first|omega|conv=>whnf)|(apply bE<;>intro _<;>first|omega|conv=>whnf))
  all_goals first
   | (have hq:part.getD (prsW w f)[m].1.toNat 0=part.getD (prsW w f)[m].2.toNat 0:=by assumption
      exact ⟨(m+1,o),⟨by simp only;omega,by simp only;rw [e5];unfold q3g;rw [if_pos hq]⟩,by simp only;omega,Le.of_eq rfl⟩)
   | (have hq : ¬part.getD (prsW w f)[m].1.toNat 0=part.getD (prsW w f)[m].2.toNat 0:=by assumption
      exact ⟨(m+1,o.set (part.getD (prsW w f)[m].1.toNat 0).toNat true),⟨by simp only;omega,by simp only;rw [e5];unfold q3g;rw [if_neg hq]⟩,by simp only;omega,Le.of_eq (by simp only [List.map_set];rfl)⟩)
 ·rw [List.take_of_length_le hm] at h2;have hop:q6u n part (prsW w f)=o:=h2.symm;rw [hop];clear hop h2 e0 e1 hp0 hp1 hcp;conv=>whnf
  repeat' (first|(refine iM fun _=>?_;conv=>whnf)|(apply bD<;>intro _<;>first|omega|conv=>whnf))
  refine LoopK.inv QX (fun q:Nat=>⟨[(0,.p (.ip w.cells)),(3,.p (QD part)),(4,.hd 0 0 n),(7,.hd 1 0 (LR (QN w.p w.j w.n) part o q).length),(69,.p (.int .i64 (part.map (AV.int .i64)).length)),(70,.p (.int .i64 q))],[(0,.own 4 1 (o.map bv)),(1,.own 60 1 ((avI (LR (QN w.p w.j w.n) part o q)).map AV.sl))]⟩)
   (fun q=>q<=n) (fun q=>n-q) 0
   (Le.mk [(1,.own 60 1 [])] (by simp [Chunk.new0];rfl) (by simp) (by simp) (.cons (.refl _) (.cons (.refl _) (.cons (.refl _) (.cons (.nil mem_cons_self) (.cons (.refl _) (.cons (.refl _) .nil)))))) (.cons rfl (.refl _) (.new mem_cons_self .nil)))
   (zero_le _) ?_
  intro q hqn;have hLl:=x9x (QN w.p w.j w.n) part o q;rcases Nat.lt_or_ge q n with hq|hq
  ·have e2:=x6o (l:=part) (i:=q) (by omega);have e3:=v0o (l:=o) (i:=q) (by omega);have hsucc:=z7o (QN w.p w.j w.n) part o q;generalize LR (QN w.p w.j w.n) part o q=acc at hLl hsucc ⊢;have hpe:part[q]=part.getD q 0:=by rw [List.getD_eq_getElem?_getD,List.getElem?_eq_getElem];rfl
   cases hb:o.getD q false with
   | true =>
     rw [hb] at e3;have ht : ¬q2y part o q=true:=by unfold q2y;rw [hb];simp
     rw [if_neg ht] at hsucc;conv=>whnf
     repeat' (first|((first|refine And.intro rfl ?_|(refine iA fun _=>?_)|refine wI ?_|refine IdxL.mk q rfl (by omega) ?_|refine LdOwn.mk q 0 .tt (by omega) e3 ?_);conv=>whnf)|(apply bD<;>intro _<;>first|omega|conv=>whnf)|(apply bE<;>intro _<;>first|omega|conv=>whnf))
     all_goals exact ⟨q+1,hq,by omega,Le.of_eq (by rw [hsucc];rfl)⟩
   | false =>
     rw [hb] at e3;conv=>whnf
     repeat' (first|((first|(refine iM fun _=>?_)|refine And.intro rfl ?_|(refine iA fun _=>?_)|refine wI ?_|refine IdxL.mk q rfl (by omega) ?_|refine LdOwn.mk q 0 .ff (by omega) e3 ?_);conv=>whnf)|(apply bD<;>intro _<;>first|omega|conv=>whnf)|(apply bE<;>intro _<;>first|omega|conv=>whnf))
     all_goals try
      have hne : ¬part.getD q 0=(q:Int):=by omega
      have ht : ¬q2y part o q=true:=fun h=>by
       unfold q2y at h;rw [Bool.and_eq_true,beq_iff_eq] at h;exact hne h.1
      rw [if_neg ht] at hsucc;exact ⟨q+1,hq,by omega,Le.of_eq (by rw [hsucc];rfl)⟩
     have hpq:part.getD q 0=(q:Int):=by omega
     have ht:q2y part o q=true:=by unfold q2y;rw [hb,hpq];simp
     rw [if_pos ht,hpl] at hsucc;refine LoopK.inv QX (fun z:Nat=>⟨[(0,.p (.ip w.cells)),(3,.p (QD part)),(4,.hd 0 0 n),(7,.hd 1 0 acc.length),(8,.p (.int .i64 q)),(9,.hd 2 0 (FQ (QN w.p w.j w.n) part q z).length),(69,.p (.int .i64 (part.map (AV.int .i64)).length)),(70,.p (.int .i64 q)),(86,.p (.int .i64 (part.map (AV.int .i64)).length)),(87,.p (.int .i64 z))],[(0,.own 4 1 (o.map bv)),(1,.own 60 1 ((avI acc).map AV.sl)),(2,.own 3 1 ((FQ (QN w.p w.j w.n) part q z).map (.int .i64)))]⟩)
      (fun z=>z<=n) (fun z=>n-z) 0
      (Le.mk [(2,.own 3 1 [])] (by simp [Chunk.new0];rfl) (by simp) (by simp) (.cons (.refl _) (.cons (.refl _) (.cons (.refl _) (.cons (.refl _) (.cons (.refl _) (.cons (.nil mem_cons_self) (.cons (.refl _) (.cons (.refl _) (.cons (.refl _) (.cons (.refl _) .nil)))))))))) (.cons rfl (.refl _) (.cons rfl (.refl _) (.new mem_cons_self .nil))))
      (zero_le _) ?_
     intro z hzn;have hRl:=x9p (QN w.p w.j w.n) part q z;rcases Nat.lt_or_ge z n with hz|hz
     ·have e4:=x6o (l:=part) (i:=z) (by omega);have hs2:=z7z (QN w.p w.j w.n) part q z;generalize FQ (QN w.p w.j w.n) part q z=l at hRl hs2 ⊢;conv=>whnf
      repeat' (first|((first|refine And.intro rfl ?_|refine aD ?_|refine bP ?_|(refine iA fun _=>?_)|refine wI ?_|(refine CallK.pure (DZ w f hj hc (by omega) z (by omega)) (.cons (Sub.refl _) (.cons (Sub.refl _) .nil)) ?_;rintro _ rfl)|refine XO (by simp) (by simp;omega) ?_);conv=>whnf)|(apply bD<;>intro _<;>first|omega|conv=>whnf))
      have hpz:part[z]=part.getD z 0:=by rw [List.getD_eq_getElem?_getD,List.getElem?_eq_getElem];rfl
      ·rw [if_pos (by omega)] at hs2;exact ⟨z+1,hz,by omega,Le.of_eq (by rw [hs2,length_append,List.map_append];rfl)⟩
      ·have hpz:part[z]=part.getD z 0:=by rw [List.getD_eq_getElem?_getD,List.getElem?_eq_getElem];rfl
       rw [if_neg (by omega)] at hs2;exact ⟨z+1,hz,by omega,Le.of_eq (by rw [hs2];rfl)⟩
     ·have hze:z=n:=by omega
      subst hze;conv=>whnf
      repeat' (apply bD<;>intro _<;>first|omega|conv=>whnf)
      have hfl:(FQ (QN w.p w.j w.n) part q z).length=((FQ (QN w.p w.j w.n) part q z).map (AV.int .i64)).length:=by simp
      refine OpK.frz QX [[9,104]] ?_;conv=>whnf
      refine LenK.mk hfl ?_;conv=>whnf
      refine LenK.mk hfl ?_;conv=>whnf
      repeat' ((first|refine And.intro rfl ?_|refine aD ?_|refine bP ?_|refine wI ?_|refine AppK.mk (by simp [avI]) rfl (by show (acc.length+1)*24<=140737488355328;omega) (by show acc.length+1<=9223372036854775807;omega) (fun x hx=>by rcases List.mem_singleton.1 hx with rfl;exact ⟨rfl,rfl⟩) ?_);conv=>whnf)
      exact ⟨q+1,hq,by omega,Le.of_eq (by rw [hsucc];simp only [avI,length_append,List.map_append];rfl)⟩
  ·have hqe:q=n:=by omega
   subst hqe;conv=>whnf
   repeat' (apply bD<;>intro _<;>first|omega|conv=>whnf)
   exact ⟨_,.hd rfl (by simp [avI]),rfl⟩
def vOf (p:Pg) (id:Int):List Step:=match w9j p id with
 | some s=>if s.kind=10 then [⟨id,-1,3⟩] else []
 | none=>[]
def WM (w:Way) (f:Pr):List Step:=(trapsW w f).flatMap fun l=>l.flatMap (vOf w.p)
theorem w8o (p:Pg) (id:Int):(vOf p id).length<=1:=by
 unfold vOf;split
 ·split<;>simp
 ·simp
theorem VD {α β:Type} {g:α->List β} {c:Nat} : ∀ (l:List α),(∀ x∈l,(g x).length<=c)->(l.flatMap g).length<=l.length*c
 | [],_=>by simp
 | a::r,h=>by
   have h1:=h a mem_cons_self;have h2:=VD r fun x hx=>h x (mem_cons_of_mem _ hx);rw [List.flatMap_cons,length_append,List.length_cons,Nat.add_mul];omega
theorem z1a (w:Way) (f:Pr) (n:Nat) (hw:w.n=n) (hj:w.p.procs[w.j]? = some f) (hc:cntP w.p.procs<=1000) (hn:n<=5000) (hn2:2<=n) (hlen:w.real.length<=1000000) (hr : ∀ t∈prsW w f,(0<=t.1∧t.1<n)∧0<=t.2∧t.2<n)
  (htl:(trapsW w f).length<=5000) (hti : ∀ l∈trapsW w f,l.length<=5000 ∧ ∀ id∈l,1<=id∧id<=(sheetOf w.p).l.length) :
  SpecH Tryz.prog 290 [.p (.ip w.cells)] [] (fun r H=>r = .hd 0 0 (WM w f).length∧H=[(0,.own 156 3 (avS (WM w f)))]):=by
 refine sH q4e Tryz.func290 rfl Tryz.call290 ?_;conv=>whnf
 repeat' ((first|(refine iM fun _=>?_)|refine cP (x5u w f n hw hj hc hn hn2 hlen hr) ?_);conv=>whnf)
 unfold WM;generalize trapsW w f=ts at htl hti ⊢;have hml:((avI ts).map AV.sl).length=ts.length:=by simp [avI]
 refine LoopK.inv QX (fun x:Nat×List Step=>⟨[(0,.p (.ip w.cells)),(3,.hd 0 0 x.2.length),(9,.p (x1z ts)),(10,.p (.int .i64 ((avI ts).map AV.sl).length)),(11,.p (.int .i64 x.1))],[(0,.own 156 3 (avS x.2))]⟩)
  (fun x=>x.1<=ts.length∧x.2.length<=x.1*5000∧x.2++(ts.drop x.1).flatMap (fun l=>l.flatMap (vOf w.p))=ts.flatMap fun l=>l.flatMap (vOf w.p)) (fun x=>ts.length-x.1) (0,[])
  (Le.mk [(0,.own 156 3 [])] (by simp [Chunk.new0];rfl) (by simp) (by simp) (.cons (.refl _) (.cons (.nil mem_cons_self) (.cons (.refl _) (.cons (.refl _) (.cons (.refl _) .nil))))) (.new mem_cons_self .nil))
  ⟨zero_le _,by simp,rfl⟩ ?_
 rintro ⟨m,acc⟩ ⟨h1,h2,h3⟩;simp only at h1 h2 h3 ⊢;rcases Nat.lt_or_ge m ts.length with hm|hm;rotate_left 1
 ·rw [drop_eq_nil_of_le hm,List.flatMap_nil,List.append_nil] at h3;conv=>whnf
  repeat' (apply bD<;>intro _<;>first|omega|conv=>whnf)
  exact ⟨_,LSub.refl _,by rw [h3],by rw [h3]⟩
 obtain ⟨hl1,hl2⟩:=hti _ (List.getElem_mem hm);have hrow:((avI ts).map AV.sl)[m]? = some (.sl (ts[m].map (.int .i64))):=by simp [avI,hm]
 rw [VR hm] at h3;conv=>whnf
 repeat' (first|((first|(refine iM fun _=>?_)|(refine iA fun _=>?_));conv=>whnf)|(apply bD<;>intro _<;>first|omega|conv=>whnf))
 have hav:(avI ts)[m]'(by simp [avI];exact hm)=ts[m].map (.int .i64):=by simp [avI]
 rw [hav];generalize ts[m]=l at hl1 hl2 h3 ⊢;have hll:(l.map (AV.int .i64)).length=l.length:=length_map _;generalize htot:(ts.flatMap fun l=>l.flatMap (vOf w.p))=tot at h3 ⊢;refine LoopK.inv QX (fun x:Nat×List Step=>⟨[(0,.p (.ip w.cells)),(3,.hd 0 0 x.2.length),(9,.p (x1z ts)),(10,.p (.int .i64 ((avI ts).map AV.sl).length)),(11,.p (.int .i64 m)),(15,.p (QD l)),(16,.p (.int .i64 (l.map (AV.int .i64)).length)),(17,.p (.int .i64 x.1))],[(0,.own 156 3 (avS x.2))]⟩)
  (fun x=>x.1<=l.length∧x.2.length<=m*5000+x.1∧x.2++((l.drop x.1).flatMap (vOf w.p)++(ts.drop (m+1)).flatMap (fun l=>l.flatMap (vOf w.p)))=tot) (fun x=>l.length-x.1) (0,acc) (Le.of_eq rfl) ⟨zero_le _,by simp only;omega,h3⟩ ?_
 rintro ⟨k,acc2⟩ ⟨h4,h5,h6⟩;simp only at h4 h5 h6 ⊢;rcases Nat.lt_or_ge k l.length with hk|hk;rotate_left 1
 ·rw [drop_eq_nil_of_le hk] at h6;conv=>whnf
  repeat' (first|(refine wI ?_;conv=>whnf)|(apply bD<;>intro _<;>first|omega|conv=>whnf))
  exact ⟨(m+1,acc2),⟨hm,by simp only;omega,by simpa using h6⟩,by simp only;omega,Le.of_eq rfl⟩
 obtain ⟨h7,h8⟩:=hl2 _ (List.getElem_mem hk);obtain ⟨_,_,_,hsl,_⟩:=QJ w.p;have hlt:(l[k]-1).toNat<(sheetOf w.p).l.length:=by omega
 have hu : ∃ u:Item,((sheetOf w.p).l.map fun i=>AV.agg i.cells)[(l[k]-1).toNat]? = some (.agg u.cells)∧w9j w.p l[k]=some u.s:=⟨_,by rw [List.getElem?_map,List.getElem?_eq_getElem hlt];rfl,by unfold w9j;rw [List.getElem?_eq_getElem hlt];rfl⟩;obtain ⟨u,hu1,hu2⟩:=hu;rw [VR hk] at h6;have hv:vOf w.p l[k]=if u.s.kind=10 then [⟨l[k],-1,3⟩] else []:=by unfold vOf;rw [hu2]
 rw [hv] at h6;conv=>whnf
 repeat' (first|((first|refine And.intro rfl ?_|refine aD ?_|refine bP ?_|(refine iA fun _=>?_)|refine wI ?_|(refine IdxK.at (by omega) hu1 rfl ?_)|refine AppK.mk (by simp [avS]) rfl (by show (acc2.length+1)*24<=140737488355328;omega) (by show acc2.length+1<=9223372036854775807;omega) (fun x hx=>by rcases List.mem_singleton.1 hx with rfl;exact ⟨rfl,rfl⟩) ?_);conv=>whnf)|(apply bD<;>intro _<;>first|omega|conv=>whnf))
 ·rw [if_pos (by assumption)] at h6;exact ⟨(k+1,acc2++[⟨l[k],-1,3⟩]),⟨hk,by simp;omega,by simpa using h6⟩,by simp only;omega,Le.of_eq (by simp only [avS,length_append,List.map_append];rfl)⟩
 ·rw [if_neg (by assumption)] at h6;exact ⟨(k+1,acc2),⟨hk,by simp only;omega,by simpa using h6⟩,by simp only;omega,Le.of_eq rfl⟩
def fOf (it:Item):List Step:=if it.s.kind=7∨it.s.kind=8∨it.s.kind=9∨it.s.kind=10 then [⟨it.s.id,it.next,2⟩] else []
structure WayT (w:Way) (f:Pr) (n:Nat):Prop where
 hw:w.n=n
 hj:w.p.procs[w.j]? = some f
 hc:cntP w.p.procs<=1000
 hn:n<=5000
 hn2:2<=n
 hlen:w.real.length<=1000000
 hr : ∀ t∈prsW w f,(0<=t.1∧t.1<n)∧0<=t.2∧t.2<n
 htl:(trapsW w f).length<=5000
 hti : ∀ l∈trapsW w f,l.length<=5000 ∧ ∀ id∈l,1<=id∧id<=(sheetOf w.p).l.length
 hok : ∀ s∈w.real,okSt s
 hfk : ∀ it∈itsOf w.p w.j f,∀ s∈fOf it,okSt s
theorem w9a {p:Pg} {id:Int} {s:Step} (h:s∈vOf p id):s=⟨id,-1,3⟩:=by
 unfold vOf at h;split at h
 ·split at h
  ·simpa using h
  ·simp at h
 ·simp at h
theorem WayT.virt_ok {w:Way} {f:Pr} {n:Nat} (h:WayT w f n) : ∀ s∈WM w f,okSt s:=fun s hs=>by
 unfold WM at hs;obtain ⟨l,hl,hs⟩:=List.mem_flatMap.1 hs;obtain ⟨id,hid,hs⟩:=List.mem_flatMap.1 hs;obtain ⟨_,_,_,hsl,_⟩:=QJ w.p;have h1:=(h.hti l hl).2 id hid;have h2:=h.hc;rw [w9a hs];exact ⟨by show id≠_;omega,by show (-1:Int)≠_;decide⟩
theorem WayT.virt_len {w:Way} {f:Pr} {n:Nat} (h:WayT w f n):(WM w f).length<=25000000:=by
 have h1:=VD (g:=fun l=>l.flatMap (vOf w.p)) (c:=5000) (trapsW w f) fun l hl=>by
  have h2:=VD (g:=vOf w.p) (c:=1) l fun id _=>w8o w.p id;have h3:=(h.hti l hl).1;omega
 have h2:=h.htl;unfold WM;omega
def w9t (w:Way) (f:Pr):List Step:=ZL (WM w f++w.real)
def DP (w:Way) (f:Pr):List Step:=WM w f++w.real++[⟨0,-1,2⟩]++(itsOf w.p w.j f).flatMap fOf
def MX (w:Way) (f:Pr):List Step:=ZL (DP w f)
theorem w2t (it:Item):(fOf it).length<=1:=by
 unfold fOf;split<;>simp
theorem z1n (w:Way) (f:Pr) (n:Nat) (h:WayT w f n):SpecP Tryz.prog 193 [.ip w.cells] (fun r=>r=QO (MX w f)):=by
 refine sB x5y Tryz.func193 rfl Tryz.call193 ?_;conv=>whnf
 have hlen:=h.hlen;have hvl:=h.virt_len;have hvok:=h.virt_ok;have hcc:=h.hc;have hits:itL w.j 0 (-1) 0 (QR w.p.procs w.j) f.body=itsOf w.p w.j f:=rfl;repeat' (first|((first|refine dA ?_|refine aD ?_);conv=>whnf)|(refine CallK.heap [] 0 (ArgsH.cons (LSub.refl _) ArgsH.nil) BlksH.nil (z1a w f n h.hw h.hj h.hc h.hn h.hn2 h.hlen h.hr h.htl h.hti) rfl rfl ?_;rintro l' H' ⟨rfl,rfl⟩;conv=>whnf))
 have hml:(w.real.map fun s=>AV.agg s.cells).length=w.real.length:=length_map _;have hvm:(avS (WM w f)).length=(WM w f).length:=by simp [avS]
 refine AppK.mk hvm.symm rfl (by rw [hml];show ((WM w f).length+w.real.length)*24<=140737488355328;omega) (by rw [hml];show (WM w f).length+w.real.length<=9223372036854775807;omega) (fun x hx=>by obtain ⟨s,_,rfl⟩:=List.mem_map.1 hx;exact ⟨rfl,rfl⟩) ?_;conv=>whnf
 have happ:avS (WM w f)++(w.real.map fun s=>AV.agg s.cells)=avS (WM w f++w.real):=by simp [avS]
 have hlp:(WM w f).length+(w.real.map fun s=>AV.agg s.cells).length=(WM w f++w.real).length:=by simp
 rw [happ,hlp];have hbl:(WM w f++w.real).length<=26000000:=by rw [length_append];omega
 have hbok : ∀ s∈WM w f++w.real++[⟨0,-1,2⟩],okSt s:=fun s hs=>by
  rcases List.mem_append.1 hs with hs|hs
  ·exact (List.mem_append.1 hs).elim (hvok s) (h.hok s)
  ·rw [List.mem_singleton.1 hs];exact ⟨by decide,by decide⟩
 have hraw:DP w f=WM w f++w.real++[⟨0,-1,2⟩]++(itsOf w.p w.j f).flatMap fOf:=rfl;unfold MX;rw [hraw];clear hraw happ hlp hml hvm hvok hvl hlen;generalize WM w f++w.real=base at hbl hbok ⊢;repeat' ((first|(refine iM fun _=>?_)|refine dA ?_|refine And.intro rfl ?_|refine aD ?_|refine bP ?_|refine cP (z2d w.p h.hj hcc) ?_|refine AppK.mk (by simp [avS]) rfl (by show (base.length+1)*24<=140737488355328;omega) (by show base.length+1<=9223372036854775807;omega) (fun x hx=>by rcases List.mem_singleton.1 hx with rfl;exact ⟨rfl,rfl⟩) ?_);conv=>whnf)
 rw [hits];have hib:(itsOf w.p w.j f).length<=1000:=by
  obtain ⟨_,_,_,hsl,hsp⟩:=QJ w.p;obtain ⟨_,_,hle,_⟩:=hsp w.j f h.hj;rw [<- hits,ZH];omega
 have hfok:=h.hfk;generalize itsOf w.p w.j f=its at hib hfok ⊢;have hil:=WL its;refine LoopK.inv QX (fun x:Nat×List Step=>⟨[(3,.hd 0 0 x.2.length),(25,.p (KM its)),(26,.p (.int .i64 (its.map fun i=>AV.agg i.cells).length)),(27,.p (.int .i64 x.1))],[(0,.own 156 3 (avS x.2))]⟩)
  (fun x=>x.1<=its.length∧x.2.length<=base.length+1+x.1∧x.2++(its.drop x.1).flatMap fOf=base++[⟨0,-1,2⟩]++its.flatMap fOf) (fun x=>its.length-x.1) (0,base++[⟨0,-1,2⟩])
  (Le.of_eq (by simp only [avS,length_append,List.map_append];rfl)) ⟨zero_le _,by simp,rfl⟩ ?_
 rintro ⟨m,acc⟩ ⟨h1,h2,h3⟩;simp only at h1 h2 h3 ⊢;rcases Nat.lt_or_ge m its.length with hm|hm;rotate_left 1
 ·rw [drop_eq_nil_of_le hm,List.flatMap_nil,List.append_nil] at h3;have hok : ∀ s∈acc,okSt s:=fun s hs=>by
   rw [h3] at hs;rcases List.mem_append.1 hs with hs|hs
   ·exact hbok s hs
   ·obtain ⟨it,hi,hs⟩:=List.mem_flatMap.1 hs;exact hfok it hi s hs
  rw [<- h3];conv=>whnf
  repeat' (first|(apply bD<;>intro _<;>first|omega|conv=>whnf)|(refine CallK.heap [(1000,0)] 0 (by repeat' (first|exact ArgsH.nil|refine ArgsH.cons ?_ ?_|exact LSub.refl _|exact LSub.p Sub.nils|exact LSub.p (Sub.tt rfl)|exact LSub.p (Sub.ff rfl)|exact LSub.p (Sub.int (by omega)))) (by refine BlksH.cons (j:=0) rfl rfl ?_ ?_;exact CSub.refl _;exact BlksH.nil) (x7j acc hok (by omega)) rfl rfl ?_;rintro l' H' ⟨rfl,rfl⟩;conv=>whnf))
  exact ⟨_,.hd rfl (by simp [avS]),rfl⟩
 rw [VR hm] at h3;have hf:fOf its[m]=if its[m].s.kind=7∨its[m].s.kind=8∨its[m].s.kind=9∨its[m].s.kind=10 then [⟨its[m].s.id,its[m].next,2⟩] else []:=rfl;conv=>whnf
 repeat' (first|((first|refine And.intro rfl ?_|refine aD ?_|refine bP ?_|(refine iA fun _=>?_)|refine wI ?_|refine AppK.mk (by simp [avS]) rfl (by show (acc.length+1)*24<=140737488355328;omega) (by show acc.length+1<=9223372036854775807;omega) (fun x hx=>by rcases List.mem_singleton.1 hx with rfl;exact ⟨rfl,rfl⟩) ?_);conv=>whnf)|(apply bD<;>intro _<;>first|omega|conv=>whnf))
 all_goals first
  | (rw [if_pos (by omega)] at hf
     rw [hf] at h3;exact ⟨(m+1,acc++[⟨its[m].s.id,its[m].next,2⟩]),⟨hm,by simp;omega,by simpa using h3⟩,by simp only;omega,Le.of_eq (by simp only [avS,length_append,List.map_append];rfl)⟩)
  | (rw [if_neg (by omega)] at hf
     rw [hf] at h3;exact ⟨(m+1,acc),⟨hm,by simp only;omega,by simpa using h3⟩,by simp only;omega,Le.of_eq rfl⟩)
structure MayF (p:Pg):Prop where
 gl:p.globals.length<=16
 pl:p.procs.length<=16
 gn:namesB p.globals=true
 pr : ∀ f∈p.procs,f.params.length<=8∧f.vars.length<=16∧isName f.name=true∧namesB f.vars=true∧namesB f.fin=true∧(f.params.all fun a=>isName a.name)=true
 len:(allR p).length<=200
 its : ∀ (k:Nat) (x:RI),(allR p)[k]? = some x->x.s.id=(k:Int)+1∧x.deep<=12∧oneOk x.s=true
theorem BB {p:Pg} (h:VB p=true):MayF p:=by
 obtain ⟨h1,h2,h3,h4⟩:=q4m h;refine ⟨h1,h2,h3,fun f hf=>PR.1 (h4 f hf).1,?_,fun k x hk => ?_⟩
 ·rw [x5x h,q2g];exact (ZG h).2.2
 ·rw [x5x h] at hk;exact ⟨w4z h hk,z9s h x (List.mem_of_getElem? hk)⟩
def Pr0:Pr:=⟨[],[],[],[],[]⟩
def UB (p:Pg) (n:Str):Pr×Bool:=match p.procs.find? (fun f=>f.name==n) with
 | some f=>(f,true)
 | none=>(Pr0,false)
theorem z2a:Sub (.agg [.str [],.nils,.nils,.nils,.nils]) (.agg Pr0.cells):=Sub.agg (SubL.cons (Sub.refl _) (SubL.cons Sub.nils (SubL.cons Sub.nils (SubL.cons Sub.nils (SubL.cons Sub.nils SubL.nil)))))
def MM:List Str->Nat
 | []=>0
 | s::r=>1+s.length+MM r
mutual
def gX:X->Nat
 | .mk _ _ name kids=>1+name.length+gXs kids
def gXs:List X->Nat
 | []=>0
 | x::r=>gX x+gXs r
end
def x1x:List Arg->Nat
 | []=>0
 | a::r=>gX a.x+(1+a.name.length)+x1x r
mutual
def gS:S->Nat
 | .mk _ _ labels name proc x _ args thn els=>gX x+MM labels+(1+name.length)+(1+proc.length)+x1x args+gL thn+gL els
def gL:List S->Nat
 | []=>0
 | s::r=>gS s+gL r
end
def w3i:List Param->Nat
 | []=>0
 | a::r=>1+a.name.length+w3i r
def gPr (f:Pr):Nat:=1+f.name.length+MM f.vars+MM f.fin+w3i f.params+gL f.body
def z0s:List Pr->Nat
 | []=>0
 | f::r=>gPr f+z0s r
def gPg (p:Pg):Nat:=MM p.globals+z0s p.procs
theorem v4u (s:S):gS s=gX s.x+MM s.labels+(1+s.name.length)+(1+s.proc.length)+x1x s.args+gL s.thn+gL s.els:=by
 cases s;rw [gS];rfl
theorem x9v : ∀ l:List Str,w3c l<=MM l
 | []=>Nat.le_refl _
 | s::r=>by have:=x9v r;simp only [w3c,MM];omega
mutual
theorem v5w : ∀ x:X,wX x<=gX x
 | .mk _ _ name kids=>by have:=v1z kids;rw [wX,gX];omega
theorem v1z : ∀ l:List X,wXs l<=gXs l
 | []=>by rw [wXs];omega
 | x::r=>by have:=v5w x;have:=v1z r;rw [wXs,gXs];omega
end
theorem w2d : ∀ l:List Arg,x4i l<=x1x l
 | []=>Nat.le_refl _
 | a::r=>by have:=w2d r;have:=v5w a.x;simp only [x4i,x1x];omega
mutual
theorem v5m : ∀ s:S,wS s<=gS s
 | .mk _ _ labels name proc x _ args thn els=>by
   have:=v5w x;have:=x9v labels;have:=w2d args;have:=v2l thn;have:=v2l els;rw [wS,gS];omega
theorem v2l : ∀ l:List S,wL l<=gL l
 | []=>by rw [wL];omega
 | s::r=>by have:=v5m s;have:=v2l r;rw [wL,gL];omega
end
theorem w7r : ∀ l:List Param,v0i l<=w3i l
 | []=>Nat.le_refl _
 | a::r=>by have:=w7r r;simp only [v0i,w3i];omega
theorem w7p : ∀ l:List Pr,w8w l<=z0s l
 | []=>Nat.le_refl _
 | f::r=>by
   have:=w7p r;have:=x9v f.vars;have:=x9v f.fin;have:=w7r f.params;have:=v2l f.body;simp only [w8w,z0s,wPr,gPr];omega
theorem v4v (p:Pg):wPg p<=gPg p:=by
 have:=x9v p.globals;have:=w7p p.procs;unfold wPg gPg;omega
def XK (x:Int):Int:=if x>20000 then 20001 else x
theorem ZU {a b:Int} (hb:0<=b):XK (XK a+b)=XK (a+b):=by
 unfold XK;split<;>split<;>(try split)<;>omega
theorem ZQ {a:Int} (h:0<=a):0<=XK a∧XK a<=20001:=by
 unfold XK;split<;>omega
theorem x3r {a:Int} (h:a<=20001):XK a=a:=by
 unfold XK;split<;>omega
theorem YK {a b:Int} (h:a>20000) (h1:a<=20001) (hb:0<=b):a=XK (a+b):=by
 unfold XK;split<;>omega
theorem QT (s:Str) (n:Int) (hn:0<=n∧n<=20001):SpecP Tryz.prog 81 [.str s,.int .i64 n] (fun r=>r = .int .i64 (XK (n+(1+s.length:Nat)))):=by
 refine sB HZ Tryz.func81 rfl Tryz.call81 ?_;conv=>whnf
 repeat' (first|((first|(refine iM fun _=>?_)|refine wI ?_);conv=>whnf)|(apply bD<;>intro _<;>first|omega|conv=>whnf))
 all_goals exact RetK.int (by unfold XK;(repeat' split)<;>omega)
theorem XR (l:List Str) (n:Int) (hn:0<=n∧n<=20001):SpecP Tryz.prog 80 [QM l,.int .i64 n] (fun r=>r = .int .i64 (XK (n+MM l))):=by
 refine sB GH Tryz.func80 rfl Tryz.call80 ?_;conv=>whnf
 skip
 have hl:(l.map AV.str).length=l.length:=length_map _;refine LoopK.inv QX (fun x:Nat×Int=>⟨[(0,.p (QM l)),(1,.p (.int .i64 x.2)),(5,.p (.int .i64 x.1))],[]⟩) (fun x=>x.1<=l.length∧(0<=x.2∧x.2<=20001)∧XK (x.2+MM (l.drop x.1))=XK (n+MM l)) (fun x=>l.length-x.1) (0,n) (Le.of_eq rfl) ⟨zero_le _,hn,rfl⟩ ?_;rintro ⟨j,m⟩ ⟨h2,h3,h4⟩;simp only at h2 h3 h4 ⊢;rcases Nat.lt_or_ge j l.length with hj|hj
 ·rw [drop_eq_getElem_cons hj,MM] at h4;conv=>whnf
  repeat' (first|((first|(refine iM fun _=>?_)|refine cP (QT _ _ h3) ?_|(refine iA fun _=>?_)|refine wI ?_);conv=>whnf)|(apply bD<;>intro _<;>first|omega|conv=>whnf))
  ·have h5:XK (XK (m+(1+l[j].length:Nat))+MM (l.drop (j+1)))=XK (n+MM l):=by
    rw [ZU (by omega),<- h4];congr 1;omega
   exact ⟨(j+1,XK (m+(1+l[j].length:Nat))),⟨by simp only;omega,ZQ (by omega),h5⟩,by simp only;omega,Le.of_eq rfl⟩
  ·exact RetK.int (by rw [<- h4];exact YK (by omega) h3.2 (by omega))
 ·rw [drop_eq_nil_of_le hj,MM] at h4;conv=>whnf
  repeat' (first|(refine iM fun _=>?_;conv=>whnf)|(apply bD<;>intro _<;>first|omega|conv=>whnf))
  exact RetK.int (by rw [<- h4,x3r (by omega)];simp)
theorem UP : ∀ (k:Nat) (x:X) (_:gX x<k) (n:Int) (_:0<=n∧n<=20001),SpecP Tryz.prog 143 [.agg x.cells,.int .i64 n] (fun r=>r = .int .i64 (XK (n+gX x))):=by
 intro k;induction k with
 | zero=>intro x h;omega
 | succ k ih =>
   intro x hx n hn;have hxe:gX x=1+x.name.length+gXs x.kids:=by cases x;rw [gX];rfl
   have hkl:=X.avs_len x.kids;refine sB HD Tryz.func143 rfl Tryz.call143 ?_;conv=>whnf
   repeat' (refine cP (QT _ _ hn) ?_;conv=>whnf)
   refine LoopK.inv QX (fun y:Nat×Int=>⟨[(1,.p (.int .i64 y.2)),(2,.p (.ip x.cells)),(5,.p (.int .i64 y.1))],[]⟩) (fun y=>y.1<=x.kids.length∧(0<=y.2∧y.2<=20001)∧XK (y.2+gXs (x.kids.drop y.1))=XK (n+gX x)) (fun y=>x.kids.length-y.1) (0,XK (n+(1+x.name.length:Nat))) (Le.of_eq rfl) ⟨zero_le _,ZQ (by omega),by
    show XK (XK (n+(1+x.name.length:Nat))+gXs x.kids)=_;rw [ZU (by omega),hxe];congr 1;omega⟩ ?_
   rintro ⟨j,m⟩ ⟨h2,h3,h4⟩;simp only at h2 h3 h4 ⊢;rcases Nat.lt_or_ge j x.kids.length with hj|hj
   ·rw [drop_eq_getElem_cons hj,gXs] at h4;have hkw:gX x.kids[j]<k:=by
     have : ∀ (l:List X) (y:X),y∈l->gX y<=gXs l:=fun l=>by
      induction l with
      | nil=>intro y h;cases h
      | cons a r ih =>
        intro y h;rw [gXs];rcases List.mem_cons.1 h with rfl|h
        ·omega
        ·have:=ih y h;omega
     have:=this x.kids _ (List.getElem_mem hj);omega
    conv=>whnf
    repeat' (first|((first|(refine iM fun _=>?_)|refine IdxK.xs (by omega) ?_|refine wI ?_|refine cP (ih (x.kids[j]'hj) hkw m h3) ?_);conv=>whnf)|(apply bD<;>intro _<;>first|omega|conv=>whnf))
    ·have h5:XK (XK (m+gX x.kids[j])+gXs (x.kids.drop (j+1)))=XK (n+gX x):=by
      rw [ZU (by omega),<- h4];congr 1;omega
     exact ⟨(j+1,XK (m+gX x.kids[j])),⟨by simp only;omega,ZQ (by omega),h5⟩,by simp only;omega,Le.of_eq rfl⟩
    ·exact RetK.int (by rw [<- h4];exact YK (by omega) h3.2 (by omega))
   ·rw [drop_eq_nil_of_le hj,gXs] at h4;conv=>whnf
    repeat' (first|(refine iM fun _=>?_;conv=>whnf)|(apply bD<;>intro _<;>first|omega|conv=>whnf))
    exact RetK.int (by rw [<- h4,x3r (by omega)];simp)
theorem w8j : ∀ (l:List S) (y:S),y∈l->gS y<=gL l
 | [],y,h=>by cases h
 | a::r,y,h=>by
   rw [gL];rcases List.mem_cons.1 h with rfl|h
   ·omega
   ·have:=w8j r y h;omega
theorem VE : ∀ (k:Nat) (l:List S) (_:gL l<k) (n:Int) (_:0<=n∧n<=20001),SpecP Tryz.prog 82 [eSs l,.int .i64 n] (fun r=>r = .int .i64 (XK (n+gL l))):=by
 intro k;induction k with
 | zero=>intro l h;omega
 | succ k ih =>
   intro l hl n hn;have hkl:=S.avs_len l;refine sB GT Tryz.func82 rfl Tryz.call82 ?_;conv=>whnf
   skip
   refine LoopK.inv QX (fun y:Nat×Int=>⟨[(0,.p (eSs l)),(1,.p (.int .i64 y.2)),(5,.p (.int .i64 y.1))],[]⟩) (fun y=>y.1<=l.length∧(0<=y.2∧y.2<=20001)∧XK (y.2+gL (l.drop y.1))=XK (n+gL l)) (fun y=>l.length-y.1) (0,n) (Le.of_eq rfl) ⟨zero_le _,hn,rfl⟩ ?_;rintro ⟨j,m⟩ ⟨h2,h3,h4⟩;simp only at h2 h3 h4 ⊢;rcases Nat.lt_or_ge j l.length with hj|hj;rotate_left 1
   ·rw [drop_eq_nil_of_le hj,gL] at h4;conv=>whnf
    repeat' (first|(refine iM fun _=>?_;conv=>whnf)|(apply bD<;>intro _<;>first|omega|conv=>whnf))
    exact RetK.int (by rw [<- h4,x3r (by omega)];simp)
   rw [drop_eq_getElem_cons hj,gL] at h4;have hsw:=w8j l _ (List.getElem_mem hj);have hse:=v4u l[j];have q1:=ZQ (a:=m+gX l[j].x) (by omega);have q2:=ZQ (a:=XK (m+gX l[j].x)+MM l[j].labels) (by omega);have q3:=ZQ (a:=XK (XK (m+gX l[j].x)+MM l[j].labels)+(1+l[j].name.length:Nat)) (by omega);conv=>whnf
   repeat' (first|((first|(refine iM fun _=>?_)|refine dA ?_|refine And.intro rfl ?_|refine DD (by omega) ?_|(refine CallK.pure (UP (gX l[j].x+1) l[j].x (by omega) m h3) (.cons (Sub.refl _) (.cons (Sub.refl _) .nil)) ?_;rintro _ rfl)|refine cP (XR l[j].labels _ q1) ?_|refine cP (QT l[j].name _ q2) ?_|refine cP (QT l[j].proc _ q3) ?_);conv=>whnf)|(apply bD<;>intro _<;>first|omega|conv=>whnf))
   rotate_left 1
   ·exact RetK.int (by rw [<- h4];exact YK (by omega) h3.2 (by omega))
   have q4:=ZQ (a:=XK (XK (XK (m+gX l[j].x)+MM l[j].labels)+(1+l[j].name.length:Nat))+(1+l[j].proc.length:Nat)) (by omega);have h5:XK (XK (XK (XK (XK (m+gX l[j].x)+MM l[j].labels)+(1+l[j].name.length:Nat))+(1+l[j].proc.length:Nat))+(x1x l[j].args+(gL l[j].thn+gL l[j].els+gL (l.drop (j+1))):Nat))=XK (n+gL l):=by
    rw [ZU (by omega),Int.add_assoc,ZU (by omega),Int.add_assoc,ZU (by omega),Int.add_assoc,ZU (by omega),<- h4,hse];congr 1;omega
   generalize XK (XK (XK (XK (m+gX l[j].x)+MM l[j].labels)+(1+l[j].name.length:Nat))+(1+l[j].proc.length:Nat))=m0 at q4 h5 ⊢;have hal:(l[j].args.map fun a=>AV.agg a.cells).length=l[j].args.length:=length_map _;refine LoopK.inv QX (fun y:Nat×Int=>⟨[(0,.p (eSs l)),(1,.p (.int .i64 y.2)),(5,.p (.int .i64 j)),(6,.p (.ip l[j].cells)),(7,.p (.int .i64 y.1))],[]⟩) (fun y=>y.1<=l[j].args.length∧(0<=y.2∧y.2<=20001)∧XK (y.2+(x1x (l[j].args.drop y.1)+(gL l[j].thn+gL l[j].els+gL (l.drop (j+1))):Nat))=XK (n+gL l)) (fun y=>l[j].args.length-y.1) (0,m0) (Le.of_eq rfl) ⟨zero_le _,q4,h5⟩ ?_;rintro ⟨a,m2⟩ ⟨h6,h7,h8⟩;simp only at h6 h7 h8 ⊢;have fin:XK (m2+(gL l[j].thn+gL l[j].els+gL (l.drop (j+1)):Nat))=XK (n+gL l)->(0<=XK (XK (m2+gL l[j].thn)+gL l[j].els)∧XK (XK (m2+gL l[j].thn)+gL l[j].els)<=20001)∧XK (XK (XK (m2+gL l[j].thn)+gL l[j].els)+gL (l.drop (j+1)))=XK (n+gL l):=fun h=>by
    have:=ZQ (a:=m2+gL l[j].thn) (by omega);refine ⟨ZQ (by omega),?_⟩;rw [ZU (by omega),Int.add_assoc,ZU (by omega),<- h];congr 1;omega
   have r1:=ZQ (a:=m2+gL l[j].thn) (by omega);have full:m2>20000->XK (m2+(gL l[j].thn+gL l[j].els+gL (l.drop (j+1)):Nat))=XK (n+gL l):=fun h=>by
    rw [<- h8,<- YK h h7.2 (by omega),<- YK h h7.2 (by omega)]
   rcases Nat.lt_or_ge a l[j].args.length with ha|ha;rotate_left 1
   ·have h9:XK (m2+(gL l[j].thn+gL l[j].els+gL (l.drop (j+1)):Nat))=XK (n+gL l):=by
     rw [drop_eq_nil_of_le ha,x1x,Nat.zero_add] at h8;exact h8
    obtain ⟨f1,f2⟩:=fin h9;conv=>whnf
    repeat' (first|((first|(refine iM fun _=>?_)|refine dA ?_|refine wI ?_|(refine CallK.pure (ih l[j].thn (by omega) m2 h7) (.cons (Sub.refl _) (.cons (Sub.refl _) .nil)) ?_;rintro _ rfl)|(refine CallK.pure (ih l[j].els (by omega) _ r1) (.cons (Sub.refl _) (.cons (Sub.refl _) .nil)) ?_;rintro _ rfl));conv=>whnf)|(apply bD<;>intro _<;>first|omega|conv=>whnf))
    all_goals exact ⟨(j+1,XK (XK (m2+gL l[j].thn)+gL l[j].els)),⟨by simp only;omega,f1,f2⟩,by simp only;omega,Le.of_eq rfl⟩
   rw [drop_eq_getElem_cons ha,x1x] at h8;have q5:=ZQ (a:=m2+gX l[j].args[a].x) (by omega);conv=>whnf
   repeat' (first|((first|(refine iM fun _=>?_)|refine dA ?_|(refine iA fun _=>?_)|refine wI ?_|(refine CallK.pure (UP (gX l[j].args[a].x+1) l[j].args[a].x (by omega) m2 h7) (.cons (Sub.refl _) (.cons (Sub.refl _) .nil)) ?_;rintro _ rfl)|refine cP (QT l[j].args[a].name _ q5) ?_|(refine CallK.pure (ih l[j].thn (by omega) m2 h7) (.cons (Sub.refl _) (.cons (Sub.refl _) .nil)) ?_;rintro _ rfl)|(refine CallK.pure (ih l[j].els (by omega) _ r1) (.cons (Sub.refl _) (.cons (Sub.refl _) .nil)) ?_;rintro _ rfl));conv=>whnf)|(apply bD<;>intro _<;>first|omega|conv=>whnf))
   ·have h10:XK (XK (XK (m2+gX l[j].args[a].x)+(1+l[j].args[a].name.length:Nat))+(x1x (l[j].args.drop (a+1))+(gL l[j].thn+gL l[j].els+gL (l.drop (j+1))):Nat))=XK (n+gL l):=by
     rw [ZU (by omega),Int.add_assoc,ZU (by omega),<- h8];congr 1;omega
    exact ⟨(a+1,XK (XK (m2+gX l[j].args[a].x)+(1+l[j].args[a].name.length:Nat))),⟨by simp only;omega,ZQ (by omega),h10⟩,by simp only;omega,Le.of_eq rfl⟩
   ·obtain ⟨f1,f2⟩:=fin (full (by omega));exact ⟨(j+1,XK (XK (m2+gL l[j].thn)+gL l[j].els)),⟨by simp only;omega,f1,f2⟩,by simp only;omega,Le.of_eq rfl⟩
def w7t (p:Pg):Bool:=decide (gPg p<=20000)
theorem v1p {p:Pg} (h:w7t p=true):Fit p:=by
 have:=v4v p;have h1:gPg p<=20000:=by simpa [w7t] using h
 unfold Fit;omega
theorem US (p:Pg):SpecP Tryz.prog 16 [.agg p.cells] (fun r=>r = .bool (w7t p)):=by
 refine sB MI Tryz.func16 rfl Tryz.call16 ?_;conv=>whnf
 have hl:(p.procs.map fun f=>AV.agg f.cells).length=p.procs.length:=length_map _;have q0:=ZQ (a:=0+MM p.globals) (by omega);repeat' (refine CallK.pure (XR p.globals 0 (by omega)) (.cons (Sub.refl _) (.cons (Sub.refl _) .nil)) ?_;rintro _ rfl;conv=>whnf)
 refine LoopK.inv QX (fun y:Nat×Int=>⟨[(1,.p (.ip p.cells)),(3,.p (.int .i64 y.2)),(4,.p (.int .i64 y.1))],[]⟩) (fun y=>y.1<=p.procs.length∧(0<=y.2∧y.2<=20001)∧XK (y.2+z0s (p.procs.drop y.1))=XK (gPg p:Nat)) (fun y=>p.procs.length-y.1) (0,XK (0+MM p.globals)) (Le.of_eq rfl) ⟨zero_le _,q0,by
  show XK (XK (0+MM p.globals)+z0s p.procs)=_;rw [ZU (by omega)];congr 1;unfold gPg;omega⟩ ?_
 rintro ⟨j,m⟩ ⟨h2,h3,h4⟩;simp only at h2 h3 h4 ⊢;have last : ∀ {x:Int},0<=x∧x<=20001->XK x=XK (gPg p:Nat)->(decide (x<=20000))=w7t p:=fun {x} hx h=>by
  unfold w7t;unfold XK at h;by_cases h1:gPg p<=20000
  ·rw [decide_eq_true h1,decide_eq_true_eq];split at h<;>split at h<;>omega
  ·rw [decide_eq_false h1,decide_eq_false_iff_not];split at h<;>split at h<;>omega
 rcases Nat.lt_or_ge j p.procs.length with hj|hj;rotate_left 1
 ·rw [drop_eq_nil_of_le hj,z0s] at h4;conv=>whnf
  repeat' (first|(refine iM fun _=>?_;conv=>whnf)|(apply bD<;>intro _<;>first|omega|conv=>whnf))
  all_goals exact RetK.bool (last h3 (by rw [<- h4];simp))
 rw [drop_eq_getElem_cons hj,z0s] at h4;have hpe:gPr p.procs[j]=1+p.procs[j].name.length+MM p.procs[j].vars+MM p.procs[j].fin+w3i p.procs[j].params+gL p.procs[j].body:=rfl;have q1:=ZQ (a:=m+(1+p.procs[j].name.length:Nat)) (by omega);have q2:=ZQ (a:=XK (m+(1+p.procs[j].name.length:Nat))+MM p.procs[j].vars) (by omega);have q3:=ZQ (a:=XK (XK (m+(1+p.procs[j].name.length:Nat))+MM p.procs[j].vars)+MM p.procs[j].fin) (by omega);conv=>whnf
 repeat' (first|((first|(refine iM fun _=>?_)|refine dA ?_|refine And.intro rfl ?_|(refine iA fun _=>?_)|refine cP (QT p.procs[j].name _ h3) ?_|refine cP (XR p.procs[j].vars _ q1) ?_|refine cP (XR p.procs[j].fin _ q2) ?_);conv=>whnf)|(apply bD<;>intro _<;>first|omega|conv=>whnf))
 rotate_left 1
 ·exact RetK.bool (last h3 (by rw [<- h4,<- YK (by omega) h3.2 (by omega),x3r h3.2]))
 have h5:XK (XK (XK (XK (m+(1+p.procs[j].name.length:Nat))+MM p.procs[j].vars)+MM p.procs[j].fin)+(w3i p.procs[j].params+(gL p.procs[j].body+z0s (p.procs.drop (j+1))):Nat))=XK (gPg p:Nat):=by
  rw [ZU (by omega),Int.add_assoc,ZU (by omega),Int.add_assoc,ZU (by omega),<- h4,hpe];congr 1;omega
 generalize XK (XK (XK (m+(1+p.procs[j].name.length:Nat))+MM p.procs[j].vars)+MM p.procs[j].fin)=m0 at q3 h5 ⊢;have hal:(p.procs[j].params.map fun a=>AV.agg a.cells).length=p.procs[j].params.length:=length_map _;refine LoopK.inv QX (fun y:Nat×Int=>⟨[(1,.p (.ip p.cells)),(3,.p (.int .i64 y.2)),(4,.p (.int .i64 j)),(5,.p (.ip p.procs[j].cells)),(6,.p (.int .i64 y.1))],[]⟩) (fun y=>y.1<=p.procs[j].params.length∧(0<=y.2∧y.2<=20001)∧XK (y.2+(w3i (p.procs[j].params.drop y.1)+(gL p.procs[j].body+z0s (p.procs.drop (j+1))):Nat))=XK (gPg p:Nat)) (fun y=>p.procs[j].params.length-y.1) (0,m0) (Le.of_eq rfl) ⟨zero_le _,q3,h5⟩ ?_;rintro ⟨a,m2⟩ ⟨h6,h7,h8⟩;simp only at h6 h7 h8 ⊢;have fin:XK (m2+(gL p.procs[j].body+z0s (p.procs.drop (j+1)):Nat))=XK (gPg p:Nat)->(0<=XK (m2+gL p.procs[j].body)∧XK (m2+gL p.procs[j].body)<=20001)∧XK (XK (m2+gL p.procs[j].body)+z0s (p.procs.drop (j+1)))=XK (gPg p:Nat):=fun h=>by
  refine ⟨ZQ (by omega),?_⟩;rw [ZU (by omega),<- h];congr 1;omega
 have full:m2>20000->XK (m2+(gL p.procs[j].body+z0s (p.procs.drop (j+1)):Nat))=XK (gPg p:Nat):=fun h=>by
  rw [<- h8,<- YK h h7.2 (by omega),<- YK h h7.2 (by omega)]
 rcases Nat.lt_or_ge a p.procs[j].params.length with ha|ha;rotate_left 1
 ·have h9:XK (m2+(gL p.procs[j].body+z0s (p.procs.drop (j+1)):Nat))=XK (gPg p:Nat):=by
   rw [drop_eq_nil_of_le ha,w3i,Nat.zero_add] at h8;exact h8
  obtain ⟨f1,f2⟩:=fin h9;conv=>whnf
  repeat' (first|((first|(refine iM fun _=>?_)|refine wI ?_|(refine CallK.pure (VE (gL p.procs[j].body+1) p.procs[j].body (by omega) m2 h7) (.cons (Sub.refl _) (.cons (Sub.refl _) .nil)) ?_;rintro _ rfl));conv=>whnf)|(apply bD<;>intro _<;>first|omega|conv=>whnf))
  all_goals exact ⟨(j+1,XK (m2+gL p.procs[j].body)),⟨by simp only;omega,f1,f2⟩,by simp only;omega,Le.of_eq rfl⟩
 rw [drop_eq_getElem_cons ha,w3i] at h8;conv=>whnf
 repeat' (first|((first|(refine iM fun _=>?_)|(refine iA fun _=>?_)|refine wI ?_|refine cP (QT p.procs[j].params[a].name _ h7) ?_|(refine CallK.pure (VE (gL p.procs[j].body+1) p.procs[j].body (by omega) m2 h7) (.cons (Sub.refl _) (.cons (Sub.refl _) .nil)) ?_;rintro _ rfl));conv=>whnf)|(apply bD<;>intro _<;>first|omega|conv=>whnf))
 ·have h10:XK (XK (m2+(1+p.procs[j].params[a].name.length:Nat))+(w3i (p.procs[j].params.drop (a+1))+(gL p.procs[j].body+z0s (p.procs.drop (j+1))):Nat))=XK (gPg p:Nat):=by
   rw [ZU (by omega),<- h8];congr 1;omega
  exact ⟨(a+1,XK (m2+(1+p.procs[j].params[a].name.length:Nat))),⟨by simp only;omega,ZQ (by omega),h10⟩,by simp only;omega,Le.of_eq rfl⟩
 ·obtain ⟨f1,f2⟩:=fin (full (by omega));exact ⟨(j+1,XK (m2+gL p.procs[j].body)),⟨by simp only;omega,f1,f2⟩,by simp only;omega,Le.of_eq rfl⟩
inductive SubE:List AV->List AV->Prop
 | nil:SubE [] []
 | cons {a b:AV} {xs ys:List AV} (h:SubL a.cells b.cells) (hs:SubE xs ys):SubE (a::xs) (b::ys)
theorem SubE.get {xs ys:List AV} (h:SubE xs ys):xs.length=ys.length ∧ ∀ (i:Nat) (b:AV),ys[i]? = some b -> ∃ a,xs[i]? = some a∧SubL a.cells b.cells:=by
 induction h with
 | nil=>exact ⟨rfl,by simp⟩
 | cons h hs ih =>
   refine ⟨by simp [ih.1],fun i b hb => ?_⟩;cases i with
   | zero=>simp at hb;subst hb;exact ⟨_,rfl,h⟩
   | succ i=>exact ih.2 i b (by simpa using hb)
theorem Sub.sl {xs ys:List AV} (h:SubE xs ys):Sub (.sl xs) (.sl ys):=fun σ v hr=>by
 obtain ⟨hl,hg⟩:=h.get;cases hr with
 | nilsl =>
   obtain rfl:ys=[]:=by simpa using hl.symm
   exact .nilsl
 | slz b =>
   obtain rfl:ys=[]:=by simpa using hl.symm
   exact .slz b
 | sl _ b off cap sz cells u hb hcap hmax hsz hc hrr =>
   rw [hl];refine .sl ys b off cap sz cells u hb (by omega) hmax (fun i e hi => ?_) (fun i e j c hi hj => ?_) (fun i e j c hi hj => ?_)
   ·obtain ⟨a,h1,h2⟩:=hg i e hi;rw [<- hsz i a h1,h2.1]
   ·obtain ⟨a,h1,h2⟩:=hg i e hi;obtain ⟨d,h3,_⟩:=h2.get hj;exact hc i a j d h1 h3
   ·obtain ⟨a,h1,h2⟩:=hg i e hi;obtain ⟨d,h3,h4⟩:=h2.get hj;exact h4 _ _ (hrr i a j d h1 h3)
theorem q6d (n:Int):SpecP Tryz.prog 140 [.int .i64 n] (fun r=>r = .agg (X.mk 1 n [] []).cells):=by
 refine sB q1d Tryz.func140 rfl Tryz.call140 ?_;conv=>whnf
 repeat' (refine And.intro rfl ?_;conv=>whnf)
 exact ⟨_,.p (Sub.agg (by repeat' (first|exact SubL.nil|refine SubL.cons ?_ ?_|exact Sub.refl _|exact Sub.nils|exact Sub.ff rfl))),rfl⟩
theorem q4j (s:Str):SpecP Tryz.prog 141 [.str s] (fun r=>r = .agg (X.mk 2 0 s []).cells):=by
 refine sB LL Tryz.func141 rfl Tryz.call141 ?_;conv=>whnf
 repeat' (refine And.intro rfl ?_;conv=>whnf)
 exact ⟨_,.p (Sub.agg (by repeat' (first|exact SubL.nil|refine SubL.cons ?_ ?_|exact Sub.refl _|exact Sub.nils|exact Sub.ff rfl))),rfl⟩
theorem DS (op:Int) (a b:X):SpecP Tryz.prog 142 [.int .i64 op,.agg a.cells,.agg b.cells] (fun r=>r = .agg (X.mk op 0 [] [a,b]).cells):=by
 refine sB q3y Tryz.func142 rfl Tryz.call142 ?_;conv=>whnf
 repeat' ((first|refine And.intro rfl ?_|refine aD ?_|refine BsK.pureL rfl rfl ?_);conv=>whnf)
 have e:X.avs [a,b]=[.agg a.cells,.agg b.cells]:=by simp only [X.avs,X.av_eq]
 exact ⟨_,.p (Sub.agg (SubL.cons (Sub.refl _) (SubL.cons (Sub.refl _) (SubL.cons (Sub.refl _) (SubL.cons (Sub.of_eq (by show _=AV.sl (X.avs [a,b]);rw [e];rfl)) SubL.nil))))),rfl⟩
def bs (l:List Nat):Str:=l.map fun n=>UInt8.ofNat n
def someP:Pg:=⟨[[103]],[
 ⟨[109,97,105,110],[],[[118]],[
   .mk 1 1 [] [118] [] (.mk 1 2 [] []) false [] [] [],
   .mk 2 4 [] [103] [112] (.mk 0 0 [] []) false [⟨false,[],.mk 1 3 [] []⟩,⟨true,[118],.mk 0 0 [] []⟩] [] [],
   .mk 3 3 [] [] [] (.mk 2 0 [118] []) false [] [] [],
   .mk 4 3 [] [] [] (.mk 2 0 [103] []) false [] [] []],[]⟩,
 ⟨[112],[⟨[120],false⟩,⟨[121],true⟩],[],[
   .mk 5 1 [] [121] [] (.mk 8 0 [] [.mk 2 0 [121] [],.mk 2 0 [120] []]) false [] [] [],
   .mk 6 5 [] [] [] (.mk 12 0 [] [.mk 2 0 [121] [],.mk 1 9 [] []]) false [] [.mk 7 10 [] [101] [] (.mk 0 0 [] []) false [] [] []] [],
   .mk 8 9 [] [] [] (.mk 2 0 [121] []) true [] [] []],[[101]]⟩]⟩
theorem q4s:SpecP Tryz.prog 78 [] (fun r=>r = .agg someP.cells):=by
 refine sB LT Tryz.func78 rfl Tryz.call78 ?_;conv=>whnf
 repeat' ((first|refine cP (q6d _) ?_|refine cP (q4j _) ?_|refine And.intro rfl ?_|refine aD ?_|refine bP ?_|refine BsK.pureL rfl rfl ?_|refine cP (DS 8 (.mk 2 0 [121] []) (.mk 2 0 [120] [])) ?_|refine cP (DS 12 (.mk 2 0 [121] []) (.mk 1 9 [] [])) ?_);conv=>whnf)
 exact ⟨_,.p (Sub.agg (by repeat' (first|exact SubL.nil|exact SubE.nil|exact Sub.nils|exact Sub.ff rfl|exact Sub.tt rfl|refine SubL.cons ?_ ?_|refine SubE.cons ?_ ?_|exact Sub.refl _|refine Sub.agg ?_|refine Sub.sl ?_))),rfl⟩
theorem x5o:Fit someP:=by unfold Fit;decide
theorem q6r:XG someP=true:=by kernel_rfl
def f0:Pr:=someP.procs[0]'(by decide)
def f1:Pr:=someP.procs[1]'(by decide)
theorem v4f:ZL (QK someP 0 f0)=[⟨0,1,1⟩,⟨1,2,1⟩,⟨2,3,1⟩,⟨3,4,1⟩,⟨4,-1,1⟩]:=by
 have h1:QK someP 0 f0=[⟨0,1,1⟩,⟨1,2,1⟩,⟨2,3,1⟩,⟨3,4,1⟩,⟨4,-1,1⟩]:=by kernel_rfl
 unfold ZL YC;rw [h1,List.mergeSort_of_pairwise (by decide)];rfl
theorem v3x:ZL (QK someP 1 f1)=[⟨0,5,1⟩,⟨5,6,1⟩,⟨6,7,1⟩,⟨6,8,1⟩,⟨7,-1,1⟩,⟨8,-1,1⟩]:=by
 have h1:QK someP 1 f1=[⟨0,5,1⟩,⟨5,6,1⟩,⟨6,7,1⟩,⟨6,8,1⟩,⟨7,-1,1⟩,⟨8,-1,1⟩]:=by kernel_rfl
 unfold ZL YC;rw [h1,List.mergeSort_of_pairwise (by decide)];rfl
theorem z4y:DR someP [112]=some (QQ someP 1 f1):=by
 unfold DR;rw [q6r];rfl
theorem z6b {p:Pg} {n:Str} (h:DR p n=none) (hc:XG p=true):UB p n=(Pr0,false):=by
 unfold DR at h;rw [hc,cond_true] at h;unfold UB;cases hq:p.procs.find? (fun f=>f.name==n) with
 | none=>rfl
 | some f=>rw [hq] at h;cases h
theorem w0s {p:Pg} (h:XG p=true) {j:Nat} {f:Pr} (hj:p.procs[j]? = some f):(QQ p j f).real.length<=100000:=by
 obtain ⟨h1,h2⟩:=VI h hj;have h3:=ZE (z5g h1) fun s hs=>(h2 s).1 hs;have h4:=BS p j f;have h5:=FO _ _ (List.mem_of_getElem? hj);have:=(KU h).2.2;omega
theorem z8w : ∀ (k:Nat) (l:List S) (_:QV l<k) (_:QV l<=1000000),SpecP Tryz.prog 84 [eSs l] (fun r=>r = .int .i64 (QV l)):=by
 intro k;induction k with
 | zero=>intro l h;omega
 | succ k ih =>
   intro l hk hl;have hll:=S.avs_len l;have hlc:l.length<=QV l:=by
    clear hk hl hll;induction l with
    | nil=>simp
    | cons t r ihr=>rw [QV,WB,List.length_cons];omega
   refine sB x9r Tryz.func84 rfl Tryz.call84 ?_;conv=>whnf
   repeat' (refine iM fun _=>?_;conv=>whnf)
   refine LoopK.inv QX (fun y:Nat×Nat=>⟨[(0,.p (eSs l)),(3,.p (.int .i64 y.2)),(8,.p (.int .i64 (S.avs l).length)),(9,.p (.int .i64 y.1))],[]⟩) (fun y=>y.1<=l.length∧y.2+QV (l.drop y.1)=QV l+(l.length-y.1)) (fun y=>l.length-y.1) (0,l.length) (Le.of_eq (by simp only [S.avs_len];rfl)) ⟨zero_le _,by simp;omega⟩ ?_;rintro ⟨j,n⟩ ⟨h2,h3⟩;simp only at h2 h3 ⊢;rcases Nat.lt_or_ge j l.length with hj|hj
   ·have hst:=q3q hj;have hcs:=WB l[j];have h4:QV (l.drop j)<=QV l:=by
     have : ∀ (l:List S) (j:Nat),QV (l.drop j)<=QV l:=fun l=>by
      induction l with
      | nil=>intro j;simp
      | cons t r ihr =>
        intro j;cases j with
        | zero=>simp
        | succ j=>rw [List.drop_succ_cons,QV];have:=ihr j;omega
     exact this l j
    conv=>whnf
    repeat' (first|((first|refine dA ?_|refine DD (by omega) ?_|refine wI ?_|(refine CallK.pure (ih l[j].thn (by omega) (by omega)) (.cons (Sub.refl _) .nil) ?_;rintro _ rfl)|(refine CallK.pure (ih l[j].els (by omega) (by omega)) (.cons (Sub.refl _) .nil) ?_;rintro _ rfl));conv=>whnf)|(apply bD<;>intro _<;>first|omega|conv=>whnf))
    all_goals exact ⟨(j+1,n+(QV l[j].thn+QV l[j].els)),⟨by simp only;omega,by simp only;omega⟩,by simp only;omega,Le.of_eq rfl⟩
   ·conv=>whnf
    rw [drop_eq_nil_of_le hj,QV] at h3;repeat' (apply bD<;>intro _<;>first|omega|conv=>whnf)
    exact RetK.int (by omega)
theorem z6m (p:Pg) (hc:cntP p.procs<=1000):SpecP Tryz.prog 18 [.agg p.cells] (fun r=>r = .int .i64 (cntP p.procs)):=by
 refine sB x7x Tryz.func18 rfl Tryz.call18 ?_;conv=>whnf
 have hl2:(p.procs.map fun f=>AV.agg f.cells).length=p.procs.length:=length_map _;repeat' (refine iM fun _=>?_;conv=>whnf)
 refine LoopK.inv QX (fun y:Nat×Nat=>⟨[(3,.p (.int .i64 y.2)),(7,.p (.sl (p.procs.map fun f => .agg f.cells))),(8,.p (.int .i64 (p.procs.map fun f=>AV.agg f.cells).length)),(9,.p (.int .i64 y.1))],[]⟩) (fun y=>y.1<=p.procs.length∧y.2+cntP (p.procs.drop y.1)=cntP p.procs) (fun y=>p.procs.length-y.1) (0,0) (Le.of_eq rfl) ⟨zero_le _,by simp⟩ ?_;rintro ⟨j,n⟩ ⟨h2,h3⟩;simp only at h2 h3 ⊢;rcases Nat.lt_or_ge j p.procs.length with hj|hj
 ·have hst:=q9h hj;have hcm:=FO _ _ (List.getElem_mem hj);conv=>whnf
  repeat' (first|((first|refine And.intro rfl ?_|(refine iA fun _=>?_)|refine wI ?_|(refine CallK.pure (z8w (QV p.procs[j].body+1) p.procs[j].body (by omega) (by omega)) (.cons (Sub.refl _) .nil) ?_;rintro _ rfl));conv=>whnf)|(apply bD<;>intro _<;>first|omega|conv=>whnf))
  exact ⟨(j+1,n+QV p.procs[j].body),⟨by simp only;omega,by simp only;omega⟩,by simp only;omega,Le.of_eq rfl⟩
 ·conv=>whnf
  rw [drop_eq_nil_of_le hj,cntP] at h3;repeat' (apply bD<;>intro _<;>first|omega|conv=>whnf)
  exact RetK.int (by omega)
def frR (steps:List Step) (at_:Int) (but:List Int) (a b:Int):Prop:=(a=at_∨UO but a=false) ∧ ∃ s∈steps,s.src=a∧s.dst=b
structure FrI (steps:List Step) (at_:Int) (but:List Int) (n:Nat) (l:List Int):Prop where
 le:n<=l.length
 hd:l[0]? = some at_
 nd:l.Nodup
 sub : ∀ x∈l,x∈at_::steps.map Step.dst
 snd : ∀ x∈l,Rch (frR steps at_ but) at_ x
 cl : ∀ (m:Nat) (a:Int),m<n->l[m]? = some a -> ∀ b,frR steps at_ but a b->b∈l
theorem FrI.len {steps:List Step} {at_:Int} {but:List Int} {n:Nat} {l:List Int} (h:FrI steps at_ but n l):l.length<=steps.length+1:=by
 have:=ZE h.nd h.sub;simpa using this
theorem FrI.start (steps:List Step) (at_:Int) (but:List Int):FrI steps at_ but 0 [at_]:=⟨zero_le _,rfl,by simp,by simp,fun x hx=>by rw [List.mem_singleton.1 hx];exact .refl,fun m a hm=>by omega⟩
theorem FrI.add {steps:List Step} {at_:Int} {but:List Int} {n:Nat} {l:List Int} (h:FrI steps at_ but n l) {a b:Int} (ha:a∈l) (hb:frR steps at_ but a b) (hn:UO l b=false):FrI steps at_ but n (l++[b]):=by
 have hnm:b∉l:=fun hm=>by rw [XD.2 hm] at hn;cases hn
 have h0:0<l.length:=(List.getElem?_eq_some_iff.1 h.hd).1;refine ⟨by rw [length_append];have:=h.le;omega,by rw [List.getElem?_append_left h0];exact h.hd,?_,fun x hx => ?_,fun x hx => ?_,fun m c hm hc d hd => ?_⟩
 ·rw [List.nodup_append];refine ⟨h.nd,by simp,fun x hx y hy => ?_⟩;rw [List.mem_singleton.1 hy];exact fun e=>hnm (e▸hx)
 ·rcases List.mem_append.1 hx with hx|hx
  ·exact h.sub x hx
  ·rw [List.mem_singleton.1 hx];obtain ⟨_,s,hs,_,h2⟩:=hb;exact mem_cons_of_mem _ (List.mem_map.2 ⟨s,hs,h2⟩)
 ·rcases List.mem_append.1 hx with hx|hx
  ·exact h.snd x hx
  ·rw [List.mem_singleton.1 hx];exact .tail (h.snd a ha) hb
 ·rcases Nat.lt_or_ge m l.length with hml|hml
  ·rw [List.getElem?_append_left hml] at hc;exact List.mem_append.2 (.inl (h.cl m c hm hc d hd))
  ·have:=h.le;omega
theorem FrI.fin {steps:List Step} {at_:Int} {but:List Int} {l:List Int} (h:FrI steps at_ but l.length l) (x:Int):x∈l↔Rch (frR steps at_ but) at_ x:=by
 refine ⟨h.snd x,fun hr=>hr.closed (S:=fun x=>x∈l) (fun a b ha hb => ?_) (List.mem_of_getElem? h.hd)⟩;obtain ⟨m,hm⟩:=List.mem_iff_getElem?.1 ha;exact h.cl m a (List.getElem?_eq_some_iff.1 hm).1 hm b hb
theorem FrI.next {steps:List Step} {at_:Int} {but:List Int} {n:Nat} {l:List Int} (h:FrI steps at_ but n l) (hn:n<l.length) (hc : ∀ b,frR steps at_ but l[n] b->b∈l):FrI steps at_ but (n+1) l:=by
 refine ⟨hn,h.hd,h.nd,h.sub,h.snd,fun m a hm ha b hb => ?_⟩;rcases Nat.lt_or_ge m n with hmn|hmn
 ·exact h.cl m a hmn ha b hb
 ·obtain rfl:m=n:=by omega
  rw [List.getElem?_eq_getElem hn] at ha;cases ha;exact hc b hb
def v5x (steps:List Step) (at_:Int) (but:List Int) (r:AV):Prop := ∃ es,r=QD es∧(∀ x,x∈es↔Rch (frR steps at_ but) at_ x)∧es.Nodup
theorem GX (steps:List Step) (at_:Int) (but:List Int) (hlen:steps.length<=1000000):SpecP Tryz.prog 159 [QO steps,.int .i64 at_,QD but] (fun r=>v5x steps at_ but r):=by
 refine sB MU Tryz.func159 rfl Tryz.call159 ?_;conv=>whnf
 have hsl:(steps.map fun s=>AV.agg s.cells).length=steps.length:=length_map _;repeat' ((first|refine And.intro rfl ?_|refine aD ?_|refine BsK.own (fun x hx=>by rcases List.mem_singleton.1 hx with rfl;rfl) rfl ?_);conv=>whnf)
 refine LoopK.inv QX (fun x:Nat×List Int=>⟨[(0,.p (QO steps)),(2,.p (QD but)),(7,.hd 0 0 x.2.length),(8,.p (.int .i64 x.1))],[(0,.own 3 1 (x.2.map (.int .i64)))]⟩) (fun x=>x.1<=x.2.length∧FrI steps at_ but x.1 x.2) (fun x=>steps.length+2-x.1) (0,[at_]) (Le.of_eq rfl) ⟨zero_le _,FrI.start _ _ _⟩ ?_;rintro ⟨n,l⟩ ⟨h1,h2⟩;simp only at h1 h2 ⊢;have hll:=h2.len;rcases Nat.lt_or_ge n l.length with hn|hn;rotate_left 1
 ·conv=>whnf
  repeat' (first|(refine iM fun _=>?_;conv=>whnf)|(apply bD<;>intro _<;>first|omega|conv=>whnf))
  have hnl:n=l.length:=by have:=h2.le;omega
  subst hnl;exact ⟨_,.hd rfl (by simp),l,rfl,h2.fin,h2.nd⟩
 conv=>whnf
 repeat' (first|((first|(refine iM fun _=>?_)|refine And.intro rfl ?_|refine wI ?_|refine IdxL.mk n (by omega) (by omega) ?_|refine LdOwn.mk n 0 (.int .i64 l[n]) (by omega) (by simp [hn]) ?_|refine cP (XQ but l[n]) ?_);conv=>whnf)|(apply bD<;>intro _<;>first|omega|conv=>whnf)|(apply bB<;>intro _<;>conv=>whnf))
 ·have hb:UO but l[n]=true:=by assumption
  have hn0:0<n:=by omega
  refine ⟨(n+1,l),⟨hn,h2.next hn fun b ⟨h3,_⟩ => ?_⟩,by simp only;omega,Le.of_eq rfl⟩;rcases h3 with h3|h3
  ·have h4:l[0]? = l[n]? := by rw [h2.hd,List.getElem?_eq_getElem hn,h3]
   have:=(List.getElem?_inj (by omega) h2.nd).1 h4;omega
  ·rw [hb] at h3;cases h3
 all_goals
  have hcan:l[n]=at_∨UO but l[n]=false:=by
   first
    | exact .inr (by assumption)
    | (left
       have h5:n=0:=by omega
       have h6:=h2.hd;subst h5;rw [List.getElem?_eq_getElem hn] at h6;exact Option.some.inj h6)
  refine LoopK.inv QX (fun x:Nat×List Int=>⟨[(0,.p (QO steps)),(2,.p (QD but)),(7,.hd 0 0 x.2.length),(8,.p (.int .i64 n)),(29,.p (QO steps)),(30,.p (.int .i64 (steps.map fun s=>AV.agg s.cells).length)),(31,.p (.int .i64 x.1))],[(0,.own 3 1 (x.2.map (.int .i64)))]⟩) (fun x=>x.1<=steps.length∧l <+: x.2∧FrI steps at_ but n x.2 ∧ ∀ s∈steps.take x.1,s.src=l[n]->s.dst∈x.2) (fun x=>steps.length-x.1) (0,l) (Le.of_eq rfl) ⟨zero_le _,List.prefix_refl _,h2,by simp⟩ ?_;rintro ⟨y,o⟩ ⟨h3,h4,h5,h6⟩;simp only at h3 h4 h5 h6 ⊢;have hno:n<o.length:=Nat.lt_of_lt_of_le hn h4.length_le;have hon:o[n]=l[n]:=by
   have:=q3o h4 (List.getElem?_eq_getElem hn);rw [List.getElem?_eq_getElem hno] at this;exact Option.some.inj this
  have hol:=h5.len;have hom:(o.map (AV.int .i64)).length=o.length:=length_map _;rcases Nat.lt_or_ge y steps.length with hy|hy
  ·have htk:=List.take_succ_eq_append_getElem hy;conv=>whnf
   repeat' (first|((first|refine dA ?_|refine And.intro rfl ?_|refine aD ?_|refine bP ?_|(refine iA fun _=>?_)|refine wI ?_|refine IdxL.mk n (by omega) (by omega) ?_|refine LdOwn.mk n 0 (.int .i64 o[n]) (by omega) (by simp [hno]) ?_|(refine QG (XQ o steps[y].dst) (.cons (.hd rfl hom.symm) (.cons (.p (Sub.refl _)) .nil)) (by rintro _ rfl;rfl) ?_;rintro _ rfl)|refine XO (by simp) (by simp;omega) ?_);conv=>whnf)|(apply bD<;>intro _<;>first|omega|conv=>whnf)|(apply bN<;>intro _<;>conv=>whnf))
   all_goals first
    | exact ⟨(y+1,o++[steps[y].dst]),⟨hy,h4.trans (List.prefix_append _ _),h5.add (List.getElem_mem hno) ⟨by rw [hon];exact hcan,steps[y],List.getElem_mem hy,by assumption,rfl⟩ (by assumption),fun s hs he=>by
       rw [htk] at hs;rcases List.mem_append.1 hs with hs|hs
       ·exact List.mem_append.2 (.inl (h6 s hs he))
       ·rw [List.mem_singleton.1 hs];exact List.mem_append.2 (.inr (List.mem_singleton.2 rfl))⟩,by simp only;omega,Le.of_eq (by simp only [length_append,List.map_append];rfl)⟩
    | exact ⟨(y+1,o),⟨hy,h4,h5,fun s hs he=>by
       rw [htk] at hs;rcases List.mem_append.1 hs with hs|hs
       ·exact h6 s hs he
       ·rw [List.mem_singleton.1 hs] at he ⊢;first
         | exact XD.1 (by assumption)
         | (exfalso
            have hne : ¬steps[y].src=o[n]:=by assumption
            exact hne (he.trans hon.symm))⟩,by simp only;omega,Le.of_eq rfl⟩
  ·rw [List.take_of_length_le hy] at h6;conv=>whnf
   repeat' (first|(refine wI ?_;conv=>whnf)|(apply bD<;>intro _<;>first|omega|conv=>whnf))
   exact ⟨(n+1,o),⟨hno,h5.next hno fun b ⟨_,s,hs,h7,h8⟩=>h8▸h6 s hs (by rw [h7,hon])⟩,by simp only;omega,Le.of_eq rfl⟩
theorem q5a {P:Program} {T:Tab} {hr:Bool} {s:St} {o:Oper} {K:LV->Prop} (hT:TabOK P T) {t u:TypeId} {x y:Operand} (hop:o.op = .binOp .eql t x y u) {i:TyI} (ht:T.get t=some i) (hd:i.desc = .bool)
  {a b:Bool} (hx:w8h (QI s.sl x)=some a) (hy:w8h (QI s.sl y)=some b) (hK:K (.p (.bool (a==b)))):ValO P hr s o K:=by
 refine ⟨fun σ β ac w hs _=>⟨_,.bool (a==b),hK,.p (.bool _),fun w' _ _ => ?_⟩⟩;have h1:=q7y (QU hs x) hx;have h2:=q7y (QU hs y) hy;have hu:=hT.of ht;rw [hd] at hu;have hg:(eqGuard .eql t x y (.bool a) (.bool b)).run P w' = .ok () w':=by unfold eqGuard;rfl
 have he:(Op.equal t (.bool a) (.bool b)).run P w' = .ok (a==b) w':=by
  have e:Op.equal t (.bool a) (.bool b)=Op.equalIn (9999+1) t (.bool a) (.bool b):=rfl;rw [e,Op.equalIn,Sem.run_bind,run_underlying hu,Result.andThen_ok];rfl
 simp only [execOp,hop,h1,h2,Sem.run_bind,hg,Result.andThen_ok,binOp];simp [he]
theorem z0i {l:List Str} {x:Str}:inS l x=true↔x∈l:=by
 unfold inS;rw [List.any_eq_true];constructor
 ·rintro ⟨y,h1,h2⟩;have:y=x:=by simpa using h2
  rw [<- this];exact h1
 ·intro h;exact ⟨x,h,by simp⟩
theorem NY {p:Pg} (h:XG p=true) {j:Nat} {f:Pr} (hj:p.procs[j]? = some f) {a:Int} (h1:(QR p.procs j:Int)+1<=a) (h2:a<=(QR p.procs j+QV f.body:Nat)) : ∃ t∈flL f.body,w9j p a=some t∧t.id=a:=by
 obtain ⟨it,h3,h4⟩:=q0a hj (k:=(a-1).toNat) (by omega) (by omega);refine ⟨it.s,LO h4,by unfold w9j;rw [h3];rfl,?_⟩;obtain ⟨_,_,_,hlen,hsp⟩:=QJ p;obtain ⟨_,_,hle,hd⟩:=hsp j f hj;have hids:=w0d (QF h).1 hj;have h5:(itsOf p j f)[(a-1).toNat-QR p.procs j]? = some it:=by
  unfold itsOf;rw [<- hd,List.getElem?_drop,List.getElem?_take,if_pos (by omega),show QR p.procs j+((a-1).toNat-QR p.procs j)=(a-1).toNat by omega];exact h3
 have h6:((itsOf p j f).map fun it=>it.s.id)[(a-1).toNat-QR p.procs j]? = some it.s.id:=by rw [List.getElem?_map,h5];rfl
 rw [hids] at h6;unfold YR at h6;rw [List.getElem?_map,List.getElem?_range' (by omega)] at h6;simp at h6;omega
structure NoGo (sh:Sheet) (f:Pr) (lo hi:Nat) (T:Int->Prop):Prop where
 cl : ∀ (k:Nat) (it:Item),lo<=k->k<hi->sh.l[k]? = some it->T it.s.id->it.s.kind≠10 ∧ ∀ y∈goesI sh f it,T y
 id : ∀ (k:Nat) (it:Item),lo<=k->k<hi->sh.l[k]? = some it->it.s.id=(k:Int)+1
 ld : ∀ (k:Nat) (it:Item),lo<=k->k<hi->sh.l[k]? = some it->it.s.kind=7∨it.s.kind=8->it.loop≠0
 lp : ∀ (k:Nat) (it:Item),lo<=k->k<hi->sh.l[k]? = some it->it.loop=0 ∨ ∃ u,sh.l[(it.loop-1).toNat]? = some u
def v1q (sh:Sheet) (T:Int->Prop) (nx lp:Int):Prop:=T nx∨T (-1)∨(lp≠0∧(T lp ∨ ∃ u,sh.l[(lp-1).toNat]? = some u∧T u.next))
def atP (sh:Sheet) (n:Nat) (l:List Item):Prop := ∀ (i:Nat) (it:Item),l[i]? = some it->sh.l[n+i]? = some it
theorem atP.left {sh:Sheet} {n:Nat} {a b:List Item} (h:atP sh n (a++b)):atP sh n a:=fun i it hi=>h i it (by
 rw [List.getElem?_append_left (List.getElem?_eq_some_iff.1 hi).1];exact hi)
theorem atP.right {sh:Sheet} {n:Nat} {a b:List Item} (h:atP sh n (a++b)):atP sh (n+a.length) b:=fun i it hi=>by
 rw [Nat.add_assoc];exact h (a.length+i) it (by rw [List.getElem?_append_right (by omega),Nat.add_sub_cancel_left];exact hi)
theorem v2q (proc up nx lp:Int) (n:Nat) (v:S) (r:List S) : ∃ it∈itL proc up nx lp n (v::r),it.s=v:=by
 rw [itL,w8z];exact ⟨_,List.mem_append.2 (.inl mem_cons_self),rfl⟩
mutual
theorem v5n {sh:Sheet} {f:Pr} {lo hi:Nat} {T:Int->Prop} (hT:NoGo sh f lo hi T) (proc:Int) : ∀ (t:S) (up nx lp:Int) (n:Nat),atP sh n (itS proc up nx lp n t)->lo<=n->n+ZV t<=hi->(∃ it∈itS proc up nx lp n t,T it.s.id)->v1q sh T nx lp
 | .mk id kind labels name pr x has args thn els,up,nx,lp,n,hp,h1,h2,h3=>by
   rw [itS] at hp h3;rw [ZV] at h2;have hself:sh.l[n]? = some ⟨.mk id kind labels name pr x has args thn els,proc,up,nx,lp⟩:=hp 0 _ rfl;have hcl:=hT.cl n _ h1 (by omega) hself;have hid:=hT.id n _ h1 (by omega) hself;have hld:=hT.ld n _ h1 (by omega) hself;have hlp:=hT.lp n _ h1 (by omega) hself;have hp1:atP sh (n+1) (itL proc (n+1) (if kind=6 then n+1 else nx) (if kind=6 then n+1 else lp) (n+1) thn++itL proc (n+1) (if kind=6 then n+1 else nx) (if kind=6 then n+1 else lp) (n+1+QV thn) els):=fun i it hi=>by
    have:=hp (i+1) it (by simpa using hi)
    rwa [show n+(i+1)=n+1+i by omega] at this
   have hw:kind=6->T ((n:Int)+1)->T nx:=fun hk h=>by
    have h5:T (S.mk id kind labels name pr x has args thn els).id:=by
     rw [show (S.mk id kind labels name pr x has args thn els).id=(n:Int)+1 from hid];exact h
    refine (hcl h5).2 nx ?_;unfold goesI;rw [if_neg (by show ¬kind=5;omega),if_pos (by exact hk)];simp
   have hin:v1q sh T (if kind=6 then ((n:Int)+1) else nx) (if kind=6 then ((n:Int)+1) else lp)->v1q sh T nx lp:=fun h=>by
    by_cases hk:kind=6
    ·rw [if_pos hk,if_pos hk] at h;rcases h with h|h|⟨_,h|⟨u,hu,h⟩⟩
     ·exact .inl (hw hk h)
     ·exact .inr (.inl h)
     ·exact .inl (hw hk h)
     ·rw [show ((n:Int)+1-1).toNat=n by omega,hself] at hu;cases hu;exact .inl h
    ·rw [if_neg hk,if_neg hk] at h;exact h
   have hthn:(∃ it∈itL proc (n+1) (if kind=6 then n+1 else nx) (if kind=6 then n+1 else lp) (n+1) thn,T it.s.id)->v1q sh T nx lp:=fun h =>
    hin (v2t hT proc thn _ _ _ (n+1) hp1.left (by omega) (by omega) h)
   obtain ⟨it,hit,hti⟩:=h3;rcases List.mem_cons.1 hit with rfl|hit
   ·obtain ⟨hk10,hgo⟩:=hcl hti;have hk10:kind≠10:=hk10;by_cases hk5:kind=5
    ·cases thn with
     | nil =>
       refine .inl (hgo nx ?_);unfold goesI;rw [if_pos (by exact hk5)];simp [q6v,S.thn]
     | cons v r =>
       have:T v.id:=by
        refine hgo v.id ?_;unfold goesI;rw [if_pos (by exact hk5)];simp [q6v,S.thn]
       obtain ⟨iv,h5,h6⟩:=v2q proc (n+1) (if kind=6 then n+1 else nx) (if kind=6 then n+1 else lp) (n+1) v r;exact hthn ⟨iv,h5,by rw [h6];exact this⟩
    by_cases hk6:kind=6
    ·refine .inl (hw hk6 ?_);rw [<- show (S.mk id kind labels name pr x has args thn els).id=(n:Int)+1 from hid];exact hti
    by_cases hk7:kind=7
    ·have hl0:=hld (.inl hk7);rcases hlp with h5|⟨u,hu⟩
     ·exact absurd h5 hl0
     ·refine .inr (.inr ⟨hl0,.inr ⟨u,hu,hgo _ ?_⟩⟩);unfold goesI;rw [if_neg (by exact hk5),if_neg (by exact hk6),if_pos (by exact hk7)];simp only at hu;rw [hu];simp
    by_cases hk8:kind=8
    ·refine .inr (.inr ⟨hld (.inr hk8),.inl (hgo _ ?_)⟩);unfold goesI;rw [if_neg (by exact hk5),if_neg (by exact hk6),if_neg (by exact hk7),if_pos (by exact hk8)];simp
    by_cases hk9:kind=9
    ·refine .inr (.inl (hgo _ ?_));unfold goesI;rw [if_neg (by exact hk5),if_neg (by exact hk6),if_neg (by exact hk7),if_neg (by exact hk8),if_pos (by exact hk9)];simp
    ·refine .inl (hgo _ ?_);unfold goesI;rw [if_neg (by exact hk5),if_neg (by exact hk6),if_neg (by exact hk7),if_neg (by exact hk8),if_neg (by exact hk9),if_neg (by exact hk10)];simp
   ·rcases List.mem_append.1 hit with hit|hit
    ·exact hthn ⟨it,hit,hti⟩
    ·have hp2:=hp1.right;rw [ZH] at hp2;exact hin (v2t hT proc els _ _ _ (n+1+QV thn) hp2 (by omega) (by omega) ⟨it,hit,hti⟩)
theorem v2t {sh:Sheet} {f:Pr} {lo hi:Nat} {T:Int->Prop} (hT:NoGo sh f lo hi T) (proc:Int) : ∀ (l:List S) (up nx lp:Int) (n:Nat),atP sh n (itL proc up nx lp n l)->lo<=n->n+QV l<=hi->(∃ it∈itL proc up nx lp n l,T it.s.id)->v1q sh T nx lp
 | [],up,nx,lp,n,hp,h1,h2,h3=>by
   rw [itL] at h3;obtain ⟨it,hit,_⟩:=h3;cases hit
 | t::r,up,nx,lp,n,hp,h1,h2,h3=>by
   rw [itL] at hp h3;rw [QV] at h2;have hp2:=hp.right;rw [z2g] at hp2;have hr:(∃ it∈itL proc up nx lp (n+ZV t) r,T it.s.id)->v1q sh T nx lp:=fun h=>v2t hT proc r up nx lp (n+ZV t) hp2 (by omega) (by omega) h;obtain ⟨it,hit,hti⟩:=h3;rcases List.mem_append.1 hit with hit|hit
   ·have h5:=v5n hT proc t up _ lp n hp.left h1 (by omega) ⟨it,hit,hti⟩;cases r with
    | nil=>exact h5
    | cons v r =>
      rcases h5 with h5|h5
      ·refine hr ?_;obtain ⟨iv,h6,h7⟩ : ∃ iv,(itL proc up nx lp (n+ZV t) (v::r))[0]? = some iv∧iv.s=v:=by
        rw [itL,w8z];exact ⟨_,rfl,rfl⟩
       have h8:=hp2 0 iv h6;have h9:=hT.id (n+ZV t) iv (by omega) (by
        rw [QV] at h2;have:1<=ZV v:=by cases v;rw [ZV];omega
        omega) h8
       refine ⟨iv,List.mem_of_getElem? h6,?_⟩;rw [h9];simp only [List.isEmpty_cons] at h5;have e:((n+ZV t:Nat):Int)+1=(n:Int)+1+ZV t:=by omega
       rw [e];exact h5
      ·exact .inr h5
   ·exact hr ⟨it,hit,hti⟩
end
theorem z5c {p:Pg} (h:XG p=true) {j:Nat} {f:Pr} (hj:p.procs[j]? = some f) {k:Nat} {it:Item} (h1:QR p.procs j<=k) (h2:k<QR p.procs j+QV f.body) (hk:(sheetOf p).l[k]? = some it):it.s.id=(k:Int)+1:=by
 obtain ⟨t,_,h4,h5⟩:=NY h hj (a:=(k:Int)+1) (by omega) (by omega);unfold w9j at h4;rw [show ((k:Int)+1-1).toNat=k by omega,hk] at h4;cases h4;exact h5
theorem v1l {p:Pg} {j:Nat} {f:Pr} {it:Item} (hi:it∈itsOf p j f) {y:Int} (hy:y∈goesI (sheetOf p) f it):(⟨it.s.id,y,1⟩:Step)∈QK p j f:=by
 unfold QK;exact mem_cons_of_mem _ (List.mem_flatMap.2 ⟨it,hi,List.mem_map.2 ⟨y,hy,rfl⟩⟩)
theorem z9t {p:Pg} (h:XG p=true) {j:Nat} {f:Pr} (hj:p.procs[j]? = some f) {T:Int->Prop} (hcl : ∀ a b,T a->stR (QQ p j f).real a b->T b) (hgo : ∀ t∈flL f.body,T t.id->t.kind≠10) {t:S} (ht:t∈flL f.body) (hT:T t.id):T (-1):=by
 obtain ⟨hm,hs,_,hjm,_⟩:=QF h;have hld:=MN hs hjm hj;obtain ⟨_,_,_,hlen,hsp⟩:=QJ p;obtain ⟨_,_,hle,hd⟩:=hsp j f hj;have hits : ∀ (k:Nat) (it:Item),QR p.procs j<=k->k<QR p.procs j+QV f.body->(sheetOf p).l[k]? = some it->it∈itsOf p j f:=fun k it h1 h2 hk=>by
  obtain ⟨it',h3,h4⟩:=q0a hj h1 h2;rw [hk] at h3;cases h3;exact h4
 have hn:NoGo (sheetOf p) f (QR p.procs j) (QR p.procs j+QV f.body) T:=by
  refine ⟨fun k it h1 h2 hk hT => ?_,fun k it h1 h2 hk=>z5c h hj h1 h2 hk,fun k it h1 h2 hk hkd => ?_,fun k it h1 h2 hk => ?_⟩
  ·have hi:=hits k it h1 h2 hk;exact ⟨hgo _ (LO hi) hT,fun y hy=>hcl _ _ hT ⟨⟨it.s.id,y,1⟩,((VI h hj).2 _).2 (v1l hi hy),rfl,rfl⟩⟩
  ·have hl:=hld it (hits k it h1 h2 hk);unfold VJ at hl;rw [if_pos hkd] at hl;intro h0;rw [h0] at hl;cases hl
  ·rcases (BH (hits k it h1 h2 hk)).2 with h0|⟨h3,h4⟩
   ·exact .inl h0
   ·have:(it.loop-1).toNat<(sheetOf p).l.length:=by omega
    exact .inr ⟨_,List.getElem?_eq_getElem this⟩
 obtain ⟨it,hit,hits2⟩:=w4b (p:=p) (j:=j) ht;have hat:atP (sheetOf p) (QR p.procs j) (itL j 0 (-1) 0 (QR p.procs j) f.body):=fun i it hi=>by
  rw [<- hd,List.getElem?_drop,List.getElem?_take] at hi;split at hi
  ·exact hi
  ·cases hi
 have:=v2t hn j f.body 0 (-1) 0 (QR p.procs j) hat (Nat.le_refl _) (Nat.le_refl _) ⟨it,hit,by rw [hits2];exact hT⟩;rcases this with h1|h1|⟨h1,_⟩
 ·exact h1
 ·exact h1
 ·exact absurd rfl h1
theorem x8l {n:Nat} {part:List Int} (hp : ∀ k,k<n->0<=part.getD k 0∧part.getD k 0<n) {i:Nat} (hi:i<n) : ∀ (l:List (Int×Int)) {o:List Bool},o.length=n->(∀ t∈l,0<=t.1∧t.1<n) ->
  ((l.foldl (q3g part) o).getD i false=true↔o.getD i false=true ∨ ∃ t∈l,part.getD t.1.toNat 0≠part.getD t.2.toNat 0∧part.getD t.1.toNat 0=i)
 | [],o,_,_=>by simp
 | t::r,o,ho,hr=>by
   rw [List.foldl_cons,x8l hp hi r (by rw [z0v];exact ho) fun u hu=>hr u (mem_cons_of_mem _ hu)];have h1:=hr t mem_cons_self;have h2:=hp t.1.toNat (by omega);have key:(q3g part o t).getD i false=true↔o.getD i false=true∨(part.getD t.1.toNat 0≠part.getD t.2.toNat 0∧part.getD t.1.toNat 0=i):=by
    unfold q3g;split
    ·rename_i he;constructor
     ·exact .inl
     ·rintro (h3|⟨h3,_⟩)
      ·exact h3
      ·exact absurd he h3
    ·rename_i he;rw [WW (by omega)];split
     ·rename_i h3;constructor
      ·intro _;exact .inr ⟨he,by omega⟩
      ·intro _;rfl
     ·rename_i h3;constructor
      ·exact .inl
      ·rintro (h4|⟨_,h4⟩)
       ·exact h4
       ·exact absurd (by omega) h3
   rw [key,or_assoc];constructor
   ·rintro (h3|⟨h3,h4⟩|⟨u,hu,h3⟩)
    ·exact .inl h3
    ·exact .inr ⟨t,mem_cons_self,h3,h4⟩
    ·exact .inr ⟨u,mem_cons_of_mem _ hu,h3⟩
   ·rintro (h3|⟨u,hu,h3⟩)
    ·exact .inl h3
    ·rcases List.mem_cons.1 hu with rfl|hu
     ·exact .inr (.inl h3)
     ·exact .inr (.inr ⟨u,hu,h3⟩)
theorem w5n {n:Nat} {part:List Int} (hn:0<n) (hp : ∀ k,k<n->0<=part.getD k 0∧part.getD k 0<n) {i:Nat} (hi:i<n) {l:List (Int×Int)} (hr : ∀ t∈l,0<=t.1∧t.1<n) :
  (q6u n part l).getD i false=true↔part.getD 0 0=i∨part.getD (n-1) 0=i ∨ ∃ t∈l,part.getD t.1.toNat 0≠part.getD t.2.toNat 0∧part.getD t.1.toNat 0=i:=by
 have h0:=hp 0 hn;have h1:=hp (n-1) (by omega);unfold q6u;rw [x8l hp hi l (by simp [x1w]) hr];have key:(x1w n part).getD i false=true↔part.getD 0 0=i∨part.getD (n-1) 0=i:=by
  unfold x1w;rw [WW (by rw [List.length_set,List.length_replicate];omega),WW (by rw [List.length_replicate];omega)];split
  ·exact ⟨fun _ => .inr (by omega),fun _=>rfl⟩
  ·split
   ·exact ⟨fun _ => .inl (by omega),fun _=>rfl⟩
   ·have:(List.replicate n false).getD i false=false:=by
     rw [List.getD_eq_getElem?_getD,List.getElem?_replicate];split<;>rfl
    rw [this];constructor
    ·intro h;cases h
    ·rintro (h|h)<;>omega
 rw [key,or_assoc]
end Go.Ab
