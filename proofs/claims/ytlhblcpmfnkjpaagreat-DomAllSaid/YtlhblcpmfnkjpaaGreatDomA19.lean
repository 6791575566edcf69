/- The reference's touched globals; variables with two names; arguments that fit. -/
import Derived.Test.YtlhblcpmfnkjpaaGreatDomA13
import Derived.Test.YtlhblcpmfnkjpaaGreatDomA15
import Derived.Test.YtlhblcpmfnkjpaaGreatDomA16
import Derived.Test.YtlhblcpmfnkjpaaGreatDomA17
import Derived.Test.YtlhblcpmfnkjpaaGreatDomA18
set_option linter.unusedSimpArgs false
set_option linter.unusedVariables false
set_option maxRecDepth 100000
set_option maxHeartbeats 16000000
open List (append_nil drop_eq_getElem_cons drop_eq_nil_of_le length_append length_map length_take map_cons mem_cons_of_mem mem_cons_self pairwise_append take_of_length_le take_zero)
open Nat (zero_le)
namespace Go.Ab
open Go.Proofs
theorem w5k (p:Pg) (t:S):x0r p t=(WV t).filter fun v=>inS p.globals v:=by
 unfold x0r;congr 1;funext v;exact (q5k _ _).symm
theorem MG (p:Pg) (hf:Fit p) (hs:(QA p).1=0) (n:Str) (hn:n∈procsN p):SpecP Tryz.prog 354 [.agg p.cells,.str n] (fun r=>r=QM (UE p n)):=by
 refine sB DC Tryz.func354 rfl Tryz.call354 ?_;conv=>whnf
 obtain ⟨hm,hb,hns⟩:=VH hs;obtain ⟨hg,hpl,hcn⟩:=ZG hm;obtain ⟨hal,hak⟩:=z6u hs hn;have hC:=LP p n hs hn;have hgl:UE p n=q9b (UA p n):=rfl;have hgr:UA p n=(z6a p n).flatMap (q4t p):=rfl;rw [hgl];generalize z6a p n=ns at hal hak hgr hC ⊢;have hnl:(ns.map AV.str).length=ns.length:=length_map _;repeat' ((first|(refine iM fun _=>?_)|refine cP hC ?_);conv=>whnf)
 refine LoopK.inv QX (fun i:Nat×List Str=>⟨[(2,.p (.ip p.cells)),(5,.hd 0 0 i.2.length),(16,.p (QM ns)),(17,.p (.int .i64 (ns.map AV.str).length)),(18,.p (.int .i64 i.1))],[(0,.own 9 1 (i.2.map .str))]⟩)
  (fun i=>i.1<=ns.length∧i.2.length<=4020000*i.1∧i.2++(ns.drop i.1).flatMap (q4t p)=UA p n) (fun i=>ns.length-i.1) (0,[])
  (Le.mk [(0,.own 9 1 [])] (by simp [Chunk.new0];rfl) (by simp) (by simp) (.cons (.refl _) (.cons (.nil mem_cons_self) (.cons (.refl _) (.cons (.refl _) (.cons (.refl _) .nil))))) (.new mem_cons_self .nil))
  ⟨zero_le _,by simp,by rw [hgr];rfl⟩ ?_
 rintro ⟨j,acc⟩ ⟨h2,h3,h4⟩;simp only at h2 h3 h4 ⊢;rcases Nat.lt_or_ge j ns.length with hj|hj;rotate_left 1
 ·have hacc:acc=UA p n:=by
   rw [drop_eq_nil_of_le hj] at h4;simpa using h4
  have hS:=VP acc (by omega);rw [<- hacc];conv=>whnf
  repeat' (first|(refine FW hS (.cons (.hd rfl (by simp)) .nil) ?_;rintro _ rfl;conv=>whnf)|(apply bD<;>intro _<;>first|omega|conv=>whnf))
  all_goals exact RetK.p rfl
 obtain ⟨k,hk,hik,hfk,hnk⟩:=q0s (hak _ (List.getElem_mem hj));have hgn:q4t p ns[j]=(flL p.procs[k].body).flatMap (x0r p):=by unfold q4t;rw [hfk]
 rw [VR hj,hgn] at h4;have hfp:=hf.pr (List.getElem_mem hk);have hN:=WX p ns[j];rw [z4k hk hfk] at hN;have hF:=XX p.procs[k];have hmap:(VN p.procs[k]).map RI.s=flL p.procs[k].body:=by rw [JZ hm (List.getElem_mem hk)];exact NA 1 0 false _
 have hrl:=GO p.procs[k];have hargs : ∀ x∈VN p.procs[k],wS x.s<=20000:=fun x hx=>by
  have hmm:x.s∈flL p.procs[k].body:=by
   rw [<- hmap];exact List.mem_map.2 ⟨_,hx,rfl⟩
  have:=x0k _ _ hmm;unfold wPr at hfp;omega
 rw [<- hmap] at h4;generalize VN p.procs[k]=its at hargs hrl h4 hF;have hil:=WK its;conv=>whnf
 repeat' (first|((first|(refine iM fun _=>?_)|refine And.intro rfl ?_|(refine iA fun _=>?_)|refine cP hN ?_|refine cP hF ?_);conv=>whnf)|(apply bD<;>intro _<;>first|omega|conv=>whnf))
 refine LoopK.inv QX (fun i:Nat×List Str=>⟨[(2,.p (.ip p.cells)),(5,.hd 0 0 i.2.length),(16,.p (QM ns)),(17,.p (.int .i64 (ns.map AV.str).length)),(18,.p (.int .i64 j)),(29,.p (KW its)),(30,.p (.int .i64 (its.map fun i=>AV.agg i.cells).length)),(31,.p (.int .i64 i.1))],[(0,.own 9 1 (i.2.map .str))]⟩)
  (fun i=>i.1<=its.length∧i.2.length<=acc.length+20000*i.1∧i.2++(((its.drop i.1).map RI.s).flatMap (x0r p)++(ns.drop (j+1)).flatMap (q4t p))=UA p n) (fun i=>its.length-i.1) (0,acc)
  (Le.of_eq rfl) ⟨zero_le _,by simp,h4⟩ ?_
 rintro ⟨m,acc2⟩ ⟨h6,h7,h8⟩;simp only at h6 h7 h8 ⊢;rcases Nat.lt_or_ge m its.length with hm'|hm';rotate_left 1
 ·rw [drop_eq_nil_of_le hm'] at h8;conv=>whnf
  repeat' (first|(refine wI ?_;conv=>whnf)|(apply bD<;>intro _<;>first|omega|conv=>whnf))
  exact ⟨(j+1,acc2),⟨by simp only;omega,by simp only;omega,by simpa using h8⟩,by simp only;omega,Le.of_eq rfl⟩
 have hw:=hargs _ (List.getElem_mem hm');have hna:its[m].s.args.length<=20000:=by
  have:=x5l its[m].s;have:=JS its[m].s.args;omega
 have hnw:=z4w its[m].s;rw [drop_eq_getElem_cons hm',map_cons,List.flatMap_cons,List.append_assoc] at h8;have hgt:=w5k p its[m].s;have hSd:=HT its[m].s hna;rw [hgt] at h8;generalize WV its[m].s=vs at hnw h8 hSd;have hvl:(vs.map AV.str).length=vs.length:=length_map _;conv=>whnf
 repeat' (first|((first|(refine iM fun _=>?_)|refine And.intro rfl ?_|(refine iA fun _=>?_)|refine cP hSd ?_);conv=>whnf)|(apply bD<;>intro _<;>first|omega|conv=>whnf))
 refine LoopK.inv QX (fun i:Nat×List Str=>⟨[(2,.p (.ip p.cells)),(5,.hd 0 0 i.2.length),(16,.p (QM ns)),(17,.p (.int .i64 (ns.map AV.str).length)),(18,.p (.int .i64 j)),(29,.p (KW its)),(30,.p (.int .i64 (its.map fun i=>AV.agg i.cells).length)),(31,.p (.int .i64 m)),(37,.p (QM vs)),(38,.p (.int .i64 (vs.map AV.str).length)),(39,.p (.int .i64 i.1))],[(0,.own 9 1 (i.2.map .str))]⟩)
  (fun i=>i.1<=vs.length∧i.2.length<=acc2.length+i.1∧i.2++((vs.drop i.1).filter (fun v=>inS p.globals v)++(((its.drop (m+1)).map RI.s).flatMap (x0r p)++(ns.drop (j+1)).flatMap (q4t p)))=UA p n) (fun i=>vs.length-i.1) (0,acc2)
  (Le.of_eq rfl) ⟨zero_le _,by simp,h8⟩ ?_
 rintro ⟨q,acc3⟩ ⟨h9,h10,h11⟩;simp only at h9 h10 h11 ⊢;rcases Nat.lt_or_ge q vs.length with hq|hq
 ·rw [drop_eq_getElem_cons hq,List.filter_cons] at h11;conv=>whnf
  repeat' (first|((first|refine cP (QE _ _) ?_|refine And.intro rfl ?_|refine aD ?_|refine bP ?_|(refine iA fun _=>?_)|refine wI ?_|refine XW (by simp) (by simp;omega) ?_);conv=>whnf)|(apply bD<;>intro _<;>first|omega|conv=>whnf)|(apply bB<;>intro _<;>conv=>whnf))
  ·exact ⟨(q+1,acc3++[vs[q]]),⟨by simp only;omega,by simp;omega,by rw [if_pos (by assumption)] at h11;simpa using h11⟩,by simp only;omega,Le.of_eq (by simp only [length_append,List.map_append];rfl)⟩
  ·exact ⟨(q+1,acc3),⟨by simp only;omega,by simp only;omega,by rw [if_neg (by simp [*])] at h11;exact h11⟩,by simp only;omega,Le.of_eq rfl⟩
 ·rw [drop_eq_nil_of_le hq] at h11;conv=>whnf
  repeat' (first|(refine wI ?_;conv=>whnf)|(apply bD<;>intro _<;>first|omega|conv=>whnf))
  exact ⟨(m+1,acc3),⟨by simp only;omega,by simp only;omega,by simpa using h11⟩,by simp only;omega,Le.of_eq rfl⟩
def apR (touched:List Str):List Arg->List Str->Bool
 | [],_=>true
 | a::r,seen=>bif a.ref then (bif inS seen a.name||inS touched a.name then false else apR touched r (seen++[a.name])) else apR touched r seen
theorem w7h (touched:List Str) (nm:Str) : ∀ (l:List Arg) (pre seen:List Str),(pre=[]∧nm=[]∨pre=[nm])->(∀ a∈l,a.ref=true->a.name≠[])->apR touched l (pre++seen)=XP nm touched l seen
 | [],_,_,_,_=>rfl
 | a::r,pre,seen,hp,ha=>by
   have ih:=fun s=>w7h touched nm r pre s hp fun b hb=>ha b (mem_cons_of_mem _ hb);rw [apR,XP];cases hr:a.ref with
   | false=>exact ih seen
   | true =>
     have hne:=ha a mem_cons_self hr;have h1:inS (pre++seen) a.name=((a.name==nm)||(seen.any fun s=>a.name==s)):=by
      rw [q5k,List.any_append];rcases hp with ⟨rfl,rfl⟩|rfl
      ·have:(a.name==([]:Str))=false:=beq_eq_false_iff_ne.2 hne;rw [this];rfl
      ·simp
     have h2:(inS (pre++seen) a.name||inS touched a.name)=((seen.any fun s=>a.name==s)||((a.name==nm)||touched.any fun s=>a.name==s)):=by
      rw [h1,q5k];cases (a.name==nm)<;>cases (seen.any fun s=>a.name==s)<;>rfl
     rw [cond_true,cond_true,h2,List.append_assoc,ih (seen++[a.name])]
def w0w (p:Pg) (t:S):Bool:=YW p t&&XP t.name (UE p t.proc) t.args []
theorem q3u (p:Pg) (hf:Fit p) (hs:(QA p).1=0) (t:S) (hpr:t.proc∈procsN p) (ha:t.args.length<=20000) (hne : ∀ a∈t.args,a.ref=true->a.name≠[]):SpecP Tryz.prog 318 [.agg p.cells,.agg t.cells] (fun r=>r = .bool (w0w p t)):=by
 refine sB MF Tryz.func318 rfl Tryz.call318 ?_;conv=>whnf
 have hC:=YD p t;have hal:(t.args.map fun a=>AV.agg a.cells).length=t.args.length:=length_map _;have hT:=MG p hf hs t.proc hpr;have hE:=fun pre h=>w7h (UE p t.proc) t.name t.args pre [] h hne;unfold w0w;generalize UE p t.proc=G at *
 cases hfi:YW p t with
 | false =>
   rw [hfi] at hC;repeat' (first|((first|(refine iM fun _=>?_)|refine And.intro rfl ?_|refine aD ?_|refine bP ?_|refine cP hC ?_);conv=>whnf)|(apply bN<;>intro _<;>conv=>whnf))
   all_goals first
    | (exfalso;simp_all;done)
    | exact RetK.ff rfl
 | true =>
   rw [hfi] at hC;rw [Bool.true_and];repeat' (first|((first|(refine iM fun _=>?_)|refine And.intro rfl ?_|refine aD ?_|refine bP ?_|refine cP hC ?_|refine XW (by simp) (by simp) ?_);conv=>whnf)|(apply bN<;>intro _<;>conv=>whnf))
   all_goals simp only [show (ByteArray.mk #[]).data.toList=[] from rfl] at *
   all_goals first
    | (exfalso;simp_all;done)
    | skip
   all_goals
    first
    | (have hq:(t.name==[])=false:=by assumption
       have hE:=hE [t.name] (.inr rfl);rw [append_nil] at hE;rw [<- hE];generalize hpre:([t.name]:List Str)=pre at hE)
    | (have hq:(t.name==[])=true:=by assumption
       have hE:=hE [] (.inl ⟨rfl,by simpa using hq⟩);rw [append_nil] at hE;rw [<- hE];generalize hpre:([]:List Str)=pre at hE)
    have hpl:pre.length<=1:=by rw [<- hpre];simp
    refine LoopK.inv QX (fun x:Nat×List Str=>⟨[(2,.p (.ip p.cells)),(3,.p (.ip t.cells)),(5,.hd 0 0 x.2.length),(21,.p (.sl (t.args.map fun a => .agg a.cells))),(22,.p (.int .i64 (t.args.map fun a=>AV.agg a.cells).length)),(23,.p (.int .i64 x.1))],[(0,.own 9 1 (x.2.map .str))]⟩) (fun x=>x.1<=t.args.length∧x.2.length<=x.1+1∧apR G (t.args.drop x.1) x.2=apR G t.args pre) (fun x=>t.args.length-x.1) (0,pre)
     (by subst hpre;first|exact Le.of_eq rfl|exact (Le.mk [(0,.own 9 1 [])] (by simp [Chunk.new0];rfl) (by simp) (by simp) (.cons (.refl _) (.cons (.refl _) (.cons (.nil mem_cons_self) (.cons (.refl _) (.cons (.refl _) (.cons (.refl _) .nil)))))) (.new mem_cons_self .nil))) ⟨zero_le _,by simp only;omega,rfl⟩ ?_
    rintro ⟨j,acc⟩ ⟨h2,h3,h4⟩;simp only at h2 h3 h4 ⊢;rcases Nat.lt_or_ge j t.args.length with hj|hj
    ·rw [drop_eq_getElem_cons hj,apR] at h4;rw [<- h4];conv=>whnf
     repeat' (first|((first|refine dA ?_|refine And.intro rfl ?_|refine aD ?_|refine bP ?_|(refine iA fun _=>?_)|refine wI ?_|(refine QG (QE acc (t.args[j]'hj).name) (.cons (.hd rfl (by simp)) (.cons (.p (Sub.refl _)) .nil)) (by rintro _ rfl;rfl) ?_;rintro _ rfl)|refine cP hT ?_|refine cP (QE G (t.args[j]'hj).name) ?_|refine XW (by simp) (by simp;omega) ?_);conv=>whnf)|(apply bD<;>intro _<;>first|omega|conv=>whnf)|(apply bB<;>intro _<;>conv=>whnf))
     all_goals first
      | (exfalso;simp_all;done)
      | exact RetK.ff (by simp [*])
      | exact ⟨(j+1,acc++[t.args[j].name]),⟨by simp only;omega,by simp;omega,by simp only;simp [*]⟩,by simp only;omega,Le.of_eq (by simp only [length_append,List.map_append];rfl)⟩
      | exact ⟨(j+1,acc),⟨by simp only;omega,by simp only;omega,by simp only;simp [*]⟩,by simp only;omega,Le.of_eq rfl⟩
    ·rw [drop_eq_nil_of_le hj,apR] at h4;rw [<- h4];conv=>whnf
     repeat' (apply bD<;>intro _<;>first|omega|conv=>whnf)
     exact RetK.tt rfl
theorem QS (c a:Int):SpecP Tryz.prog 310 [.int .i64 c,.int .i64 a] (fun r=>r=BN c a):=by
 refine sB MZ Tryz.func310 rfl Tryz.call310 ?_;conv=>whnf
 repeat' (refine And.intro rfl ?_;conv=>whnf)
 exact QL rfl rfl
theorem ZZ {H:Heap} {a b:Int} {P:Prop} (h:a=0↔P):RetK H (.p (.agg [.int .i64 a,.int .i64 b])) (fun r => ∃ c d,r=BN c d∧(c=0↔P)):=⟨_,.p (Sub.refl _),a,b,rfl,h⟩
def fltR (P:Prop) (r:AV):Prop := ∃ c d,r=BN c d∧(c=0↔P)
theorem q2w (p:Pg) (hm:VB p=true):SpecP Tryz.prog 248 [.agg p.cells] (fun r=>fltR (∀ t∈JC p,t.kind=4->YW p t=true) r):=by
 refine sB NG Tryz.func248 rfl Tryz.call248 ?_;conv=>whnf
 have hA:=YB p;have hms:=x7u hm;rw [<- hms];generalize allR p=L at *
 have hLl:=WK L;repeat' ((first|(refine iM fun _=>?_)|refine cP hA ?_);conv=>whnf)
 refine LoopK.inv QX (fun j:Nat=>⟨[(1,.p (.ip p.cells)),(2,.ptr 1 0),(6,.p (KW L)),(7,.p (.int .i64 (L.map fun i=>AV.agg i.cells).length)),(8,.p (.int .i64 j))],[(1,.obj 117 [.p (.int .i64 0),.p (.int .i64 0)])]⟩) (fun j=>j<=L.length ∧ ∀ x∈L.take j,x.s.kind=4->YW p x.s=true) (fun j=>L.length-j) 0 (Le.of_eq rfl) ⟨zero_le _,fun x hx=>by rw [take_zero] at hx;cases hx⟩ ?_;rintro j ⟨h2,h3⟩;rcases Nat.lt_or_ge j L.length with hj|hj
 ·have hC:=YD p L[j].s;have hmem:L[j].s∈L.map RI.s:=List.mem_map.2 ⟨_,List.getElem_mem hj,rfl⟩;have hst:(L[j].s.kind=4->YW p L[j].s=true) -> ∀ x∈L.take (j+1),x.s.kind=4->YW p x.s=true:=fun h x hx=>by
   rcases (QC hj).1 hx with h4|rfl
   ·exact h3 x h4
   ·exact h
  conv=>whnf
  repeat' (first|((first|refine And.intro rfl ?_|(refine iA fun _=>?_)|refine wI ?_|refine cP hC ?_|refine cP (QS 6 _) ?_);conv=>whnf)|(apply bD<;>intro _<;>first|omega|conv=>whnf)|(apply bN<;>intro _<;>conv=>whnf))
  all_goals first
   | exact ⟨j+1,⟨hj,hst fun h=>by first|assumption|omega⟩,by omega,Le.of_eq rfl⟩
   | (refine ZZ ⟨fun h=>by omega,fun h => ?_⟩
      have:=h _ hmem (by omega);simp_all
      done)
 ·conv=>whnf
  repeat' (first|(refine And.intro rfl ?_;conv=>whnf)|(apply bD<;>intro _<;>first|omega|conv=>whnf))
  refine ZZ ⟨fun _ t ht => ?_,fun _=>rfl⟩;obtain ⟨x,hx,rfl⟩:=List.mem_map.1 ht;exact h3 x (by rw [take_of_length_le hj];exact hx)
theorem BY (p:Pg) (hf:Fit p) (hs:(QA p).1=0) (har : ∀ t∈JC p,t.kind=4->YW p t=true):SpecP Tryz.prog 250 [.agg p.cells] (fun r=>fltR (∀ t∈JC p,t.kind=4->XP t.name (UE p t.proc) t.args []=true) r):=by
 refine sB DX Tryz.func250 rfl Tryz.call250 ?_;conv=>whnf
 obtain ⟨hm,hb,hns⟩:=VH hs;have hA:=YB p;have hms:=x7u hm;have hok : ∀ x∈allR p,oneOk x.s=true:=fun x hx=>by rw [x5x hm] at hx;exact (z9s hm x hx).2
 have hap : ∀ x∈allR p,x.s.kind=4->SpecP Tryz.prog 318 [.agg p.cells,.agg x.s.cells] (fun r=>r = .bool (XP x.s.name (UE p x.s.proc) x.s.args [])):=fun x hx hk=>by
  have hxs:x.s∈JC p:=by rw [<- hms];exact List.mem_map.2 ⟨x,hx,rfl⟩
  have hx2:=hxs;unfold JC at hx2;obtain ⟨f,hf1,hf2⟩:=List.mem_flatMap.1 hx2;have hpc:=(q3l hs hf1 hf2 hk).1;have hw:=x0k _ _ hf2;have hwp:=hf.pr hf1;have h1:=x5l x.s;have h2:=JS x.s.args;have h3:=q3u p hf hs x.s hpc (by unfold wPr at hwp;omega) fun a ha hr he=>by
   have h4:=List.all_eq_true.1 (YU (hok x hx)).args a ha;unfold argR at h4;rw [hr,cond_true,he] at h4;simp at h4;have:=q3s h4.1;cases this
  unfold w0w at h3;rw [har _ hxs hk,Bool.true_and] at h3;exact h3
 rw [<- hms];clear hms har hok;generalize allR p=L at *
 have hLl:=WK L;repeat' ((first|(refine iM fun _=>?_)|refine cP hA ?_);conv=>whnf)
 refine LoopK.inv QX (fun j:Nat=>⟨[(1,.p (.ip p.cells)),(2,.ptr 1 0),(6,.p (KW L)),(7,.p (.int .i64 (L.map fun i=>AV.agg i.cells).length)),(8,.p (.int .i64 j))],[(1,.obj 117 [.p (.int .i64 0),.p (.int .i64 0)])]⟩) (fun j=>j<=L.length ∧ ∀ x∈L.take j,x.s.kind=4->XP x.s.name (UE p x.s.proc) x.s.args []=true) (fun j=>L.length-j) 0 (Le.of_eq rfl) ⟨zero_le _,fun x hx=>by rw [take_zero] at hx;cases hx⟩ ?_;rintro j ⟨h2,h3⟩;rcases Nat.lt_or_ge j L.length with hj|hj
 ·have hC:=hap _ (List.getElem_mem hj);have hmem:L[j].s∈L.map RI.s:=List.mem_map.2 ⟨_,List.getElem_mem hj,rfl⟩;have hst:(L[j].s.kind=4->XP L[j].s.name (UE p L[j].s.proc) L[j].s.args []=true) -> ∀ x∈L.take (j+1),x.s.kind=4->XP x.s.name (UE p x.s.proc) x.s.args []=true:=fun h x hx=>by
   rcases (QC hj).1 hx with h4|rfl
   ·exact h3 x h4
   ·exact h
  conv=>whnf
  repeat' (first|((first|refine And.intro rfl ?_|(refine iA fun _=>?_)|refine wI ?_|(refine CallK.pure (hC (by omega)) (.cons (Sub.refl _) (.cons (Sub.refl _) .nil)) ?_;rintro _ rfl)|refine cP (QS 8 _) ?_);conv=>whnf)|(apply bD<;>intro _<;>first|omega|conv=>whnf)|(apply bN<;>intro _<;>conv=>whnf))
  all_goals first
   | exact ⟨j+1,⟨hj,hst fun h=>by first|assumption|omega⟩,by omega,Le.of_eq rfl⟩
   | (refine ZZ ⟨fun h=>by omega,fun h => ?_⟩
      have:=h _ hmem (by omega);simp_all
      done)
 ·conv=>whnf
  repeat' (first|(refine And.intro rfl ?_;conv=>whnf)|(apply bD<;>intro _<;>first|omega|conv=>whnf))
  refine ZZ ⟨fun _ t ht => ?_,fun _=>rfl⟩;obtain ⟨x,hx,rfl⟩:=List.mem_map.1 ht;exact h3 x (by rw [take_of_length_le hj];exact hx)
theorem z2f (p:Pg):WQ p=false↔XH p.globals=false∧XH (procsN p)=false∧(UB p mainS).2=true∧(UB p mainS).1.params.length=0:=by
 unfold WQ UB;have h1:(procsN p).any (fun s=>mainS==s)=(p.procs.find? fun f=>f.name==mainS).isSome:=by
  unfold procsN;rw [Bool.eq_iff_iff,List.find?_isSome,List.any_map,List.any_eq_true];simp only [Function.comp,beq_iff_eq];exact ⟨fun ⟨x,a,b⟩=>⟨x,a,b.symm⟩,fun ⟨x,a,b⟩=>⟨x,a,b.symm⟩⟩
 have h2:(p.procs.find? fun f=>mainS==f.name)=p.procs.find? fun f=>f.name==mainS:=by
  congr 1;funext f;exact Bool.beq_comm
 rw [h1,h2];cases p.procs.find? fun f=>f.name==mainS with
 | none=>simp
 | some f=>simp
theorem z5q {p:Pg} (hf:Fit p) {f:Pr} (h:f∈p.procs):f.params.length<=20000∧f.vars.length<=20000∧f.fin.length<=20000∧p.globals.length<=20000:=by
 have h1:=hf.pr h;have h2:=DF f.vars;have h3:=DF f.fin;have h4:=DF p.globals;have h5:wPg p<=20000:=hf;have h6:f.params.length<=v0i f.params:=by
  generalize f.params=l;induction l with
  | nil=>exact zero_le _
  | cons a r ih =>
    rw [v0i,List.length_cons];omega
 unfold wPr at h1;unfold wPg at h5;omega
theorem q2x (p:Pg) (hf:Fit p):SpecP Tryz.prog 247 [.agg p.cells] (fun r=>fltR ((QA p).1=0) r):=by
 refine sB MV Tryz.func247 rfl Tryz.call247 ?_;conv=>whnf
 have hM:=KF p;cases hm:VB p with
 | false =>
   rw [hm] at hM;repeat' (first|((first|(refine iM fun _=>?_)|refine And.intro rfl ?_|refine cP hM ?_|refine cP (QS 1 0) ?_);conv=>whnf)|(apply bN<;>intro _<;>conv=>whnf))
   all_goals first
    | (exfalso;simp_all;done)
    | (refine ZZ ⟨fun h=>by omega,fun h => ?_⟩
       have:=(VH h).1;rw [hm] at this;cases this)
 | true =>
   rw [hm] at hM;obtain ⟨hg,hpl,hcn⟩:=ZG hm;rw [w2m hm,z2f];have hpll:(p.procs.map fun f=>AV.agg f.cells).length=p.procs.length:=length_map _;repeat' (first|((first|(refine iM fun _=>?_)|refine cP hM ?_);conv=>whnf)|(apply bN<;>intro _<;>conv=>whnf))
   all_goals first
    | (exfalso;simp_all;done)
    | skip
   refine LoopK.inv QX (fun x:Nat×List Str=>⟨[(1,.p (.ip p.cells)),(2,.ptr 1 0),(3,.hd 0 0 x.2.length),(19,.p (.sl (p.procs.map fun f => .agg f.cells))),(20,.p (.int .i64 (p.procs.map fun f=>AV.agg f.cells).length)),(21,.p (.int .i64 x.1))],[(0,.own 9 1 (x.2.map .str)),(1,.obj 117 [.p (.int .i64 0),.p (.int .i64 0)])]⟩) (fun x=>x.1<=p.procs.length∧x.2=(procsN p).take x.1) (fun x=>p.procs.length-x.1) (0,[])
    (Le.mk [(0,.own 9 1 [])] (by simp [Chunk.new0];rfl) (by simp) (by simp) (.cons (.refl _) (.cons (.refl _) (.cons (.nil mem_cons_self) (.cons (.refl _) (.cons (.refl _) (.cons (.refl _) .nil)))))) (.new mem_cons_self (.cons rfl (.refl _) .nil))) ⟨zero_le _,by simp⟩ ?_
   rintro ⟨j,acc⟩ ⟨h2,h3⟩;simp only at h2 h3 ⊢;have hpn:(procsN p).length=p.procs.length:=by simp [procsN]
   rcases Nat.lt_or_ge j p.procs.length with hj|hj
   ·have e1:(procsN p).take (j+1)=acc++[p.procs[j].name]:=by
     rw [List.take_succ_eq_append_getElem (by omega),<- h3];simp [procsN]
    have hal:acc.length<=16:=by rw [h3,length_take];omega
    conv=>whnf
    repeat' (first|((first|refine And.intro rfl ?_|refine aD ?_|refine bP ?_|(refine iA fun _=>?_)|refine wI ?_|refine XW (by simp) (by simp;omega) ?_);conv=>whnf)|(apply bD<;>intro _<;>first|omega|conv=>whnf))
    all_goals exact ⟨(j+1,acc++[p.procs[j].name]),⟨by simp only;omega,by simp only;rw [e1]⟩,by simp only;omega,Le.of_eq (by simp only [length_append,List.map_append];rfl)⟩
   rw [take_of_length_le (by omega)] at h3;subst h3;have hN:=WX p mainS;have hmq : ∀ q:Prop,((UB p mainS).2=true∧(UB p mainS).1.params.length=0∧q)->q:=fun q h=>h.2.2;have hT1:=ZK p.globals;have hT2:=ZK (procsN p);generalize (UB p mainS).2=mk at *
   generalize (UB p mainS).1=mf at *
   have hmfl:(mf.params.map fun a=>AV.agg a.cells).length=mf.params.length:=length_map _;conv=>whnf
   repeat' (first|((first|(refine iM fun _=>?_)|refine And.intro rfl ?_|refine cP hN ?_|refine cP hT1 ?_|(refine QG hT2 (.cons (.hd rfl (by simp)) .nil) (by rintro _ rfl;rfl) ?_;rintro _ rfl)|refine cP (QS 5 0) ?_);conv=>whnf)|(apply bD<;>intro _<;>first|omega|conv=>whnf)|(apply bN<;>intro _<;>conv=>whnf)|(apply bB<;>intro _<;>conv=>whnf))
   all_goals first
    | (refine ZZ ⟨fun h=>by omega,fun ⟨⟨h4,h5,h6,h7⟩,h8⟩ => ?_⟩
       exfalso;simp_all
       done)
    | (refine ZZ ⟨fun h=>by omega,fun ⟨⟨h4,h5,h6,h7⟩,h8⟩ => ?_⟩
       omega)
    | skip
   have G1:XH p.globals=false:=by assumption
   have G2:XH (procsN p)=false:=by assumption
   have G3:mk=true:=by assumption
   have G4:mf.params.length=0:=by omega
   have hIff:(((XH p.globals=false∧XH (procsN p)=false∧mk=true∧mf.params.length=0) ∧ ∀ f∈p.procs,ScopeOK p f) ↔ ∀ f∈p.procs,ScopeOK p f):=⟨fun h=>h.2,fun h=>⟨⟨G1,G2,G3,G4⟩,h⟩⟩;rw [hIff];clear hIff hT1 hT2 hN hmq G1 G2 G3 G4;refine LoopK.inv QX (fun j:Nat=>⟨[(1,.p (.ip p.cells)),(2,.ptr 1 0),(3,.hd 0 0 (procsN p).length),(55,.p (.sl (p.procs.map fun f => .agg f.cells))),(56,.p (.int .i64 (p.procs.map fun f=>AV.agg f.cells).length)),(57,.p (.int .i64 j))],[(0,.own 9 1 ((procsN p).map .str)),(1,.obj 117 [.p (.int .i64 0),.p (.int .i64 0)])]⟩) (fun j=>j<=p.procs.length ∧ ∀ f∈p.procs.take j,ScopeOK p f) (fun j=>p.procs.length-j) 0
    (Le.of_eq rfl) ⟨zero_le _,fun f h=>by rw [take_zero] at h;cases h⟩ ?_
   rintro j ⟨h2,h3⟩;rcases Nat.lt_or_ge j p.procs.length with hj|hj;rotate_left 1
   ·rw [take_of_length_le hj] at h3;conv=>whnf
    repeat' (first|(refine And.intro rfl ?_;conv=>whnf)|(apply bD<;>intro _<;>first|omega|conv=>whnf))
    exact ZZ ⟨fun _=>h3,fun _=>rfl⟩
   have hfm:=List.getElem_mem hj;obtain ⟨w1,w2,w3,w4⟩:=z5q hf hfm;have hwp:=hf.pr hfm;have hPm:=LJ p.procs[j] (by omega);have hF:=XX p.procs[j];have hmap:(VN p.procs[j]).map RI.s=flL p.procs[j].body:=by rw [JZ hm hfm];exact NA 1 0 false _
   have hrl:=GO p.procs[j];have hargs : ∀ x∈VN p.procs[j],x.s.args.length<=20000:=fun x hx=>by
    have hmm:x.s∈flL p.procs[j].body:=by
     rw [<- hmap];exact List.mem_map.2 ⟨_,hx,rfl⟩
    have h4:=x0k _ _ hmm;have h5:=x5l x.s;have h6:=JS x.s.args;unfold wPr at hwp;omega
   have hav:allV p p.procs[j]=p.globals++((p.procs[j].params.map Param.name)++p.procs[j].vars):=rfl;have hT:=ZK (allV p p.procs[j]);rw [hav] at hT;have hnd:=ZI (l:=allV p p.procs[j]);rw [hav] at hnd;have hbad : ¬ScopeOK p p.procs[j] -> ¬∀ f∈p.procs,ScopeOK p f:=fun h h2=>h (h2 _ hfm);have hgood:ScopeOK p p.procs[j] -> ∀ f∈p.procs.take (j+1),ScopeOK p f:=fun h f hfq=>by
    rcases (QC hj).1 hfq with h4|rfl
    ·exact h3 f h4
    ·exact h
   have hok:((p.globals++((p.procs[j].params.map Param.name)++p.procs[j].vars)).Nodup ∧ ∀ x∈VN p.procs[j],knownB p p.procs[j] (procsN p) x.s=true)↔ScopeOK p p.procs[j]:=by
    constructor
    ·rintro ⟨a,b⟩;exact ⟨a,fun t ht=>by
      rw [<- hmap] at ht;obtain ⟨x,hx,rfl⟩:=List.mem_map.1 ht;exact b x hx⟩
    ·rintro ⟨a,b⟩;exact ⟨a,fun x hx=>b _ (by rw [<- hmap];exact List.mem_map.2 ⟨x,hx,rfl⟩)⟩
   have hkd:=fun v=>q3e p p.procs[j] v;have hkn : ∀ t:S,knownB p p.procs[j] (procsN p) t=((WV t).all (fun n => !(FL p p.procs[j] n==0))&&(decide (t.kind≠4)||(!(t.proc==mainS)&&inS (procsN p) t.proc))):=fun t=>by rw [q5k];rfl
   clear hav hwp hmap hfm;generalize VN p.procs[j]=its at *
   generalize ScopeOK p p.procs[j]=SK at *
   have hil:=WK its;rw [show QM (p.globals++((p.procs[j].params.map Param.name)++p.procs[j].vars))=AV.sl (p.globals.map .str++(p.procs[j].params.map Param.name).map .str++p.procs[j].vars.map .str) by unfold QM;rw [List.map_append,List.map_append,List.append_assoc]] at hT;conv=>whnf
   repeat' (first|((first|(refine iM fun _=>?_)|refine dA ?_|refine And.intro rfl ?_|refine aD ?_|(refine iA fun _=>?_)|refine cP hPm ?_|refine BsK.own (fun x hx=>by cases hx) rfl ?_|refine UH _ (by simp) (by simp;omega) ?_|(refine QG hT (.cons (.hd rfl (by simp<;>omega)) .nil) (by rintro _ rfl;rfl) ?_;rintro _ rfl)|refine cP (QS 5 0) ?_|refine cP hF ?_);conv=>whnf)|(apply bD<;>intro _<;>first|omega|conv=>whnf)|(apply bB<;>intro _<;>conv=>whnf))
   all_goals first
    | (refine ZZ ⟨fun h=>by omega,fun hP=>absurd hP (hbad fun hS => ?_)⟩
       have:=hnd.2 (hok.2 hS).1;simp_all
       done)
    | skip
   have hND:=hnd.1 (by assumption);have hbad2 : ∀ x∈its,knownB p p.procs[j] (procsN p) x.s=false -> ¬∀ f∈p.procs,ScopeOK p f:=fun x hx h=>hbad fun hS=>by
    have:=(hok.2 hS).2 x hx;rw [this] at h;cases h
   clear hT hnd;refine LoopK.inv QX (fun m:Nat=>⟨[(1,.p (.ip p.cells)),(2,.ptr 1 0),(3,.hd 0 0 (procsN p).length),(9,.p (.ip p.procs[j].cells)),(55,.p (.sl (p.procs.map fun f => .agg f.cells))),(56,.p (.int .i64 (p.procs.map fun f=>AV.agg f.cells).length)),(57,.p (.int .i64 j)),(74,.p (KW its)),(75,.p (.int .i64 (its.map fun i=>AV.agg i.cells).length)),(76,.p (.int .i64 m))],[(0,.own 9 1 ((procsN p).map .str)),(1,.obj 117 [.p (.int .i64 0),.p (.int .i64 0)])]⟩) (fun m=>m<=its.length ∧ ∀ x∈its.take m,knownB p p.procs[j] (procsN p) x.s=true) (fun m=>its.length-m) 0
    (Le.of_eq rfl) ⟨zero_le _,fun x h=>by rw [take_zero] at h;cases h⟩ ?_
   rintro m ⟨h4,h5⟩;rcases Nat.lt_or_ge m its.length with hm'|hm';rotate_left 1
   ·rw [take_of_length_le hm'] at h5;conv=>whnf
    repeat' (first|(refine wI ?_;conv=>whnf)|(apply bD<;>intro _<;>first|omega|conv=>whnf))
    exact ⟨j+1,⟨by omega,hgood (hok.1 ⟨hND,h5⟩)⟩,by omega,Le.of_eq rfl⟩
   have hna:=hargs _ (List.getElem_mem hm');have hSd:=HT its[m].s hna;have hB:=hbad2 _ (List.getElem_mem hm');have hst:knownB p p.procs[j] (procsN p) its[m].s=true -> ∀ x∈its.take (m+1),knownB p p.procs[j] (procsN p) x.s=true:=fun h x hx=>by
    rcases (QC hm').1 hx with h6|rfl
    ·exact h5 x h6
    ·exact h
   rw [hkn] at hB hst;have hIn:=QE (procsN p) its[m].s.proc;generalize WV its[m].s=vs at *
   have hvl:(vs.map AV.str).length=vs.length:=length_map _;conv=>whnf
   repeat' (first|((first|(refine iM fun _=>?_)|refine And.intro rfl ?_|(refine iA fun _=>?_)|refine cP hSd ?_);conv=>whnf)|(apply bD<;>intro _<;>first|omega|conv=>whnf))
   refine LoopK.inv QX (fun q:Nat=>⟨[(1,.p (.ip p.cells)),(2,.ptr 1 0),(3,.hd 0 0 (procsN p).length),(9,.p (.ip p.procs[j].cells)),(11,.p (.ip its[m].cells)),(55,.p (.sl (p.procs.map fun f => .agg f.cells))),(56,.p (.int .i64 (p.procs.map fun f=>AV.agg f.cells).length)),(57,.p (.int .i64 j)),(74,.p (KW its)),(75,.p (.int .i64 (its.map fun i=>AV.agg i.cells).length)),(76,.p (.int .i64 m)),(82,.p (QM vs)),(83,.p (.int .i64 (vs.map AV.str).length)),(84,.p (.int .i64 q))],[(0,.own 9 1 ((procsN p).map .str)),(1,.obj 117 [.p (.int .i64 0),.p (.int .i64 0)])]⟩) (fun q=>q<=vs.length∧(vs.drop q).all (fun n => !(FL p p.procs[j] n==0))=vs.all fun n => !(FL p p.procs[j] n==0)) (fun q=>vs.length-q) 0
    (Le.of_eq rfl) ⟨zero_le _,rfl⟩ ?_
   rintro q ⟨h6,h7⟩;rcases Nat.lt_or_ge q vs.length with hq|hq
   ·have hK:=hkd vs[q];conv=>whnf
    repeat' (first|((first|refine And.intro rfl ?_|(refine iA fun _=>?_)|refine wI ?_|refine cP hK ?_|refine cP (QS 5 _) ?_);conv=>whnf)|(apply bD<;>intro _<;>first|omega|conv=>whnf))
    all_goals first
     | (refine ZZ ⟨fun h=>by omega,fun hP=>absurd hP (hB ?_)⟩
        have hk0:FL p p.procs[j] vs[q]=0:=by assumption
        have e:=q1y (p:=fun n => !(FL p p.procs[j] n==0)) hq (by rw [hk0];rfl);rw [<- h7,e];rfl)
     | (have hk0 : ¬FL p p.procs[j] vs[q]=0:=by assumption
        exact ⟨q+1,⟨by omega,by rw [<- h7,GY (p:=fun n => !(FL p p.procs[j] n==0)) hq (by simpa using hk0)]⟩,by omega,Le.of_eq rfl⟩)
     | trace_state
   ·rw [GM hq] at h7;rw [<- h7,Bool.true_and] at hB hst;conv=>whnf
    repeat' (first|((first|refine And.intro rfl ?_|refine wI ?_|(refine QG hIn (.cons (.hd rfl (by simp)) (.cons (.p (Sub.refl _)) .nil)) (by rintro _ rfl;rfl) ?_;rintro _ rfl)|refine cP (QS 5 _) ?_);conv=>whnf)|(apply bD<;>intro _<;>first|omega|conv=>whnf)|(apply bN<;>intro _<;>conv=>whnf)|(apply bB<;>intro _<;>conv=>whnf))
    all_goals
     have hmm:(its[m].s.proc==mainS)=(its[m].s.proc==[109,97,105,110]):=rfl
    all_goals first
     | (refine ZZ ⟨fun h=>by omega,fun hP=>absurd hP (hB ?_)⟩
        rw [hmm];simp_all
        done)
     | (refine ⟨m+1,⟨by omega,hst ?_⟩,by omega,Le.of_eq rfl⟩
        rw [hmm];simp_all
        done)
     | trace_state
def x9q (L:List RI) (f:Pr) (x:RI):Bool:=if x.s.kind=7∨x.s.kind=8 then (z0h L.reverse x.s.id).2 else if x.s.kind=10 then inS (q9v f) x.s.name else true
theorem v1g (f:Pr) (n:Str):(atB f n).2=inS (q9v f) n:=by
 rw [Bool.eq_iff_iff,z0i];unfold atB q9v;rw [List.mem_append,List.mem_flatMap];cases hq:(flL f.body).find? fun t=>t.labels.any fun s=>n==s with
 | some t =>
   have h1:=List.mem_of_find?_eq_some hq;have h2:=List.find?_some hq;obtain ⟨s,hs,he⟩:=List.any_eq_true.1 h2;have he:n=s:=eq_of_beq he;exact ⟨fun _ => .inl ⟨t,h1,he▸hs⟩,fun _=>rfl⟩
 | none =>
   have h1:=List.find?_eq_none.1 hq;have h2 : ¬∃ a∈flL f.body,n∈a.labels:=fun ⟨t,ht,hn⟩=>h1 t ht (List.any_eq_true.2 ⟨n,hn,beq_self_eq_true n⟩);cases hc:f.fin.any fun s=>n==s with
   | true =>
     obtain ⟨s,hs,he⟩:=List.any_eq_true.1 hc;have he:n=s:=eq_of_beq he;exact ⟨fun _ => .inr (he▸hs),fun _=>rfl⟩
   | false =>
     refine ⟨fun h=>by simp at h,fun h => ?_⟩;rcases h with h|h
     ·exact absurd h h2
     ·have:=List.any_eq_false.1 hc n h;simp at this
theorem z7s {p:Pg} (h:VB p=true) {j:Nat} {f:Pr} (hj:p.procs[j]? = some f):DL p j f↔(∀ x∈flatU f,x9q (flatU f) f x=true)∧(q9v f).Nodup:=by
 have key : ∀ it∈itsOf p j f,∀ x∈flatU f,x.s=it.s->x9q (flatU f) f x=VJ f it:=fun it hi x hx he=>by
  unfold x9q VJ;rw [he,x0h h hj hi,v1g];congr 1;by_cases h0:it.loop=0<;>simp [h0]
 unfold DL;refine and_congr_left fun _=>⟨fun h1 x hx => ?_,fun h1 it hi => ?_⟩
 ·have h2:x.s∈flL f.body:=by
   rw [<- show (flatU f).map RI.s=flL f.body from NA 1 0 false f.body];exact List.mem_map.2 ⟨x,hx,rfl⟩
  obtain ⟨it,hi,he⟩:=w4b (p:=p) (j:=j) h2;rw [key it hi x hx he.symm];exact h1 it hi
 ·obtain ⟨x,hx,he⟩:=x4c (LO hi);rw [<- key it hi x hx he];exact h1 x hx
theorem w2w (f:Pr):q9v f=(flatU f).flatMap (fun x=>x.s.labels)++f.fin:=by
 unfold q9v;rw [<- show (flatU f).map RI.s=flL f.body from NA 1 0 false f.body,List.flatMap_map]
theorem q1j (p:Pg) (hf:Fit p) (hm:VB p=true):SpecP Tryz.prog 249 [.agg p.cells] (fun r=>fltR (∀ j f,p.procs[j]? = some f->DL p j f) r):=by
 refine sB MQ Tryz.func249 rfl Tryz.call249 ?_;conv=>whnf
 obtain ⟨hg,hpl,hcn⟩:=ZG hm;have hpll:(p.procs.map fun f=>AV.agg f.cells).length=p.procs.length:=length_map _;repeat' (refine iM fun _=>?_;conv=>whnf)
 refine LoopK.inv QX (fun j:Nat=>⟨[(2,.ptr 1 0),(13,.p (.sl (p.procs.map fun f => .agg f.cells))),(14,.p (.int .i64 (p.procs.map fun f=>AV.agg f.cells).length)),(15,.p (.int .i64 j))],[(1,.obj 117 [.p (.int .i64 0),.p (.int .i64 0)])]⟩) (fun j=>j<=p.procs.length ∧ ∀ k f,k<j->p.procs[k]? = some f->DL p k f) (fun j=>p.procs.length-j) 0
  (Le.of_eq rfl) ⟨zero_le _,fun k f h=>absurd h (Nat.not_lt_zero _)⟩ ?_
 rintro j ⟨h2,h3⟩;rcases Nat.lt_or_ge j p.procs.length with hj|hj;rotate_left 1
 ·conv=>whnf
  repeat' (first|(refine And.intro rfl ?_;conv=>whnf)|(apply bD<;>intro _<;>first|omega|conv=>whnf))
  exact ZZ ⟨fun _ k f hk=>h3 k f (by have:=(List.getElem?_eq_some_iff.1 hk).1;omega) hk,fun _=>rfl⟩
 have hfm:=List.getElem_mem hj;obtain ⟨w1,w2,w3,w4⟩:=z5q hf hfm;have hwp:=hf.pr hfm;have hpj':p.procs[j]? = some p.procs[j]:=List.getElem?_eq_getElem hj;have hF:=XX p.procs[j];rw [JZ hm hfm] at hF;have hrl:(flatU p.procs[j]).length<=200:=by rw [show flatU p.procs[j]=fuL 1 0 false p.procs[j].body from rfl,ZR];have:=FO _ _ hfm;omega
 have hlab : ∀ x∈flatU p.procs[j],x.s.labels.length<=20000:=fun x hx=>by
  have hmm:x.s∈flL p.procs[j].body:=by
   rw [<- show (flatU p.procs[j]).map RI.s=flL p.procs[j].body from NA 1 0 false _];exact List.mem_map.2 ⟨_,hx,rfl⟩
  have h4:=x0k _ _ hmm;have h5:=x5l x.s;have h6:=DF x.s.labels;unfold wPr at hwp;omega
 have hLb:=LE p.procs[j] (by rw [JZ hm hfm];exact hlab) w3;rw [JZ hm hfm,<- w2w] at hLb;have hbad : ¬DL p j p.procs[j] -> ¬∀ j f,p.procs[j]? = some f->DL p j f:=fun h h2=>h (h2 j _ hpj');have hgood:DL p j p.procs[j] -> ∀ k f,k<j+1->p.procs[k]? = some f->DL p k f:=fun h k f hk hf2=>by
  rcases Nat.lt_or_ge k j with h4|h4
  ·exact h3 k f h4 hf2
  ·obtain rfl:k=j:=by omega
   rw [hpj'] at hf2;exact Option.some.inj hf2▸h
 rw [z7s hm hpj'] at hbad hgood;have hlf:=w2w p.procs[j];have hld : ∀ x,x9q (flatU p.procs[j]) p.procs[j] x=if x.s.kind=7∨x.s.kind=8 then (z0h (flatU p.procs[j]).reverse x.s.id).2 else if x.s.kind=10 then inS (q9v p.procs[j]) x.s.name else true:=fun x=>rfl;have hAr:=fun id=>KZ (flatU p.procs[j]) id;have hIn:=fun x=>QE (q9v p.procs[j]) x;generalize x9q (flatU p.procs[j]) p.procs[j]=ld at *
 generalize flatU p.procs[j]=L at *
 generalize q9v p.procs[j]=LB at *
 have hLl:=WK L;conv=>whnf
 repeat' (first|((first|(refine iM fun _=>?_)|refine And.intro rfl ?_|(refine iA fun _=>?_)|refine cP hF ?_);conv=>whnf)|(apply bD<;>intro _<;>first|omega|conv=>whnf))
 refine LoopK.inv QX (fun x:Nat×List Str=>⟨[(2,.ptr 1 0),(4,.p (.ip p.procs[j].cells)),(5,.hd 0 0 x.2.length),(6,.p (KW L)),(13,.p (.sl (p.procs.map fun f => .agg f.cells))),(14,.p (.int .i64 (p.procs.map fun f=>AV.agg f.cells).length)),(15,.p (.int .i64 j)),(21,.p (KW L)),(22,.p (.int .i64 (L.map fun i=>AV.agg i.cells).length)),(23,.p (.int .i64 x.1))],[(0,.own 9 1 (x.2.map .str)),(1,.obj 117 [.p (.int .i64 0),.p (.int .i64 0)])]⟩) (fun x=>x.1<=L.length∧x.2=(L.take x.1).flatMap (fun x=>x.s.labels)∧x.2.length<=20000*x.1∧x.2.Nodup ∧ ∀ y∈L.take x.1,ld y=true) (fun x=>L.length-x.1) (0,[])
  (Le.mk [(0,.own 9 1 [])] (by simp [Chunk.new0];rfl) (by simp) (by simp) (.cons (.refl _) (.cons (.refl _) (.cons (.nil mem_cons_self) (.cons (.refl _) (.cons (.refl _) (.cons (.refl _) (.cons (.refl _) (.cons (.refl _) (.cons (.refl _) (.cons (.refl _) .nil)))))))))) (.new mem_cons_self (.cons rfl (.refl _) .nil))) ⟨zero_le _,by simp,by simp,by simp,fun y h=>by rw [take_zero] at h;cases h⟩ ?_
 rintro ⟨k,acc⟩ ⟨h4,h5,h6,h7,h8⟩;simp only at h4 h5 h6 h7 h8 ⊢;rcases Nat.lt_or_ge k L.length with hk|hk
 ·have hlk:=hlab _ (List.getElem_mem hk);have e1:(L.take (k+1)).flatMap (fun x=>x.s.labels)=acc++L[k].s.labels:=by rw [List.take_succ_eq_append_getElem hk,List.flatMap_append,<- h5];simp
  have hT:=ZK (acc++L[k].s.labels);have hAk:=hAr L[k].s.id;have hIk:=hIn L[k].s.name;have hldk:=hld L[k];have hsub:LB.Nodup->(acc++L[k].s.labels).Nodup:=fun h=>by
   rw [hlf,<- List.take_append_drop (k+1) L,List.flatMap_append,e1,List.append_assoc] at h;exact (List.nodup_append.1 h).1
  have hno : ∀ {d:Int} {H:Heap},(ld L[k]=false∨XH (acc++L[k].s.labels)=true)->RetK H (.p (.agg [.int .i64 7,.int .i64 d])) (fun r=>fltR (∀ j f,p.procs[j]? = some f->DL p j f) r):=fun h=>by
   refine ZZ ⟨fun h=>by omega,fun hP=>absurd hP (hbad fun ⟨h9,h10⟩ => ?_)⟩;rcases h with h|h
   ·rw [h9 _ (List.getElem_mem hk)] at h;cases h
   ·rw [ZI.2 (hsub h10)] at h;cases h
  have hyes:ld L[k]=true -> ∀ y∈L.take (k+1),ld y=true:=fun h y hy=>by
   rcases (QC hk).1 hy with h9|rfl
   ·exact h8 y h9
   ·exact h
  rw [<- ZI] at hsub;rw [show QM (acc++L[k].s.labels)=AV.sl (acc.map .str++L[k].s.labels.map .str) by unfold QM;rw [List.map_append]] at hT;generalize hal:acc++L[k].s.labels=al at hT hno e1;have hall:al.length=acc.length+L[k].s.labels.length:=by rw [<- hal];simp
  generalize (z0h L.reverse L[k].s.id).2=ar at *
  conv=>whnf
  repeat' (first|((first|refine dA ?_|refine And.intro rfl ?_|refine aD ?_|(refine iA fun _=>?_)|refine wI ?_|refine UH _ (by simp) (by simp;omega) ?_|(refine QG hT (.cons (.hd rfl (by simp)) .nil) (by rintro _ rfl;rfl) ?_;rintro _ rfl)|refine cP hAk ?_|refine cP hLb ?_|refine cP hIk ?_|refine cP (QS 7 _) ?_);conv=>whnf)|(apply bD<;>intro _<;>first|omega|conv=>whnf)|(apply bN<;>intro _<;>conv=>whnf)|(apply bB<;>intro _<;>conv=>whnf))
  all_goals first
   | exact hno (.inr (by assumption))
   | (refine hno (.inl ?_)
      rw [hldk];simp_all
      done)
   | (refine ⟨(k+1,al),⟨by simp only;omega,by simp only;rw [e1],by simp only;omega,ZI.1 (by assumption),hyes ?_⟩,by simp only;omega,Le.of_eq (by subst hal;simp only [length_append,List.map_append,length_map];rfl)⟩
      rw [hldk];simp_all
      done)
   | trace_state
 ·rw [take_of_length_le hk] at h5 h8;have e2:LB=acc++p.procs[j].fin:=by rw [hlf,<- h5]
  have hT:=ZK (acc++p.procs[j].fin);rw [show QM (acc++p.procs[j].fin)=AV.sl (acc.map .str++p.procs[j].fin.map .str) by unfold QM;rw [List.map_append]] at hT;conv=>whnf
  repeat' (first|((first|refine And.intro rfl ?_|refine aD ?_|refine wI ?_|refine UH _ (by simp) (by simp;omega) ?_|(refine QG hT (.cons (.hd rfl (by simp)) .nil) (by rintro _ rfl;rfl) ?_;rintro _ rfl)|refine cP (QS 7 0) ?_);conv=>whnf)|(apply bD<;>intro _<;>first|omega|conv=>whnf)|(apply bB<;>intro _<;>conv=>whnf))
  all_goals first
   | (refine ZZ ⟨fun h=>by omega,fun hP=>absurd hP (hbad fun ⟨h9,h10⟩ => ?_)⟩
      rw [e2,<- ZI] at h10;simp_all
      done)
   | (refine ⟨j+1,⟨by omega,hgood ⟨h8,?_⟩⟩,by omega,Le.of_eq rfl⟩
      rw [e2,<- ZI];assumption)
theorem fltR.yes {P:Prop} {r:AV} (h:fltR P r) (hp:P) : ∃ d,r=BN 0 d:=by
 obtain ⟨c,d,rfl,h⟩:=h;rw [h.2 hp];exact ⟨d,rfl⟩
theorem fltR.no {P:Prop} {r:AV} (h:fltR P r) (hp : ¬P) : ∃ c d,c≠0∧r=BN c d:=by
 obtain ⟨c,d,rfl,h⟩:=h;exact ⟨c,d,fun e=>hp (h.1 e),rfl⟩
theorem q6b (p:Pg) (hf:Fit p):SpecP Tryz.prog 157 [.agg p.cells] (fun r=>fltR (XG p=true) r):=by
 refine sB q2b Tryz.func157 rfl Tryz.call157 ?_;conv=>whnf
 have hS:=q2x p hf;by_cases hs:(QA p).1=0;rotate_left 1
 ·have hS:=hS.mono fun r h=>h.no hs;have hno : ¬XG p=true:=fun h=>hs (x5s.1 h).2.1;repeat' (first|((first|refine And.intro rfl ?_|(refine CallK.pure hS (.cons (Sub.refl _) .nil) ?_;rintro _ ⟨c,d,hc,rfl⟩));conv=>whnf)|(apply bD<;>intro _<;>first|omega|conv=>whnf))
  all_goals first
   | (exfalso;omega)
   | exact ZZ ⟨fun h=>absurd h hc,fun h=>absurd h hno⟩
 have hS:=hS.mono fun r h=>h.yes hs;have hm:=(VH hs).1;have hA:=q2w p hm;rw [<- x9u hs] at hA;by_cases ha:(VM p).1=0;rotate_left 1
 ·have hA:=hA.mono fun r h=>h.no ha;have hno : ¬XG p=true:=fun h=>ha (x5s.1 h).2.2.1;repeat' (first|((first|refine And.intro rfl ?_|(refine CallK.pure hS (.cons (Sub.refl _) .nil) ?_;rintro _ ⟨d0,rfl⟩)|(refine CallK.pure hA (.cons (Sub.refl _) .nil) ?_;rintro _ ⟨c,d,hc,rfl⟩));conv=>whnf)|(apply bD<;>intro _<;>first|omega|conv=>whnf))
  all_goals first
   | (exfalso;omega)
   | exact ZZ ⟨fun h=>absurd h hc,fun h=>absurd h hno⟩
 have hA:=hA.mono fun r h=>h.yes ha;have hJ:=q1j p hf hm;rw [<- w4n hs] at hJ;by_cases hj:(NI p).1=0;rotate_left 1
 ·have hJ:=hJ.mono fun r h=>h.no hj;have hno : ¬XG p=true:=fun h=>hj (x5s.1 h).2.2.2.1;repeat' (first|((first|refine And.intro rfl ?_|(refine CallK.pure hS (.cons (Sub.refl _) .nil) ?_;rintro _ ⟨d0,rfl⟩)|(refine CallK.pure hA (.cons (Sub.refl _) .nil) ?_;rintro _ ⟨d1,rfl⟩)|(refine CallK.pure hJ (.cons (Sub.refl _) .nil) ?_;rintro _ ⟨c,d,hc,rfl⟩));conv=>whnf)|(apply bD<;>intro _<;>first|omega|conv=>whnf))
  all_goals first
   | (exfalso;omega)
   | exact ZZ ⟨fun h=>absurd h hc,fun h=>absurd h hno⟩
 have hJ:=hJ.mono fun r h=>h.yes hj;have hT:=BY p hf hs ((x9u hs).1 ha);rw [<- w0x ha] at hT;have hiff:XG p=true↔(HP p).1=0:=by
  rw [x5s];exact ⟨fun h=>h.2.2.2.2,fun h=>⟨hm,hs,ha,hj,h⟩⟩
 repeat' (first|((first|refine And.intro rfl ?_|(refine CallK.pure hS (.cons (Sub.refl _) .nil) ?_;rintro _ ⟨d0,rfl⟩)|(refine CallK.pure hA (.cons (Sub.refl _) .nil) ?_;rintro _ ⟨d1,rfl⟩)|(refine CallK.pure hJ (.cons (Sub.refl _) .nil) ?_;rintro _ ⟨d2,rfl⟩)|(refine CallK.pure hT (.cons (Sub.refl _) .nil) ?_;rintro _ ⟨c,d,rfl,hc⟩));conv=>whnf)|(apply bD<;>intro _<;>first|omega|conv=>whnf))
 all_goals first
  | (exfalso;omega)
  | exact ZZ (hc.trans hiff.symm)
theorem WZ (p:Pg) (hf:Fit p):SpecP Tryz.prog 88 [.agg p.cells] (fun r=>r = .bool (XG p)):=by
 refine sB NS Tryz.func88 rfl Tryz.call88 ?_;conv=>whnf
 repeat' (refine CallK.pure (q6b p hf) (.cons (Sub.refl _) .nil) ?_;rintro _ ⟨c,d,rfl,hc⟩;conv=>whnf)
 all_goals
  refine RetK.bool ?_;first
  | rw [Bool.eq_iff_iff,beq_iff_eq];exact hc
  | rw [Bool.eq_iff_iff,decide_eq_true_eq];exact hc
theorem KI (l:List RI) (id:Int):SpecP Tryz.prog 284 [KW l,.int .i64 id] (fun r=>r = .agg (itemR l id).cells):=by
 refine sB NL Tryz.func284 rfl Tryz.call284 ?_;conv=>whnf
 refine iM fun _=>?_;have hLl:=WK l;conv=>whnf
 refine LoopK.inv QX (fun k:Nat=>⟨[(1,.p (.int .i64 id)),(4,.ptr 0 0),(7,.p (KW l)),(8,.p (.int .i64 (l.map fun i=>AV.agg i.cells).length)),(9,.p (.int .i64 k))],[(0,.obj 42 [.p (.int .i64 0),.p (.int .i64 0),.p .nils,.p (.str []),.p (.str []),.p (.int .i64 0),.p (.int .i64 0),.p (.str []),.p .nils,.p .ff,.p .nils,.p .nils,.p .nils,.p (.int .i64 0),.p (.int .i64 0),.p .ff])]⟩) (fun k=>k<=l.length∧(l.drop k).find? (fun x=>decide (x.s.id=id))=l.find? fun x=>decide (x.s.id=id)) (fun k=>l.length-k) 0 (Le.of_eq rfl) ⟨zero_le _,rfl⟩ ?_;rintro k ⟨h4,h5⟩;rcases Nat.lt_or_ge k l.length with hk|hk;rotate_left 1
 ·rw [drop_eq_nil_of_le hk,List.find?_nil] at h5;have hO:itemR l id=RI0:=by unfold itemR;rw [<- h5];rfl
  rw [hO];conv=>whnf
  repeat' (first|(refine And.intro rfl ?_;conv=>whnf)|(apply bD<;>intro _<;>first|omega|conv=>whnf))
  exact ⟨_,.p v0m,rfl⟩
 rw [z0u hk] at h5;conv=>whnf
 repeat' (first|((first|refine And.intro rfl ?_|(refine iA fun _=>?_)|refine wI ?_);conv=>whnf)|(apply bD<;>intro _<;>first|omega|conv=>whnf))
 ·have hid:l[k].s.id=id:=by assumption
  rw [if_pos (decide_eq_true hid)] at h5;have hO:itemR l id=l[k]:=by unfold itemR;rw [<- h5];rfl
  rw [hO];exact ⟨_,.p (Sub.refl _),rfl⟩
 ·have hid : ¬l[k].s.id=id:=by assumption
  rw [if_neg (by simpa using hid)] at h5;exact ⟨k+1,⟨hk,h5⟩,by omega,Le.of_eq rfl⟩
theorem q4y (l:List RI) (x:RI) (hl:l.length<=1000000):SpecP Tryz.prog 285 [KW l,.agg x.cells] (fun r=>r=QD (stdR l x)):=by
 refine sB q0w Tryz.func285 rfl Tryz.call285 ?_;conv=>whnf
 refine iM fun _=>?_;have hLl:=WK l;have hsd:stdR l x=(l.filter (inI x.inn x.els)).map fun y=>y.s.id:=rfl;rw [hsd];conv=>whnf
 refine LoopK.inv QX (fun q:Nat×List Int=>⟨[(3,.p (.ip x.cells)),(5,.hd 0 0 q.2.length),(8,.p (KW l)),(9,.p (.int .i64 (l.map fun i=>AV.agg i.cells).length)),(10,.p (.int .i64 q.1))],[(0,.own 3 1 (q.2.map (.int .i64)))]⟩) (fun q=>q.1<=l.length∧q.2=((l.take q.1).filter (inI x.inn x.els)).map (fun y=>y.s.id)∧q.2.length<=q.1) (fun q=>l.length-q.1) (0,[])
  (Le.mk [(0,.own 3 1 [])] (by simp [Chunk.new0];rfl) (by simp) (by simp) (.cons (.refl _) (.cons (.nil mem_cons_self) (.cons (.refl _) (.cons (.refl _) (.cons (.refl _) .nil))))) (.new mem_cons_self .nil)) ⟨zero_le _,by simp,by simp⟩ ?_
 rintro ⟨j,acc⟩ ⟨h2,h3,h4⟩;simp only at h2 h3 h4 ⊢;rcases Nat.lt_or_ge j l.length with hj|hj
 ·have h6:=List.take_succ_eq_append_getElem hj;have hin:inI x.inn x.els l[j]=(decide (l[j].inn=x.inn)&&(l[j].els==x.els)):=rfl;conv=>whnf
  repeat' (first|((first|refine And.intro rfl ?_|refine aD ?_|refine bP ?_|(refine iA fun _=>?_)|refine wI ?_|refine XO (by simp) (by simp;omega) ?_|refine q5a QX rfl rfl rfl rfl rfl ?_);conv=>whnf)|(apply bD<;>intro _<;>first|omega|conv=>whnf))
  all_goals first
   | exact ⟨(j+1,acc++[l[j].s.id]),⟨by simp only;omega,by simp only;rw [h6,List.filter_append,List.map_append,<- h3,List.filter_cons_of_pos (by rw [hin];simp_all)];rfl,by simp;omega⟩,by simp only;omega,Le.of_eq (by simp only [length_append,List.map_append];rfl)⟩
   | exact ⟨(j+1,acc),⟨by simp only;omega,by simp only;rw [h6,List.filter_append,List.map_append,<- h3,List.filter_cons_of_neg (by rw [hin];simp_all)];simp,by simp only;omega⟩,by simp only;omega,Le.of_eq rfl⟩
   | trace_state
 ·rw [take_of_length_le hj] at h3;subst h3;conv=>whnf
  repeat' (apply bD<;>intro _<;>first|omega|conv=>whnf)
  exact ⟨_,.hd rfl (by simp),rfl⟩
theorem ZN (l:List RI) (id:Int) (e:Bool) (o:Int):SpecP Tryz.prog 282 [KW l,.int .i64 id,.bool e,.int .i64 o] (fun r=>r = .int .i64 (w8a l id e o)):=by
 refine sB PF Tryz.func282 rfl Tryz.call282 ?_;conv=>whnf
 refine iM fun _=>?_;have hLl:=WK l;conv=>whnf
 refine LoopK.inv QX (fun k:Nat=>⟨[(1,.p (.int .i64 id)),(2,.p (.bool e)),(3,.p (.int .i64 o)),(11,.p (KW l)),(12,.p (.int .i64 (l.map fun i=>AV.agg i.cells).length)),(13,.p (.int .i64 k))],[]⟩) (fun k=>k<=l.length∧(l.drop k).find? (inI id e)=l.find? (inI id e)) (fun k=>l.length-k) 0 (Le.of_eq rfl) ⟨zero_le _,rfl⟩ ?_;rintro k ⟨h4,h5⟩;rcases Nat.lt_or_ge k l.length with hk|hk;rotate_left 1
 ·rw [drop_eq_nil_of_le hk,List.find?_nil] at h5;conv=>whnf
  repeat' (apply bD<;>intro _<;>first|omega|conv=>whnf)
  exact RetK.int (by unfold w8a;rw [<- h5];rfl)
 rw [z0u hk] at h5;have hin:inI id e l[k]=(decide (l[k].inn=id)&&(l[k].els==e)):=rfl;rw [hin] at h5;conv=>whnf
 repeat' (first|((first|refine And.intro rfl ?_|(refine iA fun _=>?_)|refine wI ?_|refine q5a QX rfl rfl rfl rfl rfl ?_);conv=>whnf)|(apply bD<;>intro _<;>first|omega|conv=>whnf))
 all_goals first
  | (rw [if_pos (by simp_all)] at h5
     exact RetK.int (by unfold w8a;rw [<- h5];rfl))
  | (rw [if_neg (by simp_all)] at h5
     exact ⟨k+1,⟨hk,h5⟩,by omega,Le.of_eq rfl⟩)
  | trace_state
theorem z1l {r:List Int} {i:Nat} {id:Int} (h:i+1<r.length):nextIn (r.drop i) id=if r[i]=id then some r[i+1] else nextIn (r.drop (i+1)) id:=by
 rw [drop_eq_getElem_cons (show i<r.length by omega),drop_eq_getElem_cons h];rfl
theorem z8n {r:List Int} {i:Nat} {id:Int} (h:r.length<=i+1):nextIn (r.drop i) id=none:=by
 rcases Nat.lt_or_ge i r.length with hi|hi
 ·rw [drop_eq_getElem_cons hi,drop_eq_nil_of_le h];rfl
 ·rw [drop_eq_nil_of_le hi];rfl
theorem XF (l:List RI) (hl:l.length<=1000000) (id v:Int) (hv:nextIn (stdR l (itemR l id)) id=some v∨(nextIn (stdR l (itemR l id)) id=none∧(((itemR l id).inn=0∧v = -1)∨((itemR l id).inn≠0∧(itemR l (itemR l id).inn).s.kind=6∧v=(itemR l id).inn)∨((itemR l id).inn≠0∧(itemR l (itemR l id).inn).s.kind≠6∧SpecP Tryz.prog 186 [KW l,.int .i64 (itemR l id).inn] (fun r=>r = .int .i64 v))))):SpecP Tryz.prog 186 [KW l,.int .i64 id] (fun r=>r = .int .i64 v):=by
 refine sB DA Tryz.func186 rfl Tryz.call186 ?_;conv=>whnf
 have hI:=KI l id;have hI2:=KI l (itemR l id).inn;have hR:=q4y l (itemR l id) hl;have hrl:(stdR l (itemR l id)).length<=l.length:=by
  unfold stdR;rw [length_map];exact List.length_filter_le _ _
 generalize itemR l (itemR l id).inn=y at *
 generalize itemR l id=x at *
 generalize stdR l x=R at *
 have hRl:(R.map (AV.int .i64)).length=R.length:=length_map _;repeat' ((first|refine And.intro rfl ?_|refine cP hI ?_|refine cP hR ?_);conv=>whnf)
 refine LoopK.inv QX (fun i:Nat=>⟨[(0,.p (KW l)),(1,.p (.int .i64 id)),(5,.p (.ip x.cells)),(6,.p (QD R)),(7,.p (.int .i64 i))],[]⟩) (fun i=>i<=R.length∧nextIn (R.drop i) id=nextIn R id) (fun i=>R.length-i) 0 (Le.of_eq rfl) ⟨zero_le _,rfl⟩ ?_;rintro i ⟨h2,h3⟩;rcases Nat.lt_or_ge (i+1) R.length with hi|hi
 ·have g1:(R.map (AV.int .i64))[i]? = some (.int .i64 R[i]):=by rw [List.getElem?_map,List.getElem?_eq_getElem (by omega)];rfl
  have g2:(R.map (AV.int .i64))[i+1]? = some (.int .i64 R[i+1]):=by rw [List.getElem?_map,List.getElem?_eq_getElem hi];rfl
  have hst:=z1l (id:=id) hi;conv=>whnf
  repeat' (first|((first|(refine iM fun _=>?_)|(refine iA fun _=>?_)|refine Wr.eq (m:=((i+1:Nat):Int)) (by omega) (by omega) (by omega) ?_);conv=>whnf)|(apply bD<;>intro _<;>first|omega|conv=>whnf))
  all_goals first
   | (rw [if_pos (by assumption)] at hst
      rw [hst] at h3;rcases hv with hv|hv
      ·rw [hv] at h3;exact RetK.int (Option.some.inj h3)
      ·rw [hv.1] at h3;cases h3)
   | (rw [if_neg (by assumption)] at hst
      exact ⟨i+1,⟨by omega,by rw [<- hst];exact h3⟩,by omega,Le.of_eq rfl⟩)
   | trace_state
 ·rw [z8n hi] at h3;rw [<- h3] at hv;rcases hv with hv|⟨_,⟨h4,rfl⟩|⟨h4,h5,rfl⟩|⟨h4,h5,h6⟩⟩
  ·cases hv
  all_goals
   conv=>whnf
   repeat' (first|((first|(refine iM fun _=>?_)|refine Wr.eq (m:=((i+1:Nat):Int)) (by omega) (by omega) (by omega) ?_|refine cP hI2 ?_|refine cP h6 ?_);conv=>whnf)|(apply bD<;>intro _<;>first|omega|conv=>whnf))
   all_goals first
    | (exfalso;omega)
    | exact RetK.int rfl
    | trace_state
theorem PZ {l:List RI} (hl:l.length<=1000000) {id v:Int} (h:BehP l id v):SpecP Tryz.prog 186 [KW l,.int .i64 id] (fun r=>r = .int .i64 v):=by
 induction h with
 | next h=>exact XF l hl _ _ (.inl h)
 | exit h h0=>exact XF l hl _ _ (.inr ⟨h,.inl ⟨h0,rfl⟩⟩)
 | loop h h0 hk=>exact XF l hl _ _ (.inr ⟨h,.inr (.inl ⟨h0,hk,rfl⟩)⟩)
 | up h h0 hk _ ih=>exact XF l hl _ _ (.inr ⟨h,.inr (.inr ⟨h0,hk,ih⟩)⟩)
def slB (a b:Step):Bool:=if a.src≠b.src then w5c a.src b.src else if a.dst≠b.dst then w5c a.dst b.dst else decide (a.kind<b.kind)
def slP (a b:Step):Prop:=slB a b=true
def ltP (a b:Step):Prop:=ordP a.src b.src∨(a.src=b.src∧ordP a.dst b.dst)
theorem q4c {a b:Step}:slP a b↔ordP a.src b.src∨(a.src=b.src∧(ordP a.dst b.dst∨(a.dst=b.dst∧a.kind<b.kind))):=by
 unfold slP slB;by_cases h1:a.src=b.src
 ·rw [if_neg (fun h=>h h1)];have i1 : ¬ordP a.src b.src:=fun h=>ordP.irr b.src (h1▸h);by_cases h2:a.dst=b.dst
  ·rw [if_neg (fun h=>h h2)];have i2 : ¬ordP a.dst b.dst:=fun h=>ordP.irr b.dst (h2▸h);rw [decide_eq_true_eq];exact ⟨fun h => .inr ⟨h1,.inr ⟨h2,h⟩⟩,fun h=>(h.resolve_left i1).2.elim (fun h3=>absurd h3 i2) fun h3=>h3.2⟩
  ·rw [if_pos h2];exact ⟨fun h => .inr ⟨h1,.inl h⟩,fun h=>(h.resolve_left i1).2.elim id fun h3=>absurd h3.1 h2⟩
 ·rw [if_pos h1];exact ⟨fun h => .inl h,fun h=>h.elim id fun h3=>absurd h3.1 h1⟩
theorem slP.irr (a:Step) : ¬slP a a:=fun h=>by
 rw [q4c] at h;rcases h with h|⟨_,h|⟨_,h⟩⟩
 ·exact ordP.irr _ h
 ·exact ordP.irr _ h
 ·omega
theorem slP.trans (a b c:Step) (h1:slP a b) (h2:slP b c):slP a c:=by
 rw [q4c] at *
 rcases h1 with h1|⟨e1,h1⟩
 ·rcases h2 with h2|⟨e2,_⟩
  ·exact .inl (ordP.trans _ _ _ h1 h2)
  ·exact .inl (e2▸h1)
 ·rcases h2 with h2|⟨e2,h2⟩
  ·exact .inl (e1▸h2)
  ·refine .inr ⟨e1.trans e2,?_⟩;rcases h1 with h1|⟨e3,h1⟩
   ·rcases h2 with h2|⟨e4,_⟩
    ·exact .inl (ordP.trans _ _ _ h1 h2)
    ·exact .inl (e4▸h1)
   ·rcases h2 with h2|⟨e4,h2⟩
    ·exact .inl (e3▸h2)
    ·exact .inr ⟨e3.trans e4,by omega⟩
theorem slP.total (a b:Step) (h:a≠b):slP a b∨slP b a:=by
 rw [q4c,q4c];by_cases h1:a.src=b.src
 ·by_cases h2:a.dst=b.dst
  ·have h3:a.kind≠b.kind:=fun h3=>h (YQ h1 h2 h3);rcases Int.lt_or_gt_of_ne h3 with h4|h4
   ·exact .inl (.inr ⟨h1,.inr ⟨h2,h4⟩⟩)
   ·exact .inr (.inr ⟨h1.symm,.inr ⟨h2.symm,h4⟩⟩)
  ·rcases ordP.total _ _ h2 with h3|h3
   ·exact .inl (.inr ⟨h1,.inl h3⟩)
   ·exact .inr (.inr ⟨h1.symm,.inl h3⟩)
 ·rcases ordP.total _ _ h1 with h3|h3
  ·exact .inl (.inl h3)
  ·exact .inr (.inl h3)
theorem slP.lt {a b:Step} (h:slP a b) (hn : ¬(a.src=b.src∧a.dst=b.dst)):ltP a b:=by
 rw [q4c] at h;rcases h with h|⟨e,h|⟨e2,_⟩⟩
 ·exact .inl h
 ·exact .inr ⟨e,h⟩
 ·exact absurd ⟨e,e2⟩ hn
theorem ltP.sl {a b c:Step} (h:ltP a b) (h2:slP b c):ltP a c:=by
 rw [q4c] at h2;rcases h with h|⟨e,h⟩
 ·rcases h2 with h2|⟨e2,_⟩
  ·exact .inl (ordP.trans _ _ _ h h2)
  ·exact .inl (e2▸h)
 ·rcases h2 with h2|⟨e2,h2|⟨e3,_⟩⟩
  ·exact .inl (e▸h2)
  ·exact .inr ⟨e.trans e2,ordP.trans _ _ _ h h2⟩
  ·exact .inr ⟨e.trans e2,e3▸h⟩
structure InvO (P out:List Step):Prop where
 lt:out.Pairwise ltP
 sub : ∀ o∈out,o∈P
 all : ∀ s∈P,∃ o∈out,o.src=s.src∧o.dst=s.dst
 last:out.getLast? = P.getLast?
theorem InvO.nil:InvO [] []:=⟨.nil,fun _ h=>h,fun _ h=>(by cases h),rfl⟩
theorem InvO.same {P o:List Step} {z m:Step} (h:InvO P (o++[z])) (hm : ∀ p∈P,slP p m) (h1:z.src=m.src) (h2:z.dst=m.dst):InvO (P++[m]) (o++[m]):=by
 have hl:=h.lt;rw [pairwise_append] at hl;refine ⟨?_,fun x hx => ?_,fun s hs => ?_,by simp⟩
 ·rw [pairwise_append];refine ⟨hl.1,List.pairwise_singleton _ _,fun a ha b hb => ?_⟩;rw [List.mem_singleton.1 hb];have h3:=hl.2.2 a ha z (List.mem_singleton.2 rfl);unfold ltP at h3 ⊢;rw [<- h1,<- h2];exact h3
 ·rcases List.mem_append.1 hx with hx|hx
  ·exact List.mem_append.2 (.inl (h.sub x (List.mem_append.2 (.inl hx))))
  ·exact List.mem_append.2 (.inr hx)
 ·rcases List.mem_append.1 hs with hs|hs
  ·obtain ⟨x,hx,e1,e2⟩:=h.all s hs;rcases List.mem_append.1 hx with hx|hx
   ·exact ⟨x,List.mem_append.2 (.inl hx),e1,e2⟩
   ·rw [List.mem_singleton.1 hx] at e1 e2;exact ⟨m,List.mem_append.2 (.inr (List.mem_singleton.2 rfl)),h1▸e1,h2▸e2⟩
  ·rw [List.mem_singleton.1 hs];exact ⟨m,List.mem_append.2 (.inr (List.mem_singleton.2 rfl)),rfl,rfl⟩
theorem InvO.new {P out:List Step} {m:Step} (h:InvO P out) (hm : ∀ p∈P,slP p m) (hn : ∀ o z,out=o++[z] -> ¬(z.src=m.src∧z.dst=m.dst)):InvO (P++[m]) (out++[m]):=by
 refine ⟨?_,fun x hx => ?_,fun s hs => ?_,by simp⟩
 ·rw [pairwise_append];refine ⟨h.lt,List.pairwise_singleton _ _,fun a ha b hb => ?_⟩;rw [List.mem_singleton.1 hb];rcases List.eq_nil_or_concat out with rfl|⟨o,z,rfl⟩
  ·cases ha
  ·rw [List.concat_eq_append] at *
   have hz:ltP z m:=(hm z (h.sub z (List.mem_append.2 (.inr (List.mem_singleton.2 rfl))))).lt (hn o z rfl);rcases List.mem_append.1 ha with ha|ha
   ·have hl:=h.lt;rw [pairwise_append] at hl;exact (hl.2.2 a ha z (List.mem_singleton.2 rfl)).sl (hm z (h.sub z (List.mem_append.2 (.inr (List.mem_singleton.2 rfl)))))
   ·rw [List.mem_singleton.1 ha];exact hz
 ·rcases List.mem_append.1 hx with hx|hx
  ·exact List.mem_append.2 (.inl (h.sub x hx))
  ·exact List.mem_append.2 (.inr hx)
 ·rcases List.mem_append.1 hs with hs|hs
  ·obtain ⟨x,hx,e⟩:=h.all s hs;exact ⟨x,List.mem_append.2 (.inl hx),e⟩
  ·rw [List.mem_singleton.1 hs];exact ⟨m,List.mem_append.2 (.inr (List.mem_singleton.2 rfl)),rfl,rfl⟩
theorem InvO.none {P:List Step} (h:InvO P []):P=[]:=by
 have:=h.last;rw [List.getLast?_nil] at this;exact List.getLast?_eq_none_iff.1 this.symm
theorem InvO.left {l P o:List Step} {z:Step} {i:Nat} (h:InvO P (o++[z])) (hR:RiseI slP l P i) {s:Step} (hs:s∈l):s∉P↔slP z s:=by
 have hl:=h.last;rw [List.getLast?_append] at hl;simp only [List.getLast?_singleton,Option.some_or] at hl;obtain ⟨Q,rfl⟩:=List.getLast?_eq_some_iff.1 hl.symm;constructor
 ·exact fun hn=>hR.seg s hs hn z (List.mem_append.2 (.inr (List.mem_singleton.2 rfl)))
 ·intro hz hm;have hr:=hR.rise;rw [pairwise_append] at hr;rcases List.mem_append.1 hm with hm|hm
  ·exact slP.irr _ (slP.trans _ _ _ hz (hr.2.2 s hm z (List.mem_singleton.2 rfl)))
  ·rw [List.mem_singleton.1 hm] at hz;exact slP.irr _ hz
def x5z (a b:Int):List Step->Int->Int
 | [],k=>k
 | s::r,k=>x5z a b r (if s.src=a∧s.dst=b∧s.kind<k then s.kind else k)
def z6y (l:List Step) (o:Step):Step:=⟨o.src,o.dst,x5z o.src o.dst l o.kind⟩
theorem q9p (a b:Int) : ∀ (l:List Step) (k:Int),(x5z a b l k=k ∨ ∃ s∈l,s.src=a∧s.dst=b∧s.kind=x5z a b l k)∧x5z a b l k<=k ∧ ∀ s∈l,s.src=a->s.dst=b->x5z a b l k<=s.kind
 | [],k=>⟨.inl rfl,Int.le_refl _,fun _ h=>(by cases h)⟩
 | s::r,k=>by
   obtain ⟨h1,h2,h3⟩:=q9p a b r (if s.src=a∧s.dst=b∧s.kind<k then s.kind else k);rw [x5z];split at h1
   ·rename_i hc;rw [if_pos hc] at h2 h3 ⊢;refine ⟨?_,by omega,fun t ht e1 e2 => ?_⟩
    ·rcases h1 with h1|⟨t,ht,h4⟩
     ·exact .inr ⟨s,mem_cons_self,hc.1,hc.2.1,h1.symm⟩
     ·exact .inr ⟨t,mem_cons_of_mem _ ht,h4⟩
    ·rcases List.mem_cons.1 ht with rfl|ht
     ·exact h2
     ·exact h3 t ht e1 e2
   ·rename_i hc;rw [if_neg hc] at h2 h3 ⊢;refine ⟨?_,h2,fun t ht e1 e2 => ?_⟩
    ·rcases h1 with h1|⟨t,ht,h4⟩
     ·exact .inl h1
     ·exact .inr ⟨t,mem_cons_of_mem _ ht,h4⟩
    ·rcases List.mem_cons.1 ht with rfl|ht
     ·have : ¬t.kind<k:=fun h=>hc ⟨e1,e2,h⟩;omega
     ·exact h3 t ht e1 e2
theorem x7d {a b:Int} : ∀ {l:List Step} {k:Int} {j:Nat} (hj:j<l.length),x5z a b (l.take (j+1)) k=(if l[j].src=a∧l[j].dst=b∧l[j].kind<x5z a b (l.take j) k then l[j].kind else x5z a b (l.take j) k)
 | [],_,_,hj=>by simp at hj
 | s::r,k,0,_=>rfl
 | s::r,k,j+1,hj=>by
   rw [List.take_succ_cons,List.take_succ_cons,x5z,x5z];exact x7d (l:=r) (by simpa using hj)
theorem z3l {a b:Int} (ha:a<=9223372036854775806) (hb:b<=9223372036854775806):ordP a b↔ZW a<ZW b:=by
 rw [FR];unfold ZW;split<;>split<;>omega
theorem w5i {a b:Step} (ha:a.src<=9223372036854775806∧a.dst<=9223372036854775806) (hb:b.src<=9223372036854775806∧b.dst<=9223372036854775806) (h:ltP a b):q0c a b:=by
 unfold ltP at h;rw [z3l ha.1 hb.1,z3l ha.2 hb.2] at h;unfold q0c;rcases h with h|⟨e,h⟩
 ·exact .inl h
 ·exact .inr ⟨by rw [e],h⟩
def leSt (s:Step):Prop:=s.src<=9223372036854775806∧s.dst<=9223372036854775806
theorem leSt.ok {s:Step} (h:leSt s):okSt s:=by
 unfold leSt at h;unfold okSt;omega
theorem z6f {l P out:List Step} {i:Nat} (hle : ∀ s∈l,leSt s) (hR:RiseI slP l P i) (hall : ∀ s∈l,s∈P) (h:InvO P out):out.map (z6y l)=ZL l:=by
 refine (q6i (fun s hs=>(hle s hs).ok) ?_ ?_ ?_).symm
 ·rw [List.pairwise_map];refine h.lt.imp_of_mem fun {a b} ha hb hab => ?_;have h1:=hle a (hR.sub a (h.sub a ha));have h2:=hle b (hR.sub b (h.sub b hb));exact w5i h1 h2 hab
 ·intro s hs;obtain ⟨o,ho,rfl⟩:=List.mem_map.1 hs;have hol:=hR.sub o (h.sub o ho);rcases (q9p o.src o.dst l o.kind).1 with h1|⟨t,ht,e1,e2,e3⟩
  ·have:z6y l o=o:=by unfold z6y;rw [h1]
   rw [this];exact hol
  ·have:z6y l o=t:=YQ e1.symm e2.symm e3.symm;rw [this];exact ht
 ·intro s hs;obtain ⟨o,ho,e1,e2⟩:=h.all s (hall s hs);exact ⟨z6y l o,List.mem_map.2 ⟨o,ho,rfl⟩,e1,e2,(q9p o.src o.dst l o.kind).2.2 s hs e1.symm e2.symm⟩
def Chunk.short (m:Nat):Chunk->Chunk
 | .own e sz es => .own e sz (es.take m)
 | c=>c
def q5n (k m:Nat):Heap->Heap
 | []=>[]
 | (j,c)::r=>(j,bif j==k then c.short m else c)::q5n k m r
theorem q8h (k m:Nat) : ∀ H:Heap,(q5n k m H).map (·.1)=H.map (·.1)
 | []=>rfl
 | (j,c)::r=>by rw [q5n,map_cons,map_cons,q8h k m r]
theorem x3u {k m:Nat} : ∀ {H:Heap} {j:Nat} {c':Chunk},(j,c')∈q5n k m H -> ∃ c,(j,c)∈H∧(c'=c∨c'=c.short m)
 | [],_,_,h=>by rw [q5n] at h;cases h
 | (j0,c0)::r,j,c',h=>by
   rw [q5n] at h;rcases List.mem_cons.1 h with h|h
   ·cases h;refine ⟨c0,mem_cons_self,?_⟩;cases j0==k
    ·exact .inl rfl
    ·exact .inr rfl
   ·obtain ⟨c,h1,h2⟩:=x3u h;exact ⟨c,mem_cons_of_mem _ h1,h2⟩
theorem Le.short {N:Nat} {sl:List (Nat×LV)} {H:Heap} (k m:Nat):Le N ⟨sl,H⟩ ⟨sl,q5n k m H⟩:=fun σ β a w hr=>by
 have hk:=q8h k m H;refine ⟨σ,β,⟨hr.size,hr.defers,hr.slots,⟨hr.heap.mem,fun j c' hj => ?_,by show ((q5n k m H).map (·.1)).Nodup;rw [hk];exact hr.heap.nodup,fun j hj=>hr.heap.apart j (by rw [<- hk];exact hj),fun j hj j' hj'=>hr.heap.inj j (by rw [<- hk];exact hj) j' (by rw [<- hk];exact hj')⟩⟩,Mem.le_refl σ,Frm.refl _ _,fun _ h h'=>absurd h h',fun b ⟨j,hj,i,hi,hb⟩ => .inl ⟨j,by rw [<- hk];exact hj,i,hi,hb⟩,fun _ _ _=>rfl⟩;obtain ⟨c,h1,h2⟩:=x3u hj;have hc:=hr.heap.chunks j c h1;rcases h2 with rfl|rfl
 ·exact hc
 ·cases c with
  | own e sz es =>
    show (Chunk.own e sz (es.take m)).holds σ β w j;rcases hc with ⟨h3,h4⟩|⟨i,vs,h3,h4,h5,h6,h7,h8,h9⟩
    ·exact .inl ⟨h3,by rw [h4];simp⟩
    ·refine .inr ⟨i,vs,h3,h4,h5,h6,by rw [length_take];omega,h8,fun q x hx=>h9 q x ?_⟩;rw [List.getElem?_take] at hx;split at hx
     ·exact hx
     ·cases hx
  | obj e cs=>exact hc
  | ext d=>exact hc
theorem ZX (a b:Step):SpecP Tryz.prog 286 [.agg a.cells,.agg b.cells] (fun r=>r = .bool (slB a b)):=by
 refine sB HU Tryz.func286 rfl Tryz.call286 ?_;conv=>whnf
 repeat' (first|(refine cP (JT _ _) ?_;conv=>whnf)|(apply bE<;>intro _<;>first|omega|conv=>whnf))
 all_goals exact RetK.bool (by unfold slB;simp [*])
theorem DY (l:List Step):(l.map fun s=>AV.agg s.cells).length=l.length:=length_map _
theorem KQ (l out:List Step) (hl:l.length<=1000000) (ho:out.length<=1000000):SpecH Tryz.prog 287 [.p (QO l),.hd 2000 0 out.length] [(2000,.own 156 3 (out.map fun s => .agg s.cells))] (fun r H=>r = .hd 2000 0 out.length∧H=[(2000,.own 156 3 ((out.map (z6y l)).map fun s => .agg s.cells))]):=by
 refine sH BR Tryz.func287 rfl Tryz.call287 ?_;conv=>whnf
 have hll:=DY l;repeat' (refine iM fun _=>?_;conv=>whnf)
 refine LoopK.inv QX (fun i:Nat=>⟨[(0,.p (QO l)),(1,.hd 2000 0 out.length),(9,.p (.int .i64 out.length)),(10,.p (.int .i64 i))],[(2000,.own 156 3 (((out.take i).map (z6y l)++out.drop i).map fun s => .agg s.cells))]⟩) (fun i=>i<=out.length) (fun i=>out.length-i) 0 (Le.of_eq rfl) (zero_le _) ?_;intro i hi;rcases Nat.lt_or_ge i out.length with hi2|hi2
 ·have hT:((out.take i).map (z6y l)).length=i:=by rw [length_map,length_take];omega
  have hD:out.drop i=out[i]::out.drop (i+1):=drop_eq_getElem_cons hi2;have hT2:(out.take (i+1)).map (z6y l)=(out.take i).map (z6y l)++[z6y l out[i]]:=by rw [List.take_succ_eq_append_getElem hi2,List.map_append];rfl
  have hDl:i+(out.drop (i+1)).length+1=out.length:=by rw [List.length_drop];omega
  have hf0:z6y l out[i]=⟨out[i].src,out[i].dst,x5z out[i].src out[i].dst (l.take l.length) out[i].kind⟩:=by rw [List.take_length];rfl
  rw [hf0] at hT2;rw [hD];generalize hDe:out.drop (i+1)=D at *
  generalize (out.take i).map (z6y l)=Tk at *
  generalize out[i]=o at *
  conv=>whnf
  repeat' (first|(refine iM fun _=>?_;conv=>whnf)|(apply bD<;>intro _<;>first|omega|conv=>whnf))
  refine LoopK.inv QX (fun j:Nat=>⟨[(0,.p (QO l)),(1,.hd 2000 0 out.length),(5,.p (.int .i64 i)),(9,.p (.int .i64 out.length)),(10,.p (.int .i64 i)),(13,.p (QO l)),(14,.p (.int .i64 (l.map fun s=>AV.agg s.cells).length)),(15,.p (.int .i64 j))],[(2000,.own 156 3 ((Tk++(⟨o.src,o.dst,x5z o.src o.dst (l.take j) o.kind⟩:Step)::D).map fun s => .agg s.cells))]⟩) (fun j=>j<=l.length) (fun j=>l.length-j) 0 (Le.of_eq rfl) (zero_le _) ?_;intro j hj;rcases Nat.lt_or_ge j l.length with hj2|hj2
  ·have hst:=x7d (a:=o.src) (b:=o.dst) (k:=o.kind) hj2;have g:((Tk++(⟨o.src,o.dst,x5z o.src o.dst (l.take j) o.kind⟩:Step)::D).map fun s=>AV.agg s.cells)[i]? = some (.agg (⟨o.src,o.dst,x5z o.src o.dst (l.take j) o.kind⟩:Step).cells):=by
    rw [List.getElem?_map,List.getElem?_append_right (by omega),hT,Nat.sub_self];rfl
   have hset : ∀ k:Int,((Tk++(⟨o.src,o.dst,x5z o.src o.dst (l.take j) o.kind⟩:Step)::D).map fun s=>AV.agg s.cells).set i (.agg (⟨o.src,o.dst,k⟩:Step).cells)=(Tk++(⟨o.src,o.dst,k⟩:Step)::D).map fun s => .agg s.cells:=fun k=>by
    rw [List.map_append,List.map_append,map_cons,map_cons,List.set_append_right _ _ (by rw [length_map,hT];exact Nat.le_refl _),length_map,hT,Nat.sub_self];rfl
   have hlen:(Tk++(⟨o.src,o.dst,x5z o.src o.dst (l.take j) o.kind⟩:Step)::D).length=out.length:=by rw [length_append,List.length_cons,hT];omega
   have hset2:=hset l[j].kind;generalize x5z o.src o.dst (l.take j) o.kind=fk at *
   generalize hrow:(Tk++(⟨o.src,o.dst,fk⟩:Step)::D).map (fun s=>AV.agg s.cells)=row at *
   conv=>whnf
   repeat' (first|((first|refine dA ?_|refine And.intro rfl ?_|(refine iA fun _=>?_)|refine wI ?_|refine IdxL.mk i rfl (by omega) ?_|refine LdOwn.mk i 0 _ (by show (0+i)*3+0=i*3+0;omega) g ?_|refine LdOwn.mk i 1 _ (by show (0+i)*3+1=i*3+1;omega) g ?_|refine LdOwn.mk i 2 _ (by show (0+i)*3+2=i*3+2;omega) g ?_);conv=>whnf)|(apply bD<;>intro _<;>first|omega|conv=>whnf))
   all_goals first
    | exact ⟨j+1,by omega,by omega,Le.of_eq (by rw [hst,if_neg (fun hh=>by first|exact absurd hh.1 (by assumption)|exact absurd hh.2.1 (by assumption)|exact absurd hh.2.2 (by assumption)),<- hrow];rfl)⟩
    | (refine StOwn.mk i 2 _ (.agg [.int .i64 o.src,.int .i64 o.dst,.int .i64 l[j].kind]) ?_ g ?_ ?_ ?_
       ·show (0+i)*3+2=i*3+2;omega
       ·show 2+1<=3;decide
       ·rfl
       conv=>whnf
       refine wI ?_;conv=>whnf
       exact ⟨j+1,by omega,by omega,Le.of_eq (by rw [hst,if_pos ⟨by assumption,by assumption,by assumption⟩,<- hset2];rfl)⟩)
    | (refine ⟨j+1,by omega,by omega,Le.of_eq ?_⟩;rw [hst,if_neg (fun hh=>by first|exact absurd hh.1 (by assumption)|exact absurd hh.2.1 (by assumption)|exact absurd hh.2.2 (by assumption)),<- hrow];rfl)
  ·have hje:j=l.length:=by omega
   subst hje;conv=>whnf
   repeat' (first|(refine wI ?_;conv=>whnf)|(apply bD<;>intro _<;>first|omega|conv=>whnf))
   exact ⟨i+1,by omega,by omega,Le.of_eq (by rw [hT2,hDe,List.append_assoc];rfl)⟩
 ·rw [take_of_length_le hi2,drop_eq_nil_of_le hi2,append_nil];conv=>whnf
  repeat' (apply bD<;>intro _<;>first|omega|conv=>whnf)
  exact ⟨_,.refl _,rfl,rfl⟩
def st0:Step:=⟨0,0,0⟩
def z8a (l out:List Step) (i k:Nat) (m:Step) (y:AV):St:=⟨[(0,.p (QO l)),(3,.hd 0 0 out.length),(4,.ptr 1 0),(5,.p y),(10,.p (.int .i64 (l.map fun s=>AV.agg s.cells).length)),(11,.p (.int .i64 i)),(13,.p (QO l)),(14,.p (.int .i64 (l.map fun s=>AV.agg s.cells).length)),(15,.p (.int .i64 k))],[(0,.own 156 3 (out.map fun s => .agg s.cells)),(1,.obj 156 [.p (.int .i64 m.src),.p (.int .i64 m.dst),.p (.int .i64 m.kind)])]⟩
theorem KG (l:List Step) (hl:l.length<=1000000) (hle : ∀ s∈l,leSt s):SpecP Tryz.prog 187 [QO l] (fun r=>r=QO (ZL l)):=by
 refine sB PE Tryz.func187 rfl Tryz.call187 ?_;conv=>whnf
 refine iM fun _=>?_;have hll:=DY l;have fin : ∀ (i:Nat) (P out:List Step),RiseI slP l P i->(∀ s∈l,s∈P)->InvO P out->out.map (z6y l)=ZL l:=fun i P out h1 h2 h3=>z6f hle h1 h2 h3;conv=>whnf
 refine LoopK.inv QX (fun x:Nat×List Step×List Step=>⟨[(0,.p (QO l)),(3,.hd 0 0 x.2.2.length),(10,.p (.int .i64 (l.map fun s=>AV.agg s.cells).length)),(11,.p (.int .i64 x.1))],[(0,.own 156 3 (x.2.2.map fun s => .agg s.cells))]⟩) (fun x=>x.1<=l.length∧RiseI slP l x.2.1 x.1∧InvO x.2.1 x.2.2) (fun x=>l.length-x.1) (0,[],[])
  (Le.mk [(0,.own 156 3 [])] (by simp [Chunk.new0];rfl) (by simp) (by simp) (.cons (.refl _) (.cons (.nil mem_cons_self) (.cons (.refl _) (.cons (.refl _) .nil)))) (.new mem_cons_self .nil)) ⟨zero_le _,RiseI.zero,InvO.nil⟩ ?_
 rintro ⟨i,P,out⟩ ⟨h2,h3,h4⟩;simp only at h2 h3 h4 ⊢;have hPl:=h3.len slP.irr;have hol:out.length<=P.length:=ZE (h4.lt.imp fun {a b} h e=>by subst e;exact h.elim (ordP.irr _) fun h=>ordP.irr _ h.2) h4.sub;have hoa:=DY out;rcases Nat.lt_or_ge i l.length with hi|hi;rotate_left 1
 ·have hF:=fin i P out h3 (fun s hs=>(h3.all slP.irr (by omega)).2 s |>.2 hs) h4;have hS:=KQ l out hl (by omega);rw [hF] at hS;conv=>whnf
  repeat' (first|(apply bD<;>intro _<;>first|omega|conv=>whnf)|(refine CallK.heap [(2000,0)] 0 (by repeat' (first|exact ArgsH.nil|refine ArgsH.cons ?_ ?_|exact LSub.refl _|exact LSub.p Sub.nils|exact LSub.p (Sub.tt rfl)|exact LSub.p (Sub.ff rfl)|exact LSub.p (Sub.int (by omega)))) (by refine BlksH.cons (j:=0) rfl rfl ?_ ?_;exact CSub.refl _;exact BlksH.nil) hS rfl rfl ?_;rintro l' H' ⟨rfl,rfl⟩;conv=>whnf))
  exact ⟨_,.hd rfl (by rw [<- hF];simp),rfl⟩
 conv=>whnf
 repeat' (first|(refine iM fun _=>?_;conv=>whnf)|(apply bD<;>intro _<;>first|omega|conv=>whnf))
 refine LoopK.inv QX (fun x:Nat×Option Step=>z8a l out i x.1 (x.2.getD st0) (.bool x.2.isSome)) (fun x=>x.1<=l.length∧LeastI slP l P x.1 x.2) (fun x=>l.length-x.1) (0,none) (Le.mk [] (by simp) (by simp) (by simp [z8a]) (.cons (.refl _) (.cons (.refl _) (.cons (.refl _) (.cons (.p (Sub.ff rfl)) (.cons (.refl _) (.cons (.refl _) (.cons (.refl _) (.cons (.refl _) (.cons (.refl _) .nil))))))))) (.cons rfl (.refl _) (.cons rfl (.refl _) .nil))) ⟨zero_le _,LeastI.zero⟩ ?_;rintro ⟨k,o⟩ ⟨h5,h6⟩;simp only at h5 h6 ⊢;rcases Nat.lt_or_ge k l.length with hk|hk
 ·rcases List.eq_nil_or_concat out with rfl|⟨o',z,rfl⟩
  ·have hP:=h4.none;subst hP;have hnot:True->l[k]∉([]:List Step):=fun _ h=>by cases h
   have hmem:False->l[k]∈([]:List Step):=fun h=>h.elim;cases o with
   | none =>
     simp only [z8a,Option.getD_none,Option.isSome_none];conv=>whnf
     repeat' (first|((first|(refine iM fun _=>?_)|refine dA ?_|refine And.intro rfl ?_|(refine iA fun _=>?_)|refine wI ?_);conv=>whnf)|(apply bD<;>intro _<;>first|omega|conv=>whnf)|(apply bN<;>intro _<;>conv=>whnf))
     all_goals first
      | (exfalso;simp_all;done)
      | exact ⟨(k+1,none),⟨by simp only;omega,h6.old hk (hmem (by assumption))⟩,by simp only;omega,Le.of_eq rfl⟩
      | exact ⟨(k+1,some l[k]),⟨by simp only;omega,h6.first hk (hnot trivial)⟩,by simp only;omega,(Le.mk [] (by simp) (by simp) (by simp [z8a]) (.cons (.refl _) (.cons (.refl _) (.cons (.refl _) (.cons (.p (Sub.tt rfl)) (.cons (.refl _) (.cons (.refl _) (.cons (.refl _) (.cons (.refl _) (.cons (.refl _) .nil))))))))) (.cons rfl (.refl _) (.cons rfl (.refl _) .nil)))⟩
      | trace_state
   | some m =>
     simp only [z8a,Option.getD_some,Option.isSome_some];have hS2:=ZX l[k] m;conv=>whnf
     repeat' (first|((first|(refine iM fun _=>?_)|refine dA ?_|refine And.intro rfl ?_|(refine iA fun _=>?_)|refine wI ?_|refine cP hS2 ?_);conv=>whnf)|(apply bD<;>intro _<;>first|omega|conv=>whnf)|(apply bN<;>intro _<;>conv=>whnf)|(apply bB<;>intro _<;>conv=>whnf))
     all_goals first
      | (exfalso;simp_all;done)
      | exact ⟨(k+1,some m),⟨by simp only;omega,h6.old hk (hmem (by assumption))⟩,by simp only;omega,Le.of_eq rfl⟩
      | exact ⟨(k+1,some l[k]),⟨by simp only;omega,h6.less slP.trans hk (hnot trivial) (show slB l[k] m=true by assumption)⟩,by simp only;omega,(Le.mk [] (by simp) (by simp) (by simp [z8a]) (.cons (.refl _) (.cons (.refl _) (.cons (.refl _) (.cons (.p (Sub.tt rfl)) (.cons (.refl _) (.cons (.refl _) (.cons (.refl _) (.cons (.refl _) (.cons (.refl _) .nil))))))))) (.cons rfl (.refl _) (.cons rfl (.refl _) .nil)))⟩
      | (have hb:slB l[k] m=false:=by assumption
         exact ⟨(k+1,some m),⟨by simp only;omega,h6.more slP.total hk (fun h=>by unfold slP at h;rw [hb] at h;cases h)⟩,by simp only;omega,Le.of_eq rfl⟩)
      | trace_state
  ·rw [List.concat_eq_append] at *
   have hleft:=h4.left h3 (List.getElem_mem hk);have hnot:slB z l[k]=true->l[k]∉P:=fun h=>hleft.2 h;have hmem:slB z l[k]=false->l[k]∈P:=fun h=>Classical.byContradiction fun hn=>by
    have:=hleft.1 hn;unfold slP at this;rw [h] at this;cases this
   have g:((o'++[z]).map fun s=>AV.agg s.cells)[o'.length]? = some (.agg z.cells):=by simp
   cases o with
   | none =>
     simp only [z8a,Option.getD_none,Option.isSome_none];conv=>whnf
     repeat' (first|((first|(refine iM fun _=>?_)|refine dA ?_|refine And.intro rfl ?_|(refine iA fun _=>?_)|refine wI ?_|refine IdxL.mk o'.length (by simp) (by simp) ?_|refine LdOwn.mk o'.length 0 _ (by show (0+o'.length)*3+0=o'.length*3+0;omega) g ?_|refine cP (ZX z l[k]) ?_);conv=>whnf)|(apply bD<;>intro _<;>first|omega|conv=>whnf)|(apply bN<;>intro _<;>conv=>whnf))
     all_goals first
      | (exfalso;simp_all;done)
      | exact ⟨(k+1,none),⟨by simp only;omega,h6.old hk (hmem (by assumption))⟩,by simp only;omega,Le.of_eq rfl⟩
      | exact ⟨(k+1,some l[k]),⟨by simp only;omega,h6.first hk (hnot (by assumption))⟩,by simp only;omega,(Le.mk [] (by simp) (by simp) (by simp [z8a]) (.cons (.refl _) (.cons (.refl _) (.cons (.refl _) (.cons (.p (Sub.tt rfl)) (.cons (.refl _) (.cons (.refl _) (.cons (.refl _) (.cons (.refl _) (.cons (.refl _) .nil))))))))) (.cons rfl (.refl _) (.cons rfl (.refl _) .nil)))⟩
      | trace_state
   | some m =>
     simp only [z8a,Option.getD_some,Option.isSome_some];have hS2:=ZX l[k] m;conv=>whnf
     repeat' (first|((first|(refine iM fun _=>?_)|refine dA ?_|refine And.intro rfl ?_|(refine iA fun _=>?_)|refine wI ?_|refine IdxL.mk o'.length (by simp) (by simp) ?_|refine LdOwn.mk o'.length 0 _ (by show (0+o'.length)*3+0=o'.length*3+0;omega) g ?_|refine cP (ZX z l[k]) ?_|refine cP hS2 ?_);conv=>whnf)|(apply bD<;>intro _<;>first|omega|conv=>whnf)|(apply bN<;>intro _<;>conv=>whnf)|(apply bB<;>intro _<;>conv=>whnf))
     all_goals first
      | (exfalso;simp_all;done)
      | exact ⟨(k+1,some m),⟨by simp only;omega,h6.old hk (hmem (by assumption))⟩,by simp only;omega,Le.of_eq rfl⟩
      | exact ⟨(k+1,some l[k]),⟨by simp only;omega,h6.less slP.trans hk (hnot (by assumption)) (show slB l[k] m=true by assumption)⟩,by simp only;omega,(Le.mk [] (by simp) (by simp) (by simp [z8a]) (.cons (.refl _) (.cons (.refl _) (.cons (.refl _) (.cons (.p (Sub.tt rfl)) (.cons (.refl _) (.cons (.refl _) (.cons (.refl _) (.cons (.refl _) (.cons (.refl _) .nil))))))))) (.cons rfl (.refl _) (.cons rfl (.refl _) .nil)))⟩
      | (have hb:slB l[k] m=false:=by assumption
         exact ⟨(k+1,some m),⟨by simp only;omega,h6.more slP.total hk (fun h=>by unfold slP at h;rw [hb] at h;cases h)⟩,by simp only;omega,Le.of_eq rfl⟩)
      | trace_state
 ·obtain rfl:k=l.length:=by omega
  cases o with
  | none =>
    have hF:=fin i P out h3 (by have:=h6;rw [LeastI,List.take_length] at this;exact this) h4;have hS:=KQ l out hl (by omega);rw [hF] at hS;simp only [z8a,Option.getD_none,Option.isSome_none];conv=>whnf
    repeat' (first|((first|(refine iM fun _=>?_)|refine dA ?_|refine And.intro rfl ?_|refine aD ?_|refine bP ?_|refine wI ?_);conv=>whnf)|(apply bD<;>intro _<;>first|omega|conv=>whnf)|(apply bN<;>intro _<;>conv=>whnf)|(refine CallK.heap [(2000,0)] 0 (by repeat' (first|exact ArgsH.nil|refine ArgsH.cons ?_ ?_|exact LSub.refl _|exact LSub.p Sub.nils|exact LSub.p (Sub.tt rfl)|exact LSub.p (Sub.ff rfl)|exact LSub.p (Sub.int (by omega)))) (by refine BlksH.cons (j:=0) rfl rfl ?_ ?_;exact CSub.refl _;exact BlksH.nil) hS rfl rfl ?_;rintro l' H' ⟨rfl,rfl⟩;conv=>whnf))
    all_goals first
     | (exfalso;simp_all;done)
     | exact ⟨_,.hd rfl (by rw [<- hF];simp),rfl⟩
     | trace_state
  | some m =>
    have hm : ∀ p∈P,slP p m:=fun p hp=>h3.seg m h6.1 h6.2.1 p hp;have hR:=h3.snoc h6;simp only [z8a,Option.getD_some,Option.isSome_some];rcases List.eq_nil_or_concat out with rfl|⟨o',z,rfl⟩
    ·have hI:=h4.new hm (fun o z h=>by simp at h);conv=>whnf
     repeat' (first|((first|(refine iM fun _=>?_)|refine dA ?_|refine And.intro rfl ?_|refine aD ?_|refine bP ?_|refine wI ?_|refine AppK.mk (by simp) rfl (by show (0+1)*24<=140737488355328;decide) (by show 0+1<=9223372036854775807;decide) (fun x hx=>by rcases List.mem_singleton.1 hx with rfl;exact ⟨rfl,rfl⟩) ?_);conv=>whnf)|(apply bD<;>intro _<;>first|omega|conv=>whnf)|(apply bN<;>intro _<;>conv=>whnf))
     all_goals first
      | (exfalso;simp_all;done)
      | exact ⟨(i+1,P++[m],[m]),⟨by simp only;omega,hR,hI⟩,by simp only;omega,Le.of_eq rfl⟩
      | trace_state
    ·rw [List.concat_eq_append] at *
     have g:((o'++[z]).map fun s=>AV.agg s.cells)[o'.length]? = some (.agg z.cells):=by simp
     have hdl:((o'++[z]).map fun s=>AV.agg s.cells).take o'.length=o'.map fun s=>AV.agg s.cells:=by rw [List.map_append,List.take_append_of_le_length (by simp),take_of_length_le (by simp)]
     have hlz:(o'++[z]).length=o'.length+1:=by simp
     have hma:(o'++[m]).map (fun s=>AV.agg s.cells)=(o'.map fun s=>AV.agg s.cells)++[.agg m.cells]:=by simp
     have hmb:((o'++[z])++[m]).map (fun s=>AV.agg s.cells)=((o'++[z]).map fun s=>AV.agg s.cells)++[.agg m.cells]:=by simp
     have hsame:=fun h1 h2=>h4.same hm (z:=z) h1 h2;have hnew:=fun hn : ¬(z.src=m.src∧z.dst=m.dst)=>h4.new hm (fun o y h=>by
      have:=List.append_inj_right' h rfl;have hy:z=y:=by simpa using this
      exact hy▸hn)
     conv=>whnf
     repeat' (first|((first|(refine iM fun _=>?_)|refine And.intro rfl ?_|refine aD ?_|refine bP ?_|refine wI ?_|refine DrawK.le (id:=16) (Le.short 0 o'.length) (x3g QX mixed (by kernel_rfl) ?_)|refine dA ?_|refine IdxL.mk o'.length (by simp) (by simp) ?_|refine LdOwn.mk o'.length 0 _ (by show (0+o'.length)*3+0=o'.length*3+0;omega) g ?_|refine LdOwn.mk o'.length 1 _ (by show (0+o'.length)*3+1=o'.length*3+1;omega) g ?_|refine SlK.mk 0 o'.length rfl (by simp) (by omega) (by simp) ?_|refine AppK.mk (n:=o'.length-0) (by simp) rfl (by show (o'.length-0+1)*24<=140737488355328;omega) (by show o'.length-0+1<=9223372036854775807;omega) (fun x hx=>by rcases List.mem_singleton.1 hx with rfl;exact ⟨rfl,rfl⟩) ?_|refine AppK.mk (n:=(o'++[z]).length) (by simp) rfl (by simp only [hlz];show (o'.length+1+1)*24<=140737488355328;omega) (by simp only [hlz];show o'.length+1+1<=9223372036854775807;omega) (fun x hx=>by rcases List.mem_singleton.1 hx with rfl;exact ⟨rfl,rfl⟩) ?_);conv=>whnf)|(apply bD<;>intro _<;>first|omega|conv=>whnf)|(apply bN<;>intro _<;>conv=>whnf))
     all_goals first
      | contradiction
      | (refine ⟨(i+1,P++[m],o'++[m]),⟨by simp only;omega,hR,hsame (by assumption) (by assumption)⟩,by simp only;omega,Le.of_eq ?_⟩
         rw [hma,<- hdl,length_append];rfl)
      | (refine ⟨(i+1,P++[m],(o'++[z])++[m]),⟨by simp only;omega,hR,hnew (fun hh=>by first|exact absurd hh.1 (by assumption)|exact absurd hh.2 (by assumption))⟩,by simp only;omega,Le.of_eq ?_⟩
         rw [hmb,show ((o'++[z])++[m]).length=(o'++[z]).length+1 by simp];rfl)
      | trace_state
end Go.Ab
