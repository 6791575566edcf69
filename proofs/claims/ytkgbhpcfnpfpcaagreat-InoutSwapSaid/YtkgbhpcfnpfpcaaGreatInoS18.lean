/- The reference's programs that may be: just those that the program's own reading lets stand. -/
import Derived.Test.YtkgbhpcfnpfpcaaGreatInoS5
import Derived.Test.YtkgbhpcfnpfpcaaGreatInoS14
import Derived.Test.YtkgbhpcfnpfpcaaGreatInoS15
import Derived.Test.YtkgbhpcfnpfpcaaGreatInoS16
import Derived.Test.YtkgbhpcfnpfpcaaGreatInoS17
set_option linter.unusedSimpArgs false
set_option linter.unusedVariables false
set_option maxRecDepth 100000
set_option maxHeartbeats 16000000
open List (getD_eq_getElem?_getD length length_append length_cons length_map length_take map_cons mem_cons_of_mem mem_cons_self sum_cons take_of_length_le)
open Nat (zero_le)
namespace Go.Ab
open Go.Proofs
theorem z1h (l:List Str) (hl:l.length<=1000000000):SpecH Tryz.prog 87 ([eStrs l].map .p) [] (OneRow (q6m (XA l)) False):=by
 refine sH FZ Tryz.func87 rfl Tryz.call87 ?_;conv=>whnf
 refine iM fun _=>?_;have hll:(l.map AV.str).length=l.length:=length_map _;conv=>whnf
 refine LoopK.inv QJ (fun x:Nat×List Str=>⟨[(0,.p (eStrs l)),(3,.hd 0 0 x.2.length),(9,.p (.int .i64 (l.map AV.str).length)),(10,.p (.int .i64 x.1))],[(0,.own 9 1 (x.2.map .str))]⟩) (fun x=>x.1<=l.length∧RiseI ltT l x.2 x.1) (fun x=>l.length-x.1) (0,[])
  (Le.mk [(0,.own 9 1 [])] (by simp [Chunk.new0];rfl) (by simp) (by simp) (.cons (.refl _) (.cons (.nil mem_cons_self) (.cons (.refl _) (.cons (.refl _) .nil)))) (.new mem_cons_self .nil)) ⟨zero_le _,RiseI.zero⟩ ?_
 rintro ⟨i,out⟩ ⟨h2,h3⟩;simp only at h2 h3 ⊢;have hol:=h3.len FM;rcases Nat.lt_or_ge i l.length with hi|hi
 ·conv=>whnf
  repeat' (first|(refine iM fun _=>?_;conv=>whnf)|(apply bD<;>intro _<;>first|omega|conv=>whnf))
  refine LoopK.inv QJ (fun x:Nat×Option Str=>⟨[(0,.p (eStrs l)),(3,.hd 0 0 out.length),(4,.p (.str (x.2.getD []))),(5,.p (.bool x.2.isSome)),(9,.p (.int .i64 (l.map AV.str).length)),(10,.p (.int .i64 i)),(12,.p (eStrs l)),(13,.p (.int .i64 (l.map AV.str).length)),(14,.p (.int .i64 x.1))],[(0,.own 9 1 (out.map .str))]⟩) (fun x=>x.1<=l.length∧LeastI ltT l out x.1 x.2) (fun x=>l.length-x.1) (0,none) (Le.mk [] (by simp) (by simp) (by simp) (.cons (.refl _) (.cons (.refl _) (.cons (.refl _) (.cons (.p (Sub.ff rfl)) (.cons (.refl _) (.cons (.refl _) (.cons (.refl _) (.cons (.refl _) (.cons (.refl _) .nil))))))))) (.cons rfl (.refl _) .nil)) ⟨zero_le _,LeastI.zero⟩ ?_;rintro ⟨k,o⟩ ⟨h4,h5⟩;simp only at h4 h5 ⊢;rcases Nat.lt_or_ge k l.length with hk|hk
  ·have hin:inS out l[k]=true->l[k]∈out:=YG.1;have hno:inS out l[k]=false->l[k]∉out:=fun h hm=>by rw [YG.2 hm] at h;cases h
   cases o with
   | none =>
     simp only [Option.getD_none,Option.isSome_none];conv=>whnf
     repeat' (first|((first|(refine iA fun _=>?_)|refine wI ?_|(refine QI (FQ out (l[k]'hk)) (.cons (.hd rfl (by simp)) (.cons (.p (Sub.refl _)) .nil)) (by rintro _ rfl;rfl) ?_;rintro _ rfl));conv=>whnf)|(apply bD<;>intro _<;>first|omega|conv=>whnf)|(apply bN<;>intro _<;>conv=>whnf)|(apply bB<;>intro _<;>conv=>whnf))
     all_goals first
      | (exfalso;simp_all;done)
      | exact ⟨(k+1,none),⟨by simp only;omega,h5.old hk (hin (by assumption))⟩,by simp only;omega,Le.of_eq rfl⟩
      | exact ⟨(k+1,some l[k]),⟨by simp only;omega,h5.first hk (hno (by assumption))⟩,by simp only;omega,(Le.mk [] (by simp) (by simp) (by simp) (.cons (.refl _) (.cons (.refl _) (.cons (.refl _) (.cons (.p (Sub.tt rfl)) (.cons (.refl _) (.cons (.refl _) (.cons (.refl _) (.cons (.refl _) (.cons (.refl _) .nil))))))))) (.cons rfl (.refl _) .nil))⟩
   | some m =>
     simp only [Option.getD_some,Option.isSome_some];conv=>whnf
     repeat' (first|((first|(refine iA fun _=>?_)|refine wI ?_|(refine QI (FQ out (l[k]'hk)) (.cons (.hd rfl (by simp)) (.cons (.p (Sub.refl _)) .nil)) (by rintro _ rfl;rfl) ?_;rintro _ rfl));conv=>whnf)|(apply bD<;>intro _<;>first|omega|conv=>whnf)|(apply bN<;>intro _<;>conv=>whnf)|(apply bB<;>intro _<;>conv=>whnf))
     all_goals first
      | (exfalso;simp_all;done)
      | exact ⟨(k+1,some m),⟨by simp only;omega,h5.old hk (hin (by assumption))⟩,by simp only;omega,Le.of_eq rfl⟩
      | exact ⟨(k+1,some l[k]),⟨by simp only;omega,h5.less ltT.trans hk (hno (by assumption)) (by assumption)⟩,by simp only;omega,(Le.mk [] (by simp) (by simp) (by simp) (.cons (.refl _) (.cons (.refl _) (.cons (.refl _) (.cons (.p (Sub.tt rfl)) (.cons (.refl _) (.cons (.refl _) (.cons (.refl _) (.cons (.refl _) (.cons (.refl _) .nil))))))))) (.cons rfl (.refl _) .nil))⟩
      | (have hb:Op.bytesLess l[k] m=false:=by assumption
         exact ⟨(k+1,some m),⟨by simp only;omega,h5.more (fun _ _=>z8x) hk (fun h=>by unfold ltT at h;rw [hb] at h;cases h)⟩,by simp only;omega,Le.of_eq rfl⟩)
  ·obtain rfl:k=l.length:=by omega
   cases o with
   | none =>
     simp only [Option.getD_none,Option.isSome_none];conv=>whnf
     repeat' (first|((first|refine And.intro rfl ?_|refine aD ?_|refine bP ?_|refine wI ?_);conv=>whnf)|(apply bD<;>intro _<;>first|omega|conv=>whnf)|(apply bB<;>intro _<;>conv=>whnf))
     all_goals first
      | (exfalso;simp_all;done)
      | exact ⟨(i+1,out),⟨by simp only;omega,h3.stay h5⟩,by simp only;omega,Le.of_eq rfl⟩
   | some m =>
     simp only [Option.getD_some,Option.isSome_some];conv=>whnf
     repeat' (first|((first|refine And.intro rfl ?_|refine aD ?_|refine bP ?_|refine wI ?_|refine QE (by simp) (by simp;omega) ?_);conv=>whnf)|(apply bD<;>intro _<;>first|omega|conv=>whnf)|(apply bB<;>intro _<;>conv=>whnf))
     all_goals first
      | (exfalso;simp_all;done)
      | exact ⟨(i+1,out++[m]),⟨by simp only;omega,h3.snoc h5⟩,by simp only;omega,Le.of_eq (by simp only [length_append,List.map_append];rfl)⟩
 ·obtain ⟨h6,h7⟩:=h3.all FM (by omega);rw [<- x9y h6 h7];conv=>whnf
  repeat' (apply bD<;>intro _<;>first|omega|conv=>whnf)
  exact RetHK.mk _ (LSub.refl _) (OneRow.str rfl)
theorem BF (l:List Str) (hl:l.length<=1000000000):SpecP Tryz.prog 87 [eStrs l] (fun r=>r=eStrs (XA l)):=(z1h l hl).toP (fun h=>h.elim) fun _ _ _ _ h=>h.2.2
section
variable {p:Pg} {j:Nat} {f:Pr} {n:Str}
end
section
variable {p:Pg} {j:Nat} {f:Pr}
end
section
variable {p:Pg} {j:Nat} {f:Pr}
end
theorem ME (a b:Str) (p:Pg) (hpl:p.procs.length<=1000) (hgl:p.globals.length<=1000000) (hpr : ∀ f∈p.procs,f.vars.length<=1000000∧f.fin.length<=1000000∧f.params.length<=1000000∧cntL f.body<=1000000 ∧ ∀ t∈flL f.body,okC t):SpecP Tryz.prog 33 [.agg p.cells,.str a,.str b] (fun r=>r = .agg (QS a b p).cells):=by
 refine sB BK Tryz.func33 rfl Tryz.call33 ?_;conv=>whnf
 have hgt:=XW p.globals a b hgl;have hpm:(p.procs.map fun f=>AV.agg f.cells).length=p.procs.length:=length_map _;repeat' ((first|(refine iM fun _=>?_)|refine And.intro rfl ?_|refine cP hgt ?_);conv=>whnf)
 refine LoopK.inv QJ (fun j:Nat=>⟨[(1,.p (.str a)),(2,.p (.str b)),(6,.ptr 1 0),(7,.ptr 0 0),(20,.p (.sl (p.procs.map fun f=>AV.agg f.cells))),(21,.p (.int .i64 (p.procs.map fun f=>AV.agg f.cells).length)),(22,.p (.int .i64 j))],[(0,.obj 25 [.p (eStrs (p.globals.map (QQ a b))),.hd 2 0 j]),(1,.obj 25 [.p .nils,.p .nils]),(2,.own 98 5 ((p.procs.take j).map fun f => .agg (XH a b f).cells))]⟩) (fun j=>j<=p.procs.length) (fun j=>p.procs.length-j) 0
  (Le.mk [(2,.own 98 5 [])] (by simp [Chunk.new0];rfl) (by simp) (by simp) (.cons (.refl _) (.cons (.refl _) (.cons (.refl _) (.cons (.refl _) (.cons (.refl _) (.cons (.refl _) (.cons (.refl _) .nil))))))) (.cons rfl (.obj (.cons (.refl _) (.cons (.nil mem_cons_self) .nil))) (.cons rfl (.refl _) (.new mem_cons_self .nil)))) (zero_le _) ?_
 intro j h2;rcases Nat.lt_or_ge j p.procs.length with hj|hj
 ·obtain ⟨hv,hfin,hpm2,hcb,hok⟩:=hpr _ (List.getElem_mem hj);have h5:=XW p.procs[j].vars a b hv;have h6:=XW p.procs[j].fin a b hfin;have h7:=HX a b (cntL p.procs[j].body+1) p.procs[j].body (by omega) hcb hok;have htl:((p.procs.take j).map fun f=>AV.agg (XH a b f).cells).length=j:=by rw [length_map,length_take];omega
  have htk:((p.procs.take (j+1)).map fun f=>AV.agg (XH a b f).cells)=((p.procs.take j).map fun f=>AV.agg (XH a b f).cells)++[.agg (XH a b p.procs[j]).cells]:=by
   rw [List.take_succ_eq_append_getElem hj,List.map_append];rfl
  generalize ((p.procs.take j).map fun f=>AV.agg (XH a b f).cells)=acc at htl htk ⊢;have hpa:(p.procs[j].params.map fun x=>AV.agg x.cells).length=p.procs[j].params.length:=length_map _;conv=>whnf
  repeat' (first|((first|(refine iM fun _=>?_)|refine cP (XF _ _ _) ?_|refine dA ?_|refine And.intro rfl ?_|(refine iA fun _=>?_)|refine cP h5 ?_|refine cP h6 ?_|refine cP h7 ?_);conv=>whnf)|(apply bD<;>intro _<;>first|omega|conv=>whnf)|(refine And.intro ?_ ?_<;>conv=>whnf))
  all_goals
   refine LoopK.inv QJ (fun i:Nat=>⟨[(1,.p (.str a)),(2,.p (.str b)),(6,.ptr 1 0),(7,.ptr 0 0),(10,.ptr 3 0),(20,.p (.sl (p.procs.map fun f=>AV.agg f.cells))),(21,.p (.int .i64 (p.procs.map fun f=>AV.agg f.cells).length)),(22,.p (.int .i64 j)),(48,.p (.sl (p.procs[j].params.map fun x=>AV.agg x.cells))),(49,.p (.int .i64 (p.procs[j].params.map fun x=>AV.agg x.cells).length)),(50,.p (.int .i64 i))],[(3,.obj 98 [.p (.str (QQ a b p.procs[j].name)),.hd 4 0 i,.p (eStrs (p.procs[j].vars.map (QQ a b))),.p (eSs (swL a b p.procs[j].body)),.p (eStrs (p.procs[j].fin.map (QQ a b)))]),(0,.obj 25 [.p (eStrs (p.globals.map (QQ a b))),.hd 2 0 j]),(1,.obj 25 [.p .nils,.p .nils]),(2,.own 98 5 acc),(4,.own 104 2 ((p.procs[j].params.take i).map fun x => .agg (q5n a b x).cells))]⟩) (fun i=>i<=p.procs[j].params.length) (fun i=>p.procs[j].params.length-i) 0
    (Le.mk [(4,.own 104 2 [])] (by simp [Chunk.new0];rfl) (by simp) (by simp) (.cons (.refl _) (.cons (.refl _) (.cons (.refl _) (.cons (.refl _) (.cons (.refl _) (.cons (.refl _) (.cons (.refl _) (.cons (.refl _) (.cons (.refl _) (.cons (.refl _) (.cons (.refl _) (.nil)))))))))))) (.cons rfl (.obj (.cons (.refl _) (.cons (.nil mem_cons_self) (.cons (.refl _) (.cons (.refl _) (.cons (.refl _) .nil)))))) (.cons rfl (.refl _) (.cons rfl (.refl _) (.cons rfl (.refl _) (.new mem_cons_self .nil)))))) (zero_le _) ?_
   intro i h3;rcases Nat.lt_or_ge i p.procs[j].params.length with hi|hi
   ·have htk2:((p.procs[j].params.take (i+1)).map fun x=>AV.agg (q5n a b x).cells)=((p.procs[j].params.take i).map fun x=>AV.agg (q5n a b x).cells)++[.agg (q5n a b p.procs[j].params[i]).cells]:=by
     rw [List.take_succ_eq_append_getElem hi,List.map_append];rfl
    have hcl:((p.procs[j].params.take i).map fun x=>AV.agg (q5n a b x).cells).length=i:=by rw [length_map,length_take];omega
    generalize ((p.procs[j].params.take i).map fun x=>AV.agg (q5n a b x).cells)=accA at htk2 hcl ⊢;conv=>whnf
    repeat' (first|((first|refine cP (XF _ _ _) ?_|refine dA ?_|refine And.intro rfl ?_|refine aD ?_|refine bP ?_|(refine iA fun _=>?_)|refine wI ?_|refine AppK.mk hcl.symm rfl (by show (i+1)*24<=140737488355328;omega) (by show i+1<=9223372036854775807;omega) (fun x hx=>by rcases List.mem_singleton.1 hx with rfl;exact ⟨rfl,rfl⟩) ?_);conv=>whnf)|(apply bD<;>intro _<;>first|omega|conv=>whnf)|(refine And.intro ?_ ?_<;>conv=>whnf))
    all_goals exact ⟨i+1,hi,by omega,Le.of_eq (by rw [htk2];rfl)⟩
   ·have hA:((p.procs[j].params.take i).map fun x=>AV.agg (q5n a b x).cells)=((XH a b p.procs[j]).params.map fun x => .agg x.cells):=by
     rw [take_of_length_le hi];show _=(p.procs[j].params.map (q5n a b)).map _;rw [List.map_map];rfl
    have hcl:i=((p.procs[j].params.take i).map fun x=>AV.agg (q5n a b x).cells).length:=by rw [length_map,length_take];omega
    generalize ((p.procs[j].params.take i).map fun x=>AV.agg (q5n a b x).cells)=accA at hA hcl ⊢;conv=>whnf
    repeat' (apply bD<;>intro _<;>first|omega|conv=>whnf)
    refine q0v QJ (k:=4) 70 (XH a b p.procs[j]).cells rfl rfl rfl (fun q u c h1 h2 => ?_) ?_
    ·match q,h1,h2 with
     | 0,h1,h2=>cases h1;cases h2;exact .inl ⟨_,rfl,Sub.refl _⟩
     | 1,h1,h2=>cases h1;cases h2;exact .inr ⟨_,rfl,hcl,by rw [hA]⟩
     | 2,h1,h2=>cases h1;cases h2;exact .inl ⟨_,rfl,Sub.refl _⟩
     | 3,h1,h2=>cases h1;cases h2;exact .inl ⟨_,rfl,Sub.refl _⟩
     | 4,h1,h2=>cases h1;cases h2;exact .inl ⟨_,rfl,Sub.refl _⟩
     | q+5,h1,h2=>simp at h1
    conv=>whnf
    repeat' ((first|refine And.intro rfl ?_|refine aD ?_|refine bP ?_|refine wI ?_|refine AppK.mk htl.symm rfl (by show (j+1)*112<=140737488355328;omega) (by show j+1<=9223372036854775807;omega) (fun x hx=>by rcases List.mem_singleton.1 hx with rfl;exact ⟨rfl,rfl⟩) ?_);conv=>whnf)
    exact ⟨j+1,hj,by omega,Le.of_eq (by rw [htk];rfl)⟩
 ·have hA:((p.procs.take j).map fun f=>AV.agg (XH a b f).cells)=((QS a b p).procs.map fun f => .agg f.cells):=by
   rw [take_of_length_le hj];show _=(p.procs.map (XH a b)).map _;rw [List.map_map];rfl
  have hcl:j=((p.procs.take j).map fun f=>AV.agg (XH a b f).cells).length:=by rw [length_map,length_take];omega
  generalize ((p.procs.take j).map fun f=>AV.agg (XH a b f).cells)=acc at hA hcl ⊢;conv=>whnf
  repeat' (first|(refine And.intro rfl ?_;conv=>whnf)|(apply bD<;>intro _<;>first|omega|conv=>whnf))
  refine ⟨_,.agg (cs:=(QS a b p).cells) rfl fun i l c h1 h3 => ?_,rfl⟩
  match i,h1,h3 with
  | 0,h1,h3=>cases h1;cases h3;exact .p (Sub.refl _)
  | 1,h1,h3 =>
    cases h1;cases h3;show Frz _ _ (.sl ((QS a b p).procs.map fun f => .agg f.cells));rw [<- hA];exact .hd rfl hcl
  | i+2,h1,h3=>simp at h1
theorem z9u (a:Str):x6h (.mk 2 0 a [])=isName a:=by
 unfold x6h;rw [WW];show (decide ((0:Int)=q1y 2)&&(if (2:Int)=1 then _ else if (2:Int)=2 then decide ((0:Int)=0)&&isName a else _))=isName a;simp [q1y]
theorem w6l {p:Pg} (h:Fit p) {f:Pr} (hf:f∈p.procs) : ∀ t∈flL f.body,okC t:=fun t ht=>by
 have h1:=h.pr hf;unfold wPr at h1;have h2:=x4t _ _ ht;have h3:=z0p t;have h4:=DJ t.labels;have h5:=HY t.args;refine ⟨by omega,by omega,by omega,fun a ha => ?_⟩;have key : ∀ (l:List Arg),a∈l->wX a.x<=GW l:=fun l=>by
  induction l with
  | nil=>intro h;cases h
  | cons b r ih =>
    intro h;rw [GW];rcases List.mem_cons.1 h with rfl|h
    ·omega
    ·have:=ih h;omega
 have:=key _ ha;omega
theorem w4n {p:Pg} (h:Fit p) (hc:XB p=true):p.procs.length<=1000∧p.globals.length<=1000000 ∧ ∀ f∈p.procs,f.vars.length<=1000000∧f.fin.length<=1000000∧f.params.length<=1000000∧cntL f.body<=1000000 ∧ ∀ t∈flL f.body,okC t:=by
 obtain ⟨h1,h2,h3⟩:=ZP hc;refine ⟨by omega,by omega,fun f hf => ?_⟩;have h4:=h.pr hf;unfold wPr at h4;have h5:=DJ f.vars;have h6:=DJ f.fin;have h7:=x8o f.params;have h8:=x1g f.body;exact ⟨by omega,by omega,by omega,by omega,w6l h hf⟩
def bkO (p:Pg) (O:List (List Str)):Book:=⟨sheetOf p,[],[],[],[],O⟩
def prA (p:Pg) (i:Nat):Pr:=p.procs.getD i Pr0
theorem x8j {p:Pg} {i:Nat} (h:i<p.procs.length):p.procs[i]? = some (prA p i):=by
 unfold prA;rw [getD_eq_getElem?_getD,List.getElem?_eq_getElem h];rfl
theorem NP {p:Pg} {i:Nat} {f:Pr} (h:p.procs[i]? = some f):prA p i=f:=by
 unfold prA;rw [getD_eq_getElem?_getD,h];rfl
def dfB (p:Pg) (O:List (List Str)):List (List Str):=(sheetOf p).l.map fun it=>XA (FR (bkO p O) it.s)
def otA (p:Pg) (D:List (List Str)) (i:Nat):List Str:=XA (x5x p i (prA p i) D (itsOf p i (prA p i)))
def otB (p:Pg) (D:List (List Str)):List (List Str):=(List.range p.procs.length).map (otA p D)
def rdO (p:Pg) (O:List (List Str)):List (List Str):=otB p (dfB p O)
def itO (p:Pg):Nat->List (List Str)
 | 0=>List.replicate p.procs.length []
 | k+1=>rdO p (itO p k)
theorem KF {l:List Str} (h:l.Pairwise ltT):l.Nodup:=List.Pairwise.imp (S:=fun a b=>a≠b) (fun {a b} (h1:ltT a b)=>fun (h2:a=b)=>FM b (by rw [h2] at h1;exact h1)) h
theorem HP (l:List Str):(XA l).length<=l.length:=GV (KF (WJ l)) fun s hs=>XX.1 hs
structure OkO (p:Pg) (O:List (List Str)):Prop where
 len:O.length=p.procs.length
 rise : ∀ o∈O,o.Pairwise ltT
 sub : ∀ i,i<p.procs.length -> ∀ n∈O.getD i [],outB p (prA p i) n=true
theorem UN {O:List (List Str)} (h : ∀ o∈O,o.Pairwise ltT) (i:Nat):(O.getD i []).Pairwise ltT:=by
 rw [getD_eq_getElem?_getD];rcases Nat.lt_or_ge i O.length with h1|h1
 ·rw [List.getElem?_eq_getElem h1];exact h _ (List.getElem_mem h1)
 ·rw [List.getElem?_eq_none h1];exact .nil
theorem PE {p:Pg} {n:Str}:comB p n=true↔n=tapeS∨n∈p.globals:=by
 unfold comB;simp only [Bool.or_eq_true,beq_iff_eq,List.any_eq_true,exists_eq_right']
theorem q8t {p:Pg} {f:Pr} {n:Str}:outB p f n=true↔(n=tapeS∨n∈p.globals)∨(⟨n,true⟩:Param)∈f.params:=by
 unfold outB;rw [Bool.or_eq_true,PE,decide_eq_true_eq]
theorem q7m {p:Pg} (h:XB p=true) (i:Nat):(prA p i).params.length<=8:=by
 rcases Nat.lt_or_ge i p.procs.length with h1|h1
 ·exact (NY.1 (z3j (ZJ h).1 (List.mem_of_getElem? (x8j h1)))).1
 ·unfold prA;rw [getD_eq_getElem?_getD,List.getElem?_eq_none h1];decide
theorem OkO.len25 {p:Pg} {O:List (List Str)} (hc:XB p=true) (h:OkO p O) (i:Nat):(O.getD i []).length<=25:=by
 rcases Nat.lt_or_ge i p.procs.length with h1|h1
 ·have h2:=GV (m:=tapeS::p.globals++(prA p i).params.map Param.name) (KF (UN h.rise i)) fun n hn=>by
   rcases q8t.1 (h.sub i h1 n hn) with (rfl|h3)|h3
   ·exact List.mem_append_left _ mem_cons_self
   ·exact List.mem_append_left _ (mem_cons_of_mem _ h3)
   ·exact List.mem_append_right _ (List.mem_map.2 ⟨_,h3,rfl⟩)
  have h3:=q7m hc i;have h4:=(ZP hc).1;rw [length_append,length_cons,length_map] at h2;omega
 ·rw [getD_eq_getElem?_getD,List.getElem?_eq_none (by rw [h.len];exact h1)];exact zero_le _
theorem q2f {p:Pg} (h:XB p=true) {t:S} (ht:t∈WP p) (h4:t.kind=4) : ∃ k,k<p.procs.length∧caI p t=(k:Nat)∧caP p t=prA p k∧(prA p k).name=t.proc∧(prA p k).params.map Param.ref=t.args.map Arg.ref:=by
 obtain ⟨_,hs,ha,_⟩:=ZJ h;have hf:=(z7p hs).1 ha t ht h4;unfold UO at hf;rw [Bool.and_eq_true] at hf;have hf2:=hf.2;cases hq:p.procs.find? (fun f=>f.name==t.proc) with
 | none=>rw [hq] at hf2;cases hf2
 | some f =>
   rw [hq] at hf2;have hn:t.proc∈QH p:=List.mem_map.2 ⟨f,List.mem_of_find?_eq_some hq,by simpa using List.find?_some hq⟩;obtain ⟨k,hk,h1,_,h3,h5⟩:=w3f hn;rw [hq] at h3;have hkf:p.procs[k]=f:=(Option.some.inj h3).symm;have hp:prA p k=f:=by rw [<- hkf];exact NP (List.getElem?_eq_getElem hk)
   have hci:caI p t=(k:Nat):=h1;refine ⟨k,hk,hci,?_,?_,?_⟩
   ·unfold caP;rw [hci];rfl
   ·rw [hp,<- hkf];exact h5
   ·rw [hp];unfold x1l at hf2;exact of_decide_eq_true hf2
theorem PW {p:Pg} (h:XB p=true) {t:S} (ht:t∈WP p) (h4:t.kind=4):t.args.length=(caP p t).params.length∧t.args.length<=8:=by
 obtain ⟨k,_,_,h2,_,h3⟩:=q2f h ht h4;have h5:=congrArg length h3;rw [length_map,length_map] at h5;have:=q7m h k;rw [h2];omega
theorem OkO.call {p:Pg} {O:List (List Str)} (hc:XB p=true) (h:OkO p O) {b:Book} (hs:b.s=sheetOf p) (ho:b.outs=O) {t:S} (ht:t∈WP p) (h4:t.kind=4):CallOk b t:=by
 obtain ⟨k,hk,h1,h2,_⟩:=q2f hc ht h4;obtain ⟨h5,h6⟩:=PW hc ht h4;have e:b.s.p=p:=by rw [hs];exact (QK p).1
 have hO:caO b t=O.getD (caI p t).toNat []:=by unfold caO;rw [e,ho]
 refine ⟨by rw [e];omega,by rw [e];omega,by rw [e,ho,h.len];exact Nat.le_refl _,?_,?_,by rw [e];omega,by omega⟩
 ·rw [hO];exact UN h.rise _
 ·rw [hO];have:=h.len25 hc (caI p t).toNat;omega
theorem z3p {p:Pg} {O:List (List Str)} {b:Book} (hs:b.s=sheetOf p) (ho:b.outs=O) (t:S):FR b t=FR (bkO p O) t:=by
 unfold FR caO bkO;rw [hs,ho]
theorem q2g {p:Pg} {O:List (List Str)} (hc:XB p=true) (h:OkO p O) {t:S} (ht:t∈WP p):(FR (bkO p O) t).length<=34:=by
 unfold FR
 (repeat' split)<;>try (simp;done)
 rename_i h4;have hr:=x8r t (caP p t) (caO (bkO p O) t) t.args.length;have h6:=(PW hc ht h4).2;have h7:=h.len25 hc (caI p t).toNat;have h8:((caO (bkO p O) t).filter (comB p)).length<=(O.getD (caI p t).toNat []).length:=List.length_filter_le _ _;show ((if t.name=[] then [] else [t.name])++x8m t (caP p t) (caO (bkO p O) t) t.args.length++(caO (bkO p O) t).filter (comB p)).length<=34;rw [length_append,length_append];have h9:(if t.name=[] then [] else [t.name]).length<=1:=by split<;>simp
 omega
theorem q9z (p:Pg) (O:List (List Str)):(dfB p O).length=(sheetOf p).l.length:=length_map _
theorem z3o {p:Pg} {O:List (List Str)} (hc:XB p=true) (h:OkO p O) : ∀ d∈dfB p O,d.length<=1000:=fun d hd=>by
 obtain ⟨it,hi,rfl⟩:=List.mem_map.1 hd;have ht:it.s∈WP p:=by rw [<- YI];exact List.mem_map_of_mem hi
 have h1:=HP (FR (bkO p O) it.s);have h2:=q2g hc h ht;omega
def leO (O O':List (List Str)):Prop := ∀ i n,n∈O.getD i []->n∈O'.getD i []
theorem q2j {t:S} {f:Pr} {O:List Str} {n:Str}:n∈x8m t f O t.args.length ↔ ∃ x∈(t.args.zip f.params).take t.args.length,(x.1.ref=true∧x.2.name∈O)∧x.1.name=n:=by
 unfold x8m w8f;simp only [List.mem_map,List.mem_filter,Bool.and_eq_true,YG,and_assoc]
theorem z7b {p:Pg} {O O':List (List Str)} (h:leO O O') {t:S} {n:Str} (hn:n∈FR (bkO p O) t):n∈FR (bkO p O') t:=by
 unfold FR at hn ⊢
 (repeat' split at hn)
 ·rw [if_pos (by assumption)];exact hn
 ·rw [if_neg (by assumption),if_pos (by assumption)];exact hn
 ·rw [if_neg (by assumption),if_neg (by assumption),if_pos (by assumption)];exact hn
 ·rw [if_neg (by assumption),if_neg (by assumption),if_neg (by assumption),if_pos (by assumption)];unfold w1s at hn ⊢;rcases List.mem_append.1 hn with hn|hn
  ·rcases List.mem_append.1 hn with hn|hn
   ·exact List.mem_append_left _ (List.mem_append_left _ hn)
   ·refine List.mem_append_left _ (List.mem_append_right _ ?_);obtain ⟨x,h1,⟨h2,h3⟩,h4⟩:=q2j.1 hn;exact q2j.2 ⟨x,h1,⟨h2,h _ _ h3⟩,h4⟩
  ·obtain ⟨h1,h2⟩:=List.mem_filter.1 hn;exact List.mem_append_right _ (List.mem_filter.2 ⟨h _ _ h1,h2⟩)
 ·cases hn
theorem WY {α β:Type} {f:α->List β} {l:List α} {i:Nat} {n:β}:n∈(l.map f).getD i [] ↔ ∃ x,l[i]? = some x∧n∈f x:=by
 rw [getD_eq_getElem?_getD,List.getElem?_map];cases l[i]? with
 | none=>simp
 | some x=>simp
theorem w0r {p:Pg} {O O':List (List Str)} (h:leO O O'):leO (dfB p O) (dfB p O'):=fun i n hn=>by
 obtain ⟨it,h1,h2⟩:=WY.1 hn;exact WY.2 ⟨it,h1,XX.2 (z7b h (XX.1 h2))⟩
def lvB (p:Pg) (i:Nat) (id:Int):Bool:=(QX p i (prA p i)).live.getD (ixI p i (prA p i) id).toNat false
theorem w1f {p:Pg} {i:Nat} {D:List (List Str)} {n:Str}:n∈x5x p i (prA p i) D (itsOf p i (prA p i)) ↔ ∃ it∈itsOf p i (prA p i),lvB p i it.s.id=true∧n∈BC D it.s.id∧outB p (prA p i) n=true:=by
 unfold x5x;rw [List.mem_flatMap];refine exists_congr fun it=>and_congr_right fun _=>?_;unfold w6f lvB;cases (QX p i (prA p i)).live.getD (ixI p i (prA p i) it.s.id).toNat false with
 | false=>simp
 | true=>simp [List.mem_filter]
theorem q2c {p:Pg} {D:List (List Str)} {i:Nat} (hi:i<p.procs.length) {n:Str}:n∈(otB p D).getD i [] ↔ ∃ it∈itsOf p i (prA p i),lvB p i it.s.id=true∧n∈BC D it.s.id∧outB p (prA p i) n=true:=by
 unfold otB;rw [WY,<- w1f];constructor
 ·rintro ⟨x,h1,h2⟩;rw [List.getElem?_range hi] at h1;cases h1;exact XX.1 h2
 ·exact fun h=>⟨i,List.getElem?_range hi,XX.2 h⟩
theorem z9l {p:Pg} {D D':List (List Str)} (h:leO D D'):leO (otB p D) (otB p D'):=fun i n hn=>by
 rcases Nat.lt_or_ge i p.procs.length with hi|hi
 ·obtain ⟨it,h1,h2,h3,h4⟩:=(q2c hi).1 hn;exact (q2c hi).2 ⟨it,h1,h2,h _ _ h3,h4⟩
 ·obtain ⟨x,h1,_⟩:=WY.1 hn;rw [List.getElem?_eq_none (by simpa using hi)] at h1;cases h1
theorem w1p {p:Pg} {O O':List (List Str)} (h:leO O O'):leO (rdO p O) (rdO p O'):=z9l (w0r h)
theorem w2o (p:Pg) : ∀ k,leO (itO p k) (itO p (k+1))
 | 0=>fun i n hn=>by
   unfold itO at hn;rw [getD_eq_getElem?_getD,List.getElem?_replicate] at hn;split at hn<;>cases hn
 | k+1=>w1p (w2o p k)
theorem w2t (p:Pg) (D:List (List Str)):OkO p (otB p D):=by
 refine ⟨by unfold otB;rw [length_map,List.length_range],fun o ho => ?_,fun i hi n hn => ?_⟩
 ·obtain ⟨i,_,rfl⟩:=List.mem_map.1 ho;exact WJ _
 ·obtain ⟨it,_,_,_,h⟩:=(q2c hi).1 hn;exact h
theorem q3i (p:Pg) : ∀ k,OkO p (itO p k)
 | 0=>by
   refine ⟨by unfold itO;rw [List.length_replicate],fun o ho => ?_,fun i hi n hn => ?_⟩
   ·rw [List.eq_of_mem_replicate ho];exact .nil
   ·unfold itO at hn;rw [getD_eq_getElem?_getD,List.getElem?_replicate] at hn;split at hn<;>cases hn
 | k+1=>w2t p _
def tot (O:List (List Str)):Nat:=(O.map length).sum
theorem w0o {a b:List Str} {O O':List (List Str)} (h:leO (a::O) (b::O')):(∀ n∈a,n∈b)∧leO O O':=⟨fun n hn=>h 0 n hn,fun i n hn=>h (i+1) n hn⟩
theorem z8a {a b:List Str} (ha:a.Pairwise ltT) (hb:b.Pairwise ltT) (hs : ∀ n∈a,n∈b) (hl:b.length<=a.length):a=b:=by
 refine q2z FM ltT.trans ha hb fun s=>⟨hs s,fun h => ?_⟩;refine Classical.byContradiction fun hn => ?_;have:=GV (l:=s::a) (m:=b) (List.nodup_cons.2 ⟨hn,KF ha⟩) fun n h'=>by
  rcases List.mem_cons.1 h' with rfl|h'
  ·exact h
  ·exact hs n h'
 rw [length_cons] at this;omega
theorem z3h : ∀ {O O':List (List Str)},O.length=O'.length->(∀ o∈O,o.Pairwise ltT)->(∀ o∈O',o.Pairwise ltT)->leO O O'->tot O<=tot O'∧(tot O'<=tot O->O=O')
 | [],[],_,_,_,_=>⟨Nat.le_refl _,fun _=>rfl⟩
 | [],_::_,h,_,_,_=>by cases h
 | _::_,[],h,_,_,_=>by cases h
 | a::O,b::O',hl,h1,h2,h=>by
   obtain ⟨h3,h4⟩:=w0o h;obtain ⟨h5,h6⟩:=z3h (O:=O) (O':=O') (by simpa using hl) (fun o ho=>h1 o (mem_cons_of_mem _ ho)) (fun o ho=>h2 o (mem_cons_of_mem _ ho)) h4;have ha:=h1 a mem_cons_self;have hb:=h2 b mem_cons_self;have h7:=GV (KF ha) h3;have e : ∀ (x:List Str) (l:List (List Str)),tot (x::l)=x.length+tot l:=fun x l=>by unfold tot;rw [map_cons,sum_cons]
   rw [e,e];exact ⟨by omega,fun h8=>by rw [z8a ha hb h3 (by omega),h6 (by omega)]⟩
theorem q8d : ∀ {O:List (List Str)},(∀ o∈O,o.length<=25)->tot O<=25*O.length
 | [],_=>Nat.le_refl _
 | a::O,h=>by
   have h1:=q8d (O:=O) fun o ho=>h o (mem_cons_of_mem _ ho);have h2:=h a mem_cons_self;have e:tot (a::O)=a.length+tot O:=by unfold tot;rw [map_cons,sum_cons]
   rw [e,length_cons];omega
theorem OkO.tot {p:Pg} {O:List (List Str)} (hc:XB p=true) (h:OkO p O):Go.Ab.tot O<=400:=by
 have h1:=q8d (O:=O) fun o ho=>by
  obtain ⟨i,hi,rfl⟩:=List.mem_iff_getElem.1 ho;have:=h.len25 hc i
  rwa [getD_eq_getElem?_getD,List.getElem?_eq_getElem hi] at this
 have h2:=(ZP hc).2.1;rw [h.len] at h1;omega
theorem x9p {p:Pg} {k:Nat} (h:itO p (k+1)≠itO p k):Go.Ab.tot (itO p k)<Go.Ab.tot (itO p (k+1)):=by
 obtain ⟨h1,h2⟩:=z3h (O:=itO p k) (O':=itO p (k+1)) (by rw [(q3i p k).len,(q3i p (k+1)).len]) (q3i p k).rise (q3i p (k+1)).rise (w2o p k);rcases Nat.lt_or_ge (Go.Ab.tot (itO p k)) (Go.Ab.tot (itO p (k+1))) with h3|h3
 ·exact h3
 ·exact absurd (h2 h3).symm h
section
variable (p:Pg) (i:Nat) (f:Pr) (D U:List (List Str)) (o:List Str) (x:Str)
def idN (a:Int):Int:=XT p i (cntL f.body+2:Nat) a
def hitN (a:Int):Bool:=bif decide (a=(cntL f.body+2:Nat)-1) then inS o x else bif decide (0<a) then inS (BC U (idN p i f a)) x else false
def FK (a:Int):Bool:=bif decide (a=(cntL f.body+2:Nat)-1) then false else bif decide (0<a) then !inS (BC D (idN p i f a)) x else true
def netR (p:Pg) (i:Nat) (f:Pr):List (List Int):=PB (cntL f.body+2) (YO (QX p i f) f)
def w9i:List (Int×Int):=(YO (QX p i f) f).filter fun t=>FK p i f D x t.1
def x8a:Bool:=(HI 0 (ZE (QA (cntL f.body+2) (w9i p i f D x)).1 [0])).any (hitN p i f U o x)
end
section
variable {p:Pg} {i:Nat} {f:Pr} {D U:List (List Str)} {o:List Str} {x:Str}
def nR (p:Pg) (i:Nat) (f:Pr) (D:List (List Str)) (x:Str) (a b:Int):Prop:=FK p i f D x a=true∧(a,b)∈YO (QX p i f) f
theorem GF (h:XB p=true) (hj:p.procs[i]? = some f):x8a p i f D U o x=true ↔ ∃ a,Rch (nR p i f D x) 0 a∧hitN p i f U o x a=true:=by
 unfold x8a;rw [List.any_eq_true];refine exists_congr fun a=>and_congr_left fun _=>?_;rw [x5f (by omega)];have e : ∀ a b,((a,b)∈w9i p i f D x∧ZL (cntL f.body+2) b=true)↔nR p i f D x a b:=fun a b=>by
  unfold w9i nR;rw [List.mem_filter];constructor
  ·exact fun h1=>⟨h1.1.2,h1.1.1⟩
  ·intro h1;have h2:=(FW h hj _ h1.2).2;exact ⟨⟨h1.2,h1.1⟩,by unfold ZL;simp;omega⟩
 exact ⟨fun h1=>h1.mono fun a b h2=>(e a b).1 h2,fun h1=>h1.mono fun a b h2=>(e a b).2 h2⟩
theorem x6u (h:XB p=true) (hj:p.procs[i]? = some f) {S:Int->Prop} (h0:S 0) (h1 : ∀ a,S a->hitN p i f U o x a=false) (h2 : ∀ a b,S a->nR p i f D x a b->S b):x8a p i f D U o x=false:=by
 cases hq:x8a p i f D U o x with
 | false=>rfl
 | true =>
   obtain ⟨a,h3,h4⟩:=(GF h hj).1 hq;rw [h1 a (Rch.closed h2 h0 h3)] at h4;cases h4
structure NedI (p:Pg) (i:Nat) (f:Pr) (D U:List (List Str)) (o:List Str) (x:Str) (n:Nat) (seen:List Bool) (todo:List Int):Prop where
 len:seen.length=n
 rng : ∀ a∈todo,0<=a∧a<(n:Int)
 way : ∀ a:Int,(a=0∨seen.getD a.toNat false=true∧0<=a)->Rch (nR p i f D x) 0 a
 td : ∀ a∈todo,a=0∨seen.getD a.toNat false=true∧0<=a
 done : ∀ a:Int,(a=0∨seen.getD a.toNat false=true∧0<=a)->a∉todo->hitN p i f U o x a=false ∧ ∀ b,nR p i f D x a b->seen.getD b.toNat false=true
structure NedJ (p:Pg) (i:Nat) (f:Pr) (D U:List (List Str)) (o:List Str) (x:Str) (n:Nat) (a:Int) (k:Nat) (seen:List Bool) (todo:List Int):Prop where
 len:seen.length=n
 rng : ∀ a∈todo,0<=a∧a<(n:Int)
 way : ∀ a:Int,(a=0∨seen.getD a.toNat false=true∧0<=a)->Rch (nR p i f D x) 0 a
 td : ∀ a∈todo,a=0∨seen.getD a.toNat false=true∧0<=a
 me:Rch (nR p i f D x) 0 a
 done : ∀ b:Int,(b=0∨seen.getD b.toNat false=true∧0<=b)->b∉todo->b≠a->hitN p i f U o x b=false ∧ ∀ c,nR p i f D x b c->seen.getD c.toNat false=true
 row : ∀ c∈((netR p i f).getD a.toNat []).take k,seen.getD c.toNat false=true
theorem w4r {l:List Bool} {k j:Nat} (h:(l.set k true).getD j false=true):j=k∨l.getD j false=true:=by
 rcases Nat.decEq j k with hne|rfl
 ·right
  rwa [getD_eq_getElem?_getD,List.getElem?_set_ne (Ne.symm hne),<- getD_eq_getElem?_getD] at h
 ·exact .inl rfl
theorem x5m {l:List Bool} {k j:Nat} (h:l.getD j false=true):(l.set k true).getD j false=true:=by
 rcases Nat.decEq j k with hne|rfl
 ·rwa [getD_eq_getElem?_getD,List.getElem?_set_ne (Ne.symm hne),<- getD_eq_getElem?_getD]
 ·have hl:j<l.length:=by
   rcases Nat.lt_or_ge j l.length with h1|h1
   ·exact h1
   ·rw [getD_eq_getElem?_getD,List.getElem?_eq_none h1] at h;cases h
  rw [getD_eq_getElem?_getD,List.getElem?_set_self hl];rfl
theorem w1i {l:List Bool} {k:Nat} (h:k<l.length):(l.set k true).getD k false=true:=by
 rw [getD_eq_getElem?_getD,List.getElem?_set_self h];rfl
variable {n:Nat} {seen:List Bool} {todo:List Int} {a:Int}
theorem NedI.start (n:Nat) (hn:0<n):NedI p i f D U o x n (List.replicate n false) [0]:=by
 have hno : ∀ k:Nat,(List.replicate n false).getD k false=true->False:=fun k h=>by
  rw [getD_eq_getElem?_getD,List.getElem?_replicate] at h;split at h<;>cases h
 refine ⟨List.length_replicate,fun a ha=>by rw [List.mem_singleton.1 ha];omega,fun a ha => ?_,fun a ha => .inl (List.mem_singleton.1 ha),fun a ha hn => ?_⟩
 ·rcases ha with rfl|⟨h,_⟩
  ·exact .refl
  ·exact (hno _ h).elim
 ·rcases ha with rfl|⟨h,_⟩
  ·exact absurd (List.mem_singleton.2 rfl) hn
  ·exact (hno _ h).elim
theorem NedI.stop (h:XB p=true) (hj:p.procs[i]? = some f) (hI:NedI p i f D U o x n seen []):x8a p i f D U o x=false:=by
 refine x6u h hj (S:=fun a=>a=0∨seen.getD a.toNat false=true∧0<=a) (.inl rfl) (fun a ha=>(hI.done a ha (by simp)).1) fun a b ha hb => ?_;have h1:=(hI.done a ha (by simp)).2 b hb;have h2:=(FW h hj _ hb.2).2;exact .inr ⟨h1,h2.1⟩
theorem NedI.skip (hI:NedI p i f D U o x n seen (todo++[a])) (h1:hitN p i f U o x a=false) (h2:FK p i f D x a=false):NedI p i f D U o x n seen todo:=by
 refine ⟨hI.len,fun b hb=>hI.rng b (List.mem_append_left _ hb),hI.way,fun b hb=>hI.td b (List.mem_append_left _ hb),fun b hb hn => ?_⟩;by_cases he:b=a
 ·subst he;exact ⟨h1,fun c hc=>by rw [hc.1] at h2;cases h2⟩
 ·exact hI.done b hb fun hm=>(List.mem_append.1 hm).elim hn fun hm=>he (List.mem_singleton.1 hm)
theorem NedI.open (hI:NedI p i f D U o x n seen (todo++[a])):NedJ p i f D U o x n a 0 seen todo :=
 ⟨hI.len,fun b hb=>hI.rng b (List.mem_append_left _ hb),hI.way,fun b hb=>hI.td b (List.mem_append_left _ hb),hI.way a (hI.td a (List.mem_append_right _ (List.mem_singleton.2 rfl))),
   fun b hb hn he=>hI.done b hb fun hm=>(List.mem_append.1 hm).elim hn fun hm=>he (List.mem_singleton.1 hm),fun c hc=>by rw [List.take_zero] at hc;cases hc⟩
theorem NedJ.shut (h:XB p=true) (hj:p.procs[i]? = some f) {k:Nat} (hJ:NedJ p i f D U o x n a k seen todo) (hk:((netR p i f).getD a.toNat []).length<=k) (h1:hitN p i f U o x a=false):NedI p i f D U o x n seen todo:=by
 refine ⟨hJ.len,hJ.rng,hJ.way,hJ.td,fun b hb hm => ?_⟩;by_cases he:b=a
 ·subst he;refine ⟨h1,fun c hc=>hJ.row c ?_⟩;rw [take_of_length_le hk];exact (q5y fun t ht=>(FW h hj t ht).1).2 ⟨(b,c),hc.2,by have:=(FW h hj _ hc.2).1;simp only at this ⊢;omega,rfl⟩
 ·exact hJ.done b hb hm he
theorem NedJ.old {k:Nat} (hJ:NedJ p i f D U o x n a k seen todo) (hk:k<((netR p i f).getD a.toNat []).length) (hs:seen.getD (((netR p i f).getD a.toNat [])[k]).toNat false=true):NedJ p i f D U o x n a (k+1) seen todo:=by
 refine ⟨hJ.len,hJ.rng,hJ.way,hJ.td,hJ.me,hJ.done,fun c hc => ?_⟩;rcases (ZQ hk).1 hc with h1|rfl
 ·exact hJ.row c h1
 ·exact hs
theorem NedJ.new {k:Nat} (hJ:NedJ p i f D U o x n a k seen todo) (hk:k<((netR p i f).getD a.toNat []).length) {c:Int} (hc:c=((netR p i f).getD a.toNat [])[k]) (hr:0<=c∧c<(n:Int)) (hR:nR p i f D x a c):NedJ p i f D U o x n a (k+1) (seen.set c.toNat true) (todo++[c]):=by
 have hl:c.toNat<seen.length:=by rw [hJ.len];omega
 have hold : ∀ b:Int,(b=0∨(seen.set c.toNat true).getD b.toNat false=true∧0<=b)->b=c∨(b=0∨seen.getD b.toNat false=true∧0<=b):=fun b hb=>by
  rcases hb with h1|⟨h1,h2⟩
  ·exact .inr (.inl h1)
  ·rcases w4r h1 with h3|h3
   ·exact .inl (by omega)
   ·exact .inr (.inr ⟨h3,h2⟩)
 refine ⟨by rw [List.length_set];exact hJ.len,fun b hb => ?_,fun b hb => ?_,fun b hb => ?_,hJ.me,fun b hb hm he => ?_,fun b hb => ?_⟩
 ·rcases List.mem_append.1 hb with h1|h1
  ·exact hJ.rng b h1
  ·rw [List.mem_singleton.1 h1];exact hr
 ·rcases hold b hb with rfl|h1
  ·exact .tail hJ.me hR
  ·exact hJ.way b h1
 ·rcases List.mem_append.1 hb with h1|h1
  ·rcases hJ.td b h1 with h2|h2
   ·exact .inl h2
   ·exact .inr ⟨x5m h2.1,h2.2⟩
  ·rw [List.mem_singleton.1 h1];exact .inr ⟨w1i hl,hr.1⟩
 ·rcases hold b hb with rfl|h1
  ·exact absurd (List.mem_append_right _ (List.mem_singleton.2 rfl)) hm
  ·obtain ⟨h2,h3⟩:=hJ.done b h1 (fun h=>hm (List.mem_append_left _ h)) he;exact ⟨h2,fun d hd=>x5m (h3 d hd)⟩
 ·rcases (ZQ hk).1 hb with h1|h1
  ·exact x5m (hJ.row b h1)
  ·rw [h1,<- hc];exact w1i hl
end
def x9d (p:Pg) (i:Nat) (f:Pr) (D U:List (List Str)) (o:List Str):List Str:=(p.globals++[tapeS]).filter (x8a p i f D U o)
theorem fzL {N:Nat} {a b c d e:AV} {L:List Str} {n:Nat} (hn:n=(L.map AV.str).length) :
  Le N ⟨[(0,.p a),(1,.p b),(5,.p .nils),(6,.p c),(27,.hd 0 0 n),(28,.p d),(29,.p e)],[(0,.own 9 1 (L.map .str))]⟩ ⟨[(0,.p a),(1,.p b),(5,.hd 0 0 0),(6,.p c),(27,.p (eStrs L)),(28,.p d),(29,.p e)],[(0,.own 9 1 [])]⟩:=by
 subst hn;obtain ⟨s',rfl,hle⟩:=Le.row (N:=N) (s:=⟨[(0,.p a),(1,.p b),(5,.p .nils),(6,.p c),(27,.hd 0 0 (L.map AV.str).length),(28,.p d),(29,.p e)],[(0,.own 9 1 (L.map .str))]⟩) (k:=0) (e:=9) (sz:=1) (es:=L.map .str) (zs:=[27]) rfl
  (K:=fun s=>s=⟨[(0,.p a),(1,.p b),(5,.p .nils),(6,.p c),(27,.p (eStrs L)),(28,.p d),(29,.p e)],[]⟩) ⟨rfl,rfl⟩
 exact hle.trans (Le.mk [(0,.own 9 1 [])] (by simp [Chunk.new0];rfl) (by simp) (by simp) (.cons (.refl _) (.cons (.refl _) (.cons (.nil mem_cons_self) (.cons (.refl _) (.cons (.refl _) (.cons (.refl _) (.cons (.refl _) .nil))))))) (.new mem_cons_self .nil))
theorem q8e (b:Book) (p:Pg) (hp:b.s=sheetOf p) (h:XB p=true) (i:Nat) (f:Pr) (hj:p.procs[i]? = some f) (hW:b.ways[i]? = some (QX p i f)) (o:List Str) (hN : ∀ x,SpecP Tryz.prog 215 [.ip b.cells,.int .i64 i,q5r (netR p i f),.str x] (fun r=>r = .bool (x8a p i f b.defs b.uses o x))):SpecH Tryz.prog 138 [.p (.ip b.cells),.p (.int .i64 i)] [] (fun r H=>OneRow (q6m (x9d p i f b.defs b.uses o)) False r H):=by
 refine sH q3p Tryz.func138 rfl Tryz.call138 ?_;conv=>whnf
 have hbp:b.s.p=p:=by rw [hp];exact (QK p).1
 have hg:=(ZP h).1;have hdl:=x9j h hj;have hNt:=x7j (QX p i f) f (cntL f.body+2) (w8r h hj) (FW h hj) (by omega);have hNt2:SpecP Tryz.prog 213 [.ip (QX p i f).cells] (fun r=>r=q5r (netR p i f)):=hNt;have hCl:SpecH Tryz.prog 214 ([eStrs p.globals].map .p) [] (OneRow (q6m p.globals) (p.globals=[])):=YL p.globals (by omega);have hg1:(b.ways.map fun w=>AV.ip w.cells)[i]? = some (.ip (QX p i f).cells):=by rw [List.getElem?_map,hW];rfl
 generalize QX p i f=w at *
 generalize netR p i f=net at *
 repeat' (first|((first|(refine iM fun _=>?_)|refine dA ?_|refine And.intro rfl ?_|refine aD ?_|refine aR ?_|refine bP ?_|(refine iA fun _=>?_)|refine IdxK.xs (by omega) ?_|refine QZ (by omega) ?_|(refine ByteK.at (by omega) ?_)|refine wI ?_|(refine IdxK.at (k:=i) rfl hg1 rfl ?_)|refine cP hNt2 ?_);conv=>whnf)|(apply bD<;>intro _<;>first|omega|conv=>whnf)|(apply bE<;>intro _<;>first|omega|conv=>whnf)|(apply bN<;>intro _<;>conv=>whnf)|(apply bB<;>intro _<;>conv=>whnf))
 obtain ⟨L,hL⟩ : ∃ L,L=p.globals++[tapeS]:=⟨_,rfl⟩;have hLl:L.length<=17:=by rw [hL,length_append];simp;omega
 have hfin:x9d p i f b.defs b.uses o=L.filter (x8a p i f b.defs b.uses o):=by unfold x9d;rw [hL]
 rw [hfin];generalize x8a p i f b.defs b.uses o=ned at *
 refine KB 0 rfl hCl (.cons (.p (Sub.of_eq (by rw [hbp]))) .nil) (fun hnil => ?_) (fun q e sz es hR => ?_);rotate_left;obtain ⟨rfl,rfl,rfl⟩:=hR
 rotate_right
 all_goals
  conv=>whnf
  repeat' (first|((first|(refine iM fun _=>?_)|refine dA ?_|refine And.intro rfl ?_|refine aD ?_|refine aR ?_|refine bP ?_|(refine iA fun _=>?_)|refine IdxK.xs (by omega) ?_|refine QZ (by omega) ?_|(refine ByteK.at (by omega) ?_)|refine wI ?_|refine QE (es:=[]) rfl (by simp) ?_|refine QE (by simp) (by simp;omega) ?_);conv=>whnf)|(apply bD<;>intro _<;>first|omega|conv=>whnf)|(apply bE<;>intro _<;>first|omega|conv=>whnf)|(apply bN<;>intro _<;>conv=>whnf)|(apply bB<;>intro _<;>conv=>whnf))
 all_goals
  refine LoopK.inv QJ (fun x:Nat×List Str=>⟨[(0,.p (.ip b.cells)),(1,.p (.int .i64 i)),(5,.hd 0 0 x.2.length),(6,.p (q5r net)),(27,.p (eStrs L)),(28,.p (.int .i64 (L.map AV.str).length)),(29,.p (.int .i64 x.1))],[(0,.own 9 1 (x.2.map .str))]⟩) (fun x=>x.1<=L.length∧x.2=(L.take x.1).filter ned∧x.2.length<=x.1) (fun x=>L.length-x.1) (0,[])
   (by first
     | exact Le.trans (Le.of_eq (by rw [hL,hnil];rfl)) (fzL (L:=L) rfl)
     | exact Le.trans (Le.of_eq (by rw [hL];simp only [List.map_append,length_append];rfl)) (fzL (L:=L) rfl)
     | trace_state) ⟨zero_le _,by simp,by simp⟩ ?_
  rintro ⟨j,acc⟩ ⟨h2,h3,h4⟩;simp only at h2 h3 h4 ⊢;have hlm:(L.map AV.str).length=L.length:=length_map _;rcases Nat.lt_or_ge j L.length with hj|hj
  ·have hst:=List.take_succ_eq_append_getElem hj;have hNj:=hN L[j];have e5:(L.map AV.str)[j]? = some (.str L[j]):=by simp [hj]
   cases hnd:ned L[j];all_goals
    rw [hnd] at hNj;conv=>whnf
    repeat' (first|((first|(refine iM fun _=>?_)|refine dA ?_|refine And.intro rfl ?_|refine aD ?_|refine aR ?_|refine bP ?_|(refine iA fun _=>?_)|refine IdxK.xs (by omega) ?_|refine QZ (by omega) ?_|(refine ByteK.at (by omega) ?_)|refine wI ?_|(refine IdxK.at (k:=j) rfl e5 rfl ?_)|refine cP hNj ?_|refine QE (by simp) (by rw [length_map];omega) ?_|refine Br.tt ?_|refine Br.ff ?_);conv=>whnf)|(apply bD<;>intro _<;>first|omega|conv=>whnf)|(apply bE<;>intro _<;>first|omega|conv=>whnf)|(apply bN<;>intro _<;>conv=>whnf)|(apply bB<;>intro _<;>conv=>whnf))
   all_goals first
    | exact ⟨(j+1,acc++[L[j]]),⟨hj,by simp only;rw [hst,List.filter_append,List.filter_cons_of_pos hnd,h3];rfl,by simp;omega⟩,by simp only;omega,Le.of_eq (by simp only [length_append,List.map_append];rfl)⟩
    | exact ⟨(j+1,acc),⟨hj,by simp only;rw [hst,List.filter_append,List.filter_cons_of_neg (by rw [hnd];decide),h3];simp,by simp only;omega⟩,by simp only;omega,Le.of_eq rfl⟩
    | trace_state
  ·rw [take_of_length_le hj] at h3;subst h3;conv=>whnf
   repeat' (first|((first|(refine iM fun _=>?_)|refine dA ?_|refine And.intro rfl ?_|refine aD ?_|refine aR ?_|refine bP ?_|(refine iA fun _=>?_)|refine IdxK.xs (by omega) ?_|refine QZ (by omega) ?_|(refine ByteK.at (by omega) ?_)|refine wI ?_);conv=>whnf)|(apply bD<;>intro _<;>first|omega|conv=>whnf)|(apply bE<;>intro _<;>first|omega|conv=>whnf)|(apply bN<;>intro _<;>conv=>whnf)|(apply bB<;>intro _<;>conv=>whnf))
   all_goals exact RetHK.mk _ (LSub.refl _) (OneRow.str rfl)
def bkI (p:Pg) (I:List (List Str)):Book:=⟨sheetOf p,[],[],[],I,[]⟩
def usB (p:Pg) (I:List (List Str)):List (List Str):=(sheetOf p).l.map fun it=>XA (DH (bkI p I) it.s)
def niA (p:Pg) (D U O:List (List Str)) (i:Nat):List Str:=XA (x9d p i (prA p i) D U (O.getD i []))
def niB (p:Pg) (D U O:List (List Str)):List (List Str):=(List.range p.procs.length).map (niA p D U O)
def rdI (p:Pg) (D O I:List (List Str)):List (List Str):=niB p D (usB p I) O
def itI (p:Pg) (D O:List (List Str)):Nat->List (List Str)
 | 0=>List.replicate p.procs.length []
 | k+1=>rdI p D O (itI p D O k)
structure OkI (p:Pg) (I:List (List Str)):Prop where
 len:I.length=p.procs.length
 rise : ∀ o∈I,o.Pairwise ltT
 sub : ∀ i,∀ n∈I.getD i [],comB p n=true
theorem OkI.len25 {p:Pg} {I:List (List Str)} (hc:XB p=true) (h:OkI p I) (i:Nat):(I.getD i []).length<=25:=by
 have h2:=GV (m:=tapeS::p.globals) (KF (UN h.rise i)) fun n hn=>by
  rcases PE.1 (h.sub i n hn) with rfl|h3
  ·exact mem_cons_self
  ·exact mem_cons_of_mem _ h3
 have h4:=(ZP hc).1;rw [length_cons] at h2;omega
theorem OkI.use {p:Pg} {I:List (List Str)} (hc:XB p=true) (h:OkI p I) {b:Book} (hs:b.s=sheetOf p) (hi:b.ins=I) {t:S} (ht:t∈WP p) (h4:t.kind=4):UseOk b t:=by
 obtain ⟨k,hk,h1,_⟩:=q2f hc ht h4;have h6:=(PW hc ht h4).2;have e:b.s.p=p:=by rw [hs];exact (QK p).1
 have hI:inAt b t=I.getD (caI p t).toNat []:=by unfold inAt;rw [e,hi]
 refine ⟨by rw [e];omega,by rw [e,hi,h.len];omega,by omega,?_⟩;rw [hI];have:=h.len25 hc (caI p t).toNat;omega
theorem z5o {p:Pg} {I:List (List Str)} {b:Book} (hs:b.s=sheetOf p) (hi:b.ins=I) (t:S):DH b t=DH (bkI p I) t:=by
 unfold DH inAt bkI;rw [hs,hi]
theorem z5r {p:Pg} {I I':List (List Str)} (h:leO I I') {t:S} {n:Str} (hn:n∈DH (bkI p I) t):n∈DH (bkI p I') t:=by
 unfold DH at hn ⊢;split at hn
 ·rw [if_pos (by assumption)];rcases List.mem_append.1 hn with hn|hn
  ·exact List.mem_append_left _ hn
  ·exact List.mem_append_right _ (h _ _ hn)
 ·rw [if_neg (by assumption)];exact hn
theorem w1l {p:Pg} {I I':List (List Str)} (h:leO I I'):leO (usB p I) (usB p I'):=fun i n hn=>by
 obtain ⟨it,h1,h2⟩:=WY.1 hn;exact WY.2 ⟨it,h1,XX.2 (z5r h (XX.1 h2))⟩
theorem z4o {p:Pg} {i:Nat} {f:Pr} {U U':List (List Str)} {o:List Str} {x:Str} (h:leO U U') {a:Int} (ha:hitN p i f U o x a=true):hitN p i f U' o x a=true:=by
 unfold hitN at ha ⊢;cases h1:decide (a=(cntL f.body+2:Nat)-1) with
 | true=>rw [h1] at ha;exact ha
 | false =>
   rw [h1] at ha;cases h2:decide (0<a) with
   | true =>
     rw [h2] at ha;exact YG.2 (h _ _ (YG.1 ha))
   | false=>rw [h2] at ha;cases ha
theorem q4i {p:Pg} {D U O:List (List Str)} {i:Nat} (hi:i<p.procs.length) {n:Str}:n∈(niB p D U O).getD i []↔comB p n=true∧x8a p i (prA p i) D U (O.getD i []) n=true:=by
 unfold niB;rw [WY];have e:n∈niA p D U O i↔comB p n=true∧x8a p i (prA p i) D U (O.getD i []) n=true:=by
  unfold niA x9d;rw [XX,List.mem_filter,PE,List.mem_append,List.mem_singleton,or_comm]
 rw [<- e];constructor
 ·rintro ⟨x,h1,h2⟩;rw [List.getElem?_range hi] at h1;cases h1;exact h2
 ·exact fun h=>⟨i,List.getElem?_range hi,h⟩
theorem x0k {p:Pg} {D U O:List (List Str)} {i:Nat} (hi : ¬i<p.procs.length) {n:Str} (h:n∈(niB p D U O).getD i []):False:=by
 obtain ⟨x,h1,_⟩:=WY.1 h;rw [List.getElem?_eq_none (by simpa using hi)] at h1;cases h1
theorem z9z {p:Pg} (hc:XB p=true) {D O I I':List (List Str)} (h:leO I I'):leO (rdI p D O I) (rdI p D O I'):=fun i n hn=>by
 by_cases hi:i<p.procs.length
 ·obtain ⟨h1,h2⟩:=(q4i hi).1 hn;obtain ⟨a,h3,h4⟩:=(GF hc (x8j hi)).1 h2;exact (q4i hi).2 ⟨h1,(GF hc (x8j hi)).2 ⟨a,h3,z4o (w1l h) h4⟩⟩
 ·exact (x0k hi hn).elim
theorem w2n {p:Pg} (hc:XB p=true) (D O:List (List Str)) : ∀ k,leO (itI p D O k) (itI p D O (k+1))
 | 0=>fun i n hn=>by
   unfold itI at hn;rw [getD_eq_getElem?_getD,List.getElem?_replicate] at hn;split at hn<;>cases hn
 | k+1=>z9z hc (w2n hc D O k)
theorem w1e (p:Pg) (D U O:List (List Str)):OkI p (niB p D U O):=by
 refine ⟨by unfold niB;rw [length_map,List.length_range],fun o ho => ?_,fun i n hn => ?_⟩
 ·obtain ⟨i,_,rfl⟩:=List.mem_map.1 ho;exact WJ _
 ·by_cases hi:i<p.procs.length
  ·exact ((q4i hi).1 hn).1
  ·exact (x0k hi hn).elim
theorem q3q (p:Pg) (D O:List (List Str)) : ∀ k,OkI p (itI p D O k)
 | 0=>by
   refine ⟨by unfold itI;rw [List.length_replicate],fun o ho => ?_,fun i n hn => ?_⟩
   ·rw [List.eq_of_mem_replicate ho];exact .nil
   ·unfold itI at hn;rw [getD_eq_getElem?_getD,List.getElem?_replicate] at hn;split at hn<;>cases hn
 | k+1=>w1e p _ _ _
theorem OkI.tot {p:Pg} {I:List (List Str)} (hc:XB p=true) (h:OkI p I):Go.Ab.tot I<=400:=by
 have h1:=q8d (O:=I) fun o ho=>by
  obtain ⟨i,hi,rfl⟩:=List.mem_iff_getElem.1 ho;have:=h.len25 hc i
  rwa [getD_eq_getElem?_getD,List.getElem?_eq_getElem hi] at this
 have h2:=(ZP hc).2.1;rw [h.len] at h1;omega
theorem x7r {p:Pg} (hc:XB p=true) {D O:List (List Str)} {k:Nat} (h:itI p D O (k+1)≠itI p D O k):Go.Ab.tot (itI p D O k)<Go.Ab.tot (itI p D O (k+1)):=by
 obtain ⟨h1,h2⟩:=z3h (O:=itI p D O k) (O':=itI p D O (k+1)) (by rw [(q3q p D O k).len,(q3q p D O (k+1)).len]) (q3q p D O k).rise (q3q p D O (k+1)).rise (w2n hc D O k);rcases Nat.lt_or_ge (Go.Ab.tot (itI p D O k)) (Go.Ab.tot (itI p D O (k+1))) with h3|h3
 ·exact h3
 ·exact absurd (h2 h3).symm h
def wysB (p:Pg):List Way:=(List.range p.procs.length).map fun i=>QX p i (prA p i)
theorem x5a {p:Pg} {i:Nat} (h:i<p.procs.length):(wysB p)[i]? = some (QX p i (prA p i)):=by
 unfold wysB;rw [List.getElem?_map,List.getElem?_range h];rfl
structure BookR (p:Pg) (b:Book):Prop where
 s:b.s=sheetOf p
 ways:b.ways=wysB p
 outs : ∃ k,b.outs=itO p k
 fixO:rdO p b.outs=b.outs
 defs:b.defs=dfB p b.outs
 ins : ∃ k,b.ins=itI p b.defs b.outs k
 fixI:rdI p b.defs b.outs b.ins=b.ins
 uses:b.uses=usB p b.ins
theorem PF {p:Pg} {k:Nat} (h:rdO p (itO p k)=itO p k) : ∀ m,itO p (k+m)=itO p k
 | 0=>rfl
 | m+1=>by
   show rdO p (itO p (k+m))=_;rw [PF h m,h]
theorem ND {p:Pg} {D O:List (List Str)} {k:Nat} (h:rdI p D O (itI p D O k)=itI p D O k) : ∀ m,itI p D O (k+m)=itI p D O k
 | 0=>rfl
 | m+1=>by
   show rdI p D O (itI p D O (k+m))=_;rw [ND h m,h]
theorem BookR.uniq {p:Pg} {b c:Book} (hb:BookR p b) (hc:BookR p c):b=c:=by
 obtain ⟨k,hk⟩:=hb.outs;obtain ⟨m,hm⟩:=hc.outs;have ho:b.outs=c.outs:=by
  have h1:=PF (p:=p) (k:=k) (by rw [<- hk];exact hb.fixO) m;have h2:=PF (p:=p) (k:=m) (by rw [<- hm];exact hc.fixO) k;rw [hk,hm,<- h1,<- h2,Nat.add_comm]
 have hd:b.defs=c.defs:=by rw [hb.defs,hc.defs,ho]
 obtain ⟨k,hk⟩:=hb.ins;obtain ⟨m,hm⟩:=hc.ins;have hi:b.ins=c.ins:=by
  have hf1:=hb.fixI;have hf2:=hc.fixI;rw [<- ho,<- hd] at hm hf2;have h1:=ND (p:=p) (D:=b.defs) (O:=b.outs) (k:=k) (by rw [<- hk];exact hf1) m;have h2:=ND (p:=p) (D:=b.defs) (O:=b.outs) (k:=m) (by rw [<- hm];exact hf2) k;rw [hk,hm,<- h1,<- h2,Nat.add_comm]
 have hu:b.uses=c.uses:=by rw [hb.uses,hc.uses,hi]
 have hs:b.s=c.s:=by rw [hb.s,hc.s]
 have hw:b.ways=c.ways:=by rw [hb.ways,hc.ways]
 cases b;cases c;simp only at ho hd hi hu hs hw;subst ho hd hi hu hs hw;rfl
noncomputable def QF (p:Pg):Book := @Classical.epsilon _ ⟨bkO p []⟩ (BookR p)
theorem BookR.eq {p:Pg} {b:Book} (h:BookR p b):b=QF p:=h.uniq (@Classical.epsilon_spec _ (BookR p) ⟨b,h⟩)
theorem w3b {p:Pg} (hc:XB p=true) : ∃ k,itO p (k+1)=itO p k:=by
 refine Classical.byContradiction fun hno => ?_;have h1 : ∀ k,k<=Go.Ab.tot (itO p k):=fun k=>by
  induction k with
  | zero=>exact zero_le _
  | succ k ih =>
    have:=x9p (p:=p) (k:=k) fun he=>hno ⟨k,he⟩;omega
 have h2:=(q3i p 401).tot hc;have h3:=h1 401;omega
theorem w4s {p:Pg} (hc:XB p=true) (D O:List (List Str)) : ∃ k,itI p D O (k+1)=itI p D O k:=by
 refine Classical.byContradiction fun hno => ?_;have h1 : ∀ k,k<=Go.Ab.tot (itI p D O k):=fun k=>by
  induction k with
  | zero=>exact zero_le _
  | succ k ih =>
    have:=x7r hc (p:=p) (D:=D) (O:=O) (k:=k) fun he=>hno ⟨k,he⟩;omega
 have h2:=(q3q p D O 401).tot hc;have h3:=h1 401;omega
theorem KO {p:Pg} (hc:XB p=true):BookR p (QF p):=by
 obtain ⟨k,hk⟩:=w3b hc;obtain ⟨m,hm⟩:=w4s hc (dfB p (itO p k)) (itO p k);have hb:BookR p ⟨sheetOf p,wysB p,dfB p (itO p k),usB p (itI p (dfB p (itO p k)) (itO p k) m),itI p (dfB p (itO p k)) (itO p k) m,itO p k⟩:=⟨rfl,rfl,⟨k,rfl⟩,hk,rfl,⟨m,rfl⟩,hm,rfl⟩;rw [<- hb.eq];exact hb
theorem x0j {p:Pg} (hc:XB p=true):OkO p (QF p).outs∧OkI p (QF p).ins:=by
 have hb:=KO hc;obtain ⟨k,hk⟩:=hb.outs;obtain ⟨m,hm⟩:=hb.ins;exact ⟨hk▸q3i p k,hm▸q3q p _ _ m⟩
section
variable {p:Pg} {j:Nat} {f:Pr}
theorem w7d {O:List (List Str)} {t:S}:caO (bkO p O) t=O.getD (caI p t).toNat []:=rfl
theorem z5j {I:List (List Str)} {t:S}:inAt (bkI p I) t=I.getD (caI p t).toNat []:=rfl
theorem x2d {O:List (List Str)} {t:S} (h4:t.kind=4) {n:Str}:n∈FR (bkO p O) t↔(n=t.name∧t.name≠[])∨n∈x8m t (caP p t) (O.getD (caI p t).toNat []) t.args.length∨(n∈O.getD (caI p t).toNat []∧comB p n=true):=by
 have e:FR (bkO p O) t=w1s p t (caP p t) (caO (bkO p O) t):=by
  unfold FR;rw [if_neg (by omega),if_neg (by omega),if_neg (by omega),if_pos h4];rfl
 rw [e,w7d];unfold w1s;rw [List.mem_append,List.mem_append,List.mem_filter,or_assoc];by_cases h:t.name=[]
 ·rw [if_pos h];simp [h]
 ·rw [if_neg h];simp [h]
end
section
variable {a b:Str} {p:Pg} {j:Nat} {f:Pr}
theorem x7w:(XH a b f).body=swL a b f.body:=rfl
theorem q9g:cntL (XH a b f).body=cntL f.body:=by rw [x7w,JD]
theorem z9e:itsOf (QS a b p) j (XH a b f)=(itsOf p j f).map (swI a b):=by
 unfold itsOf;rw [show (QS a b p).procs=p.procs.map (XH a b) from rfl,LY,x7w,q4h]
theorem x0h:(QX (QS a b p) j (XH a b f)).n=(QX p j f).n:=by rw [PI];rfl
theorem x1h (n:Int):XT (QS a b p) j n=XT p j n:=by
 funext i;unfold XT;rw [z5y]
theorem z4q:prsW (QX (QS a b p) j (XH a b f)) (XH a b f)=prsW (QX p j f) f:=by
 rw [LH,LH,z6w,x7w,JD,PI];rfl
theorem z6i:trapsW (QX (QS a b p) j (XH a b f)) (XH a b f)=trapsW (QX p j f) f:=by
 have h1:WV (QX (QS a b p) j (XH a b f)) (XH a b f)=WV (QX p j f) f:=by
  unfold WV;rw [z4q,x0h]
 unfold trapsW;rw [h1,z4q,x0h,show (QX (QS a b p) j (XH a b f)).p=QS a b p from rfl,show (QX (QS a b p) j (XH a b f)).j=j from rfl,x1h];rfl
theorem w6x (id:Int):vOf (QS a b p) id=vOf p id:=by
 unfold vOf;rw [w4i];cases z8k p id with
 | none=>rfl
 | some s=>simp only [Option.map_some,ZH]
end
section
variable {a b:Str} {p:Pg} {j:Nat} {f:Pr}
def SwR (a b:Str) (O' O:List (List Str)):Prop := ∀ i n,n∈O'.getD i []↔QQ a b n∈O.getD i []
theorem FA (R:Ren a b):QQ a b tapeS=tapeS:=by
 have h:=R.name tapeS;unfold QQ;split
 ·rename_i h1;exfalso;have h2:=R.na;rw [<- eq_of_beq h1] at h2;exact absurd h2 (by decide)
 ·split
  ·rename_i h1;exfalso;have h2:=R.nb;rw [<- eq_of_beq h1] at h2;exact absurd h2 (by decide)
  ·rfl
theorem z5i (R:Ren a b):QQ a b retS=retS:=by
 unfold QQ;split
 ·rename_i h1;exfalso;have h2:=R.na;rw [<- eq_of_beq h1] at h2;exact absurd h2 (by decide)
 ·split
  ·rename_i h1;exfalso;have h2:=R.nb;rw [<- eq_of_beq h1] at h2;exact absurd h2 (by decide)
  ·rfl
theorem KW {l:List Str} {n:Str}:n∈l.map (QQ a b)↔QQ a b n∈l:=by
 constructor
 ·intro h;obtain ⟨m,hm,rfl⟩:=List.mem_map.1 h
  rwa [XK]
 ·intro h;exact List.mem_map.2 ⟨_,h,XK a b n⟩
theorem JZ {n m:Str}:n=QQ a b m↔QQ a b n=m:=by
 constructor
 ·rintro rfl;exact XK a b m
 ·rintro rfl;exact (XK a b n).symm
theorem z2l (R:Ren a b) {n:Str}:comB (QS a b p) n=comB p (QQ a b n):=by
 refine Bool.eq_iff_iff.2 ?_;rw [PE,PE,show (QS a b p).globals=p.globals.map (QQ a b) from rfl,KW,<- JZ,FA R]
theorem z3x (t:S):caI (QS a b p) (swS a b t)=caI p t:=by
 unfold caI;rw [KT,show (QS a b p).procs=p.procs.map (XH a b) from rfl];unfold q0t;rw [List.any_map,List.findIdx_map];have e:((fun g:Pr=>g.name==QQ a b t.proc)∘XH a b)=fun g=>g.name==t.proc:=by
  funext g;exact VN a b g.name t.proc
 rw [e]
theorem q7s (i:Nat):(QS a b p).procs.getD i Pr0=if i<p.procs.length then XH a b (p.procs.getD i Pr0) else Pr0:=by
 rw [show (QS a b p).procs=p.procs.map (XH a b) from rfl,getD_eq_getElem?_getD,getD_eq_getElem?_getD,List.getElem?_map];split
 ·rename_i h;rw [List.getElem?_eq_getElem h];rfl
 ·rename_i h;rw [List.getElem?_eq_none (by omega)];rfl
theorem z3z {i:Nat} (hi:i<p.procs.length):prA (QS a b p) i=XH a b (prA p i):=by
 unfold prA;rw [q7s,if_pos hi]
theorem z6l (R:Ren a b) {n:Str}:outB (QS a b p) (XH a b f) n=outB p f (QQ a b n):=by
 refine Bool.eq_iff_iff.2 ?_;rw [q8t,q8t,show (QS a b p).globals=p.globals.map (QQ a b) from rfl,KW,<- JZ,FA R];refine or_congr Iff.rfl ?_;rw [show (XH a b f).params=f.params.map (q5n a b) from rfl,List.mem_map];constructor
 ·rintro ⟨m,hm,he⟩;cases m;simp only [q5n,Param.mk.injEq] at he;obtain ⟨rfl,rfl⟩:=he
  rwa [XK]
 ·intro h;exact ⟨_,h,by simp only [q5n,XK]⟩
theorem w4w {t:S} {g:Pr} {O O':List Str} (hO : ∀ n,n∈O'↔QQ a b n∈O) {n:Str}:n∈x8m (swS a b t) (XH a b g) O' (swS a b t).args.length↔QQ a b n∈x8m t g O t.args.length:=by
 rw [q2j,q2j,FC,show (XH a b g).params=g.params.map (q5n a b) from rfl,length_map,List.zip_map,<- List.map_take];constructor
 ·rintro ⟨x,hx,⟨h1,h2⟩,rfl⟩;obtain ⟨⟨u,v⟩,hy,rfl⟩:=List.mem_map.1 hx;exact ⟨(u,v),hy,⟨h1,by have h5:QQ a b (QQ a b v.name)∈O:=(hO _).1 h2;rwa [XK] at h5⟩,(XK a b u.name).symm⟩
 ·rintro ⟨⟨u,v⟩,hy,⟨h1,h2⟩,h3⟩;refine ⟨(swA a b u,q5n a b v),List.mem_map.2 ⟨(u,v),hy,rfl⟩,⟨h1,(hO _).2 ?_⟩,?_⟩
  ·show QQ a b (QQ a b v.name)∈O
   rwa [XK]
  ·exact (JZ.2 h3.symm).symm
theorem w5p (R:Ren a b) (hc:XB p=true) {O O':List (List Str)} (hO:SwR a b O' O) {t:S} (ht:t∈WP p) {n:Str}:n∈FR (bkO (QS a b p) O') (swS a b t)↔QQ a b n∈FR (bkO p O) t:=by
 by_cases h4:t.kind=4
 ·rw [x2d h4,x2d (by rw [ZH];exact h4),z3x,KA,z2l R];obtain ⟨k,hk,h1,_⟩:=q2f hc ht h4;have e1:caP (QS a b p) (swS a b t)=XH a b (caP p t):=by
   unfold caP;rw [z3x,q7s,if_pos (by omega)]
  rw [e1];refine or_congr ?_ (or_congr (w4w fun n=>hO _ n) ?_)
  ·rw [<- JZ];refine and_congr_right fun _=>not_congr ?_;have:=R.isNil t.name;rw [<- beq_iff_eq (a:=QQ a b t.name),this,beq_iff_eq]
  ·exact and_congr (hO _ n) Iff.rfl
 ·unfold FR;rw [ZH,KA];by_cases h1:t.kind=1
  ·rw [if_pos h1,if_pos h1,List.mem_singleton,List.mem_singleton,<- JZ]
  rw [if_neg h1,if_neg h1];by_cases h2:t.kind=2
  ·rw [if_pos h2,if_pos h2];simp only [List.mem_cons,List.not_mem_nil,or_false];rw [<- JZ,<- JZ,FA R]
  rw [if_neg h2,if_neg h2];by_cases h9:t.kind=9
  ·rw [if_pos h9,if_pos h9,List.mem_singleton,List.mem_singleton,<- JZ,z5i R]
  rw [if_neg h9,if_neg h9,if_neg h4,if_neg h4];exact ⟨fun h=>(by cases h),fun h=>(by cases h)⟩
theorem w1r (R:Ren a b) (hc:XB p=true) {O O':List (List Str)} (hO:SwR a b O' O):SwR a b (dfB (QS a b p) O') (dfB p O):=fun i n=>by
 unfold dfB;rw [WY,WY,NV,List.getElem?_map];cases hi:(sheetOf p).l[i]? with
 | none=>simp
 | some it =>
   have ht:it.s∈WP p:=by rw [<- YI];exact List.mem_map.2 ⟨_,List.mem_of_getElem? hi,rfl⟩
   have h1:=w5p R hc hO ht (n:=n);constructor
   ·rintro ⟨x,hx,h2⟩;cases hx;exact ⟨it,rfl,XX.2 (h1.1 (XX.1 h2))⟩
   ·rintro ⟨x,hx,h2⟩;cases hx;exact ⟨swI a b it,rfl,XX.2 (h1.2 (XX.1 h2))⟩
theorem w7e (x:Int):ixI (QS a b p) j (XH a b f) x=ixI p j f x:=by
 unfold ixI;rw [z5y,w2u,q9g]
theorem w2j {i:Nat} (hi:i<p.procs.length) (id:Int):lvB (QS a b p) i id=lvB p i id:=by
 unfold lvB;rw [z3z hi,PI,w7e];rfl
theorem w5o (R:Ren a b) {D D':List (List Str)} (hD:SwR a b D' D):SwR a b (otB (QS a b p) D') (otB p D):=fun i n=>by
 have hl:(QS a b p).procs.length=p.procs.length:=length_map _;by_cases hi:i<p.procs.length
 ·rw [q2c (by rw [hl];exact hi),q2c hi,z3z hi,z9e];constructor
  ·rintro ⟨it,h1,h2,h3,h4⟩;obtain ⟨u,hu,rfl⟩:=List.mem_map.1 h1;rw [show (swI a b u).s.id=u.s.id from HA a b u.s] at h2 h3;rw [w2j hi] at h2;rw [z6l R] at h4;exact ⟨u,hu,h2,(hD _ _).1 h3,h4⟩
  ·rintro ⟨u,hu,h2,h3,h4⟩;refine ⟨swI a b u,List.mem_map.2 ⟨u,hu,rfl⟩,?_,?_,by rw [z6l R];exact h4⟩
   ·rw [w2j hi,show (swI a b u).s.id=u.s.id from HA a b u.s];exact h2
   ·rw [show (swI a b u).s.id=u.s.id from HA a b u.s];exact (hD _ _).2 h3
 ·have e : ∀ (q:Pg) (D:List (List Str)) (m:Str),¬i<q.procs.length -> ¬m∈(otB q D).getD i []:=fun q D m h hm=>by
   obtain ⟨x,h1,_⟩:=WY.1 hm;rw [List.getElem?_eq_none (by simpa using h)] at h1;cases h1
  exact ⟨fun h=>absurd h (e _ _ _ (by rw [hl];exact hi)),fun h=>absurd h (e _ _ _ hi)⟩
theorem w3q (R:Ren a b) (hc:XB p=true) : ∀ k,SwR a b (itO (QS a b p) k) (itO p k)
 | 0=>fun i n=>by
   have e : ∀ (m:Nat) (x:Str),¬x∈(List.replicate m ([]:List Str)).getD i []:=fun m x h=>by
    rw [getD_eq_getElem?_getD,List.getElem?_replicate] at h;split at h<;>cases h
   exact ⟨fun h=>absurd h (e _ _),fun h=>absurd h (e _ _)⟩
 | k+1=>w5o R (w1r R hc (w3q R hc k))
end
end Go.Ab
