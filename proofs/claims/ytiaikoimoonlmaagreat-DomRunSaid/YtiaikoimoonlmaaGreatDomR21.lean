/- ref3: main alone, without calls, without jumps. -/
import Derived.Test.YtiaikoimoonlmaaGreatDomR5
import Derived.Test.YtiaikoimoonlmaaGreatDomR9
import Derived.Test.YtiaikoimoonlmaaGreatDomR10
import Derived.Test.YtiaikoimoonlmaaGreatDomR13
import Derived.Test.YtiaikoimoonlmaaGreatDomR16
import Derived.Test.YtiaikoimoonlmaaGreatDomR19
import Derived.Test.YtiaikoimoonlmaaGreatDomR20
set_option linter.unusedSimpArgs false
set_option linter.unusedVariables false
set_option maxRecDepth 100000
set_option maxHeartbeats 16000000
open Int (toNat_natCast)
open List (Pairwise append_nil flatMap_cons getD_eq_getElem?_getD length_append length_map length_take mem_cons mem_cons_of_mem mem_cons_self nodup_append not_mem_nil pairwise_map)
open Nat (zero_le)
namespace Go.Ab
open Go.Proofs
def PI (b:Bool) (p:Pg) (j:Nat):List Pr:=((p.procs.take j).filter fun f=>f.name==mainS).map (w9r b)
theorem z2a (b:Bool) (p:Pg) {j:Nat} (hj:j<p.procs.length):PI b p (j+1)=PI b p j++(if p.procs[j].name==mainS then [w9r b p.procs[j]] else []):=by
 unfold PI;rw [List.take_succ_eq_append_getElem hj,List.filter_append,List.map_append];congr 1;cases h:p.procs[j].name==mainS<;>simp [h]
theorem z9f (b:Bool) (p:Pg) (j:Nat):(PI b p j).length<=j:=by
 unfold PI;rw [length_map];exact Nat.le_trans (List.length_filter_le _ _) (by rw [length_take];omega)
def v0g (b:Bool) (p:Pg) (j:Nat):St:=⟨[(1,.p (.bool b)),(4,.ptr 1 0),(5,.ptr 0 0),(14,.hd 26 0 p.procs.length),(15,.p (.int .i64 p.procs.length)),(16,.p (.int .i64 j))],[(26,.own 90 5 (p.procs.map fun f => .agg f.cells)),(0,.obj 25 [.p (QP p.globals),.hd 2 0 (PI b p j).length]),(1,.obj 25 [.p .nils,.p .nils]),(2,.own 90 5 ((PI b p j).map fun f => .agg f.cells))]⟩
def v2f (b:Bool) (p:Pg) (j:Nat):St:=⟨[(1,.p (.bool b)),(4,.ptr 1 0),(5,.ptr 0 0),(14,.hd 26 0 p.procs.length),(15,.p (.int .i64 p.procs.length)),(16,.p (.int .i64 j))],[(26,.own 90 5 (p.procs.map fun f => .agg f.cells)),(0,.obj 25 [.p (QP p.globals),.p (.sl ((PI b p j).map fun f => .agg f.cells))]),(1,.obj 25 [.p .nils,.p .nils])]⟩
theorem v3x {N:Nat} (b:Bool) (p:Pg) (j:Nat):Le N (v0g b p j) (v2f b p j):=by
 refine x6y (k:=2) (q:=0) (cs:=[QP p.globals,.sl ((PI b p j).map fun f => .agg f.cells)]) rfl rfl rfl (fun i l c h1 h2 => ?_) (fun i => ?_) ?_ fun i c' hm => ?_
 ·match i,h1,h2 with
  | 0,h1,h2=>cases h1;cases h2;exact .inl ⟨_,rfl,Sub.refl _⟩
  | 1,h1,h2=>cases h1;cases h2;exact .inr ⟨_,rfl,by rw [length_map],rfl⟩
  | i+2,h1,h2=>simp at h1
 ·refine q3g (fun x hx => ?_) i;simp only [mem_cons,not_mem_nil,or_false] at hx;rcases hx with rfl|rfl|rfl|rfl|rfl|rfl<;>rfl
 ·show [26,0,1].Sublist [26,0,1,2];decide
 ·simp only [mem_cons,not_mem_nil,or_false,Prod.mk.injEq] at hm;rcases hm with ⟨rfl,rfl⟩|⟨rfl,rfl⟩|⟨rfl,rfl⟩
  ·exact ⟨by decide,.inr ⟨mem_cons_self,rfl⟩⟩
  ·exact ⟨by decide,.inl ⟨rfl,rfl⟩⟩
  ·exact ⟨by decide,.inr ⟨mem_cons_of_mem _ (mem_cons_of_mem _ mem_cons_self),rfl⟩⟩
theorem MR (b:Bool) (p:Pg) (h:CopyF p) (hn:0<p.procs.length) (hN:CopyF (onlyRaw b p)) (hc:cntP (onlyRaw b p).procs<=100000):SpecP Tryz.prog 32 [.agg p.cells,.bool b] (fun r=>r = .agg (onlyPg b p).cells):=by
 refine sB BH Tryz.func32 rfl Tryz.call32 ?_;conv=>whnf
 have hgt:=XZ p.globals h.globals;have hpm:(p.procs.map fun f=>AV.agg f.cells).length=p.procs.length:=length_map _;have hpl:=h.procs;repeat' ((first|(refine iM fun _=>?_)|refine And.intro rfl ?_|refine cP hgt ?_|(refine CallK.heap [] 20 (ArgsH.cons (LSub.refl _) ArgsH.nil) BlksH.nil (JL p h) rfl rfl ?_;rintro l' H' ⟨rfl,rfl⟩));conv=>whnf)
 refine LoopK.inv QV (fun x:Nat×Bool=>if x.2 then v2f b p x.1 else v0g b p x.1) (fun x=>x.1<=p.procs.length∧(x.2=false->x.1<p.procs.length)∧(x.2=true->x.1=p.procs.length)) (fun x=>p.procs.length-x.1) (0,false)
  (Le.mk [(2,.own 90 5 [])] (by simp [Chunk.new0];rfl) (by simp) (by simp) (.cons (.refl _) (.cons (.refl _) (.cons (.refl _) (.cons (.refl _) (.cons (.refl _) (.cons (.refl _) .nil)))))) (.cons rfl (.refl _) (.cons rfl (.obj (.cons (.refl _) (.cons (.nil mem_cons_self) .nil))) (.cons rfl (.refl _) (.new mem_cons_self .nil))))) ⟨zero_le _,fun _=>hn,fun h=>by cases h⟩ ?_
 rintro ⟨j,m⟩ ⟨h2,h3,h4⟩;simp only at h2 h3 h4;cases m with
 | false =>
   have hj:=h3 rfl;obtain ⟨hv,hfin,hpm2,hcb,hok⟩:=h.pr _ (List.getElem_mem hj);have h7:=MP b (cntL p.procs[j].body+1) p.procs[j].body (by omega) (by omega) fun t ht=>(hok t ht).1;have hget:(p.procs.map fun f=>AV.agg f.cells)[j]? = some (.agg p.procs[j].cells):=by rw [List.getElem?_map,List.getElem?_eq_getElem hj];rfl
   have hsucc:=z2a b p hj;have hlr:=z9f b p j;have fin : ∃ x:Nat×Bool,(x.1<=p.procs.length∧(x.2=false->x.1<p.procs.length)∧(x.2=true->x.1=p.procs.length))∧p.procs.length-x.1<p.procs.length-j∧Le Tryz.f32.ntmps (v0g b p (j+1)) (if x.2 then v2f b p x.1 else v0g b p x.1):=by
    rcases Nat.lt_or_ge (j+1) p.procs.length with hj1|hj1
    ·exact ⟨(j+1,false),⟨by simp only;omega,fun _=>hj1,fun h=>by cases h⟩,by simp only;omega,Le.of_eq rfl⟩
    ·exact ⟨(j+1,true),⟨by simp only;omega,(fun h=>by cases h),fun _=>by simp only;omega⟩,by simp only;omega,v3x b p (j+1)⟩
   obtain ⟨x,hx1,hx2,hx3⟩:=fin;unfold v0g at hx3 ⊢;rw [hsucc] at hx3;have hrl:((PI b p j).map fun f=>AV.agg f.cells).length=(PI b p j).length:=length_map _;generalize PI b p j=row at hx3 hlr hrl ⊢;cases hm:p.procs[j].name==mainS with
   | true =>
     rw [hm,if_pos rfl,List.map_append,length_append] at hx3;have hm':(p.procs[j].name==([109,97,105,110]:Str))=true:=hm;cases b <;>
     conv=>whnf
     repeat' (first|((first|refine And.intro rfl ?_|refine aD ?_|refine bP ?_|refine wI ?_|refine LdOwn.mk j 0 (.agg p.procs[j].cells) (by show (0+j)*5=j*5+0;omega) hget ?_|refine IdxL.mk j rfl hj ?_|(refine CallK.pure h7 (.cons (Sub.refl _) (.cons (by first|exact Sub.refl _|exact Sub.tt rfl|exact Sub.ff rfl) .nil)) ?_;rintro _ rfl)|refine AppK.mk hrl.symm rfl (by show (row.length+1)*112<=140737488355328;omega) (by show row.length+1<=9223372036854775807;omega) (fun x hx=>by rcases List.mem_singleton.1 hx with rfl;exact ⟨rfl,rfl⟩) ?_);conv=>whnf)|(apply bD<;>intro _<;>first|omega|conv=>whnf)|(apply bN<;>intro _<;>conv=>whnf)|(apply bB<;>intro _<;>conv=>whnf))
     all_goals first
      | exact ⟨x,hx1,hx2,(Le.of_eq rfl).trans hx3⟩
      | (exfalso;simp_all;done)
      | exact ⟨x,hx1,hx2,(Le.els (.same (.same (.same (.els (DZ (ElS.refl (row.map fun f=>AV.agg f.cells)) (x' := .agg (w9r false p.procs[j]).cells) (by rfl) (fun i c' hc=>by
         match i,hc with
         | 0,hc=>cases hc;exact ⟨_,rfl,Sub.refl _⟩
         | 1,hc=>cases hc;exact ⟨_,rfl,Sub.refl _⟩
         | 2,hc=>cases hc;exact ⟨_,rfl,Sub.refl _⟩
         | 3,hc=>cases hc;exact ⟨_,rfl,Sub.refl _⟩
         | 4,hc=>cases hc;exact ⟨_,rfl,Sub.nils⟩
         | i+5,hc=>simp [AV.cells,Pr.cells] at hc)) .nil))))).trans ((Le.of_eq (by rfl)).trans hx3)⟩
      | (refine ⟨x,hx1,hx2,(Le.els (.same (.same (.same (.els (DZ (ElS.refl (row.map fun f=>AV.agg f.cells)) (x' := .agg (w9r false p.procs[j]).cells) ?_ ?_) .nil))))).trans ((Le.of_eq ?_).trans hx3)⟩<;>trace_state)
   | false =>
     rw [hm,if_neg (by decide),append_nil] at hx3;have hm':(p.procs[j].name==([109,97,105,110]:Str))=false:=hm;conv=>whnf
     repeat' (first|((first|refine And.intro rfl ?_|refine aD ?_|refine bP ?_|refine wI ?_|refine LdOwn.mk j 0 (.agg p.procs[j].cells) (by show (0+j)*5=j*5+0;omega) hget ?_|refine IdxL.mk j rfl hj ?_|(refine CallK.pure h7 (.cons (Sub.refl _) (.cons (by first|exact Sub.refl _|exact Sub.tt rfl|exact Sub.ff rfl) .nil)) ?_;rintro _ rfl)|refine AppK.mk hrl.symm rfl (by show (row.length+1)*112<=140737488355328;omega) (by show row.length+1<=9223372036854775807;omega) (fun x hx=>by rcases List.mem_singleton.1 hx with rfl;exact ⟨rfl,rfl⟩) ?_);conv=>whnf)|(apply bD<;>intro _<;>first|omega|conv=>whnf)|(apply bN<;>intro _<;>conv=>whnf)|(apply bB<;>intro _<;>conv=>whnf))
     all_goals first
      | exact ⟨x,hx1,hx2,(Le.of_eq rfl).trans hx3⟩
      | (exfalso;simp_all;done)
 | true =>
   have hje:=h4 rfl;subst hje;have hA:PI b p p.procs.length=(onlyRaw b p).procs:=by
    unfold PI onlyRaw;rw [List.take_of_length_le (Nat.le_refl _)]
   unfold v2f;rw [hA];have hNum:=BD (onlyRaw b p) hN hc;conv=>whnf
   repeat' (first|((first|refine And.intro rfl ?_|refine cP hNum ?_);conv=>whnf)|(apply bD<;>intro _<;>first|omega|conv=>whnf))
   exact ⟨_,.p (Sub.refl _),rfl⟩
theorem w3w {l:List Bool} {j:Nat} (hj:j<l.length):(l.take (j+1)).count true=(l.take j).count true+(if l[j] then 1 else 0):=by
 rw [List.take_succ_eq_append_getElem hj,List.count_append];cases l[j]<;>rfl
theorem w1r (l:List Bool) (hl:l.length<=1000000):SpecP Tryz.prog 184 [eBs l] (fun r=>r = .int .i64 (l.count true)):=by
 refine sB z2s Tryz.func184 rfl Tryz.call184 ?_;conv=>whnf
 have hll:(l.map bv).length=l.length:=length_map _;repeat' (refine iM fun _=>?_;conv=>whnf)
 refine LoopK.inv QV (fun j:Nat=>⟨[(3,.p (.int .i64 ((l.take j).count true))),(6,.p (eBs l)),(7,.p (.int .i64 (l.map bv).length)),(8,.p (.int .i64 j))],[]⟩) (fun j=>j<=l.length) (fun j=>l.length-j) 0 (Le.of_eq rfl) (zero_le _) ?_;intro j h2;rcases Nat.lt_or_ge j l.length with hj|hj
 ·have e1:(l.map bv)[j]? = some (bv l[j]):=by rw [List.getElem?_map,List.getElem?_eq_getElem hj];rfl
  have hc:=w3w hj;have hcl:(l.take j).count true<=j:=Nat.le_trans List.count_le_length (by rw [length_take];omega);generalize l[j]=x at e1 hc;generalize (l.take j).count true=m at hc hcl ⊢;cases x <;>
  conv=>whnf
  repeat' (first|((first|refine wI ?_|(refine IdxK.at (k:=j) rfl e1 rfl ?_));conv=>whnf)|(apply bD<;>intro _<;>first|omega|conv=>whnf))
  all_goals first
   | exact ⟨j+1,by omega,by omega,Le.of_eq (by rw [hc];rfl)⟩
   | (exfalso;simp_all;done)
   | skip
 ·rw [List.take_of_length_le hj];conv=>whnf
  repeat' (apply bD<;>intro _<;>first|omega|conv=>whnf)
  exact RetK.int rfl
def w1u (M:List Int) (x:Int):Int:=getz M x.toNat
theorem w4i {M:List Int} (hM : ∀ x∈M,0<=x∧x<=1000000):CmpF 186 (.ip [QA M]) (w1u M) (fun x=>0<=x∧x<M.length):=by
 refine ⟨fun x y hx hy => ?_,fun x => ?_⟩
 ·obtain ⟨k,rfl⟩ : ∃ k:Nat,x=k:=⟨x.toNat,by omega⟩;obtain ⟨q,rfl⟩ : ∃ q:Nat,y=q:=⟨y.toNat,by omega⟩;have g1:=UH (l:=M) (i:=k) (by omega);have g2:=UH (l:=M) (i:=q) (by omega);have b1:=hM _ (WB (l:=M) (i:=k) (by omega));have b2:=hM _ (WB (l:=M) (i:=q) (by omega));have e1:w1u M k=getz M k:=by unfold w1u;rw [toNat_natCast]
  have e2:w1u M q=getz M q:=by unfold w1u;rw [toNat_natCast]
  rw [e1,e2];generalize getz M k=u at g1 b1;generalize getz M q=v at g2 b2;refine sB q5c Tryz.func186 rfl Tryz.call186 ?_;conv=>whnf
  repeat' ((first|refine dA ?_|refine wI ?_|(refine IdxK.at (k:=q) rfl g2 rfl ?_)|(refine IdxK.at (k:=k) rfl g1 rfl ?_));conv=>whnf)
  exact RetK.int rfl
 ·unfold w1u;rcases Nat.lt_or_ge x.toNat M.length with h|h
  ·exact hM _ (WB h)
  ·unfold getz;rw [getD_eq_getElem?_getD,List.getElem?_eq_none h];exact ⟨Int.le_refl _,by decide⟩
def q7m (fm:List (List Bool)) (a j:Nat):List Int:=((List.range j).filter fun b=>bitF fm a b).map fun (b:Nat)=>(b:Int)
theorem w0h (fm:List (List Bool)) (a j:Nat):q7m fm a (j+1)=q7m fm a j++(if bitF fm a j then [(j:Int)] else []):=by
 unfold q7m;rw [List.range_succ,List.filter_append,List.map_append];congr 1;cases h:bitF fm a j<;>simp [h]
theorem x9d (fm:List (List Bool)) (a j:Nat):(q7m fm a j).length<=j:=by
 unfold q7m;rw [length_map];exact Nat.le_trans (List.length_filter_le _ _) (by simp)
def q2t (fm:List (List Bool)) (a n j:Nat):List Int:=(List.range n).map fun b=>if b<j∧bitF fm a b=true then (((fm.getD b []).count true:Nat):Int) else 0
theorem KO (fm:List (List Bool)) (a n j:Nat):(q2t fm a n j).length=n:=by unfold q2t;simp
theorem FA {fm:List (List Bool)} {a n j b:Nat} (hb:b<n):(q2t fm a n j)[b]? = some (if b<j∧bitF fm a b=true then (((fm.getD b []).count true:Nat):Int) else 0):=by
 unfold q2t;rw [List.getElem?_map,List.getElem?_range hb];rfl
theorem w7k {fm:List (List Bool)} {a n j:Nat} (h:bitF fm a j=false):q2t fm a n (j+1)=q2t fm a n j:=by
 unfold q2t;refine List.map_congr_left fun b _ => ?_;by_cases he:b=j
 ·subst he;rw [if_neg (fun hh=>by rw [h] at hh;cases hh.2),if_neg (fun hh=>by rw [h] at hh;cases hh.2)]
 ·have:(b<j+1∧bitF fm a b=true)↔(b<j∧bitF fm a b=true):=by
   constructor
   ·exact fun hh=>⟨by omega,hh.2⟩
   ·exact fun hh=>⟨by omega,hh.2⟩
  by_cases hc:b<j∧bitF fm a b=true
  ·rw [if_pos hc,if_pos (this.2 hc)]
  ·rw [if_neg hc,if_neg (fun hh=>hc (this.1 hh))]
theorem w2o {fm:List (List Bool)} {a n j:Nat} (hj:j<n) (h:bitF fm a j=true):(q2t fm a n j).set j (((fm.getD j []).count true:Nat):Int)=q2t fm a n (j+1):=by
 refine List.ext_getElem? fun b => ?_;rw [List.getElem?_set];by_cases he:j=b
 ·subst he;rw [if_pos rfl,if_pos (by rw [KO];exact hj),FA hj,if_pos ⟨by omega,h⟩]
 ·rw [if_neg he];rcases Nat.lt_or_ge b n with hb|hb
  ·rw [FA hb,FA hb];have:(b<j+1∧bitF fm a b=true)↔(b<j∧bitF fm a b=true):=by
    constructor
    ·exact fun hh=>⟨by omega,hh.2⟩
    ·exact fun hh=>⟨by omega,hh.2⟩
   by_cases hc:b<j∧bitF fm a b=true
   ·rw [if_pos hc,if_pos (this.2 hc)]
   ·rw [if_neg hc,if_neg (fun hh=>hc (this.1 hh))]
  ·rw [List.getElem?_eq_none (by rw [KO];exact hb),List.getElem?_eq_none (by rw [KO];exact hb)]
theorem z6y (fm:List (List Bool)) (a n:Nat):q2t fm a n 0=List.replicate n 0:=by
 refine List.ext_getElem? fun b => ?_;rcases Nat.lt_or_ge b n with hb|hb
 ·rw [FA hb,if_neg (by omega),List.getElem?_replicate,if_pos hb]
 ·rw [List.getElem?_eq_none (by rw [KO];exact hb),List.getElem?_eq_none (by simpa using hb)]
def w4d (w:Way) (fm:List (List Bool)) (a n j:Nat):St:=⟨[(0,.p (.ip w.cells)),(1,.p (.sl ((bmI fm).map .sl))),(7,.hd 2 0 (q7m fm a j).length),(8,.ptr 1 0),(21,.p (.sl ((fm.getD a []).map bv))),(22,.p (.int .i64 ((fm.getD a []).map bv).length)),(23,.p (.int .i64 j))],[(1,.obj 70 [.hd 0 0 n]),(0,.own 3 1 ((q2t fm a n j).map (.int .i64))),(2,.own 3 1 ((q7m fm a j).map (.int .i64)))]⟩
def v0m (w:Way) (fm:List (List Bool)) (a n j:Nat):St:=⟨[(0,.p (.ip w.cells)),(1,.p (.sl ((bmI fm).map .sl))),(7,.hd 2 0 (q7m fm a j).length),(8,.p (.ip [QA (q2t fm a n j)])),(21,.p (.sl ((fm.getD a []).map bv))),(22,.p (.int .i64 ((fm.getD a []).map bv).length)),(23,.p (.int .i64 j))],[(2,.own 3 1 ((q7m fm a j).map (.int .i64)))]⟩
theorem v4w {N:Nat} (w:Way) (fm:List (List Bool)) (a n j:Nat):Le N (w4d w fm a n j) (v0m w fm a n j):=by
 have hm:=KO fm a n j;have h1:Le N (w4d w fm a n j) ⟨(w4d w fm a n j).sl,[(1,.obj 70 ([QA (q2t fm a n j)].map .p)),(2,.own 3 1 ((q7m fm a j).map (.int .i64)))]⟩:=by
  refine x6y (k:=0) (q:=1) (cs:=[QA (q2t fm a n j)]) rfl rfl rfl (fun i l c h1 h2 => ?_) (fun i => ?_) ?_ fun i c' hm => ?_
  ·match i,h1,h2 with
   | 0,h1,h2=>cases h1;cases h2;exact .inr ⟨_,rfl,by rw [length_map,hm],rfl⟩
   | i+1,h1,h2=>simp at h1
  ·refine q3g (fun x hx => ?_) i;simp only [w4d,mem_cons,not_mem_nil,or_false] at hx;rcases hx with rfl|rfl|rfl|rfl|rfl|rfl|rfl<;>rfl
  ·show [1,2].Sublist [1,0,2];decide
  ·simp only [mem_cons,not_mem_nil,or_false,Prod.mk.injEq] at hm;rcases hm with ⟨rfl,rfl⟩|⟨rfl,rfl⟩
   ·exact ⟨by decide,.inl ⟨rfl,rfl⟩⟩
   ·exact ⟨by decide,.inr ⟨mem_cons_of_mem _ (mem_cons_of_mem _ mem_cons_self),rfl⟩⟩
 obtain ⟨s',hs',h2⟩:=Le.fz (N:=N) (s:=⟨(w4d w fm a n j).sl,[(1,.obj 70 ([QA (q2t fm a n j)].map .p)),(2,.own 3 1 ((q7m fm a j).map (.int .i64)))]⟩) (k:=1) (e:=70) (cs:=[QA (q2t fm a n j)]) rfl (K:=fun s'=>s'=v0m w fm a n j) rfl;rw [hs'] at h2;exact h1.trans h2
theorem x7e (w:Way) (f:Pr) (hj:w.p.procs[w.j]? = some f) (hc:cntP w.p.procs<=1000) (n:Nat) (hw:w.n=n) (hn:2<=n) (hn5:n<=5000) (fm:List (List Bool)) (hF:DimB n fm) (a:Nat) (ha:a<n):SpecP Tryz.prog 118 [.ip w.cells,.sl ((bmI fm).map .sl),.int .i64 a] (fun r => ∃ es:List Int,r=QA (es.map (QM w.p w.j w.n))∧es.Perm (q7m fm a n)∧srt (w1u (q2t fm a n n)) es 0 es.length):=by
 refine sB q9n Tryz.func118 rfl Tryz.call118 ?_;conv=>whnf
 obtain ⟨s1,s2⟩:=hF.row ha;have hr1:((bmI fm).map AV.sl)[a]? = some (.sl ((fm.getD a []).map bv)):=by rw [List.getElem?_map,s1];rfl
 repeat' ((first|(refine iM fun _=>?_)|refine And.intro rfl ?_|refine aR ?_|refine MkK.mk n (by omega) (by show 8*_<=140737488355328;omega) (by unfold maxLen;omega) ?_|(refine IdxK.at (k:=a) rfl hr1 rfl ?_));conv=>whnf)
 refine LoopK.inv QV (fun x:Nat×Bool=>if x.2 then v0m w fm a n x.1 else w4d w fm a n x.1) (fun x=>x.1<=n∧(x.2=false->x.1<n)∧(x.2=true->x.1=n)) (fun x=>n-x.1) (0,false)
  (Le.mk [(2,.own 3 1 [])] (by simp [Chunk.new0];rfl) (by simp) (by simp) (.cons (.refl _) (.cons (.refl _) (.cons (.nil mem_cons_self) (.cons (.refl _) (.cons (.refl _) (.cons (.refl _) (.cons (.of_eq rfl) .nil))))))) (.cons rfl (.obj (.cons (.refl _) .nil)) (.cons rfl (.of_eq (by rw [z6y,List.map_replicate];rfl)) (.new mem_cons_self .nil))))
  ⟨zero_le _,fun _=>by simp only;omega,fun h=>by cases h⟩ ?_
 rintro ⟨j,m⟩ ⟨h2,h3,h4⟩;simp only at h2 h3 h4;cases m with
 | false =>
   have hj1:=h3 rfl;have e1:=hF.bit ha hj1;obtain ⟨u1,u2⟩:=hF.row hj1;have hr2:((bmI fm).map AV.sl)[j]? = some (.sl ((fm.getD j []).map bv)):=by rw [List.getElem?_map,u1];rfl
   have fin : ∃ x:Nat×Bool,(x.1<=n∧(x.2=false->x.1<n)∧(x.2=true->x.1=n))∧n-x.1<n-j∧Le Tryz.f118.ntmps (w4d w fm a n (j+1)) (if x.2 then v0m w fm a n x.1 else w4d w fm a n x.1):=by
    rcases Nat.lt_or_ge (j+1) n with hj2|hj2
    ·exact ⟨(j+1,false),⟨by simp only;omega,fun _=>hj2,fun h=>by cases h⟩,by simp only;omega,Le.of_eq rfl⟩
    ·exact ⟨(j+1,true),⟨by simp only;omega,(fun h=>by cases h),fun _=>by simp only;omega⟩,by simp only;omega,v4w w fm a n (j+1)⟩
   obtain ⟨x,hx1,hx2,hx3⟩:=fin;have hsucc:=w0h fm a j;have hfl:=x9d fm a j;have hyes:=fun h=>w2o (fm:=fm) (a:=a) hj1 h;have hno:=fun h=>w7k (fm:=fm) (a:=a) (n:=n) (j:=j) h;have hml:=KO fm a n j;have hmg:=FA (fm:=fm) (a:=a) (j:=j) hj1;rw [if_neg (fun h=>by omega)] at hmg;have hSz:=w1r (fm.getD j []) (by rw [length_map] at u2;omega);unfold w4d at hx3 ⊢;rw [hsucc] at hx3;generalize q2t fm a n (j+1)=mn2 at hx3 hyes hno;generalize q2t fm a n j=mn at hyes hno hml hmg ⊢;generalize q7m fm a j=fl at hx3 hfl ⊢;generalize (fm.getD j []).count true=cn at hyes hSz;have hmg2:=x1e hmg;cases hv:bitF fm a j with
   | true =>
     have hyes:=hyes hv;rw [hv] at e1;rw [hv,if_pos rfl] at hx3;simp only [Bool.false_eq_true,if_false];conv=>whnf
     repeat' (first|((first|refine And.intro rfl ?_|refine aD ?_|refine bP ?_|refine wI ?_|refine DrawK.of QV mixed (.cons 1 false (.cons 2 false (.cons 3 false (.cons 4 false (.cons 5 false (.fork 0 (.cons 6 true (.cons 7 true (.cons 8 true .nil))) 6 (.cons 0 true (.cons 7 true (.cons 8 true .nil))))))))) (by kernel_rfl) ?_|(refine IdxK.at (k:=j) rfl e1 rfl ?_)|(refine IdxK.at (k:=j) rfl hr2 rfl ?_)|refine ZU (by simp) (by simp;omega) ?_|refine IdxL.mk j rfl (by omega) ?_|refine cP hSz ?_|refine StOwn.mk j 0 _ (.int .i64 cn) (by omega) hmg2 (Nat.le_refl _) rfl ?_);conv=>whnf)|(apply bD<;>intro _<;>first|omega|conv=>whnf)|(refine And.intro ?_ ?_<;>conv=>whnf))
     all_goals first
      | exact ⟨x,hx1,hx2,Le.trans (Le.of_eq (by rw [<- hyes,List.map_set];simp only [length_append,List.map_append,length_map];rfl)) hx3⟩
      | skip
   | false =>
     have hno:=hno hv;rw [hv] at e1;rw [hv,if_neg (by decide),append_nil,hno] at hx3;simp only [Bool.false_eq_true,if_false];conv=>whnf
     repeat' (first|((first|refine wI ?_|(refine IdxK.at (k:=j) rfl e1 rfl ?_));conv=>whnf)|(apply bD<;>intro _<;>first|omega|conv=>whnf))
     all_goals first
      | exact ⟨x,hx1,hx2,hx3⟩
      | (exfalso;simp_all;done)
      | skip
 | true =>
   have hje:=h4 rfl;subst hje;simp only [if_true];unfold v0m;have hml:=KO fm a j j;have hmr : ∀ x∈q2t fm a j j,0<=x∧x<=1000000:=fun x hx=>by
    obtain ⟨b,hb,rfl⟩:=List.mem_map.1 hx;rw [List.mem_range] at hb;obtain ⟨_,u2⟩:=hF.row hb;rw [length_map] at u2;have:=List.count_le_length (a:=true) (l:=fm.getD b []);split<;>omega
   have hfl:=x9d fm a j;have hfm : ∀ x∈q7m fm a j,0<=x∧x<((q2t fm a j j).length:Int):=fun x hx=>by
    obtain ⟨b,hb,rfl⟩:=List.mem_map.1 hx;have:=List.mem_range.1 (List.mem_filter.1 hb).1;omega
   have hS:=q2i (w4i hmr) (q7m fm a j) (q7m fm a j).length rfl (by omega) hfm;conv=>whnf
   repeat' (first|((first|(refine iM fun _=>?_)|(refine CallK.heap [(1000,2)] 5 (ArgsH.cons (LSub.refl _) (ArgsH.cons (LSub.refl _) ArgsH.nil)) (by refine BlksH.cons (j:=2) rfl rfl ?_ ?_;exact CSub.refl _;exact BlksH.nil) hS rfl rfl ?_;rintro l' H' ⟨rfl,es,rfl,p1,s1⟩));conv=>whnf)|(apply bD<;>intro _<;>first|omega|conv=>whnf))
   have hel:=p1.len.1;have hpm:=p1.perm;have hin : ∀ x∈es,0<=x∧x<(j:Int):=fun x hx=>by
    have:=hfm x (hpm.mem_iff.1 hx);omega
   generalize q7m fm a j=fl at hel hfl hpm s1 ⊢;generalize hplc:QM w.p w.j w.n=plc;refine LoopK.inv QV (fun i:Nat=>⟨[(0,.p (.ip w.cells)),(7,.hd 2 0 fl.length),(45,.hd 2 0 fl.length),(46,.p (.int .i64 fl.length)),(47,.p (.int .i64 i))],[(2,.own 3 1 (((es.take i).map plc++es.drop i).map (.int .i64)))]⟩) (fun i=>i<=es.length) (fun i=>es.length-i) 0 (Le.of_eq rfl) (zero_le _) ?_;intro i hi;rcases Nat.lt_or_ge i es.length with hi2|hi2
   ·have tl:((es.take i).map plc).length=i:=by rw [length_map,length_take];omega
    have hd:es.drop i=es[i]::es.drop (i+1):=List.drop_eq_getElem_cons hi2;have hrow:(es.take i).map plc++es.drop i=(es.take i).map plc++es[i]::es.drop (i+1):=by rw [hd]
    have g1:(((es.take i).map plc++es.drop i).map (AV.int .i64))[i]? = some (.int .i64 es[i]):=by
     rw [List.getElem?_map,List.getElem?_append_right (by omega),tl,Nat.sub_self,hd];rfl
    have hst:((es.take i).map plc++es.drop i).set i (plc es[i])=(es.take (i+1)).map plc++es.drop (i+1):=by
     rw [hrow,q3p _ _ _ _ tl.symm,List.take_succ_eq_append_getElem hi2,List.map_append,List.append_assoc];rfl
    have hr:=hin _ (List.getElem_mem hi2);have hP:=GX w f hj hc (by omega) es[i] (by omega);rw [hplc] at hP;generalize (es.take i).map plc++es.drop i=row at g1 hst ⊢;generalize es[i]=x at g1 hst hP;conv=>whnf
    repeat' (first|((first|refine And.intro rfl ?_|refine wI ?_|refine IdxL.mk i rfl (by omega) ?_|refine LdOwn.mk i 0 _ (by omega) g1 ?_|refine cP hP ?_|refine StOwn.mk i 0 _ (.int .i64 (plc x)) (by omega) g1 (Nat.le_refl _) rfl ?_);conv=>whnf)|(apply bD<;>intro _<;>first|omega|conv=>whnf))
    all_goals first
     | (exfalso;omega)
     | exact ⟨i+1,by omega,by omega,Le.of_eq (by rw [<- hst,List.map_set];rfl)⟩
     | skip
   ·rw [List.take_of_length_le hi2,List.drop_of_length_le hi2,append_nil];conv=>whnf
    repeat' (apply bD<;>intro _<;>first|omega|conv=>whnf)
    all_goals first
     | (exfalso;omega)
     | exact ⟨_,.hd rfl (by simp [hel]),es,rfl,hpm,by rw [hel];exact s1⟩
     | skip
theorem q7k {R:Int->Int->Prop} (anti : ∀ a b,R a b->R b a->a=b) : ∀ {l m:List Int},l.Perm m->l.Nodup->l.Pairwise R->m.Pairwise R->l=m
 | [],m,h,_,_,_=>(List.nil_perm.1 h).symm
 | a::l,[],h,_,_,_=>absurd h.length_eq (by simp)
 | a::l,b::m,h,hn,hl,hm=>by
   rw [List.pairwise_cons] at hl hm;have hab:a=b:=by
    rcases List.mem_cons.1 (h.mem_iff.1 mem_cons_self) with h1|h1
    ·exact h1
    rcases List.mem_cons.1 (h.mem_iff.2 mem_cons_self) with h2|h2
    ·exact h2.symm
    exact anti a b (hl.1 b h2) (hm.1 a h1)
   subst hab;rw [q7k anti (List.Perm.cons_inv h) (List.nodup_cons.1 hn).2 hl.2 hm.2]
theorem w9k {R:Int->Int->Prop} {b c a:Int} (h:AvdP R c a):AvdP R b a∨AvdP R c b:=by
 induction h with
 | exit h =>
   by_cases hb:b = -1
   ·rw [hb];exact .inr (.exit h)
   ·exact .inl (.exit hb)
 | @step a t hac hs h ih =>
   by_cases hab:a=b
   ·subst hab;exact .inr (.step hac hs h)
   ·rcases ih with ih|ih
    ·exact .inl (.step hab hs ih)
    ·exact .inr ih
inductive ToX (R:Int->Int->Prop):Int->Prop
 | exit:ToX R (-1)
 | step {a t:Int} (hs:R a t) (h:ToX R t):ToX R a
theorem v1n {R:Int->Int->Prop} {a:Int} (h:Rch R a (-1)):ToX R a:=by
 have key : ∀ {x y:Int},Rch R x y->ToX R y->ToX R x:=fun {x y} hr=>by
  induction hr with
  | refl=>exact fun h=>h
  | tail _ h2 ih=>exact fun h=>ih (.step h2 h)
 exact key h .exit
theorem z8s {R:Int->Int->Prop} {b c:Int} (hne:b≠c) (hb:AvdP R c b) (hc:AvdP R b c) {x:Int} (h:ToX R x):AvdP R b x∨AvdP R c x:=by
 induction h with
 | exit =>
   by_cases he:b = -1
   ·exact .inr (.exit fun e=>hne (by rw [he,e]))
   ·exact .inl (.exit he)
 | @step a t hs _ ih =>
   by_cases h1:a=b
   ·subst h1;exact .inr hb
   ·by_cases h2:a=c
    ·subst h2;exact .inl hc
    ·rcases ih with ih|ih
     ·exact .inl (.step h1 hs ih)
     ·exact .inr (.step h2 hs ih)
theorem w2x {R:Int->Int->Prop} {b c:Int} (hc : ¬AvdP R b c) (hcx:c ≠ -1) {x:Int} (h:AvdP R b x):AvdP R c x:=by
 induction h with
 | exit h=>exact .exit hcx
 | @step a t hab hs h ih=>exact .step (fun e=>hc (by subst e;exact .step hab hs h)) hs ih
theorem w4o {R:Int->Int->Prop} {b c:Int} (hb : ¬AvdP R c b) (hc : ¬AvdP R b c) (hx:ToX R b):b=c:=by
 refine Classical.byContradiction fun hne => ?_;by_cases hcx:c = -1
 ·subst hcx;exact hc (.exit hne)
 by_cases hbx:b = -1
 ·subst hbx;exact hb (.exit hcx)
 have key : ∀ {x:Int},ToX R x->AvdP R c x:=fun {x} h=>by
  induction h with
  | exit=>exact .exit hcx
  | @step a t hs _ ih =>
    by_cases h2:a=c
    ·subst h2;have ih2:=w2x hb hbx ih;exact absurd (.step (fun e=>hne e.symm) hs ih2) hc
    ·exact .step h2 hs ih
 exact hb (key hx)
section
variable {p:Pg} {j:Nat} {f:Pr}
theorem x1k (h:chkB p=true) (hj:p.procs[j]? = some f) {x:Int} (hx:plP p j f x):ToX (w2s p j f) x:=by
 refine v1n ((w0b h hj hx).mono fun a b ⟨s,hs,h1,h2⟩ => ?_);rcases List.mem_append.1 ((GA (x8h h hj)).2.1 s hs) with h3|h3
 ·obtain ⟨l,hl,t,ht,hid,hk,rfl⟩:=(NV h hj).1 h3;exact (x9k h hj).2 (.inr (.inr (.inl ⟨l,hl,t,ht,hid,hk,h1.symm,h2.symm⟩)))
 ·exact (x9k h hj).2 (.inl ⟨s,h3,h1,h2⟩)
theorem q5e (b:Int):folP p j f b b:=x8g
theorem folP.exit (a:Int) (h:ToX (w2s p j f) a):folP p j f a (-1):=fun ha=>by
 clear h;have key : ∀ {b x:Int},b = -1 -> ¬AvdP (w2s p j f) b x:=fun {b x} hb ha=>by
  induction ha with
  | exit h=>exact h hb
  | step _ _ _ ih=>exact ih
 exact key rfl ha
theorem folP.trans {a b c:Int} (h1:folP p j f a b) (h2:folP p j f b c):folP p j f a c:=fun h=>by
 rcases w9k (b:=b) h with h3|h3
 ·exact h1 h3
 ·exact h2 h3
theorem x6u (h:chkB p=true) (hj:p.procs[j]? = some f) {b c:Int} (hb:plP p j f b) (h1:folP p j f b c) (h2:folP p j f c b):b=c:=w4o h1 h2 (x1k h hj hb)
theorem q9x (h:chkB p=true) (hj:p.procs[j]? = some f) {a b c:Int} (ha:plP p j f a) (h1:folP p j f a b) (h2:folP p j f a c):folP p j f b c∨folP p j f c b:=by
 refine Classical.byContradiction fun hno => ?_;rw [not_or] at hno;have hb:=Classical.not_not.1 hno.1;have hc:=Classical.not_not.1 hno.2;have hne:b≠c:=fun e=>hno.1 (by rw [e];exact q5e c);rcases z8s hne hb hc (x1k h hj ha) with h3|h3
 ·exact h1 h3
 ·exact h2 h3
structure RowP (p:Pg) (j:Nat) (f:Pr) (a:Int) (l:List Int):Prop where
 mem : ∀ y,y∈l↔plP p j f y∧folP p j f a y
 nd:l.Nodup
 chain:l.Pairwise (folP p j f)
theorem RowP.uniq (h:chkB p=true) (hj:p.procs[j]? = some f) {a:Int} {l m:List Int} (hl:RowP p j f a l) (hm:RowP p j f a m):l=m:=by
 have hp:l.Perm m:=(List.perm_iff_count.2 fun x=>by
  by_cases hx:x∈l
  ·rw [List.Nodup.count hl.nd,if_pos hx,List.Nodup.count hm.nd,if_pos ((hm.mem x).2 ((hl.mem x).1 hx))]
  ·rw [List.Nodup.count hl.nd,if_neg hx,List.Nodup.count hm.nd,if_neg (fun h=>hx ((hl.mem x).2 ((hm.mem x).1 h)))])
 have:=q7k (R:=fun x y=>plP p j f x∧plP p j f y∧folP p j f x y) (fun x y h1 h2=>x6u h hj h1.1 h1.2.2 h2.2.2) hp hl.nd
  (hl.chain.imp_of_mem fun {x y} hx hy hxy=>⟨((hl.mem x).1 hx).1,((hl.mem y).1 hy).1,hxy⟩) (hm.chain.imp_of_mem fun {x y} hx hy hxy=>⟨((hm.mem x).1 hx).1,((hm.mem y).1 hy).1,hxy⟩)
 exact this
theorem z0k {K:Int->Int} : ∀ {l:List Int},srt K l 0 l.length->l.Pairwise fun x y=>K y<=K x
 | [],_ => .nil
 | a::l,h=>by
   refine List.pairwise_cons.2 ⟨fun b hb => ?_,z0k fun i k h1 h2 h3 => ?_⟩
   ·obtain ⟨i,hi,rfl⟩:=List.mem_iff_getElem.1 hb;have:=h 0 (i+1) (Nat.le_refl _) (by omega) (by simpa using hi);have e:getz (a::l) (i+1)=l[i]:=by
     unfold getz;rw [List.getD_cons_succ,getD_eq_getElem?_getD,List.getElem?_eq_getElem hi];rfl
    rw [e] at this;exact this
   ·exact h (i+1) (k+1) (zero_le _) (by omega) (by simpa using h3)
theorem v1p (h:chkB p=true) (hj:p.procs[j]? = some f) {fm:List (List Bool)} (hF:FollowP (cntL f.body+2) (YU (cntL f.body+2) (YB (newWay p j f) f)) fm) {a:Int} (ha:plP p j f a) {es:List Int}
  (hp:es.Perm (q7m fm (ixI p j f a).toNat (cntL f.body+2))) (hs:srt (w1u (q2t fm (ixI p j f a).toNat (cntL f.body+2) (cntL f.body+2))) es 0 es.length):RowP p j f a (es.map (QM p j (cntL f.body+2:Nat))):=by
 have hra:=ZF ha;have hmem : ∀ x:Int,x∈es ↔ ∃ b:Nat,b<cntL f.body+2∧bitF fm (ixI p j f a).toNat b=true∧x=b:=fun x=>by
  rw [hp.mem_iff];unfold q7m;rw [List.mem_map];constructor
  ·rintro ⟨b,hb,rfl⟩;obtain ⟨h1,h2⟩:=List.mem_filter.1 hb;exact ⟨b,List.mem_range.1 h1,h2,rfl⟩
  ·rintro ⟨b,h1,h2,rfl⟩;exact ⟨b,List.mem_filter.2 ⟨List.mem_range.2 h1,h2⟩,rfl⟩
 have hplc : ∀ x∈es,plP p j f (QM p j (cntL f.body+2:Nat) x)∧ixI p j f (QM p j (cntL f.body+2:Nat) x)=x∧0<=x∧x<(cntL f.body+2:Nat):=fun x hx=>by
  obtain ⟨b,h1,_,rfl⟩:=(hmem x).1 hx;obtain ⟨q1,q2⟩:=YS (p:=p) (j:=j) (f:=f) (i:=(b:Int)) (by omega);exact ⟨q1,q2,by omega,by omega⟩
 have hfol : ∀ x∈es,folP p j f a (QM p j (cntL f.body+2:Nat) x):=fun x hx=>by
  obtain ⟨b,h1,h2,rfl⟩:=(hmem x).1 hx;obtain ⟨q1,q2,_⟩:=hplc _ hx;refine (KS h hj hF ha q1).1 ?_;rw [q2,toNat_natCast];exact h2
 have hnd:es.Nodup:=by
  rw [hp.nodup_iff];unfold q7m;show Pairwise _ _;rw [pairwise_map];exact (List.Pairwise.filter _ List.nodup_range).imp fun hne he=>hne (by omega)
 have hndm:(es.map (QM p j (cntL f.body+2:Nat))).Nodup:=by
  show Pairwise _ _;rw [pairwise_map];refine hnd.imp_of_mem fun {x y} hx hy hne he=>hne ?_;rw [<- (hplc x hx).2.1,<- (hplc y hy).2.1,he]
 have hkey : ∀ x∈es,w1u (q2t fm (ixI p j f a).toNat (cntL f.body+2) (cntL f.body+2)) x=(((fm.getD x.toNat []).count true:Nat):Int):=fun x hx=>by
  obtain ⟨b,h1,h2,rfl⟩:=(hmem x).1 hx;unfold w1u getz;rw [toNat_natCast,getD_eq_getElem?_getD,FA h1,if_pos ⟨h1,h2⟩];rfl
 refine ⟨fun y => ?_,hndm,?_⟩
 ·rw [List.mem_map];constructor
  ·rintro ⟨x,hx,rfl⟩;exact ⟨(hplc x hx).1,hfol x hx⟩
  ·rintro ⟨h1,h2⟩;have hr:=ZF h1;have hb:=(KS h hj hF ha h1).2 h2;refine ⟨ixI p j f y,(hmem _).2 ⟨(ixI p j f y).toNat,by omega,hb,by omega⟩,z1n h1⟩
 ·rw [pairwise_map];refine (List.pairwise_and_iff.2 ⟨z0k hs,hnd⟩).imp_of_mem fun {x y} hx hy hxy => ?_;obtain ⟨hk,hne⟩:=hxy;rw [hkey x hx,hkey y hy] at hk;obtain ⟨px,ix,x0,x1⟩:=hplc x hx;obtain ⟨py,iy,y0,y1⟩:=hplc y hy;rcases q9x h hj ha (hfol x hx) (hfol y hy) with h1|h1
  ·exact h1
  ·exfalso;have hrow : ∀ z:Int,0<=z->z<(cntL f.body+2:Nat)->(fm.getD z.toNat []).length=cntL f.body+2:=fun z z0 z1=>by
    have hl:=hF.inv.len;rw [getD_eq_getElem?_getD,List.getElem?_eq_getElem (by omega)];exact hF.inv.rows _ (List.getElem_mem _)
   have hlt:=q1e (r:=fm.getD x.toNat []) (s:=fm.getD y.toNat []) (by rw [hrow x x0 x1,hrow y y0 y1]) (fun b hb=>by
    rcases Nat.lt_or_ge b (cntL f.body+2) with hbn|hbn
    ·obtain ⟨q1,q2⟩:=YS (p:=p) (j:=j) (f:=f) (i:=(b:Int)) (by omega);have h3:folP p j f (QM p j (cntL f.body+2:Nat) x) (QM p j (cntL f.body+2:Nat) b):=(KS h hj hF px q1).1 (by rw [ix,q2,toNat_natCast];exact hb);have h4:=(KS h hj hF py q1).2 (h1.trans h3);rw [iy,q2,toNat_natCast] at h4;exact h4
    ·rw [getD_eq_getElem?_getD,List.getElem?_eq_none (by rw [hrow x x0 x1];exact hbn)] at hb;cases hb) (fun he=>by
    have h3:=(KS h hj hF py py).2 (q5e _);have h4:bitF fm (ixI p j f (QM p j (cntL f.body+2:Nat) x)).toNat (ixI p j f (QM p j (cntL f.body+2:Nat) y)).toNat=true:=by
     rw [ix,iy] at *
     unfold bitF at h3 ⊢;rw [he];exact h3
    have h5:=(KS h hj hF px py).1 h4;have h6:=x6u h hj px h5 h1;rw [<- ix,<- iy,h6] at hne;exact hne rfl)
   omega
noncomputable def x0y (p:Pg) (j:Nat) (f:Pr) (a:Int):List Int := @Classical.epsilon _ ⟨[]⟩ (RowP p j f a)
theorem RowP.eq (h:chkB p=true) (hj:p.procs[j]? = some f) {a:Int} {l:List Int} (hl:RowP p j f a l):l=x0y p j f a:=hl.uniq h hj (Classical.epsilon_spec (p:=RowP p j f a) ⟨l,hl⟩)
end
theorem v1w {p:Pg} {j:Nat} {f:Pr} {x:Int}:0<=ixI p j f x↔plP p j f x:=by
 constructor
 ·intro h;unfold ixI VA loI hiI at h;unfold plP
  (repeat' split at h)<;>omega
 ·exact fun h=>(ZF h).1
section
variable {p:Pg} {j:Nat} {f:Pr}
theorem q9p (h:chkB p=true) (hj:p.procs[j]? = some f) {a:Int} (ha:plP p j f a):RowP p j f a (x0y p j f a):=by
 obtain ⟨fm,hF⟩:=z9j (n:=cntL f.body+2) (z6d (x0w h hj));have hra:=ZF ha;have hex : ∃ l,RowP p j f a l:=by
  refine Classical.byContradiction fun hno => ?_;have : ∀ (m:List Int),m.Nodup->(∀ y∈m,plP p j f y∧folP p j f a y) -> ∃ l:List Int,l.Perm m∧l.Pairwise (folP p j f):=fun m=>by
   induction m with
   | nil=>exact fun _ _=>⟨[],.refl _,.nil⟩
   | cons x m ih =>
     intro hn hm;obtain ⟨l,hl,hc⟩:=ih (List.nodup_cons.1 hn).2 fun y hy=>hm y (mem_cons_of_mem _ hy);have ins : ∀ (l:List Int),(∀ y∈l,plP p j f y∧folP p j f a y)->l.Pairwise (folP p j f) -> ∃ l':List Int,l'.Perm (x::l)∧l'.Pairwise (folP p j f):=fun l=>by
      induction l with
      | nil=>exact fun _ _=>⟨[x],.refl _,List.pairwise_singleton _ _⟩
      | cons y l ih2 =>
        intro hl hc;rw [List.pairwise_cons] at hc;have hx:=hm x mem_cons_self;have hy:=hl y mem_cons_self;rcases q9x h hj ha hx.2 hy.2 with h1|h1
        ·refine ⟨x::y::l,.refl _,List.pairwise_cons.2 ⟨fun z hz => ?_,List.pairwise_cons.2 hc⟩⟩;rcases List.mem_cons.1 hz with rfl|hz
         ·exact h1
         ·exact h1.trans (hc.1 z hz)
        ·obtain ⟨l',hp,hc'⟩:=ih2 (fun z hz=>hl z (mem_cons_of_mem _ hz)) hc.2;refine ⟨y::l',(hp.cons y).trans (.swap x y l),List.pairwise_cons.2 ⟨fun z hz => ?_,hc'⟩⟩;rcases List.mem_cons.1 (hp.mem_iff.1 hz) with rfl|hz
         ·exact h1
         ·exact hc.1 z hz
     obtain ⟨l',hp,hc'⟩:=ins l (fun y hy=>hm y (mem_cons_of_mem _ (hl.mem_iff.1 hy))) hc;exact ⟨l',hp.trans (hl.cons x),hc'⟩
  obtain ⟨l,hl,hc⟩:=this ((plL p j f).filter fun y => @decide (folP p j f a y) (Classical.propDecidable _)) (by
   refine List.Pairwise.filter _ ?_;unfold plL;refine List.pairwise_cons.2 ⟨fun y hy => ?_,List.pairwise_cons.2 ⟨fun y hy => ?_,LR _ _⟩⟩
   ·rcases List.mem_cons.1 hy with rfl|hy
    ·decide
    ·have:=FE hy;omega
   ·have:=FE hy;omega) (fun y hy=>by
   obtain ⟨h1,h2⟩:=List.mem_filter.1 hy;exact ⟨UO.1 h1,(@decide_eq_true_iff _ (Classical.propDecidable _)).1 h2⟩)
  refine hno ⟨l,fun y => ?_,?_,hc⟩
  ·rw [hl.mem_iff,List.mem_filter,UO];exact and_congr_right fun _ => @decide_eq_true_iff _ (Classical.propDecidable _)
  ·rw [hl.nodup_iff];refine List.Pairwise.filter _ ?_;unfold plL;refine List.pairwise_cons.2 ⟨fun y hy => ?_,List.pairwise_cons.2 ⟨fun y hy => ?_,LR _ _⟩⟩
   ·rcases List.mem_cons.1 hy with rfl|hy
    ·decide
    ·have:=FE hy;omega
   ·have:=FE hy;omega
 exact Classical.epsilon_spec (p:=RowP p j f a) hex
theorem w1m (h:chkB p=true) (hj:p.procs[j]? = some f) {a:Int} (ha:plP p j f a):(x0y p j f a).length<=cntL f.body+2:=by
 have hR:=q9p h hj ha;have:=NC (m:=plL p j f) hR.nd fun y hy=>UO.2 ((hR.mem y).1 hy).1;have h2:(plL p j f).length=cntL f.body+2:=by unfold plL q0m;simp
 omega
end
theorem z1m {p:Pg} {j:Nat} {f:Pr} (h:chkB p=true) (hj:p.procs[j]? = some f) {fm:List (List Bool)} (hF:FollowP (cntL f.body+2) (YU (cntL f.body+2) (YB (newWay p j f) f)) fm) {x:Int} (hx:plP p j f x) :
  SpecP Tryz.prog 118 [.ip (newWay p j f).cells,.sl ((bmI fm).map .sl),.int .i64 (ixI p j f x)] (fun r=>r=QA (x0y p j f x)):=by
 have hT:=v1d h hj;have hr:=ZF hx;have:=x7e (newWay p j f) f hT.hj hT.hc (cntL f.body+2) hT.hw hT.hn2 hT.hn fm ⟨hF.inv.len,hF.inv.rows⟩ (ixI p j f x).toNat (by omega);rw [Int.toNat_of_nonneg hr.1] at this;refine this.mono fun r hr => ?_;obtain ⟨es,rfl,hp,hs⟩:=hr;rw [<- (v1p h hj hF hx hp hs).eq h hj];rfl
noncomputable def z3v (p:Pg) (n:Str) (x:Int):List Int:=match wayO p n with
 | some w=>(match w.p.procs[w.j]? with
   | some f=>if 0<=ixI w.p w.j f x then x0y w.p w.j f x else []
   | none=>[])
 | none=>[]
theorem PD {p:Pg} {n:Str} {k:Nat} {f:Pr} (hw:wayO p n=some (newWay p k f)) (hk:p.procs[k]? = some f) (x:Int):z3v p n x=if 0<=ixI p k f x then x0y p k f x else []:=by
 have h:(newWay p k f).p.procs[(newWay p k f).j]? = some f:=hk;unfold z3v;rw [hw];simp only;rw [h];rfl
theorem w0i {p:Pg} {n:Str} (hw:wayO p n=none) (x:Int):z3v p n x=[]:=by
 unfold z3v;rw [hw]
theorem z8v (p:Pg) (hf:Fit p) (n:Str) (x:Int):SpecP Tryz.prog 66 [.agg p.cells,.str n,.int .i64 x] (fun r=>r=QA (z3v p n x)):=by
 refine sB w3v Tryz.func66 rfl Tryz.call66 ?_;conv=>whnf
 have hW:=w6j p hf n;cases hw:wayO p n with
 | none =>
   rw [w0i hw];rw [hw] at hW;repeat' (refine cP hW ?_;conv=>whnf)
   exact ⟨_,.p Sub.nils,rfl⟩
 | some w =>
   obtain ⟨k,f,hkj,rfl,hc,_⟩:=x5m hw;have hT:=v1d hc hkj;have hn2:=hT.hn2;have hn5:=hT.hn;have hwn:=hT.hw;have hI:=PH (newWay p k f) f hT.hj hT.hc (by omega) x;have he:VA (loI (newWay p k f).p (newWay p k f).j) (hiI (newWay p k f).p (newWay p k f).j f) (newWay p k f).n x=ixI p k f x:=rfl;rw [he] at hI;rw [PD hw hkj];rw [hw] at hW;have hFo:=DF (newWay p k f) f (cntL f.body+2) hT (x0w hc hkj) (Nat.le_trans (z6z hc hkj) (by decide));have hR:=fun fm hF (hx:0<=ixI p k f x)=>z1m hc hkj (fm:=fm) hF (v1w.1 hx);generalize x0y p k f x=L at hR ⊢;generalize ixI p k f x=ix at hI hR ⊢;by_cases hx:0<=ix
   ·rw [if_pos hx];repeat' (first|((first|refine cP hW ?_|refine cP hI ?_|(refine CallK.pure hFo (.cons (Sub.refl _) .nil) ?_;rintro _ ⟨fm,hF,rfl⟩)|refine cP (hR fm hF hx) ?_);conv=>whnf)|(apply bD<;>intro _<;>first|omega|conv=>whnf))
    all_goals first
     | (exfalso;omega)
     | exact RetK.p rfl
     | skip
   ·rw [if_neg hx];repeat' (first|((first|refine cP hW ?_|refine cP hI ?_);conv=>whnf)|(apply bD<;>intro _<;>first|omega|conv=>whnf))
    all_goals first
     | (exfalso;omega)
     | exact ⟨_,.p Sub.nils,rfl⟩
     | skip
noncomputable def z8e (p:Pg) (n:Str) (x:Int):Int×Bool:=if (z3v p n x).length<2 then (0,false) else ((z3v p n x).getD 1 0,true)
theorem w4q (p:Pg) (hf:Fit p) (n:Str) (x:Int):SpecP Tryz.prog 115 [.agg p.cells,.str n,.int .i64 x] (fun r=>r = .tup [.int .i64 (z8e p n x).1,.bool (z8e p n x).2]):=by
 refine sB z3t Tryz.func115 rfl Tryz.call115 ?_;conv=>whnf
 have hO:=z8v p hf n x;unfold z8e;generalize z3v p n x=L at hO ⊢;have hlm:(L.map (AV.int .i64)).length=L.length:=length_map _;by_cases hl:L.length<2
 ·rw [if_pos hl];repeat' (first|((first|(refine iM fun _=>?_)|refine cP hO ?_);conv=>whnf)|(apply bD<;>intro _<;>first|omega|conv=>whnf))
  all_goals first
   | (exfalso;omega)
   | exact RetK.tup2 rfl (Sub.ff rfl)
   | skip
 ·rw [if_neg hl];have hg:(L.map (AV.int .i64))[1]? = some (.int .i64 (L.getD 1 0)):=UH (by omega);repeat' (first|((first|(refine iM fun _=>?_)|refine cP hO ?_|(refine IdxK.at (k:=1) rfl hg rfl ?_));conv=>whnf)|(apply bD<;>intro _<;>first|omega|conv=>whnf))
  all_goals first
   | (exfalso;omega)
   | exact RetK.tup2 rfl (Sub.tt rfl)
   | skip
def caI (p:Pg) (t:S):Int:=idxF (fun f=>f.name==t.proc) p.procs
def caP (p:Pg) (t:S):Pr:=p.procs.getD (caI p t).toNat Pr0
section
variable {p:Pg} {j:Nat} {f:Pr}
end


section
variable {p:Pg} {j:Nat} {f:Pr}
end
theorem q8d {l:List Str}:ZW l=false↔l.Nodup:=by
 refine ⟨q9c,fun h => ?_⟩;unfold ZW;rw [List.any_eq_false];intro i hi;rw [List.mem_range] at hi;rw [Bool.not_eq_true,List.any_eq_false];intro s hs he;rw [List.getElem?_eq_getElem hi] at he;have he:l[i]=s:=eq_of_beq he;obtain ⟨k,hk,rfl⟩:=List.mem_iff_getElem.1 hs;rw [length_take] at hk;rw [List.getElem_take] at he;have:=(List.getElem_inj h).1 he;omega
theorem DR : ∀ (l seen:List Str),seen.Nodup->((VQ seen l).isSome=true↔(seen++l).Nodup)
 | [],seen,h=>by rw [VQ,append_nil];exact ⟨fun _=>h,fun _=>rfl⟩
 | n::r,seen,h=>by
   rw [VQ];cases hc:(seen.any fun s=>n==s) with
   | true =>
     rw [cond_true];obtain ⟨s,hs,he⟩:=List.any_eq_true.1 hc;have he:n=s:=eq_of_beq he;refine ⟨fun h=>by (cases h),fun h2 => ?_⟩;rw [nodup_append] at h2;exact absurd rfl (h2.2.2 s hs n mem_cons_self |> fun hh=>he▸hh)
   | false =>
     rw [cond_false];have hn:n∉seen:=fun hm=>by
      have:=List.any_eq_false.1 hc n hm;simp at this
     have h1:(seen++[n]).Nodup:=by
      rw [nodup_append];exact ⟨h,by simp,fun a ha b hb e=>hn (by rw [<- List.mem_singleton.1 hb,<- e];exact ha)⟩
     rw [DR r (seen++[n]) h1,List.append_assoc];rfl
theorem x4y (f:Pr) : ∀ (its:List Item) (seen:List Str),seen.Nodup->((∃ s,UV f its seen = .ok s)↔(∀ it∈its,WR f it=true)∧(seen++its.flatMap fun it=>it.s.labels).Nodup)
 | [],seen,h=>by
   rw [UV];refine ⟨fun _=>⟨fun _ hh=>(by cases hh),by simpa using h⟩,fun _=>⟨seen,rfl⟩⟩
 | it::r,seen,h=>by
   have hj:=DR it.s.labels seen h;rw [UV];cases hq:VQ seen it.s.labels with
   | none =>
     rw [hq] at hj;refine ⟨fun ⟨s,hs⟩=>by (cases hs),fun ⟨_,h2⟩ => ?_⟩;have:(seen++it.s.labels).Nodup:=by
      rw [flatMap_cons,<- List.append_assoc] at h2;exact (List.nodup_append.1 h2).1
     have:=hj.2 this;cases this
   | some s =>
     obtain rfl:=NI hq;rw [hq] at hj;have hn:=hj.1 rfl;simp only;cases hl:WR f it with
     | false =>
       rw [cond_false];refine ⟨fun ⟨s,hs⟩=>by (cases hs),fun ⟨h1,_⟩ => ?_⟩;have:=h1 it mem_cons_self;rw [hl] at this;cases this
     | true =>
       rw [cond_true,x4y f r _ hn,flatMap_cons,List.append_assoc];constructor
       ·rintro ⟨h1,h2⟩;refine ⟨fun x hx => ?_,h2⟩;rcases List.mem_cons.1 hx with rfl|hx
        ·exact hl
        ·exact h1 x hx
       ·rintro ⟨h1,h2⟩;exact ⟨fun x hx=>h1 x (mem_cons_of_mem _ hx),h2⟩
theorem q8f (f:Pr) : ∀ (its:List Item) (seen s:List Str),UV f its seen = .ok s->s=seen++its.flatMap fun it=>it.s.labels
 | [],seen,s,h=>by rw [UV] at h;cases h;simp
 | it::r,seen,s,h=>by
   rw [UV] at h;cases hq:VQ seen it.s.labels with
   | none=>rw [hq] at h;cases h
   | some s2 =>
     obtain rfl:=NI hq;rw [hq] at h;simp only at h;cases hl:WR f it with
     | false=>rw [hl] at h;cases h
     | true =>
       rw [hl,cond_true] at h;rw [q8f f r _ s h,flatMap_cons,List.append_assoc]
def x6r (f:Pr):List Str:=(flL f.body).flatMap S.labels++f.fin
def z6a (p:Pg) (j:Nat) (f:Pr):Prop:=(∀ it∈itsOf p j f,WR f it=true)∧(x6r f).Nodup
theorem q8h (p:Pg) (j:Nat) (f:Pr):((itsOf p j f).flatMap fun it=>it.s.labels)=(flL f.body).flatMap S.labels:=by
 unfold itsOf;rw [<- DW (j:Nat) 0 (-1) 0 (QD p.procs j) f.body,List.flatMap_map]
theorem q7b {p:Pg} {j:Nat} {f:Pr} (hj:p.procs[j]? = some f):VI p j=none↔z6a p j f:=by
 unfold VI z6a x6r;rw [hj];simp only;have h1:=x4y f (itsOf p j f) [] List.nodup_nil;rw [List.nil_append,q8h] at h1;have h0:UV f (itL (j:Nat) 0 (-1) 0 (QD p.procs j) f.body) []=UV f (itsOf p j f) []:=rfl;rw [h0];cases hq:UV f (itsOf p j f) [] with
 | error id =>
   rw [hq] at h1;refine ⟨fun h=>by (cases h),fun ⟨h2,h3⟩ => ?_⟩;obtain ⟨s,hs⟩:=h1.2 ⟨h2,(List.nodup_append.1 h3).1⟩;cases hs
 | ok seen =>
   rw [hq] at h1;have hs:=q8f f _ _ _ hq;rw [List.nil_append,q8h] at hs;obtain ⟨h2,h3⟩:=h1.1 ⟨seen,rfl⟩;have hJ:=DR f.fin seen (by rw [hs];exact h3);simp only;rw [<- hs];cases hq2:VQ seen f.fin with
   | none =>
     rw [hq2] at hJ;refine ⟨fun h=>by (cases h),fun ⟨_,h4⟩ => ?_⟩;have:=hJ.2 h4;cases this
   | some s =>
     rw [hq2] at hJ;exact ⟨fun _=>⟨h2,hJ.1 rfl⟩,fun _=>rfl⟩
theorem x9g {p:Pg} (hs:(QE p).1=0):(DV p).1=0 ↔ ∀ j f,p.procs[j]? = some f->z6a p j f:=by
 unfold DV;rw [if_neg (by omega)];cases hf:(List.range p.procs.length).findSome? (VI p) with
 | some a =>
   refine ⟨fun h=>by simp at h,fun h => ?_⟩;obtain ⟨j,hj,hq⟩:=List.exists_of_findSome?_eq_some hf;rw [List.mem_range] at hj;have:=(q7b (List.getElem?_eq_getElem hj)).2 (h j _ (List.getElem?_eq_getElem hj));rw [this] at hq;cases hq
 | none =>
   refine ⟨fun _ j f hj => ?_,fun _=>rfl⟩;have hlt:j<p.procs.length:=(List.getElem?_eq_some_iff.1 hj).1;exact (q7b hj).1 (List.findSome?_eq_none_iff.1 hf j (List.mem_range.2 hlt))
def allV (p:Pg) (f:Pr):List Str:=p.globals++MJ f
structure ScopeOK (p:Pg) (f:Pr):Prop where
 nd:(allV p f).Nodup
 kn : ∀ t∈flL f.body,knownB p f (procsN p) t=true
theorem q4j {p:Pg} {f:Pr} (hg:ZW p.globals=false):WX p f=none↔ScopeOK p f:=by
 unfold WX;have h1:(ZW (MJ f)||(MJ f).any (fun n=>p.globals.any fun s=>n==s))=false↔(allV p f).Nodup:=by
  unfold allV;rw [Bool.or_eq_false_iff,q8d,nodup_append,List.any_eq_false];have hgn:=q8d.1 hg;constructor
  ·rintro ⟨a,b⟩;refine ⟨hgn,a,fun x hx y hy e=>b y hy ?_⟩;rw [List.any_eq_true];exact ⟨x,hx,by rw [e];exact beq_self_eq_true _⟩
  ·rintro ⟨_,a,b⟩;refine ⟨a,fun y hy hh => ?_⟩;obtain ⟨x,hx,he⟩:=List.any_eq_true.1 hh;exact b x hx y hy (eq_of_beq he).symm
 cases hc:(ZW (MJ f)||(MJ f).any (fun n=>p.globals.any fun s=>n==s)) with
 | true =>
   rw [cond_true];refine ⟨fun h=>by (cases h),fun h => ?_⟩;have:=h1.2 h.nd;rw [hc] at this;cases this
 | false =>
   rw [cond_false,Option.map_eq_none_iff,List.find?_eq_none];constructor
   ·exact fun h=>⟨h1.1 hc,fun t ht=>by have:=h t ht;simpa using this⟩
   ·intro h t ht;rw [h.kn t ht];decide
theorem x4x {p:Pg} (hm:KG p=true):(QE p).1=0↔XR p=false ∧ ∀ f∈p.procs,ScopeOK p f:=by
 unfold QE;rw [hm,cond_true];cases hb:XR p with
 | true=>rw [cond_true];exact ⟨fun h=>by simp at h,fun h=>by cases h.1⟩
 | false =>
   have hg:ZW p.globals=false:=by
    unfold XR at hb;rw [Bool.or_eq_false_iff] at hb;exact hb.1
   rw [cond_false];cases hf:p.procs.findSome? (WX p) with
   | some a =>
     refine ⟨fun h=>by simp at h,fun h => ?_⟩;obtain ⟨f,hm2,hq⟩:=List.exists_of_findSome?_eq_some hf;rw [(q4j hg).2 (h.2 f hm2)] at hq;cases hq
   | none=>exact ⟨fun _=>⟨rfl,fun f hm2=>(q4j hg).1 (List.findSome?_eq_none_iff.1 hf f hm2)⟩,fun _=>rfl⟩
theorem x4v {p:Pg} (hs:(QE p).1=0):(WS p).1=0 ↔ ∀ t∈JK p,t.kind=4->GC p t=true:=by
 unfold WS;rw [if_neg (by omega)];cases hf:(JK p).find? fun t=>decide (t.kind=4) && !GC p t with
 | some t =>
   have h1:=List.mem_of_find?_eq_some hf;have h2:=List.find?_some hf;simp only [Bool.and_eq_true,decide_eq_true_eq,Bool.not_eq_true'] at h2;refine ⟨fun h=>by simp at h,fun h => ?_⟩;have:=h t h1 h2.1;rw [h2.2] at this;cases this
 | none =>
   refine ⟨fun _ t ht hk => ?_,fun _=>rfl⟩;have:=List.find?_eq_none.1 hf t ht;simp only [Bool.and_eq_true,decide_eq_true_eq,Bool.not_eq_true',not_and] at this;simpa using this hk
theorem w0t {p:Pg} (ha:(WS p).1=0):(KV p).1=0 ↔ ∀ t∈JK p,t.kind=4->ZD t.name (FX p t.proc) t.args []=true:=by
 unfold KV;rw [if_neg (by omega)];cases hf:(JK p).find? fun t=>decide (t.kind=4) && !ZD t.name (FX p t.proc) t.args [] with
 | some t =>
   have h1:=List.mem_of_find?_eq_some hf;have h2:=List.find?_some hf;simp only [Bool.and_eq_true,decide_eq_true_eq,Bool.not_eq_true'] at h2;refine ⟨fun h=>by simp at h,fun h => ?_⟩;have:=h t h1 h2.1;rw [h2.2] at this;cases this
 | none =>
   refine ⟨fun _ t ht hk => ?_,fun _=>rfl⟩;have:=List.find?_eq_none.1 hf t ht;simp only [Bool.and_eq_true,decide_eq_true_eq,Bool.not_eq_true',not_and] at this;simpa using this hk
theorem w8u {p:Pg}:chkB p=true↔KG p=true∧(QE p).1=0∧(WS p).1=0∧(DV p).1=0∧(KV p).1=0:=by
 refine ⟨QH,fun ⟨h1,h2,h3,h4,h5⟩ => ?_⟩;unfold chkB w3d;rw [decide_eq_true_eq,if_neg (by rw [h1];decide),if_neg (by omega),if_neg (by omega),if_neg (by omega)];exact h5
theorem z9y {p:Pg} (h:KG p=true):(allR p).map RI.s=JK p:=by
 rw [x8e h];exact w6x p.procs
noncomputable def w1y (p:Pg) (j:Nat) (f:Pr) (a:Nat):List (Int×Int):=(List.range a).map fun (x:Nat)=>(QM p j (cntL f.body+2:Nat) x,(x0y p j f (QM p j (cntL f.body+2:Nat) x)).getD 1 0)
noncomputable def w8q (p:Pg) (n:Str):List (Int×Int):=match wayO p n with
 | some w=>(match w.p.procs[w.j]? with
   | some f=>w1y w.p w.j f (cntL f.body+1)
   | none=>[])
 | none=>[]
theorem x2k {p:Pg} {n:Str} {k:Nat} {f:Pr} (hw:wayO p n=some (newWay p k f)) (hk:p.procs[k]? = some f):w8q p n=w1y p k f (cntL f.body+1):=by
 have h:(newWay p k f).p.procs[(newWay p k f).j]? = some f:=hk;unfold w8q;rw [hw];simp only;rw [h];rfl
theorem w0z {p:Pg} {n:Str} (hw:wayO p n=none):w8q p n=[]:=by
 unfold w8q;rw [hw]
theorem z7w (p:Pg) (j:Nat) (f:Pr) (a:Nat):w1y p j f (a+1)=w1y p j f a++[(QM p j (cntL f.body+2:Nat) a,(x0y p j f (QM p j (cntL f.body+2:Nat) a)).getD 1 0)]:=by
 unfold w1y;rw [List.range_succ,List.map_append];rfl
theorem x9a (p:Pg) (j:Nat) (f:Pr) (a:Nat):(w1y p j f a).length=a:=by unfold w1y;simp
theorem w5q {p:Pg} {j:Nat} {f:Pr} (h:chkB p=true) (hj:p.procs[j]? = some f) {x:Int} (hx:plP p j f x) (hne:x ≠ -1):2<=(x0y p j f x).length:=by
 have hR:=q9p h hj hx;have h1:x∈x0y p j f x:=(hR.mem x).2 ⟨hx,q5e x⟩;have h2:(-1:Int)∈x0y p j f x:=(hR.mem _).2 ⟨.inr (.inl rfl),folP.exit x (x1k h hj hx)⟩
 match hq:x0y p j f x,h1,h2 with
 | [],h1,_=>cases h1
 | [y],h1,h2 =>
   have e1:=List.mem_singleton.1 h1;have e2:=List.mem_singleton.1 h2;omega
 | _::_::_,_,_=>simp
theorem w2b (p:Pg) (hf:Fit p) (n:Str):SpecP Tryz.prog 116 [.agg p.cells,.str n] (fun r=>r = .sl (avP (w8q p n))):=by
 refine sB z4v Tryz.func116 rfl Tryz.call116 ?_;conv=>whnf
 have hW:=w6j p hf n;cases hw:wayO p n with
 | none =>
   rw [w0z hw];rw [hw] at hW;repeat' (refine cP hW ?_;conv=>whnf)
   exact ⟨_,.p Sub.nils,rfl⟩
 | some w =>
   obtain ⟨k,f,hkj,rfl,hc,_⟩:=x5m hw;have hT:=v1d hc hkj;have hn2:=hT.hn2;have hn5:=hT.hn;have hwn:=hT.hw;rw [x2k hw hkj];rw [hw] at hW;have hFo:=DF (newWay p k f) f (cntL f.body+2) hT (x0w hc hkj) (Nat.le_trans (z6z hc hkj) (by decide));repeat' ((first|refine cP hW ?_|(refine CallK.pure hFo (.cons (Sub.refl _) .nil) ?_;rintro _ ⟨fm,hF,rfl⟩));conv=>whnf)
   refine LoopK.inv QV (fun a:Nat=>⟨[(5,.p (.ip (newWay p k f).cells)),(6,.hd 0 0 (w1y p k f a).length),(7,.p (.sl ((bmI fm).map .sl))),(8,.p (.int .i64 a))],[(0,.own 227 2 (avP (w1y p k f a)))]⟩) (fun a=>a<=cntL f.body+1) (fun a=>cntL f.body+1-a) 0
    (Le.mk [(0,.own 227 2 [])] (by simp [Chunk.new0];rfl) (by simp) (by simp) (.cons (.refl _) (.cons (.nil mem_cons_self) (.cons (.refl _) (.cons (.of_eq rfl) .nil)))) (.new mem_cons_self .nil)) (zero_le _) ?_
   intro a ha;have hal:=x9a p k f a;rcases Nat.lt_or_ge a (cntL f.body+1) with ha2|ha2
   ·obtain ⟨q1,q2⟩:=YS (p:=p) (j:=k) (f:=f) (i:=(a:Int)) (by omega);have hne:QM p k (cntL f.body+2:Nat) a ≠ -1:=fun e=>by
     rw [e,q3f] at q2;omega
    have hR:=z1m hc hkj hF q1;rw [q2] at hR;have hP:=GX (newWay p k f) f hT.hj hT.hc (by omega) a (by omega);have heP:QM (newWay p k f).p (newWay p k f).j (newWay p k f).n a=QM p k (cntL f.body+2:Nat) a:=rfl;rw [heP] at hP;have hsucc:=z7w p k f a;have htwo:=w5q hc hkj q1 hne;have hg:=UH (l:=x0y p k f (QM p k (cntL f.body+2:Nat) a)) (i:=1) (by omega);have hgz:getz (x0y p k f (QM p k (cntL f.body+2:Nat) a)) 1=(x0y p k f (QM p k (cntL f.body+2:Nat) a)).getD 1 0:=rfl;rw [hgz] at hg;have hlen2:=w1m hc hkj q1;generalize (x0y p k f (QM p k (cntL f.body+2:Nat) a)).getD 1 0=nr at hsucc hg;generalize x0y p k f (QM p k (cntL f.body+2:Nat) a)=fr at hR hg htwo hlen2;generalize QM p k (cntL f.body+2:Nat) a=pl at hP hsucc;generalize w1y p k f a=acc at hal hsucc ⊢;have haa:(avP acc).length=acc.length:=by unfold avP;rw [length_map]
    conv=>whnf
    repeat' (first|((first|refine And.intro rfl ?_|refine aD ?_|refine bP ?_|refine Wr.eq (m:=(cntL f.body+1:Nat)) (by omega) (by omega) (by omega) ?_|refine wI ?_|refine cP hP ?_|refine cP hR ?_|(refine IdxK.at (k:=1) rfl hg rfl ?_)|refine AppK.mk haa.symm rfl (by show (acc.length+1)*16<=140737488355328;omega) (by show acc.length+1<=9223372036854775807;omega) (fun x hx=>by rcases List.mem_singleton.1 hx with rfl;exact ⟨rfl,rfl⟩) ?_);conv=>whnf)|(apply bD<;>intro _<;>first|omega|conv=>whnf))
    all_goals first
     | (exfalso;omega)
     | exact ⟨a+1,by omega,by omega,Le.of_eq (by rw [hsucc];simp only [avP,length_append,List.map_append];rfl)⟩
     | skip
   ·have hae:a=cntL f.body+1:=by omega
    subst hae;conv=>whnf
    repeat' (first|(refine Wr.eq (m:=(cntL f.body+1:Nat)) (by omega) (by omega) (by omega) ?_;conv=>whnf)|(apply bD<;>intro _<;>first|omega|conv=>whnf))
    all_goals first
     | (exfalso;omega)
     | exact ⟨_,.hd rfl (by unfold avP;rw [length_map]),rfl⟩
     | skip
def avF (nx:List (List Int)) (n b:Nat):Nat->Nat->Bool
 | 0,_=>false
 | k+1,a=>(decide (a=n-1)&&decide (b≠n-1))||(decide (a≠b)&&(nx.getD a []).any fun t=>decide (0<=t)&&avF nx n b k t.toNat)
theorem z8x {nx:List (List Int)} {n b:Nat} : ∀ (k a:Nat),avF nx n b k a=true->Avd nx n b a
 | 0,_,h=>by cases h
 | k+1,a,h=>by
   rw [avF,Bool.or_eq_true,Bool.and_eq_true,Bool.and_eq_true,decide_eq_true_eq,decide_eq_true_eq,decide_eq_true_eq,List.any_eq_true] at h;rcases h with ⟨rfl,h⟩|⟨h1,t,ht,h2⟩
   ·exact .exit h
   ·rw [Bool.and_eq_true,decide_eq_true_eq] at h2;exact .step h1 (by rw [Int.toNat_of_nonneg h2.1];exact ht) (z8x k _ h2.2)
theorem x4f {n:Nat} {nx:List (List Int)} {G:List (List Bool)} (hl:G.length=n) (hr : ∀ r∈G,r.length=n) (hlast:G.getD (n-1) []=filRow n (n-1))
  (hfix:((List.range (n-1)).all fun a=>decide (G.getD a []=rowF n nx G a))=true) (hmin:((List.range n).all fun a=>(List.range n).all fun b=>bitF G a b||avF nx n b n a)=true):FollowP n nx G:=by
 have hf : ∀ a,a<n-1->G.getD a []=rowF n nx G a:=fun a ha=>of_decide_eq_true (List.all_eq_true.1 hfix a (List.mem_range.2 ha));refine ⟨⟨hl,hr,hlast,fun a b ha hb h => ?_,fun a b ha hb h => ?_⟩,hf⟩
 ·unfold bitF;rw [hf a ha];exact h
 ·have h1:=List.all_eq_true.1 (List.all_eq_true.1 hmin a (List.mem_range.2 ha)) b (List.mem_range.2 hb);rw [h,Bool.false_or] at h1;exact z8x _ _ h1
theorem v3c:YB (newWay someP 1 f1) f1=[(0,1),(0,5),(1,2),(2,3),(2,4),(3,4),(3,5),(4,5)]:=by
 unfold YB;rw [v5t]
 kernel_rfl
theorem v3f:YB (newWay someP 0 f0) f0=[(0,1),(0,5),(1,2),(2,3),(3,4),(4,5)]:=by
 unfold YB;rw [v6d]
 kernel_rfl
def fol1:List (List Bool):=[[true,false,false,false,false,true],[false,true,true,false,false,true],[false,false,true,false,false,true],[false,false,false,true,false,true],[false,false,false,false,true,true],[false,false,false,false,false,true]]
def fol0:List (List Bool):=[[true,false,false,false,false,true],[false,true,true,true,true,true],[false,false,true,true,true,true],[false,false,false,true,true,true],[false,false,false,false,true,true],[false,false,false,false,false,true]]
theorem BF (p:Pg) (hf:Fit p) (most:Int):SpecP Tryz.prog 65 [.agg p.cells,.int .i64 most] (fun r=>r = .bool (x5i p most)):=by
 refine sB FQ Tryz.func65 rfl Tryz.call65 ?_;conv=>whnf
 have hC:=HL p hf;unfold x5i;cases hc:chkB p with
 | false =>
   rw [hc] at hC;repeat' (first|(refine cP hC ?_;conv=>whnf)|(apply bB<;>intro _<;>conv=>whnf))
   all_goals first
    | contradiction
    | exact RetK.ff (by simp)
 | true =>
   rw [hc] at hC;have hcn:=(WN hc).2.2;repeat' (first|((first|refine cP hC ?_|(refine CallK.pure (z4r p (by omega)) (.cons (Sub.refl _) .nil) ?_;rintro _ rfl));conv=>whnf)|(apply bB<;>intro _<;>conv=>whnf))
   all_goals first
    | contradiction
    | exact RetK.bool (by simp)
theorem x3q {p:Pg} {j:Nat} {f:Pr} (h:chkB p=true) (hj:p.procs[j]? = some f) {fm:List (List Bool)} (hF:FollowP (cntL f.body+2) (YU (cntL f.body+2) (YB (newWay p j f) f)) fm) {a:Int} (ha:plP p j f a) {l:List Int}
  (h1 : ∀ y∈l,plP p j f y) (h2 : ∀ y∈plL p j f,bitF fm (ixI p j f a).toNat (ixI p j f y).toNat=decide (y∈l)) (h3:l.Nodup) (h4:l.Pairwise fun x y=>bitF fm (ixI p j f x).toNat (ixI p j f y).toNat=true):x0y p j f a=l:=by
 refine (RowP.eq h hj (l:=l) ⟨fun y=>⟨fun hy=>⟨h1 y hy,?_⟩,fun hh => ?_⟩,h3,?_⟩).symm
 ·refine (KS h hj hF ha (h1 y hy)).1 ?_;rw [h2 y (UO.2 (h1 y hy))];exact decide_eq_true hy
 ·have:=(KS h hj hF ha hh.1).2 hh.2;rw [h2 y (UO.2 hh.1)] at this;exact of_decide_eq_true this
 ·exact h4.imp_of_mem fun {x y} hx hy hb=>(KS h hj hF (h1 x hx) (h1 y hy)).1 hb
theorem v0w:FollowP (cntL f1.body+2) (YU (cntL f1.body+2) (YB (newWay someP 1 f1) f1)) fol1:=by
 rw [v3c];exact x4f (by kernel_rfl) (by decide) (by kernel_rfl) (by kernel_rfl) (by kernel_rfl)
theorem v0r:FollowP (cntL f0.body+2) (YU (cntL f0.body+2) (YB (newWay someP 0 f0) f0)) fol0:=by
 rw [v3f];exact x4f (by kernel_rfl) (by decide) (by kernel_rfl) (by kernel_rfl) (by kernel_rfl)
theorem z8p:z3v someP [109,97,105,110] 2=[2,3,4,-1]:=by
 rw [PD z5k rfl,if_pos (by decide)];exact x3q q2m rfl v0r (UO.1 (by decide)) (fun y hy=>UO.1 (by revert y;decide)) (by decide) (by decide) (by decide)
theorem v1x:z3v someP [112] 6=[6,-1]:=by
 rw [PD z1v rfl,if_pos (by decide)];exact x3q q2m rfl v0w (UO.1 (by decide)) (fun y hy=>UO.1 (by revert y;decide)) (by decide) (by decide) (by decide)
theorem ZK:SpecP Tryz.prog 64 [] (fun r=>r = .tt):=by
 have hO:=z8v someP q9o [109,97,105,110] 2;rw [z8p] at hO;have hN:=w4q someP q9o [112] 6;have hNv:z8e someP [112] 6=(-1,true):=by unfold z8e;rw [v1x];rfl
 rw [hNv] at hN;simp only at hN;have hT:=w2b someP q9o [112];have hTl:(w8q someP [112]).length=5:=by rw [x2k z1v rfl,x9a];rfl
 generalize w8q someP [112]=T at *
 have hTm:(avP T).length=5:=by unfold avP;rw [length_map];exact hTl
 refine sB JQ Tryz.func64 rfl Tryz.call64 ?_;conv=>whnf
 repeat' (first|((first|(refine iM fun _=>?_)|refine And.intro rfl ?_|refine cP LN ?_|refine cP hO ?_|refine cP hN ?_|refine cP hT ?_|(refine IdxK.at (k:=0) (e := .int .i64 2) rfl rfl rfl ?_)|(refine IdxK.at (k:=1) (e := .int .i64 3) rfl rfl rfl ?_)|(refine IdxK.at (k:=3) (e := .int .i64 (-1)) rfl rfl rfl ?_));conv=>whnf)|(apply bD<;>intro _<;>first|omega|conv=>whnf)|(apply bB<;>intro _<;>conv=>whnf))
 all_goals first
  | exact RetK.tt rfl
  | exact ⟨_,.p (x8i rfl),rfl⟩
  | exact ⟨_,.p (Sub.tt rfl),rfl⟩
  | exact ⟨_,.p (x8i (by rw [hTm];rfl)),rfl⟩
  | contradiction
  | (rename_i h;exact absurd rfl h)
section
variable {p:Pg} {j:Nat} {f:Pr} {n:Str}
end
section
variable {p:Pg} {j:Nat} {f:Pr}
end
section
variable {p:Pg} {j:Nat} {f:Pr}
end
theorem v1q {p:Pg} (h:Fit p) {f:Pr} (hf:f∈p.procs) : ∀ t∈flL f.body,okC t:=fun t ht=>by
 have h1:=h.pr hf;unfold wPr at h1;have h2:=x3g _ _ ht;have h3:=x7g t;have h4:=FU t.labels;have h5:=HJ t.args;refine ⟨by omega,by omega,by omega,fun a ha => ?_⟩;have key : ∀ (l:List Arg),a∈l->wX a.x<=q1k l:=fun l=>by
  induction l with
  | nil=>intro h;cases h
  | cons b r ih =>
    intro h;rw [q1k];rcases List.mem_cons.1 h with rfl|h
    ·omega
    ·have:=ih h;omega
 have:=key _ ha;omega
theorem w8l {p:Pg} (h:Fit p) (hc:chkB p=true):p.procs.length<=1000∧p.globals.length<=1000000 ∧ ∀ f∈p.procs,f.vars.length<=1000000∧f.fin.length<=1000000∧f.params.length<=1000000∧cntL f.body<=1000000 ∧ ∀ t∈flL f.body,okC t:=by
 obtain ⟨h1,h2,h3⟩:=WN hc;refine ⟨by omega,by omega,fun f hf => ?_⟩;have h4:=h.pr hf;unfold wPr at h4;have h5:=FU f.vars;have h6:=FU f.fin;have h7:=x9x f.params;have h8:=x2h f.body;exact ⟨by omega,by omega,by omega,by omega,v1q h hf⟩
def prA (p:Pg) (i:Nat):Pr:=p.procs.getD i Pr0
theorem w5n {p:Pg} {i:Nat} (h:i<p.procs.length):p.procs[i]? = some (prA p i):=by
 unfold prA;rw [getD_eq_getElem?_getD,List.getElem?_eq_getElem h];rfl
theorem q0s {p:Pg} {i:Nat} {f:Pr} (h:p.procs[i]? = some f):prA p i=f:=by
 unfold prA;rw [getD_eq_getElem?_getD,h];rfl
theorem z3l {p:Pg} (h:chkB p=true) (i:Nat):(prA p i).params.length<=8:=by
 rcases Nat.lt_or_ge i p.procs.length with h1|h1
 ·exact (UA.1 (z8f (QH h).1 (List.mem_of_getElem? (w5n h1)))).1
 ·unfold prA;rw [getD_eq_getElem?_getD,List.getElem?_eq_none h1];decide
theorem z2q {p:Pg} (h:chkB p=true) {t:S} (ht:t∈JK p) (h4:t.kind=4) : ∃ k,k<p.procs.length∧caI p t=(k:Nat)∧caP p t=prA p k∧(prA p k).name=t.proc∧(prA p k).params.map Param.ref=t.args.map Arg.ref:=by
 obtain ⟨_,hs,ha,_⟩:=QH h;have hf:=(x4v hs).1 ha t ht h4;unfold GC at hf;rw [Bool.and_eq_true] at hf;have hf2:=hf.2;cases hq:p.procs.find? (fun f=>f.name==t.proc) with
 | none=>rw [hq] at hf2;cases hf2
 | some f =>
   rw [hq] at hf2;have hn:t.proc∈procsN p:=List.mem_map.2 ⟨f,List.mem_of_find?_eq_some hq,by simpa using List.find?_some hq⟩;obtain ⟨k,hk,h1,_,h3,h5⟩:=q4y hn;rw [hq] at h3;have hkf:p.procs[k]=f:=(Option.some.inj h3).symm;have hp:prA p k=f:=by rw [<- hkf];exact q0s (List.getElem?_eq_getElem hk)
   have hci:caI p t=(k:Nat):=h1;refine ⟨k,hk,hci,?_,?_,?_⟩
   ·unfold caP;rw [hci];rfl
   ·rw [hp,<- hkf];exact h5
   ·rw [hp];unfold z4h at hf2;exact of_decide_eq_true hf2
section
variable (p:Pg) (i:Nat) (f:Pr) (D U:List (List Str)) (o:List Str) (x:Str)
end
section
variable {p:Pg} {i:Nat} {f:Pr} {D U:List (List Str)} {o:List Str} {x:Str}
variable {n:Nat} {seen:List Bool} {todo:List Int} {a:Int}
end
theorem w3x {p:Pg} {f:Pr} {n:Str} (h:q1v p f n≠0):n∈p.globals∨n∈MJ f:=by
 unfold q1v at h;unfold MJ;cases hq:f.params.find? (fun a=>a.name==n) with
 | some a =>
   refine .inr (List.mem_append_left _ (List.mem_map.2 ⟨a,List.mem_of_find?_eq_some hq,by simpa using List.find?_some hq⟩))
 | none =>
   rw [hq] at h;cases hv:f.vars.any (fun s=>n==s) with
   | true =>
     obtain ⟨s,h1,h2⟩:=List.any_eq_true.1 hv;exact .inr (List.mem_append_right _ (by rw [eq_of_beq h2];exact h1))
   | false =>
     cases hg:p.globals.any (fun s=>n==s) with
     | true =>
       obtain ⟨s,h1,h2⟩:=List.any_eq_true.1 hg;exact .inl (by rw [eq_of_beq h2];exact h1)
     | false=>exact absurd (by simp only [hv,hg];rfl) h
section
variable {p:Pg} {j:Nat} {f:Pr}
end
end Go.Ab
