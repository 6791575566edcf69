/- The reference's small questions: names twice, what a name is, what a statement names, whom a call calls. -/
import Derived.Test.YtneccajakpeodaaGreatDomT5
import Derived.Test.YtneccajakpeodaaGreatDomT18
set_option linter.unusedSimpArgs false
set_option linter.unusedVariables false
set_option maxRecDepth 100000
set_option maxHeartbeats 16000000
namespace Go.Ab
open Go.Proofs
theorem x5p {l:List Str} (h : ¬l.Nodup):XX l=true:=by
 cases hq:XX l with
 | true=>rfl
 | false=>exact absurd (ZU.1 hq) h
theorem XL (l:List Str):SpecP Tryz.prog 268 [QD l] (fun r=>r = .bool (XX l)):=by
 refine SpecP.body BX QQ Tryz.func268 rfl Tryz.call268 (by show 1≤_;decide) ?_
 conv=>whnf
 intro (_:_≤9223372036854775807)
 have hl:(l.map AV.str).length=l.length:=List.length_map _
 conv=>whnf
 refine LoopK.inv QQ (fun j:Nat=>⟨[(0,.p (QD l)),(6,.p (.int .i64 (l.map AV.str).length)),(7,.p (.int .i64 j))],[]⟩) (fun j=>j≤l.length∧(l.take j).Nodup) (fun j=>l.length-j) 0 (Le.of_eq rfl) ⟨Nat.zero_le _,by simp⟩ ?_
 rintro j ⟨h2,h3⟩
 rcases Nat.lt_or_ge j l.length with hj|hj
 ·conv=>whnf
  repeat' (first|((first|(intro (_:_≤9223372036854775807))|(refine DrawK.auto QQ mixed (by kernel_rfl) ?_)|(refine And.intro rfl ?_)|(refine And.intro ⟨by decide,by decide⟩ ?_)|(refine And.intro ⟨rfl,rfl,by decide⟩ ?_)|(refine BsK.pure (fun x hx=>by rcases List.mem_singleton.1 hx with rfl;rfl) rfl ?_)|(refine IdxK.map (by omega) (fun _=>rfl) ?_)|(refine IdxK.xs (by omega) ?_)|(refine IdxK.ss (by omega) ?_)|(refine ByteK.at (by omega) ?_)|(refine Wr.i64 (by omega) (by omega) ?_));conv=>whnf)|(refine Br.dec (fun _ => ?_) (fun _ => ?_)<;>first|(exfalso;omega)|conv=>whnf)|(refine Br.dec2 (fun _ => ?_) (fun _ => ?_)<;>first|(exfalso;omega)|conv=>whnf)|(refine Br.n (fun _ => ?_) (fun _ => ?_)<;>conv=>whnf)|(refine Br.b (fun _ => ?_) (fun _ => ?_)<;>conv=>whnf))
  refine LoopK.inv QQ (fun k:Nat=>⟨[(0,.p (QD l)),(3,.p (.int .i64 j)),(4,.p (.int .i64 k)),(6,.p (.int .i64 (l.map AV.str).length)),(7,.p (.int .i64 j))],[]⟩) (fun k=>k≤j ∧ ∀ s∈l.take k,s≠l[j]) (fun k=>j-k) 0 (Le.of_eq rfl) ⟨Nat.zero_le _,fun s hs=>by rw [List.take_zero] at hs;cases hs⟩ ?_
  rintro k ⟨h4,h5⟩
  rcases Nat.lt_or_ge k j with hk|hk
  ·conv=>whnf
   repeat' (first|((first|(intro (_:_≤9223372036854775807))|(refine DrawK.auto QQ mixed (by kernel_rfl) ?_)|(refine And.intro rfl ?_)|(refine And.intro ⟨by decide,by decide⟩ ?_)|(refine And.intro ⟨rfl,rfl,by decide⟩ ?_)|(refine BsK.pure (fun x hx=>by rcases List.mem_singleton.1 hx with rfl;rfl) rfl ?_)|(refine IdxK.map (by omega) (fun _=>rfl) ?_)|(refine IdxK.xs (by omega) ?_)|(refine IdxK.ss (by omega) ?_)|(refine ByteK.at (by omega) ?_)|(refine Wr.i64 (by omega) (by omega) ?_));conv=>whnf)|(refine Br.dec (fun _ => ?_) (fun _ => ?_)<;>first|(exfalso;omega)|conv=>whnf)|(refine Br.dec2 (fun _ => ?_) (fun _ => ?_)<;>first|(exfalso;omega)|conv=>whnf)|(refine Br.n (fun _ => ?_) (fun _ => ?_)<;>conv=>whnf)|(refine Br.b (fun _ => ?_) (fun _ => ?_)<;>conv=>whnf))
   ·refine RetK.tt (x5p fun hn => ?_)
    have he:l[j]=l[k]:=eq_of_beq (by assumption)
    have:=(List.getElem_inj hn).1 he
    omega
   ·have he:(l[j]==l[k])=false:=by assumption
    refine ⟨k+1,⟨by omega,fun s hs => ?_⟩,by omega,Le.of_eq rfl⟩
    rcases (QT (by omega)).1 hs with h6|rfl
    ·exact h5 s h6
    ·exact fun e=>by rw [e] at he;simp at he
  ·obtain rfl:k=j:=by omega
   conv=>whnf
   repeat' (first|((first|(intro (_:_≤9223372036854775807))|(refine DrawK.auto QQ mixed (by kernel_rfl) ?_)|(refine And.intro rfl ?_)|(refine And.intro ⟨by decide,by decide⟩ ?_)|(refine And.intro ⟨rfl,rfl,by decide⟩ ?_)|(refine BsK.pure (fun x hx=>by rcases List.mem_singleton.1 hx with rfl;rfl) rfl ?_)|(refine IdxK.map (by omega) (fun _=>rfl) ?_)|(refine IdxK.xs (by omega) ?_)|(refine IdxK.ss (by omega) ?_)|(refine ByteK.at (by omega) ?_)|(refine Wr.i64 (by omega) (by omega) ?_));conv=>whnf)|(refine Br.dec (fun _ => ?_) (fun _ => ?_)<;>first|(exfalso;omega)|conv=>whnf)|(refine Br.dec2 (fun _ => ?_) (fun _ => ?_)<;>first|(exfalso;omega)|conv=>whnf)|(refine Br.n (fun _ => ?_) (fun _ => ?_)<;>conv=>whnf)|(refine Br.b (fun _ => ?_) (fun _ => ?_)<;>conv=>whnf))
   refine ⟨k+1,⟨by omega,?_⟩,by omega,Le.of_eq rfl⟩
   rw [List.take_succ_eq_append_getElem hj,List.nodup_append]
   exact ⟨h3,by simp,fun a ha b hb e=>h5 a ha (by rw [e];exact List.mem_singleton.1 hb)⟩
 ·rw [List.take_of_length_le hj] at h3
  conv=>whnf
  repeat' (first|((first|(intro (_:_≤9223372036854775807))|(refine DrawK.auto QQ mixed (by kernel_rfl) ?_)|(refine And.intro rfl ?_)|(refine And.intro ⟨by decide,by decide⟩ ?_)|(refine And.intro ⟨rfl,rfl,by decide⟩ ?_)|(refine BsK.pure (fun x hx=>by rcases List.mem_singleton.1 hx with rfl;rfl) rfl ?_)|(refine IdxK.map (by omega) (fun _=>rfl) ?_)|(refine IdxK.xs (by omega) ?_)|(refine IdxK.ss (by omega) ?_)|(refine ByteK.at (by omega) ?_)|(refine Wr.i64 (by omega) (by omega) ?_));conv=>whnf)|(refine Br.dec (fun _ => ?_) (fun _ => ?_)<;>first|(exfalso;omega)|conv=>whnf)|(refine Br.dec2 (fun _ => ?_) (fun _ => ?_)<;>first|(exfalso;omega)|conv=>whnf)|(refine Br.n (fun _ => ?_) (fun _ => ?_)<;>conv=>whnf)|(refine Br.b (fun _ => ?_) (fun _ => ?_)<;>conv=>whnf))
  exact RetK.ff (ZU.2 h3)
theorem BT (f:Pr) (h1:f.params.length≤1000000):SpecP Tryz.prog 269 [.agg f.cells] (fun r=>r=QD (f.params.map Param.name)):=by
 refine SpecP.body FQ QQ Tryz.func269 rfl Tryz.call269 (by show 1≤_;decide) ?_
 conv=>whnf
 intro (_:_≤9223372036854775807)
 have hl:(f.params.map fun a=>AV.agg a.cells).length=f.params.length:=List.length_map _
 conv=>whnf
 refine LoopK.inv QQ (fun j:Nat=>⟨[(3,.hd 0 0 j),(7,.p (.sl (f.params.map fun a=>AV.agg a.cells))),(8,.p (.int .i64 (f.params.map fun a=>AV.agg a.cells).length)),(9,.p (.int .i64 j))],[(0,.own 9 1 (((f.params.map Param.name).take j).map .str))]⟩) (fun j=>j≤f.params.length) (fun j=>f.params.length-j) 0
  (Le.mk [(0,.own 9 1 [])] (by simp [Chunk.new0];rfl) (by simp) (by simp) (.cons (.nil List.mem_cons_self) (.cons (.refl _) (.cons (.refl _) (.cons (.refl _) .nil)))) (.new List.mem_cons_self .nil)) (Nat.zero_le _) ?_
 intro j h3
 rcases Nat.lt_or_ge j f.params.length with hj|hj
 ·have hr:((f.params.map Param.name).take (j+1))=(f.params.map Param.name).take j++[f.params[j].name]:=by
   rw [List.take_succ_eq_append_getElem (by simpa using hj),List.getElem_map]
  have hlt:((f.params.map Param.name).take j).length=j:=by simp;omega
  generalize (f.params.map Param.name).take j=acc at *
  conv=>whnf
  repeat' (first|((first|(intro (_:_≤9223372036854775807))|(refine DrawK.auto QQ mixed (by kernel_rfl) ?_)|(refine And.intro rfl ?_)|(refine And.intro ⟨by decide,by decide⟩ ?_)|(refine And.intro ⟨rfl,rfl,by decide⟩ ?_)|(refine BsK.pure (fun x hx=>by rcases List.mem_singleton.1 hx with rfl;rfl) rfl ?_)|(refine IdxK.map (by omega) (fun _=>rfl) ?_)|(refine IdxK.xs (by omega) ?_)|(refine IdxK.ss (by omega) ?_)|(refine ByteK.at (by omega) ?_)|(refine Wr.i64 (by omega) (by omega) ?_)|(refine AppK.str1 (by simp;omega) (by simp;omega) ?_));conv=>whnf)|(refine Br.dec (fun _ => ?_) (fun _ => ?_)<;>first|(exfalso;omega)|conv=>whnf)|(refine Br.dec2 (fun _ => ?_) (fun _ => ?_)<;>first|(exfalso;omega)|conv=>whnf)|(refine Br.n (fun _ => ?_) (fun _ => ?_)<;>conv=>whnf)|(refine Br.b (fun _ => ?_) (fun _ => ?_)<;>conv=>whnf))
  exact ⟨j+1,by omega,by omega,Le.of_eq (by rw [hr];simp;rfl)⟩
 ·rw [List.take_of_length_le (by simpa using hj)]
  conv=>whnf
  repeat' (first|((first|(intro (_:_≤9223372036854775807))|(refine DrawK.auto QQ mixed (by kernel_rfl) ?_)|(refine And.intro rfl ?_)|(refine And.intro ⟨by decide,by decide⟩ ?_)|(refine And.intro ⟨rfl,rfl,by decide⟩ ?_)|(refine BsK.pure (fun x hx=>by rcases List.mem_singleton.1 hx with rfl;rfl) rfl ?_)|(refine IdxK.map (by omega) (fun _=>rfl) ?_)|(refine IdxK.xs (by omega) ?_)|(refine IdxK.ss (by omega) ?_)|(refine ByteK.at (by omega) ?_)|(refine Wr.i64 (by omega) (by omega) ?_));conv=>whnf)|(refine Br.dec (fun _ => ?_) (fun _ => ?_)<;>first|(exfalso;omega)|conv=>whnf)|(refine Br.dec2 (fun _ => ?_) (fun _ => ?_)<;>first|(exfalso;omega)|conv=>whnf)|(refine Br.n (fun _ => ?_) (fun _ => ?_)<;>conv=>whnf)|(refine Br.b (fun _ => ?_) (fun _ => ?_)<;>conv=>whnf))
  exact ⟨_,.hd rfl (by simp;omega),rfl⟩
theorem LO (p:Pg) (f:Pr) (name:Str):SpecP Tryz.prog 270 [.agg p.cells,.agg f.cells,.str name] (fun r=>r = .int .i64 (KI p f name)):=by
 refine SpecP.body BA QQ Tryz.func270 rfl Tryz.call270 (by show 3≤_;decide) ?_
 conv=>whnf
 repeat' (first|((first|(intro (_:_≤9223372036854775807))|(refine DrawK.auto QQ mixed (by kernel_rfl) ?_)|(refine And.intro rfl ?_)|(refine And.intro ⟨by decide,by decide⟩ ?_)|(refine And.intro ⟨rfl,rfl,by decide⟩ ?_)|(refine BsK.pure (fun x hx=>by rcases List.mem_singleton.1 hx with rfl;rfl) rfl ?_)|(refine IdxK.map (by omega) (fun _=>rfl) ?_)|(refine IdxK.xs (by omega) ?_)|(refine IdxK.ss (by omega) ?_)|(refine ByteK.at (by omega) ?_)|(refine Wr.i64 (by omega) (by omega) ?_));conv=>whnf)|(refine Br.dec (fun _ => ?_) (fun _ => ?_)<;>first|(exfalso;omega)|conv=>whnf)|(refine Br.dec2 (fun _ => ?_) (fun _ => ?_)<;>first|(exfalso;omega)|conv=>whnf)|(refine Br.n (fun _ => ?_) (fun _ => ?_)<;>conv=>whnf)|(refine Br.b (fun _ => ?_) (fun _ => ?_)<;>conv=>whnf))
 have hl:(f.params.map fun a=>AV.agg a.cells).length=f.params.length:=List.length_map _
 refine LoopK.inv QQ (fun j:Nat=>⟨[(2,.p (.str name)),(3,.p (.ip p.cells)),(4,.p (.ip f.cells)),(10,.p (.sl (f.params.map fun a => .agg a.cells))),(11,.p (.int .i64 (f.params.map fun a=>AV.agg a.cells).length)),(12,.p (.int .i64 j))],[]⟩) (fun j=>j≤f.params.length∧(f.params.drop j).find? (fun a=>a.name==name)=f.params.find? fun a=>a.name==name) (fun j=>f.params.length-j) 0 (Le.of_eq rfl) ⟨Nat.zero_le _,rfl⟩ ?_
 rintro j ⟨h2,h3⟩
 rcases Nat.lt_or_ge j f.params.length with hj|hj
 ·conv=>whnf
  repeat' (first|((first|(intro (_:_≤9223372036854775807))|(refine DrawK.auto QQ mixed (by kernel_rfl) ?_)|(refine And.intro rfl ?_)|(refine And.intro ⟨by decide,by decide⟩ ?_)|(refine And.intro ⟨rfl,rfl,by decide⟩ ?_)|(refine BsK.pure (fun x hx=>by rcases List.mem_singleton.1 hx with rfl;rfl) rfl ?_)|(refine IdxK.map (by omega) (fun _=>rfl) ?_)|(refine IdxK.xs (by omega) ?_)|(refine IdxK.ss (by omega) ?_)|(refine ByteK.at (by omega) ?_)|(refine Wr.i64 (by omega) (by omega) ?_));conv=>whnf)|(refine Br.dec (fun _ => ?_) (fun _ => ?_)<;>first|(exfalso;omega)|conv=>whnf)|(refine Br.dec2 (fun _ => ?_) (fun _ => ?_)<;>first|(exfalso;omega)|conv=>whnf)|(refine Br.n (fun _ => ?_) (fun _ => ?_)<;>conv=>whnf)|(refine Br.b (fun _ => ?_) (fun _ => ?_)<;>conv=>whnf))
  all_goals first
   | (exfalso;simp_all;done)
   | (have e:=GE (p:=fun a:Param=>a.name==name) hj (by assumption)
      rw [h3] at e
      exact RetK.int (by unfold KI;rw [e];simp [*]))
   | (refine ⟨j+1,⟨by omega,by rw [← h3,PS (p:=fun a:Param=>a.name==name) hj (by assumption)]⟩,by omega,Le.of_eq rfl⟩)
 ·have e:f.params.find? (fun a=>a.name==name)=none:=by rw [← h3,GU (by omega)]
  conv=>whnf
  repeat' (first|((first|(intro (_:_≤9223372036854775807))|(refine CallK.pure (QS _ _) (by repeat' (first|exact ArgP.nil|refine ArgP.cons ?_ ?_|exact Sub.refl _|exact Sub.tt rfl|exact Sub.ff rfl)) ?_;rintro _ rfl)|(refine DrawK.auto QQ mixed (by kernel_rfl) ?_)|(refine And.intro rfl ?_)|(refine And.intro ⟨by decide,by decide⟩ ?_)|(refine And.intro ⟨rfl,rfl,by decide⟩ ?_)|(refine BsK.pure (fun x hx=>by rcases List.mem_singleton.1 hx with rfl;rfl) rfl ?_)|(refine IdxK.map (by omega) (fun _=>rfl) ?_)|(refine IdxK.xs (by omega) ?_)|(refine IdxK.ss (by omega) ?_)|(refine ByteK.at (by omega) ?_)|(refine Wr.i64 (by omega) (by omega) ?_));conv=>whnf)|(refine Br.dec (fun _ => ?_) (fun _ => ?_)<;>first|(exfalso;omega)|conv=>whnf)|(refine Br.dec2 (fun _ => ?_) (fun _ => ?_)<;>first|(exfalso;omega)|conv=>whnf)|(refine Br.n (fun _ => ?_) (fun _ => ?_)<;>conv=>whnf)|(refine Br.b (fun _ => ?_) (fun _ => ?_)<;>conv=>whnf))
  all_goals
   simp only [q7a] at *
   exact RetK.int (by unfold KI;rw [e];simp [*])
theorem KJ (t:S) (ha:t.args.length≤20000):SpecP Tryz.prog 60 [.agg t.cells] (fun r=>r=QD (ZK t)):=by
 refine SpecP.body PR QQ Tryz.func60 rfl Tryz.call60 (by show 1≤_;decide) ?_
 conv=>whnf
 repeat' (first|((first|(intro (_:_≤9223372036854775807))|(refine CallK.pure (JW _) (by repeat' (first|exact ArgP.nil|refine ArgP.cons ?_ ?_|exact Sub.refl _|exact Sub.tt rfl|exact Sub.ff rfl)) ?_;rintro _ rfl)|(refine DrawK.auto QQ mixed (by kernel_rfl) ?_)|(refine And.intro rfl ?_)|(refine And.intro ⟨by decide,by decide⟩ ?_)|(refine And.intro ⟨rfl,rfl,by decide⟩ ?_)|(refine BsK.pure (fun x hx=>by rcases List.mem_singleton.1 hx with rfl;rfl) rfl ?_)|(refine IdxK.map (by omega) (fun _=>rfl) ?_)|(refine IdxK.xs (by omega) ?_)|(refine IdxK.ss (by omega) ?_)|(refine ByteK.at (by omega) ?_)|(refine Wr.i64 (by omega) (by omega) ?_)|(refine AppK.strs _ (by simp) (by have:=UT t.x;simp;omega) ?_)|(refine AppK.str1 (by simp) (by simp) ?_));conv=>whnf)|(refine Br.dec (fun _ => ?_) (fun _ => ?_)<;>first|(exfalso;omega)|conv=>whnf)|(refine Br.dec2 (fun _ => ?_) (fun _ => ?_)<;>first|(exfalso;omega)|conv=>whnf)|(refine Br.n (fun _ => ?_) (fun _ => ?_)<;>conv=>whnf)|(refine Br.b (fun _ => ?_) (fun _ => ?_)<;>conv=>whnf))
 all_goals simp only [show (ByteArray.mk #[]).data.toList=[] from rfl] at *
 all_goals
  have hl:(t.args.map fun a=>AV.agg a.cells).length=t.args.length:=List.length_map _
  refine LoopK.inv QQ (HY t 9) (fun j=>j≤t.args.length) (fun j=>t.args.length-j) 0 (Le.of_eq ?_) (Nat.zero_le _) ?_
  ·first
    | (have e:x0r t 0=ZF t.x:=by simp [x0r,GI,show t.kind=10 by assumption]
       rw [HY,e];simp only [Nat.zero_add,List.length_map,List.length_append,List.map_append,List.nil_append];rfl)
    | (have e:x0r t 0=ZF t.x:=by simp [x0r,GI,show t.name=[] by simpa using (show (t.name==[])=true by assumption)]
       rw [HY,e];simp only [Nat.zero_add,List.length_map,List.length_append,List.map_append,List.nil_append];rfl)
    | (have e:x0r t 0=[t.name]++ZF t.x:=by
        have:(t.name==[])=false:=by assumption
        simp [x0r,GI,show ¬t.kind=10 by assumption,this]
       rw [HY,e];simp only [Nat.zero_add,List.length_map,List.length_append,List.map_append,List.nil_append];rfl)
  intro j h2
  have hacc:=x7k t h2 ha
  conv=>whnf
  repeat' (first|((first|(intro (_:_≤9223372036854775807))|(refine CallK.pure (JW _) (by repeat' (first|exact ArgP.nil|refine ArgP.cons ?_ ?_|exact Sub.refl _|exact Sub.tt rfl|exact Sub.ff rfl)) ?_;rintro _ rfl)|(refine DrawK.auto QQ mixed (by kernel_rfl) ?_)|(refine And.intro rfl ?_)|(refine And.intro ⟨by decide,by decide⟩ ?_)|(refine And.intro ⟨rfl,rfl,by decide⟩ ?_)|(refine BsK.pure (fun x hx=>by rcases List.mem_singleton.1 hx with rfl;rfl) rfl ?_)|(refine IdxK.map (by omega) (fun _=>rfl) ?_)|(refine IdxK.xs (by omega) ?_)|(refine IdxK.ss (by omega) ?_)|(refine ByteK.at (by omega) ?_)|(refine Wr.i64 (by omega) (by omega) ?_)|(refine AppK.strs _ (by simp) (by have:=UT (t.args[j]'(by omega)).x;simp;omega) ?_)|(refine AppK.str1 (by simp) (by simp;omega) ?_));conv=>whnf)|(refine Br.dec (fun _ => ?_) (fun _ => ?_)<;>first|(exfalso;omega)|conv=>whnf)|(refine Br.dec2 (fun _ => ?_) (fun _ => ?_)<;>first|(exfalso;omega)|conv=>whnf)|(refine Br.n (fun _ => ?_) (fun _ => ?_)<;>conv=>whnf)|(refine Br.b (fun _ => ?_) (fun _ => ?_)<;>conv=>whnf))
  all_goals first
   | exact ⟨_,.hd rfl (by simp),by
      have:t.args.take j=t.args:=List.take_of_length_le (by omega)
      rw [ZK,← this];rfl⟩
   | (have hj:j<t.args.length:=by omega
      have hst:=x4w hj
      refine ⟨j+1,by show j+1≤_;omega,by show t.args.length-(j+1)<t.args.length-j;omega,Le.of_eq ?_⟩
      first
       | (have hn:UG t.args[j]=[t.args[j].name]++ZF t.args[j].x:=by rw [UG,show t.args[j].ref=true by assumption];rfl
          rw [HY,hst,hn]
          simp only [List.length_append,List.map_append,List.length_map,← List.append_assoc,← Nat.add_assoc]
          rfl)
       | (have hn:UG t.args[j]=ZF t.args[j].x:=by rw [UG,show t.args[j].ref=false by assumption];rfl
          rw [HY,hst,hn]
          simp only [List.length_append,List.map_append,List.length_map]
          rfl))
theorem ZG (p:Pg) (n:Str):SpecP Tryz.prog 267 [.agg p.cells,.str n] (fun r=>r = .tup [.agg (VY p n).1.cells,.bool (VY p n).2]):=by
 refine SpecP.body BQ QQ Tryz.func267 rfl Tryz.call267 (by show 2≤_;decide) ?_
 conv=>whnf
 have hpl:(p.procs.map fun f=>AV.agg f.cells).length=p.procs.length:=List.length_map _
 repeat' (first|((first|(intro (_:_≤9223372036854775807))|(refine DrawK.auto QQ mixed (by kernel_rfl) ?_)|(refine And.intro rfl ?_)|(refine And.intro ⟨by decide,by decide⟩ ?_)|(refine And.intro ⟨rfl,rfl,by decide⟩ ?_)|(refine BsK.pure (fun x hx=>by rcases List.mem_singleton.1 hx with rfl;rfl) rfl ?_)|(refine IdxK.map (by omega) (fun _=>rfl) ?_)|(refine IdxK.xs (by omega) ?_)|(refine IdxK.ss (by omega) ?_)|(refine ByteK.at (by omega) ?_)|(refine Wr.i64 (by omega) (by omega) ?_));conv=>whnf)|(refine Br.dec (fun _ => ?_) (fun _ => ?_)<;>first|(exfalso;omega)|conv=>whnf)|(refine Br.dec2 (fun _ => ?_) (fun _ => ?_)<;>first|(exfalso;omega)|conv=>whnf)|(refine Br.n (fun _ => ?_) (fun _ => ?_)<;>conv=>whnf)|(refine Br.b (fun _ => ?_) (fun _ => ?_)<;>conv=>whnf))
 refine LoopK.inv QQ (fun j:Nat=>⟨[(1,.p (.str n)),(4,.ptr 1 0),(9,.p (.sl (p.procs.map fun f => .agg f.cells))),(10,.p (.int .i64 (p.procs.map fun f=>AV.agg f.cells).length)),(11,.p (.int .i64 j))],[(1,.obj 67 [.p (.str []),.p .nils,.p .nils,.p .nils,.p .nils])]⟩) (fun j=>j≤p.procs.length∧(p.procs.drop j).find? (fun f=>f.name==n)=p.procs.find? fun f=>f.name==n) (fun j=>p.procs.length-j) 0 (Le.of_eq rfl) ⟨Nat.zero_le _,rfl⟩ ?_
 rintro j ⟨h2,h3⟩
 rcases Nat.lt_or_ge j p.procs.length with hj|hj
 ·rw [QJ hj,List.find?_cons] at h3
  conv=>whnf
  repeat' (first|((first|(intro (_:_≤9223372036854775807))|(refine DrawK.auto QQ mixed (by kernel_rfl) ?_)|(refine And.intro rfl ?_)|(refine And.intro ⟨by decide,by decide⟩ ?_)|(refine And.intro ⟨rfl,rfl,by decide⟩ ?_)|(refine BsK.pure (fun x hx=>by rcases List.mem_singleton.1 hx with rfl;rfl) rfl ?_)|(refine IdxK.map (by omega) (fun _=>rfl) ?_)|(refine IdxK.xs (by omega) ?_)|(refine IdxK.ss (by omega) ?_)|(refine ByteK.at (by omega) ?_)|(refine Wr.i64 (by omega) (by omega) ?_));conv=>whnf)|(refine Br.dec (fun _ => ?_) (fun _ => ?_)<;>first|(exfalso;omega)|conv=>whnf)|(refine Br.dec2 (fun _ => ?_) (fun _ => ?_)<;>first|(exfalso;omega)|conv=>whnf)|(refine Br.n (fun _ => ?_) (fun _ => ?_)<;>conv=>whnf)|(refine Br.b (fun _ => ?_) (fun _ => ?_)<;>conv=>whnf))
  ·have hn:(p.procs[j].name==n)=true:=by assumption
   rw [hn] at h3
   exact ⟨_,.p (Sub.tup (SubL.cons (Sub.refl _) (SubL.cons (Sub.tt rfl) SubL.nil))),by unfold VY;rw [← h3];first|done|rfl⟩
  ·have hn:(p.procs[j].name==n)=false:=by assumption
   rw [hn] at h3
   exact ⟨j+1,⟨hj,h3⟩,by omega,Le.of_eq rfl⟩
 ·rw [List.drop_eq_nil_of_le hj,List.find?_nil] at h3
  conv=>whnf
  repeat' (first|((first|(intro (_:_≤9223372036854775807))|(refine DrawK.auto QQ mixed (by kernel_rfl) ?_)|(refine And.intro rfl ?_)|(refine And.intro ⟨by decide,by decide⟩ ?_)|(refine And.intro ⟨rfl,rfl,by decide⟩ ?_)|(refine BsK.pure (fun x hx=>by rcases List.mem_singleton.1 hx with rfl;rfl) rfl ?_)|(refine IdxK.map (by omega) (fun _=>rfl) ?_)|(refine IdxK.xs (by omega) ?_)|(refine IdxK.ss (by omega) ?_)|(refine ByteK.at (by omega) ?_)|(refine Wr.i64 (by omega) (by omega) ?_));conv=>whnf)|(refine Br.dec (fun _ => ?_) (fun _ => ?_)<;>first|(exfalso;omega)|conv=>whnf)|(refine Br.dec2 (fun _ => ?_) (fun _ => ?_)<;>first|(exfalso;omega)|conv=>whnf)|(refine Br.n (fun _ => ?_) (fun _ => ?_)<;>conv=>whnf)|(refine Br.b (fun _ => ?_) (fun _ => ?_)<;>conv=>whnf))
  exact ⟨_,.p (Sub.tup (SubL.cons x5q (SubL.cons (Sub.ff rfl) SubL.nil))),by unfold VY;rw [← h3];first|done|rfl⟩
theorem z9q (p:Pg) (s:S):VO p s=(decide (s.kind=4)&&((VY p s.proc).2&&q6y (VY p s.proc).1.params s.args)):=by
 unfold VO VY
 cases p.procs.find? (fun f=>f.name==s.proc)<;>rfl
theorem VR (p:Pg) (s:S):SpecP Tryz.prog 271 [.agg p.cells,.agg s.cells] (fun r=>r = .bool (VO p s)):=by
 refine SpecP.body GW QQ Tryz.func271 rfl Tryz.call271 (by show 2≤_;decide) ?_
 conv=>whnf
 have hN:=ZG p s.proc
 have hF:=z9q p s
 rw [hF]
 generalize (VY p s.proc).2=ok at *
 generalize (VY p s.proc).1=q at *
 have hal:(s.args.map fun a=>AV.agg a.cells).length=s.args.length:=List.length_map _
 have hql:(q.params.map fun a=>AV.agg a.cells).length=q.params.length:=List.length_map _
 repeat' (first|((first|(intro (_:_≤9223372036854775807))|(refine DrawK.auto QQ mixed (by kernel_rfl) ?_)|(refine And.intro rfl ?_)|(refine And.intro ⟨by decide,by decide⟩ ?_)|(refine And.intro ⟨rfl,rfl,by decide⟩ ?_)|(refine BsK.pure (fun x hx=>by rcases List.mem_singleton.1 hx with rfl;rfl) rfl ?_)|(refine IdxK.map (by omega) (fun _=>rfl) ?_)|(refine IdxK.xs (by omega) ?_)|(refine IdxK.ss (by omega) ?_)|(refine ByteK.at (by omega) ?_)|(refine Wr.i64 (by omega) (by omega) ?_)|(refine CallK.pure hN (.cons (Sub.refl _) (.cons (Sub.refl _) .nil)) ?_;rintro _ rfl));conv=>whnf)|(refine Br.dec (fun _ => ?_) (fun _ => ?_)<;>first|(exfalso;omega)|conv=>whnf)|(refine Br.dec2 (fun _ => ?_) (fun _ => ?_)<;>first|(exfalso;omega)|conv=>whnf)|(refine Br.n (fun _ => ?_) (fun _ => ?_)<;>conv=>whnf)|(refine Br.b (fun _ => ?_) (fun _ => ?_)<;>conv=>whnf))
 all_goals first
  | (refine RetK.ff ?_;simp_all;done)
  | (refine RetK.ff ?_
     have:q6y q.params s.args=false:=by
      unfold q6y
      rw [decide_eq_false_iff_not]
      intro he
      have:=congrArg List.length he
      simp at this
      omega
     rw [this]
     simp)
  | skip
 have hk:s.kind=4:=by omega
 have hlen:s.args.length=q.params.length:=by omega
 have hok:ok=true:=by assumption
 rw [hok,decide_eq_true hk,Bool.true_and,Bool.true_and]
 refine LoopK.inv QQ (fun j:Nat=>⟨[(3,.p (.ip s.cells)),(5,.p (.ip q.cells)),(33,.p (.int .i64 (s.args.map fun a=>AV.agg a.cells).length)),(34,.p (.int .i64 j))],[]⟩) (fun j=>j≤s.args.length ∧ ∀ k (hk:k<j) (h1:k<s.args.length) (h2:k<q.params.length),s.args[k].ref=q.params[k].ref) (fun j=>s.args.length-j) 0 (Le.of_eq rfl) ⟨Nat.zero_le _,fun k hk=>absurd hk (Nat.not_lt_zero _)⟩ ?_
 rintro j ⟨h2,h3⟩
 rcases Nat.lt_or_ge j s.args.length with hj|hj
 ·have hjq:j<q.params.length:=by omega
  conv=>whnf
  repeat' (first|((first|(intro (_:_≤9223372036854775807))|(refine DrawK.auto QQ mixed (by kernel_rfl) ?_)|(refine And.intro rfl ?_)|(refine And.intro ⟨by decide,by decide⟩ ?_)|(refine And.intro ⟨rfl,rfl,by decide⟩ ?_)|(refine BsK.pure (fun x hx=>by rcases List.mem_singleton.1 hx with rfl;rfl) rfl ?_)|(refine IdxK.map (by omega) (fun _=>rfl) ?_)|(refine IdxK.xs (by omega) ?_)|(refine IdxK.ss (by omega) ?_)|(refine ByteK.at (by omega) ?_)|(refine Wr.i64 (by omega) (by omega) ?_)|(refine ValO.boolNeq QQ rfl rfl rfl rfl rfl ?_));conv=>whnf)|(refine Br.dec (fun _ => ?_) (fun _ => ?_)<;>first|(exfalso;omega)|conv=>whnf)|(refine Br.dec2 (fun _ => ?_) (fun _ => ?_)<;>first|(exfalso;omega)|conv=>whnf)|(refine Br.n (fun _ => ?_) (fun _ => ?_)<;>conv=>whnf)|(refine Br.b (fun _ => ?_) (fun _ => ?_)<;>conv=>whnf))
  all_goals first
   | (refine RetK.ff ?_
      unfold q6y
      rw [decide_eq_false_iff_not]
      intro he
      have h4:=congrArg (fun l=>l[j]?) he
      simp only [List.getElem?_map,List.getElem?_eq_getElem hj,List.getElem?_eq_getElem hjq,Option.map_some] at h4
      have h5:=Option.some.inj h4
      simp_all
      done)
   | (refine ⟨j+1,⟨by omega,fun k hk h1 h2 => ?_⟩,by omega,Le.of_eq rfl⟩
      rcases Nat.lt_or_ge k j with h5|h5
      ·exact h3 k h5 h1 h2
      ·obtain rfl:k=j:=by omega
       simp_all)
 ·conv=>whnf
  repeat' (first|((first|(intro (_:_≤9223372036854775807))|(refine DrawK.auto QQ mixed (by kernel_rfl) ?_)|(refine And.intro rfl ?_)|(refine And.intro ⟨by decide,by decide⟩ ?_)|(refine And.intro ⟨rfl,rfl,by decide⟩ ?_)|(refine BsK.pure (fun x hx=>by rcases List.mem_singleton.1 hx with rfl;rfl) rfl ?_)|(refine IdxK.map (by omega) (fun _=>rfl) ?_)|(refine IdxK.xs (by omega) ?_)|(refine IdxK.ss (by omega) ?_)|(refine ByteK.at (by omega) ?_)|(refine Wr.i64 (by omega) (by omega) ?_));conv=>whnf)|(refine Br.dec (fun _ => ?_) (fun _ => ?_)<;>first|(exfalso;omega)|conv=>whnf)|(refine Br.dec2 (fun _ => ?_) (fun _ => ?_)<;>first|(exfalso;omega)|conv=>whnf)|(refine Br.n (fun _ => ?_) (fun _ => ?_)<;>conv=>whnf)|(refine Br.b (fun _ => ?_) (fun _ => ?_)<;>conv=>whnf))
  refine RetK.tt ?_
  unfold q6y
  rw [decide_eq_true_eq]
  refine List.ext_getElem (by simp;omega) fun k h4 h5 => ?_
  simp only [List.length_map] at h4 h5
  rw [List.getElem_map,List.getElem_map,h3 k (by omega) h5 h4]
theorem BE (f:Pr) (hl : ∀ x∈WG f,x.s.labels.length≤20000) (hf:f.fin.length≤20000):SpecP Tryz.prog 272 [.agg f.cells] (fun r=>r=QD ((WG f).flatMap (fun x=>x.s.labels)++f.fin)):=by
 refine SpecP.body FX QQ Tryz.func272 rfl Tryz.call272 (by show 1≤_;decide) ?_
 conv=>whnf
 have hF:=XQ f
 have hrl:=KR f
 generalize WG f=L at *
 have hLl:=YA L
 repeat' (first|((first|(intro (_:_≤9223372036854775807))|(refine DrawK.auto QQ mixed (by kernel_rfl) ?_)|(refine And.intro rfl ?_)|(refine And.intro ⟨by decide,by decide⟩ ?_)|(refine And.intro ⟨rfl,rfl,by decide⟩ ?_)|(refine BsK.pure (fun x hx=>by rcases List.mem_singleton.1 hx with rfl;rfl) rfl ?_)|(refine IdxK.map (by omega) (fun _=>rfl) ?_)|(refine IdxK.xs (by omega) ?_)|(refine IdxK.ss (by omega) ?_)|(refine ByteK.at (by omega) ?_)|(refine Wr.i64 (by omega) (by omega) ?_)|(refine CallK.pure hF (.cons (Sub.refl _) .nil) ?_;rintro _ rfl));conv=>whnf)|(refine Br.dec (fun _ => ?_) (fun _ => ?_)<;>first|(exfalso;omega)|conv=>whnf)|(refine Br.dec2 (fun _ => ?_) (fun _ => ?_)<;>first|(exfalso;omega)|conv=>whnf)|(refine Br.n (fun _ => ?_) (fun _ => ?_)<;>conv=>whnf)|(refine Br.b (fun _ => ?_) (fun _ => ?_)<;>conv=>whnf))
 refine LoopK.inv QQ (fun x:Nat×List Str=>⟨[(1,.p (.ip f.cells)),(3,.hd 0 0 x.2.length),(7,.p (q8t L)),(8,.p (.int .i64 (L.map fun i=>AV.agg i.cells).length)),(9,.p (.int .i64 x.1))],[(0,.own 9 1 (x.2.map .str))]⟩) (fun x=>x.1≤L.length∧x.2=(L.take x.1).flatMap (fun x=>x.s.labels)∧x.2.length≤20000*x.1) (fun x=>L.length-x.1) (0,[])
  (Le.mk [(0,.own 9 1 [])] (by simp [Chunk.new0];rfl) (by simp) (by simp) (.cons (.refl _) (.cons (.nil List.mem_cons_self) (.cons (.refl _) (.cons (.refl _) (.cons (.refl _) .nil))))) (.new List.mem_cons_self .nil)) ⟨Nat.zero_le _,by simp,by simp⟩ ?_
 rintro ⟨j,acc⟩ ⟨h2,h3,h4⟩
 simp only at h2 h3 h4 ⊢
 rcases Nat.lt_or_ge j L.length with hj|hj
 ·have h5:=hl _ (List.getElem_mem hj)
  have h6:acc++L[j].s.labels=(L.take (j+1)).flatMap (fun x=>x.s.labels):=by rw [List.take_succ_eq_append_getElem hj,List.flatMap_append,← h3];simp
  conv=>whnf
  repeat' (first|((first|(intro (_:_≤9223372036854775807))|(refine DrawK.auto QQ mixed (by kernel_rfl) ?_)|(refine And.intro rfl ?_)|(refine And.intro ⟨by decide,by decide⟩ ?_)|(refine And.intro ⟨rfl,rfl,by decide⟩ ?_)|(refine BsK.pure (fun x hx=>by rcases List.mem_singleton.1 hx with rfl;rfl) rfl ?_)|(refine IdxK.map (by omega) (fun _=>rfl) ?_)|(refine IdxK.xs (by omega) ?_)|(refine IdxK.ss (by omega) ?_)|(refine ByteK.at (by omega) ?_)|(refine Wr.i64 (by omega) (by omega) ?_)|(refine AppK.strs _ (by simp) (by simp;omega) ?_));conv=>whnf)|(refine Br.dec (fun _ => ?_) (fun _ => ?_)<;>first|(exfalso;omega)|conv=>whnf)|(refine Br.dec2 (fun _ => ?_) (fun _ => ?_)<;>first|(exfalso;omega)|conv=>whnf)|(refine Br.n (fun _ => ?_) (fun _ => ?_)<;>conv=>whnf)|(refine Br.b (fun _ => ?_) (fun _ => ?_)<;>conv=>whnf))
  exact ⟨(j+1,acc++L[j].s.labels),⟨by simp only;omega,h6,by simp;omega⟩,by simp only;omega,Le.of_eq (by simp;rfl)⟩
 ·rw [List.take_of_length_le hj] at h3
  conv=>whnf
  repeat' (first|((first|(intro (_:_≤9223372036854775807))|(refine DrawK.auto QQ mixed (by kernel_rfl) ?_)|(refine And.intro rfl ?_)|(refine And.intro ⟨by decide,by decide⟩ ?_)|(refine And.intro ⟨rfl,rfl,by decide⟩ ?_)|(refine BsK.pure (fun x hx=>by rcases List.mem_singleton.1 hx with rfl;rfl) rfl ?_)|(refine IdxK.map (by omega) (fun _=>rfl) ?_)|(refine IdxK.xs (by omega) ?_)|(refine IdxK.ss (by omega) ?_)|(refine ByteK.at (by omega) ?_)|(refine Wr.i64 (by omega) (by omega) ?_)|(refine AppK.strs _ (by simp) (by simp;omega) ?_));conv=>whnf)|(refine Br.dec (fun _ => ?_) (fun _ => ?_)<;>first|(exfalso;omega)|conv=>whnf)|(refine Br.dec2 (fun _ => ?_) (fun _ => ?_)<;>first|(exfalso;omega)|conv=>whnf)|(refine Br.n (fun _ => ?_) (fun _ => ?_)<;>conv=>whnf)|(refine Br.b (fun _ => ?_) (fun _ => ?_)<;>conv=>whnf))
  exact ⟨_,.hd rfl (by simp),by rw [← h3];simp [QD]⟩
theorem BH (l:List RI) (id:Int):SpecP Tryz.prog 207 [q8t l,.int .i64 id] (fun r=>r = .tup [.int .i64 (x4r l.reverse id).1,.bool (x4r l.reverse id).2]):=by
 refine SpecP.body FL QQ Tryz.func207 rfl Tryz.call207 (by show 2≤_;decide) ?_
 conv=>whnf
 intro (_:_≤9223372036854775807)
 have hLl:=YA l
 conv=>whnf
 repeat' (first|((first|(intro (_:_≤9223372036854775807))|(refine DrawK.auto QQ mixed (by kernel_rfl) ?_)|(refine And.intro rfl ?_)|(refine And.intro ⟨by decide,by decide⟩ ?_)|(refine And.intro ⟨rfl,rfl,by decide⟩ ?_)|(refine BsK.pure (fun x hx=>by rcases List.mem_singleton.1 hx with rfl;rfl) rfl ?_)|(refine IdxK.map (by omega) (fun _=>rfl) ?_)|(refine IdxK.xs (by omega) ?_)|(refine IdxK.ss (by omega) ?_)|(refine ByteK.at (by omega) ?_)|(refine Wr.i64 (by omega) (by omega) ?_));conv=>whnf)|(refine Br.dec (fun _ => ?_) (fun _ => ?_)<;>first|(exfalso;omega)|conv=>whnf)|(refine Br.dec2 (fun _ => ?_) (fun _ => ?_)<;>first|(exfalso;omega)|conv=>whnf)|(refine Br.n (fun _ => ?_) (fun _ => ?_)<;>conv=>whnf)|(refine Br.b (fun _ => ?_) (fun _ => ?_)<;>conv=>whnf))
 refine LoopK.inv QQ (fun n:Nat=>⟨[(0,.p (q8t l)),(1,.p (.int .i64 id)),(6,.p (.int .i64 ((n:Int)-1)))],[]⟩) (fun n=>n≤l.length∧x4r (l.take n).reverse id=x4r l.reverse id) (fun n=>n) l.length (Le.of_eq (by rw [hLl])) ⟨Nat.le_refl _,by rw [List.take_length]⟩ ?_
 rintro n ⟨h2,h3⟩
 cases n with
 | zero =>
   rw [← h3]
   conv=>whnf
   repeat' (first|((first|(intro (_:_≤9223372036854775807))|(refine DrawK.auto QQ mixed (by kernel_rfl) ?_)|(refine And.intro rfl ?_)|(refine And.intro ⟨by decide,by decide⟩ ?_)|(refine And.intro ⟨rfl,rfl,by decide⟩ ?_)|(refine BsK.pure (fun x hx=>by rcases List.mem_singleton.1 hx with rfl;rfl) rfl ?_)|(refine IdxK.map (by omega) (fun _=>rfl) ?_)|(refine IdxK.xs (by omega) ?_)|(refine IdxK.ss (by omega) ?_)|(refine ByteK.at (by omega) ?_)|(refine Wr.i64 (by omega) (by omega) ?_));conv=>whnf)|(refine Br.dec (fun _ => ?_) (fun _ => ?_)<;>first|(exfalso;omega)|conv=>whnf)|(refine Br.dec2 (fun _ => ?_) (fun _ => ?_)<;>first|(exfalso;omega)|conv=>whnf)|(refine Br.n (fun _ => ?_) (fun _ => ?_)<;>conv=>whnf)|(refine Br.b (fun _ => ?_) (fun _ => ?_)<;>conv=>whnf))
   exact RetK.tup2 rfl (Sub.ff rfl)
 | succ n =>
   have hn:n<l.length:=by omega
   have hst:=x2s hn id
   have e1:((n+1:Nat):Int)-1=(n:Nat):=by omega
   rw [e1]
   conv=>whnf
   repeat' (first|((first|(intro (_:_≤9223372036854775807))|(refine DrawK.auto QQ mixed (by kernel_rfl) ?_)|(refine And.intro rfl ?_)|(refine And.intro ⟨by decide,by decide⟩ ?_)|(refine And.intro ⟨rfl,rfl,by decide⟩ ?_)|(refine BsK.pure (fun x hx=>by rcases List.mem_singleton.1 hx with rfl;rfl) rfl ?_)|(refine IdxK.map (by omega) (fun _=>rfl) ?_)|(refine IdxK.xs (by omega) ?_)|(refine IdxK.ss (by omega) ?_)|(refine ByteK.at (by omega) ?_)|(refine Wr.eq (m:=(n:Int)-1) rfl (by omega) (by omega) ?_));conv=>whnf)|(refine Br.dec (fun _ => ?_) (fun _ => ?_)<;>first|(exfalso;omega)|conv=>whnf)|(refine Br.dec2 (fun _ => ?_) (fun _ => ?_)<;>first|(exfalso;omega)|conv=>whnf)|(refine Br.n (fun _ => ?_) (fun _ => ?_)<;>conv=>whnf)|(refine Br.b (fun _ => ?_) (fun _ => ?_)<;>conv=>whnf))
   rotate_left 1
   ·rw [if_neg (by assumption)] at hst
    exact ⟨n,⟨by omega,by rw [← hst];exact h3⟩,by omega,Le.of_eq rfl⟩
   rw [if_pos (by omega)] at hst
   refine LoopK.inv QQ (fun x:Nat×Int=>⟨[(0,.p (q8t l)),(1,.p (.int .i64 id)),(6,.p (.int .i64 n)),(7,.p (.int .i64 x.2)),(8,.p (.int .i64 ((x.1:Int)-1)))],[]⟩) (fun x=>x.1≤n∧JJ (l.take x.1).reverse x.2=JJ (l.take n).reverse l[n].inn) (fun x=>x.1) (n,l[n].inn) (Le.of_eq rfl) ⟨Nat.le_refl _,rfl⟩ ?_
   rintro ⟨m,i⟩ ⟨h4,h5⟩
   simp only at h4 h5 ⊢
   cases m with
   | zero =>
     have e:JJ (l.take 0).reverse i=(0,false):=rfl
     rw [e] at h5
     rw [← h5,if_neg (by decide)] at hst
     conv=>whnf
     repeat' (first|((first|(intro (_:_≤9223372036854775807))|(refine DrawK.auto QQ mixed (by kernel_rfl) ?_)|(refine And.intro rfl ?_)|(refine And.intro ⟨by decide,by decide⟩ ?_)|(refine And.intro ⟨rfl,rfl,by decide⟩ ?_)|(refine BsK.pure (fun x hx=>by rcases List.mem_singleton.1 hx with rfl;rfl) rfl ?_)|(refine IdxK.map (by omega) (fun _=>rfl) ?_)|(refine IdxK.xs (by omega) ?_)|(refine IdxK.ss (by omega) ?_)|(refine ByteK.at (by omega) ?_)|(refine Wr.eq (m:=(n:Int)-1) rfl (by omega) (by omega) ?_));conv=>whnf)|(refine Br.dec (fun _ => ?_) (fun _ => ?_)<;>first|(exfalso;omega)|conv=>whnf)|(refine Br.dec2 (fun _ => ?_) (fun _ => ?_)<;>first|(exfalso;omega)|conv=>whnf)|(refine Br.n (fun _ => ?_) (fun _ => ?_)<;>conv=>whnf)|(refine Br.b (fun _ => ?_) (fun _ => ?_)<;>conv=>whnf))
     exact ⟨n,⟨by omega,by rw [← hst];exact h3⟩,by omega,Le.of_eq rfl⟩
   | succ m =>
     have hm:m<l.length:=by omega
     have hs2:=z2g hm i
     have e2:((m+1:Nat):Int)-1=(m:Nat):=by omega
     rw [e2]
     conv=>whnf
     repeat' (first|((first|(intro (_:_≤9223372036854775807))|(refine DrawK.auto QQ mixed (by kernel_rfl) ?_)|(refine And.intro rfl ?_)|(refine And.intro ⟨by decide,by decide⟩ ?_)|(refine And.intro ⟨rfl,rfl,by decide⟩ ?_)|(refine BsK.pure (fun x hx=>by rcases List.mem_singleton.1 hx with rfl;rfl) rfl ?_)|(refine IdxK.map (by omega) (fun _=>rfl) ?_)|(refine IdxK.xs (by omega) ?_)|(refine IdxK.ss (by omega) ?_)|(refine ByteK.at (by omega) ?_)|(refine Wr.eq (m:=(n:Int)-1) rfl (by omega) (by omega) ?_)|(refine Wr.eq (m:=(m:Int)-1) rfl (by omega) (by omega) ?_));conv=>whnf)|(refine Br.dec (fun _ => ?_) (fun _ => ?_)<;>first|(exfalso;omega)|conv=>whnf)|(refine Br.dec2 (fun _ => ?_) (fun _ => ?_)<;>first|(exfalso;omega)|conv=>whnf)|(refine Br.n (fun _ => ?_) (fun _ => ?_)<;>conv=>whnf)|(refine Br.b (fun _ => ?_) (fun _ => ?_)<;>conv=>whnf))
     all_goals first
      | (rw [if_pos (by omega)] at hs2
         rw [hs2] at h5
         rw [← h5,if_neg (by decide)] at hst
         exact ⟨n,⟨by omega,by rw [← hst];exact h3⟩,by omega,Le.of_eq rfl⟩)
      | (rw [if_neg (by assumption),if_neg (by assumption)] at hs2
         exact ⟨(m,i),⟨by simp only;omega,by rw [← hs2];exact h5⟩,by simp only;omega,Le.of_eq rfl⟩)
      | (rw [if_neg (by assumption),if_pos (by omega),if_pos (by assumption)] at hs2
         rw [hs2] at h5
         rw [← h5,if_pos rfl] at hst
         rw [← h3,hst]
         exact RetK.tup2 rfl (Sub.tt rfl))
      | (rw [if_neg (by assumption),if_pos (by omega),if_neg (by assumption)] at hs2
         exact ⟨(m,l[m].inn),⟨by simp only;omega,by rw [← hs2];exact h5⟩,by simp only;omega,Le.of_eq rfl⟩)
      | trace_state
def pureL:LV→LV
 | .p a => .p a
 | _ => .p .any
def z2w:List (Nat×LV)→List (Nat×LV)
 | []=>[]
 | (j,l)::r=>(j,pureL l)::z2w r
theorem x4g : ∀ (sl:List (Nat×LV)) (i:Nat),getS (z2w sl) i=pureL (getS sl i)
 | [],i=>rfl
 | (j,l)::r,i=>by
   rw [z2w,getS,getS]
   cases j==i with
   | true=>rfl
   | false=>exact x4g r i
theorem CallK.give {P:Program} {N:Nat} {g:FuncId} {args:List LV} {dst:Option Nat} {s:St} {K:St→Prop} {avs:List AV} {R:AV→Prop} (hs:SpecP P g avs R) (ha:FrzL s.H args avs)
  (h : ∀ c,R c→setD N (z2w s.sl) dst (.p c) fun sl=>K ⟨sl,[]⟩):CallK P N g args dst s K:=by
 refine ⟨fun σ β a w hr vals hn hv=>⟨hs.go vals,?_⟩⟩
 obtain ⟨hlen,hget⟩:=ha.get
 obtain ⟨τ,h5,h6,h7,h8⟩:=q3p hr.heap
 refine (hs.ok τ w vals (hn.trans hlen) (fun j c hj => ?_) h6).mono fun e w' ⟨c,u,σ',he,hR,hrep,hle,hl,hf,hnew⟩ => ?_
 ·obtain ⟨l,h1,h2⟩:=hget j c hj
  exact h8 l _ c (hv j l h1) h2
 ·have hr':Rel N σ' β ⟨z2w s.sl,[]⟩ a w':=⟨hr.size,hr.defers,fun i=>by
   show RepL σ' β (getS (z2w s.sl) i) _
   rw [x4g]
   have:=hr.slots i
   generalize getS s.sl i=l at this ⊢
   cases l with
   | p x=>exact this.mono (Mem.le_trans h5 hle)
   | _=>exact .p (.any _),⟨hl,fun k c h=>(by cases h),List.nodup_nil,fun k h=>(by cases h),fun k h=>(by cases h)⟩⟩
  obtain ⟨sl,hK,hr''⟩:=hr'.setD (.p hrep) (h c hR)
  refine ⟨u,σ',β,_,he,hK,hr'',Mem.le_trans h5 hle,⟨hf.os,hf.tape,hf.output,hf.drawn,hf.size,fun b hb _=>hf.block b hb id⟩,fun b h0 h1 => ?_,fun b ⟨j,hj,_⟩=>(by cases hj),fun _ _ _=>rfl⟩
  by_cases h2:τ b=none
  ·exact .inr (hnew b h2 h1)
  ·rcases h7 b h2 with h3|h3
   ·exact absurd h0 h3
   ·exact .inl h3
open Go.Proofs
theorem WJ (l:List Str) (hl:l.length≤1000000000):SpecP Tryz.prog 99 [QD l] (fun r=>r=QD (q6x l)):=by
 refine SpecP.body FA QQ Tryz.func99 rfl Tryz.call99 (by show 1≤_;decide) ?_
 conv=>whnf
 intro (_:_≤9223372036854775807)
 have hll:(l.map AV.str).length=l.length:=List.length_map _
 conv=>whnf
 refine LoopK.inv QQ (fun x:Nat×List Str=>⟨[(0,.p (QD l)),(3,.hd 0 0 x.2.length),(9,.p (.int .i64 (l.map AV.str).length)),(10,.p (.int .i64 x.1))],[(0,.own 9 1 (x.2.map .str))]⟩) (fun x=>x.1≤l.length∧RiseI ltT l x.2 x.1) (fun x=>l.length-x.1) (0,[])
  (Le.mk [(0,.own 9 1 [])] (by simp [Chunk.new0];rfl) (by simp) (by simp) (.cons (.refl _) (.cons (.nil List.mem_cons_self) (.cons (.refl _) (.cons (.refl _) .nil)))) (.new List.mem_cons_self .nil)) ⟨Nat.zero_le _,RiseI.zero⟩ ?_
 rintro ⟨i,out⟩ ⟨h2,h3⟩
 simp only at h2 h3 ⊢
 have hol:=h3.len ltT.irr
 rcases Nat.lt_or_ge i l.length with hi|hi
 ·conv=>whnf
  repeat' (first|((first|(intro (_:_≤9223372036854775807))|(refine DrawK.auto QQ mixed (by kernel_rfl) ?_)|(refine And.intro rfl ?_)|(refine And.intro ⟨by decide,by decide⟩ ?_)|(refine And.intro ⟨rfl,rfl,by decide⟩ ?_)|(refine BsK.pure (fun x hx=>by rcases List.mem_singleton.1 hx with rfl;rfl) rfl ?_)|(refine IdxK.map (by omega) (fun _=>rfl) ?_)|(refine IdxK.xs (by omega) ?_)|(refine IdxK.ss (by omega) ?_)|(refine ByteK.at (by omega) ?_)|(refine Wr.i64 (by omega) (by omega) ?_));conv=>whnf)|(refine Br.dec (fun _ => ?_) (fun _ => ?_)<;>first|(exfalso;omega)|conv=>whnf)|(refine Br.dec2 (fun _ => ?_) (fun _ => ?_)<;>first|(exfalso;omega)|conv=>whnf)|(refine Br.n (fun _ => ?_) (fun _ => ?_)<;>conv=>whnf)|(refine Br.b (fun _ => ?_) (fun _ => ?_)<;>conv=>whnf))
  refine LoopK.inv QQ (fun x:Nat×Option Str=>⟨[(0,.p (QD l)),(3,.hd 0 0 out.length),(4,.p (.str (x.2.getD []))),(5,.p (.bool x.2.isSome)),(9,.p (.int .i64 (l.map AV.str).length)),(10,.p (.int .i64 i)),(12,.p (QD l)),(13,.p (.int .i64 (l.map AV.str).length)),(14,.p (.int .i64 x.1))],[(0,.own 9 1 (out.map .str))]⟩) (fun x=>x.1≤l.length∧LeastI ltT l out x.1 x.2) (fun x=>l.length-x.1) (0,none) (Le.mk [] (by simp) (by simp) (by simp) (.cons (.refl _) (.cons (.refl _) (.cons (.refl _) (.cons (.p (Sub.ff rfl)) (.cons (.refl _) (.cons (.refl _) (.cons (.refl _) (.cons (.refl _) (.cons (.refl _) .nil))))))))) (.cons rfl (.refl _) .nil)) ⟨Nat.zero_le _,LeastI.zero⟩ ?_
  rintro ⟨k,o⟩ ⟨h4,h5⟩
  simp only at h4 h5 ⊢
  rcases Nat.lt_or_ge k l.length with hk|hk
  ·have hin:inS out l[k]=true→l[k]∈out:=x6a.1
   have hno:inS out l[k]=false→l[k]∉out:=fun h hm=>by rw [x6a.2 hm] at h;cases h
   cases o with
   | none =>
     simp only [Option.getD_none,Option.isSome_none]
     conv=>whnf
     repeat' (first|((first|(intro (_:_≤9223372036854775807))|(refine DrawK.auto QQ mixed (by kernel_rfl) ?_)|(refine And.intro rfl ?_)|(refine And.intro ⟨by decide,by decide⟩ ?_)|(refine And.intro ⟨rfl,rfl,by decide⟩ ?_)|(refine BsK.pure (fun x hx=>by rcases List.mem_singleton.1 hx with rfl;rfl) rfl ?_)|(refine IdxK.map (by omega) (fun _=>rfl) ?_)|(refine IdxK.xs (by omega) ?_)|(refine IdxK.ss (by omega) ?_)|(refine ByteK.at (by omega) ?_)|(refine Wr.i64 (by omega) (by omega) ?_)|(refine CallK.borrow (QS out (l[k]'hk)) (.cons (.hd rfl (by simp)) (.cons (.p (Sub.refl _)) .nil)) (by rintro _ rfl;rfl) ?_;rintro _ rfl));conv=>whnf)|(refine Br.dec (fun _ => ?_) (fun _ => ?_)<;>first|(exfalso;omega)|conv=>whnf)|(refine Br.dec2 (fun _ => ?_) (fun _ => ?_)<;>first|(exfalso;omega)|conv=>whnf)|(refine Br.n (fun _ => ?_) (fun _ => ?_)<;>conv=>whnf)|(refine Br.b (fun _ => ?_) (fun _ => ?_)<;>conv=>whnf))
     all_goals first
      | (exfalso;simp_all;done)
      | exact ⟨(k+1,none),⟨by simp only;omega,h5.old hk (hin (by assumption))⟩,by simp only;omega,Le.of_eq rfl⟩
      | exact ⟨(k+1,some l[k]),⟨by simp only;omega,h5.first hk (hno (by assumption))⟩,by simp only;omega,(Le.mk [] (by simp) (by simp) (by simp) (.cons (.refl _) (.cons (.refl _) (.cons (.refl _) (.cons (.p (Sub.tt rfl)) (.cons (.refl _) (.cons (.refl _) (.cons (.refl _) (.cons (.refl _) (.cons (.refl _) .nil))))))))) (.cons rfl (.refl _) .nil))⟩
   | some m =>
     simp only [Option.getD_some,Option.isSome_some]
     conv=>whnf
     repeat' (first|((first|(intro (_:_≤9223372036854775807))|(refine DrawK.auto QQ mixed (by kernel_rfl) ?_)|(refine And.intro rfl ?_)|(refine And.intro ⟨by decide,by decide⟩ ?_)|(refine And.intro ⟨rfl,rfl,by decide⟩ ?_)|(refine BsK.pure (fun x hx=>by rcases List.mem_singleton.1 hx with rfl;rfl) rfl ?_)|(refine IdxK.map (by omega) (fun _=>rfl) ?_)|(refine IdxK.xs (by omega) ?_)|(refine IdxK.ss (by omega) ?_)|(refine ByteK.at (by omega) ?_)|(refine Wr.i64 (by omega) (by omega) ?_)|(refine CallK.borrow (QS out (l[k]'hk)) (.cons (.hd rfl (by simp)) (.cons (.p (Sub.refl _)) .nil)) (by rintro _ rfl;rfl) ?_;rintro _ rfl));conv=>whnf)|(refine Br.dec (fun _ => ?_) (fun _ => ?_)<;>first|(exfalso;omega)|conv=>whnf)|(refine Br.dec2 (fun _ => ?_) (fun _ => ?_)<;>first|(exfalso;omega)|conv=>whnf)|(refine Br.n (fun _ => ?_) (fun _ => ?_)<;>conv=>whnf)|(refine Br.b (fun _ => ?_) (fun _ => ?_)<;>conv=>whnf))
     all_goals first
      | (exfalso;simp_all;done)
      | exact ⟨(k+1,some m),⟨by simp only;omega,h5.old hk (hin (by assumption))⟩,by simp only;omega,Le.of_eq rfl⟩
      | exact ⟨(k+1,some l[k]),⟨by simp only;omega,h5.less ltT.trans hk (hno (by assumption)) (by assumption)⟩,by simp only;omega,(Le.mk [] (by simp) (by simp) (by simp) (.cons (.refl _) (.cons (.refl _) (.cons (.refl _) (.cons (.p (Sub.tt rfl)) (.cons (.refl _) (.cons (.refl _) (.cons (.refl _) (.cons (.refl _) (.cons (.refl _) .nil))))))))) (.cons rfl (.refl _) .nil))⟩
      | (have hb:Op.bytesLess l[k] m=false:=by assumption
         exact ⟨(k+1,some m),⟨by simp only;omega,h5.more (fun _ _=>ltT.total) hk (fun h=>by unfold ltT at h;rw [hb] at h;cases h)⟩,by simp only;omega,Le.of_eq rfl⟩)
  ·obtain rfl:k=l.length:=by omega
   cases o with
   | none =>
     simp only [Option.getD_none,Option.isSome_none]
     conv=>whnf
     repeat' (first|((first|(intro (_:_≤9223372036854775807))|(refine DrawK.auto QQ mixed (by kernel_rfl) ?_)|(refine And.intro rfl ?_)|(refine And.intro ⟨by decide,by decide⟩ ?_)|(refine And.intro ⟨rfl,rfl,by decide⟩ ?_)|(refine BsK.pure (fun x hx=>by rcases List.mem_singleton.1 hx with rfl;rfl) rfl ?_)|(refine IdxK.map (by omega) (fun _=>rfl) ?_)|(refine IdxK.xs (by omega) ?_)|(refine IdxK.ss (by omega) ?_)|(refine ByteK.at (by omega) ?_)|(refine Wr.i64 (by omega) (by omega) ?_));conv=>whnf)|(refine Br.dec (fun _ => ?_) (fun _ => ?_)<;>first|(exfalso;omega)|conv=>whnf)|(refine Br.dec2 (fun _ => ?_) (fun _ => ?_)<;>first|(exfalso;omega)|conv=>whnf)|(refine Br.n (fun _ => ?_) (fun _ => ?_)<;>conv=>whnf)|(refine Br.b (fun _ => ?_) (fun _ => ?_)<;>conv=>whnf))
     all_goals first
      | (exfalso;simp_all;done)
      | exact ⟨(i+1,out),⟨by simp only;omega,h3.stay h5⟩,by simp only;omega,Le.of_eq rfl⟩
   | some m =>
     simp only [Option.getD_some,Option.isSome_some]
     conv=>whnf
     repeat' (first|((first|(intro (_:_≤9223372036854775807))|(refine DrawK.auto QQ mixed (by kernel_rfl) ?_)|(refine And.intro rfl ?_)|(refine And.intro ⟨by decide,by decide⟩ ?_)|(refine And.intro ⟨rfl,rfl,by decide⟩ ?_)|(refine BsK.pure (fun x hx=>by rcases List.mem_singleton.1 hx with rfl;rfl) rfl ?_)|(refine IdxK.map (by omega) (fun _=>rfl) ?_)|(refine IdxK.xs (by omega) ?_)|(refine IdxK.ss (by omega) ?_)|(refine ByteK.at (by omega) ?_)|(refine Wr.i64 (by omega) (by omega) ?_)|(refine AppK.str1 (by simp) (by simp;omega) ?_));conv=>whnf)|(refine Br.dec (fun _ => ?_) (fun _ => ?_)<;>first|(exfalso;omega)|conv=>whnf)|(refine Br.dec2 (fun _ => ?_) (fun _ => ?_)<;>first|(exfalso;omega)|conv=>whnf)|(refine Br.n (fun _ => ?_) (fun _ => ?_)<;>conv=>whnf)|(refine Br.b (fun _ => ?_) (fun _ => ?_)<;>conv=>whnf))
     all_goals first
      | (exfalso;simp_all;done)
      | exact ⟨(i+1,out++[m]),⟨by simp only;omega,h3.snoc h5⟩,by simp only;omega,Le.of_eq (by simp only [List.length_append,List.map_append];rfl)⟩
 ·obtain ⟨h6,h7⟩:=h3.all ltT.irr (by omega)
  rw [← x8e h6 h7]
  conv=>whnf
  repeat' (first|((first|(intro (_:_≤9223372036854775807))|(refine DrawK.auto QQ mixed (by kernel_rfl) ?_)|(refine And.intro rfl ?_)|(refine And.intro ⟨by decide,by decide⟩ ?_)|(refine And.intro ⟨rfl,rfl,by decide⟩ ?_)|(refine BsK.pure (fun x hx=>by rcases List.mem_singleton.1 hx with rfl;rfl) rfl ?_)|(refine IdxK.map (by omega) (fun _=>rfl) ?_)|(refine IdxK.xs (by omega) ?_)|(refine IdxK.ss (by omega) ?_)|(refine ByteK.at (by omega) ?_)|(refine Wr.i64 (by omega) (by omega) ?_));conv=>whnf)|(refine Br.dec (fun _ => ?_) (fun _ => ?_)<;>first|(exfalso;omega)|conv=>whnf)|(refine Br.dec2 (fun _ => ?_) (fun _ => ?_)<;>first|(exfalso;omega)|conv=>whnf)|(refine Br.n (fun _ => ?_) (fun _ => ?_)<;>conv=>whnf)|(refine Br.b (fun _ => ?_) (fun _ => ?_)<;>conv=>whnf))
  exact ⟨_,.hd rfl (by simp),rfl⟩
def q1n (f:Pr):List Str:=((WG f).filter fun x=>decide (x.s.kind=4)).map fun x=>x.s.proc
theorem z1j (f:Pr):(q1n f).length≤201:=by
 unfold q1n
 rw [List.length_map]
 exact Nat.le_trans (List.length_filter_le _ _) (KR f)
theorem MX (p:Pg) (n:Str):SpecP Tryz.prog 323 [.agg p.cells,.str n] (fun r=>r=QD (q6x (q1n (VY p n).1))):=by
 refine SpecP.body DP QQ Tryz.func323 rfl Tryz.call323 (by show 2≤_;decide) ?_
 conv=>whnf
 have hN:=ZG p n
 generalize (VY p n).2=ok at *
 generalize (VY p n).1=f at *
 have hF:=XQ f
 have hcl:=z1j f
 have hrl:=KR f
 have hcu:q1n f=((WG f).filter fun x=>decide (x.s.kind=4)).map fun x=>x.s.proc:=rfl
 have hS:=WJ (q1n f) (by omega)
 generalize q1n f=C at *
 generalize WG f=L at *
 have hLl:=YA L
 repeat' (first|((first|(intro (_:_≤9223372036854775807))|(refine DrawK.auto QQ mixed (by kernel_rfl) ?_)|(refine And.intro rfl ?_)|(refine And.intro ⟨by decide,by decide⟩ ?_)|(refine And.intro ⟨rfl,rfl,by decide⟩ ?_)|(refine BsK.pure (fun x hx=>by rcases List.mem_singleton.1 hx with rfl;rfl) rfl ?_)|(refine IdxK.map (by omega) (fun _=>rfl) ?_)|(refine IdxK.xs (by omega) ?_)|(refine IdxK.ss (by omega) ?_)|(refine ByteK.at (by omega) ?_)|(refine Wr.i64 (by omega) (by omega) ?_)|(refine CallK.pure hN (.cons (Sub.refl _) (.cons (Sub.refl _) .nil)) ?_;rintro _ rfl)|(refine CallK.pure hF (.cons (Sub.refl _) .nil) ?_;rintro _ rfl));conv=>whnf)|(refine Br.dec (fun _ => ?_) (fun _ => ?_)<;>first|(exfalso;omega)|conv=>whnf)|(refine Br.dec2 (fun _ => ?_) (fun _ => ?_)<;>first|(exfalso;omega)|conv=>whnf)|(refine Br.n (fun _ => ?_) (fun _ => ?_)<;>conv=>whnf)|(refine Br.b (fun _ => ?_) (fun _ => ?_)<;>conv=>whnf))
 refine LoopK.inv QQ (fun x:Nat×List Str=>⟨[(7,.hd 0 0 x.2.length),(17,.p (q8t L)),(18,.p (.int .i64 (L.map fun i=>AV.agg i.cells).length)),(19,.p (.int .i64 x.1))],[(0,.own 9 1 (x.2.map .str))]⟩) (fun x=>x.1≤L.length∧x.2=((L.take x.1).filter fun x=>decide (x.s.kind=4)).map (fun x=>x.s.proc)∧x.2.length≤x.1) (fun x=>L.length-x.1) (0,[])
  (Le.mk [(0,.own 9 1 [])] (by simp [Chunk.new0];rfl) (by simp) (by simp) (.cons (.nil List.mem_cons_self) (.cons (.refl _) (.cons (.refl _) (.cons (.refl _) .nil)))) (.new List.mem_cons_self .nil)) ⟨Nat.zero_le _,by simp,by simp⟩ ?_
 rintro ⟨j,acc⟩ ⟨h2,h3,h4⟩
 simp only at h2 h3 h4 ⊢
 rcases Nat.lt_or_ge j L.length with hj|hj
 ·have h6:=List.take_succ_eq_append_getElem hj
  conv=>whnf
  repeat' (first|((first|(intro (_:_≤9223372036854775807))|(refine DrawK.auto QQ mixed (by kernel_rfl) ?_)|(refine And.intro rfl ?_)|(refine And.intro ⟨by decide,by decide⟩ ?_)|(refine And.intro ⟨rfl,rfl,by decide⟩ ?_)|(refine BsK.pure (fun x hx=>by rcases List.mem_singleton.1 hx with rfl;rfl) rfl ?_)|(refine IdxK.map (by omega) (fun _=>rfl) ?_)|(refine IdxK.xs (by omega) ?_)|(refine IdxK.ss (by omega) ?_)|(refine ByteK.at (by omega) ?_)|(refine Wr.i64 (by omega) (by omega) ?_)|(refine AppK.str1 (by simp) (by simp;omega) ?_));conv=>whnf)|(refine Br.dec (fun _ => ?_) (fun _ => ?_)<;>first|(exfalso;omega)|conv=>whnf)|(refine Br.dec2 (fun _ => ?_) (fun _ => ?_)<;>first|(exfalso;omega)|conv=>whnf)|(refine Br.n (fun _ => ?_) (fun _ => ?_)<;>conv=>whnf)|(refine Br.b (fun _ => ?_) (fun _ => ?_)<;>conv=>whnf))
  all_goals first
   | exact ⟨(j+1,acc++[L[j].s.proc]),⟨by simp only;omega,by simp only;rw [h6,List.filter_append,List.map_append,← h3];congr 1;rw [List.filter_cons_of_pos (by simp;assumption)];rfl,by simp;omega⟩,by simp only;omega,Le.of_eq (by simp only [List.length_append,List.map_append];rfl)⟩
   | exact ⟨(j+1,acc),⟨by simp only;omega,by simp only;rw [h6,List.filter_append,List.map_append,← h3,List.filter_cons_of_neg (by simp;assumption)];simp,by simp only;omega⟩,by simp only;omega,Le.of_eq rfl⟩
 ·rw [List.take_of_length_le hj,← hcu] at h3
  subst h3
  conv=>whnf
  repeat' (first|((first|(intro (_:_≤9223372036854775807))|(refine DrawK.auto QQ mixed (by kernel_rfl) ?_)|(refine And.intro rfl ?_)|(refine And.intro ⟨by decide,by decide⟩ ?_)|(refine And.intro ⟨rfl,rfl,by decide⟩ ?_)|(refine BsK.pure (fun x hx=>by rcases List.mem_singleton.1 hx with rfl;rfl) rfl ?_)|(refine IdxK.map (by omega) (fun _=>rfl) ?_)|(refine IdxK.xs (by omega) ?_)|(refine IdxK.ss (by omega) ?_)|(refine ByteK.at (by omega) ?_)|(refine Wr.i64 (by omega) (by omega) ?_)|(refine CallK.give hS (.cons (.hd rfl (by simp)) .nil) ?_;rintro _ rfl));conv=>whnf)|(refine Br.dec (fun _ => ?_) (fun _ => ?_)<;>first|(exfalso;omega)|conv=>whnf)|(refine Br.dec2 (fun _ => ?_) (fun _ => ?_)<;>first|(exfalso;omega)|conv=>whnf)|(refine Br.n (fun _ => ?_) (fun _ => ?_)<;>conv=>whnf)|(refine Br.b (fun _ => ?_) (fun _ => ?_)<;>conv=>whnf))
  exact RetK.p rfl
theorem z3k {p:Pg} (hm:VJ p=true) {f:Pr} (hf:f∈p.procs):q6x (q1n f)=VF f:=by
 unfold q1n VF JX q6x
 rw [JZ hm hf,← show (flatU f).map RI.s=flL f.body from q0h 1 0 false f.body,List.filter_map,List.map_map]
 rfl
theorem x9g {p:Pg} {k:Nat} (hk:k<p.procs.length) {n:Str} (h:p.procs.find? (fun f=>f.name==n)=some p.procs[k]):VY p n=(p.procs[k],true):=by
 unfold VY
 rw [h]
theorem z7k {p:Pg} (hm:VJ p=true) {k:Nat} (hk:k<p.procs.length) {n:Str} (h:p.procs.find? (fun f=>f.name==n)=some p.procs[k]):SpecP Tryz.prog 323 [.agg p.cells,.str n] (fun r=>r=QD (VF p.procs[k])):=by
 have:=MX p n
 rw [x9g hk h,z3k hm (List.getElem_mem hk)] at this
 exact this
theorem BN (p:Pg) (n:Str) (hs:(QM p).1=0) (hn:n∈procsN p):SpecP Tryz.prog 313 [.agg p.cells,.str n] (fun r=>r=QD (z1l p n)):=by
 refine SpecP.body FP QQ Tryz.func313 rfl Tryz.call313 (by show 2≤_;decide) ?_
 conv=>whnf
 obtain ⟨hm,hb,hns⟩:=ZN hs
 obtain ⟨hg,hpl,hcn⟩:=XP hm
 have hnl:(procsN p).length=p.procs.length:=by simp [procsN]
 repeat' (first|((first|(intro (_:_≤9223372036854775807))|(refine DrawK.auto QQ mixed (by kernel_rfl) ?_)|(refine And.intro rfl ?_)|(refine And.intro ⟨by decide,by decide⟩ ?_)|(refine And.intro ⟨rfl,rfl,by decide⟩ ?_)|(refine IdxK.map (by omega) (fun _=>rfl) ?_)|(refine IdxK.xs (by omega) ?_)|(refine IdxK.ss (by omega) ?_)|(refine ByteK.at (by omega) ?_)|(refine Wr.i64 (by omega) (by omega) ?_)|(refine BsK.own (fun x hx=>by rcases List.mem_singleton.1 hx with rfl;rfl) rfl ?_));conv=>whnf)|(refine Br.dec (fun _ => ?_) (fun _ => ?_)<;>first|(exfalso;omega)|conv=>whnf)|(refine Br.dec2 (fun _ => ?_) (fun _ => ?_)<;>first|(exfalso;omega)|conv=>whnf)|(refine Br.n (fun _ => ?_) (fun _ => ?_)<;>conv=>whnf)|(refine Br.b (fun _ => ?_) (fun _ => ?_)<;>conv=>whnf))
 refine LoopK.inv QQ (fun i:Nat×List Str=>⟨[(2,.p (.ip p.cells)),(5,.hd 0 0 i.2.length),(6,.p (.int .i64 i.1))],[(0,.own 9 1 (i.2.map .str))]⟩)
  (fun i=>i.1≤i.2.length∧i.2.Nodup∧(∀ s∈i.2,s∈procsN p)∧WX p (p.procs.length+1-i.1) i.1 i.2=WX p (p.procs.length+1) 0 [n]) (fun i=>p.procs.length+1-i.1) (0,[n])
  (Le.of_eq rfl) ⟨Nat.zero_le _,by simp,by simpa using hn,rfl⟩ ?_
 rintro ⟨j,out⟩ ⟨h2,h3,h4,h5⟩
 simp only at h2 h3 h4 h5 ⊢
 have hol:=q9t h3 h4
 rcases Nat.lt_or_ge j out.length with hj|hj
 ·obtain ⟨k,hk,hik,hfk,hnk⟩:=NB (h4 _ (List.getElem_mem hj))
  have hcl:=q7z p.procs[k]
  have hcc:QV p.procs[k].body≤200:=by
   have:=(QG p).2.2.2.2 k p.procs[k] (by simp)
   omega
  have hC:=z7k hm hk hfk
  have g:(out.map AV.str)[j]? = some (.str out[j]):=by simp [hj]
  conv=>whnf
  repeat' (first|((first|(intro (_:_≤9223372036854775807))|(refine DrawK.auto QQ mixed (by kernel_rfl) ?_)|(refine And.intro rfl ?_)|(refine And.intro ⟨by decide,by decide⟩ ?_)|(refine And.intro ⟨rfl,rfl,by decide⟩ ?_)|(refine BsK.pure (fun x hx=>by rcases List.mem_singleton.1 hx with rfl;rfl) rfl ?_)|(refine IdxK.map (by omega) (fun _=>rfl) ?_)|(refine IdxK.xs (by omega) ?_)|(refine IdxK.ss (by omega) ?_)|(refine ByteK.at (by omega) ?_)|(refine Wr.i64 (by omega) (by omega) ?_)|(refine IdxL.mk j rfl hj ?_)|(refine LdOwn.mk j 0 (.str out[j]) (by omega) g ?_)|(refine CallK.pure hC (.cons (Sub.refl _) (.cons (Sub.refl _) .nil)) ?_;rintro _ rfl));conv=>whnf)|(refine Br.dec (fun _ => ?_) (fun _ => ?_)<;>first|(exfalso;omega)|conv=>whnf)|(refine Br.dec2 (fun _ => ?_) (fun _ => ?_)<;>first|(exfalso;omega)|conv=>whnf)|(refine Br.n (fun _ => ?_) (fun _ => ?_)<;>conv=>whnf)|(refine Br.b (fun _ => ?_) (fun _ => ?_)<;>conv=>whnf))
  have hkn : ∀ s∈VF p.procs[k],s∈procsN p:=fun s h=>HR hs (List.getElem_mem hk) h
  have hcN:=x2m hk hfk
  have hre:WX p (p.procs.length+1-j) j out=WX p (p.procs.length+1-(j+1)) (j+1) (ZR out (VF p.procs[k])):=by
   rw [show p.procs.length+1-j=(p.procs.length+1-(j+1))+1 by omega,WX,List.getElem?_eq_getElem hj]
   simp only
   rw [hcN]
  rw [hre] at h5
  obtain ⟨hi1,hi2,rr,hi3⟩:=KP (VF p.procs[k]) h3 h4 hkn
  generalize VF p.procs[k]=cs at hkn h5 hi1 hi2 hi3 hcl ⊢
  have hcsl:(cs.map AV.str).length=cs.length:=List.length_map _
  refine LoopK.inv QQ (fun i:Nat×List Str=>⟨[(2,.p (.ip p.cells)),(5,.hd 0 0 i.2.length),(6,.p (.int .i64 j)),(22,.p (QD cs)),(23,.p (.int .i64 (cs.map AV.str).length)),(24,.p (.int .i64 i.1))],[(0,.own 9 1 (i.2.map .str))]⟩)
   (fun i=>i.1≤cs.length∧i.2.length≤out.length+i.1∧ZR i.2 (cs.drop i.1)=ZR out cs) (fun i=>cs.length-i.1) (0,out)
   (Le.of_eq rfl) ⟨Nat.zero_le _,by simp,rfl⟩ ?_
  rintro ⟨m,acc⟩ ⟨h6,h7,h8⟩
  simp only at h6 h7 h8 ⊢
  rcases Nat.lt_or_ge m cs.length with hm'|hm'
  ·have hst:=PA (out:=acc) hm'
   rw [← q7a] at hst
   conv=>whnf
   repeat' (first|((first|(intro (_:_≤9223372036854775807))|(refine DrawK.auto QQ mixed (by kernel_rfl) ?_)|(refine And.intro rfl ?_)|(refine And.intro ⟨by decide,by decide⟩ ?_)|(refine And.intro ⟨rfl,rfl,by decide⟩ ?_)|(refine BsK.pure (fun x hx=>by rcases List.mem_singleton.1 hx with rfl;rfl) rfl ?_)|(refine IdxK.map (by omega) (fun _=>rfl) ?_)|(refine IdxK.xs (by omega) ?_)|(refine IdxK.ss (by omega) ?_)|(refine ByteK.at (by omega) ?_)|(refine Wr.i64 (by omega) (by omega) ?_)|(refine CallK.borrow (QS acc (cs[m]'hm')) (.cons (.hd rfl (by simp)) (.cons (.p (Sub.refl _)) .nil)) (by rintro _ rfl;rfl) ?_;rintro _ rfl)|(refine AppK.str1 (by simp) (by simp;omega) ?_));conv=>whnf)|(refine Br.dec (fun _ => ?_) (fun _ => ?_)<;>first|(exfalso;omega)|conv=>whnf)|(refine Br.dec2 (fun _ => ?_) (fun _ => ?_)<;>first|(exfalso;omega)|conv=>whnf)|(refine Br.n (fun _ => ?_) (fun _ => ?_)<;>conv=>whnf)|(refine Br.b (fun _ => ?_) (fun _ => ?_)<;>conv=>whnf))
   all_goals first
    | exact ⟨(m+1,acc),⟨by simp only;omega,by simp only;omega,by simp only;rw [← h8,hst,if_pos (by assumption)]⟩,by simp only;omega,Le.of_eq rfl⟩
    | exact ⟨(m+1,acc++[cs[m]]),⟨by simp only;omega,by simp;omega,by simp only;rw [← h8,hst,if_neg (by simp [*])]⟩,by simp only;omega,Le.of_eq (by simp only [List.length_append,List.map_append];rfl)⟩
  ·rw [List.drop_eq_nil_of_le hm',ZR] at h8
   subst h8
   have hjl:j<(ZR out cs).length:=by rw [hi3,List.length_append];omega
   conv=>whnf
   repeat' (first|((first|(intro (_:_≤9223372036854775807))|(refine DrawK.auto QQ mixed (by kernel_rfl) ?_)|(refine And.intro rfl ?_)|(refine And.intro ⟨by decide,by decide⟩ ?_)|(refine And.intro ⟨rfl,rfl,by decide⟩ ?_)|(refine BsK.pure (fun x hx=>by rcases List.mem_singleton.1 hx with rfl;rfl) rfl ?_)|(refine IdxK.map (by omega) (fun _=>rfl) ?_)|(refine IdxK.xs (by omega) ?_)|(refine IdxK.ss (by omega) ?_)|(refine ByteK.at (by omega) ?_)|(refine Wr.i64 (by omega) (by omega) ?_));conv=>whnf)|(refine Br.dec (fun _ => ?_) (fun _ => ?_)<;>first|(exfalso;omega)|conv=>whnf)|(refine Br.dec2 (fun _ => ?_) (fun _ => ?_)<;>first|(exfalso;omega)|conv=>whnf)|(refine Br.n (fun _ => ?_) (fun _ => ?_)<;>conv=>whnf)|(refine Br.b (fun _ => ?_) (fun _ => ?_)<;>conv=>whnf))
   all_goals exact ⟨(j+1,ZR out cs),⟨by simp only;omega,hi1,hi2,h5⟩,by simp only;omega,Le.of_eq rfl⟩
 ·have hend:out=WX p (p.procs.length+1) 0 [n]:=by
   rw [← h5]
   cases hfu:p.procs.length+1-j with
   | zero=>rw [WX]
   | succ q=>rw [WX,List.getElem?_eq_none hj]
  have hall:q6x out=z1l p n:=by
   unfold z1l
   rw [← hend,x7x h3]
  have hS:=WJ out (by omega)
  rw [hall] at hS
  conv=>whnf
  repeat' (first|((first|(intro (_:_≤9223372036854775807))|(refine DrawK.auto QQ mixed (by kernel_rfl) ?_)|(refine And.intro rfl ?_)|(refine And.intro ⟨by decide,by decide⟩ ?_)|(refine And.intro ⟨rfl,rfl,by decide⟩ ?_)|(refine BsK.pure (fun x hx=>by rcases List.mem_singleton.1 hx with rfl;rfl) rfl ?_)|(refine IdxK.map (by omega) (fun _=>rfl) ?_)|(refine IdxK.xs (by omega) ?_)|(refine IdxK.ss (by omega) ?_)|(refine ByteK.at (by omega) ?_)|(refine Wr.i64 (by omega) (by omega) ?_)|(refine CallK.give hS (.cons (.hd rfl (by simp)) .nil) ?_;rintro _ rfl));conv=>whnf)|(refine Br.dec (fun _ => ?_) (fun _ => ?_)<;>first|(exfalso;omega)|conv=>whnf)|(refine Br.dec2 (fun _ => ?_) (fun _ => ?_)<;>first|(exfalso;omega)|conv=>whnf)|(refine Br.n (fun _ => ?_) (fun _ => ?_)<;>conv=>whnf)|(refine Br.b (fun _ => ?_) (fun _ => ?_)<;>conv=>whnf))
  all_goals exact RetK.p rfl
end Go.Ab
